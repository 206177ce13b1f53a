-- written by wip/tools/xprint.py (a program of this project) out of the translation
import Derived.Test.YtkegkbpadhddkaaXFnTwoCoursesx0
import Derived.Test.YtkegkbpadhddkaaXFnTwoCoursesx2
namespace Go.Proofs.Ytkegkbpadhddkaa.XFnTwoCourses
open Go.RowKit Go.Proofs.YtkegkbpadhddkaaW.PrintWords Go.Proofs.YtkegkbpadhddkaaW.PrintLast Go.Proofs.YtkegkbpadhddkaaW.PrintMore
attribute [local go_sem] max2_int min2_int max_two min_two max_three min_three max_four min_four   -- for this text's walks alone
set_option linter.unusedVariables false
set_option linter.unusedSimpArgs false

/-! ### spec_l1Cur_course: function 57 -/
mutual
def spec_l1Cur_course.j0 : Nat → List (S41) → Int → Int → List Int → Int → Int → Option ((List (S41)) × Int × Int)
 | 0, _, _, _, _, _, _ => none
 | k + 1, x3, x4, x5, x1000, x1001, x1002 => spec_l1Cur_course.l0 k x3 x4 x5 x1000 x1001 x1002
def spec_l1Cur_course.l0 : Nat → List (S41) → Int → Int → List Int → Int → Int → Option ((List (S41)) × Int × Int)
 | 0, _, _, _, _, _, _ => none
 | k + 1, x3, x4, x5, x1000, x1001, x1002 => if x5 > 0 then ((spec_l1Cur_among.f x1000 x1001 x1002 (([1, 2, 6, 12] : List Int))).bind fun bt136 => ((spec_l1Cur_pick.f x1000 bt136.2.1 bt136.2.2 3).bind fun bt139 => (if (x3.length : Int) > 0 then (if 0 ≤ (wrap64 ((x3.length : Int) - 1)) then (if (wrap64 ((x3.length : Int) - 1)) < (x3.length : Int) then (if ((rd_T41 x3 (wrap64 ((x3.length : Int) - 1))).f1) = x4 then (if ((rd_T41 x3 (wrap64 ((x3.length : Int) - 1))).f2) = (wrap64 (1 + bt139.1)) then (if x3.length < 5864062014805 then ((spec_l1Cur_among.f x1000 bt139.2.1 bt139.2.2 (([0, 0, 1, 5] : List Int))).bind fun bt151 => (spec_l1Cur_course.l0 k (x3 ++ [(⟨x4, wrap64 (x4 + bt136.1), wrap64 (1 + (Int.tmod (wrap64 (1 + bt139.1)) 3))⟩ : S41)]) (wrap64 ((wrap64 (x4 + bt136.1)) + bt151.1)) (wrap64 (x5 - 1)) x1000 bt151.2.1 bt151.2.2)) else (none)) else (if x3.length < 5864062014805 then ((spec_l1Cur_among.f x1000 bt139.2.1 bt139.2.2 (([0, 0, 1, 5] : List Int))).bind fun bt160 => (spec_l1Cur_course.l0 k (x3 ++ [(⟨x4, wrap64 (x4 + bt136.1), wrap64 (1 + bt139.1)⟩ : S41)]) (wrap64 ((wrap64 (x4 + bt136.1)) + bt160.1)) (wrap64 (x5 - 1)) x1000 bt160.2.1 bt160.2.2)) else (none))) else (if x3.length < 5864062014805 then ((spec_l1Cur_among.f x1000 bt139.2.1 bt139.2.2 (([0, 0, 1, 5] : List Int))).bind fun bt169 => (spec_l1Cur_course.l0 k (x3 ++ [(⟨x4, wrap64 (x4 + bt136.1), wrap64 (1 + bt139.1)⟩ : S41)]) (wrap64 ((wrap64 (x4 + bt136.1)) + bt169.1)) (wrap64 (x5 - 1)) x1000 bt169.2.1 bt169.2.2)) else (none))) else (none)) else (none)) else (if x3.length < 5864062014805 then ((spec_l1Cur_among.f x1000 bt139.2.1 bt139.2.2 (([0, 0, 1, 5] : List Int))).bind fun bt178 => (spec_l1Cur_course.l0 k (x3 ++ [(⟨x4, wrap64 (x4 + bt136.1), wrap64 (1 + bt139.1)⟩ : S41)]) (wrap64 ((wrap64 (x4 + bt136.1)) + bt178.1)) (wrap64 (x5 - 1)) x1000 bt178.2.1 bt178.2.2)) else (none))))) else (if (x3.length : Int) = 0 then (some (x3, x1001, x1002)) else ((spec_l1Cur_pick.f x1000 x1001 x1002 (x3.length : Int)).bind fun bt181 => (if 0 ≤ bt181.1 then (if bt181.1 < (x3.length : Int) then ((spec_l1Cur_pick.f x1000 bt181.2.1 bt181.2.2 40).bind fun bt186 => (if bt186.1 = 0 then ((spec_l1Cur_among.f x1000 bt186.2.1 bt186.2.2 (([(-1), (rd_T41 x3 bt181.1).f1, 0] : List Int))).bind fun bt192 => (some ((x3.set (bt181.1 : Int).toNat (⟨bt192.1, (rd_T41 x3 bt181.1).f1, (rd_T41 x3 bt181.1).f2⟩ : S41)), bt192.2.1, bt192.2.2))) else (if bt186.1 = 1 then ((spec_l1Cur_among.f x1000 bt186.2.1 bt186.2.2 (([240, 241, (rd_T41 x3 bt181.1).f0] : List Int))).bind fun bt199 => (some ((x3.set (bt181.1 : Int).toNat (⟨(rd_T41 x3 bt181.1).f0, bt199.1, (rd_T41 x3 bt181.1).f2⟩ : S41)), bt199.2.1, bt199.2.2))) else (if bt186.1 = 2 then ((spec_l1Cur_among.f x1000 bt186.2.1 bt186.2.2 (([0, 4, 1] : List Int))).bind fun bt206 => (some ((x3.set (bt181.1 : Int).toNat (⟨(rd_T41 x3 bt181.1).f0, (rd_T41 x3 bt181.1).f1, bt206.1⟩ : S41)), bt206.2.1, bt206.2.2))) else (some ((x3.set (bt181.1 : Int).toNat (⟨(rd_T41 x3 bt181.1).f0, (rd_T41 x3 bt181.1).f1, (rd_T41 x3 bt181.1).f2⟩ : S41)), bt186.2.1, bt186.2.2)))))) else (none)) else (none))))
end
def spec_l1Cur_course.f (k : Nat) (s0_0 : List Int) (s0_1 : Int) (s0_2 : Int) : Option ((List (S41)) × Int × Int) := (some (([] : List (S41)) : List (S41))).bind fun y115 => ((spec_l1Cur_among.f s0_0 s0_1 s0_2 (([0, 0, 3, 10] : List Int))).bind fun bt121 => ((spec_l1Cur_pick.f s0_0 bt121.2.1 bt121.2.2 7).bind fun bt124 => ((spec_l1Cur_one.f s0_0 bt124.2.1 bt124.2.2 16).bind fun bt127 => (if bt127.1 = true then ((spec_l1Cur_pick.f s0_0 bt127.2.1 bt127.2.2 3).bind fun bt130 => (spec_l1Cur_course.j0 k y115 bt121.1 (wrap64 (11 + bt130.1)) s0_0 bt130.2.1 bt130.2.2)) else (spec_l1Cur_course.j0 k y115 bt121.1 bt124.1 s0_0 bt127.2.1 bt127.2.2)))))
theorem spec_l1Cur_course.mono_l : ∀ k, (∀ y0 y1 y2 y3 y4 y5, LeO (spec_l1Cur_course.j0 k y0 y1 y2 y3 y4 y5) (spec_l1Cur_course.j0 (k + 1) y0 y1 y2 y3 y4 y5)) ∧ (∀ y0 y1 y2 y3 y4 y5, LeO (spec_l1Cur_course.l0 k y0 y1 y2 y3 y4 y5) (spec_l1Cur_course.l0 (k + 1) y0 y1 y2 y3 y4 y5))
 | 0 => ⟨fun _ _ _ _ _ _ r h => by simp [spec_l1Cur_course.j0] at h, fun _ _ _ _ _ _ r h => by simp [spec_l1Cur_course.l0] at h⟩
 | k + 1 => by
  obtain ⟨ih0, ih1⟩ := spec_l1Cur_course.mono_l k
  refine ⟨?_, ?_⟩
  ·intro y0 y1 y2 y3 y4 y5
   unfold spec_l1Cur_course.j0
   repeat' first
   | (with_reducible exact ih0 _ _ _ _ _ _)
   | (with_reducible exact ih1 _ _ _ _ _ _)
   | (with_reducible exact LeO.refl _)
   | (with_reducible exact LeO.none _)
   | (with_reducible refine LeO.ite ?_ ?_)
   | (with_reducible refine LeO.bind ?_ (fun _ => ?_))
   | exact ih0 _ _ _ _ _ _
   | exact ih1 _ _ _ _ _ _
   | exact LeO.none _
   | refine LeO.ite ?_ ?_
   | refine LeO.bind ?_ (fun _ => ?_)
  ·intro y0 y1 y2 y3 y4 y5
   unfold spec_l1Cur_course.l0
   repeat' first
   | (with_reducible exact ih0 _ _ _ _ _ _)
   | (with_reducible exact ih1 _ _ _ _ _ _)
   | (with_reducible exact LeO.refl _)
   | (with_reducible exact LeO.none _)
   | (with_reducible refine LeO.ite ?_ ?_)
   | (with_reducible refine LeO.bind ?_ (fun _ => ?_))
   | exact ih0 _ _ _ _ _ _
   | exact ih1 _ _ _ _ _ _
   | exact LeO.none _
   | refine LeO.ite ?_ ?_
   | refine LeO.bind ?_ (fun _ => ?_)
theorem spec_l1Cur_course.mono : ∀ a0 a1 a2 k, LeO (spec_l1Cur_course.f k a0 a1 a2) (spec_l1Cur_course.f (k + 1) a0 a1 a2) := by
 intro a0 a1 a2 k
 obtain ⟨ih0, ih1⟩ := spec_l1Cur_course.mono_l k
 unfold spec_l1Cur_course.f
 repeat' first
  | (with_reducible exact ih0 _ _ _ _ _ _)
  | (with_reducible exact ih1 _ _ _ _ _ _)
  | (with_reducible exact LeO.refl _)
  | (with_reducible exact LeO.none _)
  | (with_reducible refine LeO.ite ?_ ?_)
  | (with_reducible refine LeO.bind ?_ (fun _ => ?_))
  | exact ih0 _ _ _ _ _ _
  | exact ih1 _ _ _ _ _ _
  | exact LeO.none _
  | refine LeO.ite ?_ ?_
  | refine LeO.bind ?_ (fun _ => ?_)
def spec_l1Cur_course.T9 : Bool × List (List Nat × List Nat) := (true, [([], []), ([0], [0]), ([1], [1]), ([2], [2]), ([3], [3]), ([3], [3]), ([5, 3], [3, 5]), ([6, 3], [3, 6]), ([4, 7, 3], [3, 4, 7]), ([8, 3], [3, 8]), ([9, 3], [3, 9]), ([3], [3]), ([11, 3], [3, 11]), ([10, 12, 3], [3, 10, 12]), ([3, 13], [3, 13]), ([14, 3], [14]), ([15], [15]), ([15], [15]), ([17, 15], [15, 17]), ([18, 15], [15, 18]), ([16, 19, 15], [15, 16, 19]), ([20, 15], [15, 20]), ([21, 15], [15, 21]), ([15], [15]), ([23, 15], [15, 23]), ([22, 24, 15], [15, 22, 24]), ([15, 25], [15, 25])])
def spec_l1Cur_course.B9 : List Nat := [0, 1, 3, 7, 15, 15, 47, 111, 255, 511, 1023, 15, 2063, 8191, 16383, 32767, 65535, 65535, 196607, 458751, 1048575, 2097151, 4194303, 65535, 8454143, 33554431, 67108863]
theorem spec_l1Cur_course.tab9 : rtab .any (opsOf Try.f57 9) = spec_l1Cur_course.T9 := by kernel_rfl
theorem spec_l1Cur_course.bits9 : waitsOk spec_l1Cur_course.T9.2 spec_l1Cur_course.B9 = true := by kernel_rfl
set_option maxHeartbeats 8000000 in
set_option maxRecDepth 100000 in
theorem spec_l1Cur_course.calls (k : Nat) (g : Nat) (s0_0 : List Int) (s0_1 : Int) (s0_2 : Int) (r1 : List (S41)) (r2 : Int) (r3 : Int) (w0 w : World) (hI : IsS78 w0 w g s0_0 s0_1 s0_2) (hB : Below w0.heap.size w0 w) (h : spec_l1Cur_course.f k s0_0 s0_1 s0_2 = some (r1, r2, r3)) :
 Calls Try.prog 57 #[.pointer (some ⟨g, 0, none⟩)] w fun e w' => ∃ v0_ : Value, e = .returned (v0_) ∧ Kd.R k41 41 w' w.heap.size (fun _ => True) v0_ r1 ∧ IsS78 w0 w' g s0_0 r2 r3 ∧ Below w0.heap.size w0 w' ∧ KeepBut w w' g none := by
 have hu41 := Try.underlying41
 have HI0 := Aside0.mk hI
 have HK := Aside0.mk (KeepBut.refl w g none)
 have HL := Aside0.mk hB.size
 clear hI
 have HW0 := Aside0.mk hB.size
 have HB := Aside0.mk hB
 clear hB
 have H : ((some (([] : List (S41)) : List (S41))).bind fun y115 => ((spec_l1Cur_among.f s0_0 s0_1 s0_2 (([0, 0, 3, 10] : List Int))).bind fun bt121 => ((spec_l1Cur_pick.f s0_0 bt121.2.1 bt121.2.2 7).bind fun bt124 => ((spec_l1Cur_one.f s0_0 bt124.2.1 bt124.2.2 16).bind fun bt127 => (if bt127.1 = true then ((spec_l1Cur_pick.f s0_0 bt127.2.1 bt127.2.2 3).bind fun bt130 => (spec_l1Cur_course.j0 k y115 bt121.1 (wrap64 (11 + bt130.1)) s0_0 bt130.2.1 bt130.2.2)) else (spec_l1Cur_course.j0 k y115 bt121.1 bt124.1 s0_0 bt127.2.1 bt127.2.2)))))) = some (r1, r2, r3) := h
 clear h
 obtain ⟨y115, hy115⟩ : ∃ y_ : List (S41), y_ = (([] : List (S41))) := ⟨_, rfl⟩
 replace H : ((spec_l1Cur_among.f s0_0 s0_1 s0_2 (([0, 0, 3, 10] : List Int))).bind fun bt121 => ((spec_l1Cur_pick.f s0_0 bt121.2.1 bt121.2.2 7).bind fun bt124 => ((spec_l1Cur_one.f s0_0 bt124.2.1 bt124.2.2 16).bind fun bt127 => (if bt127.1 = true then ((spec_l1Cur_pick.f s0_0 bt127.2.1 bt127.2.2 3).bind fun bt130 => (spec_l1Cur_course.j0 k y115 bt121.1 (wrap64 (11 + bt130.1)) s0_0 bt130.2.1 bt130.2.2)) else (spec_l1Cur_course.j0 k y115 bt121.1 bt124.1 s0_0 bt127.2.1 bt127.2.2))))) = some (r1, r2, r3) := by first | (rw [hy115]; with_reducible exact H) | (have H2_ := (Option.bind_some _ _).symm.trans H; rw [hy115]; with_reducible exact H2_) | (have H2_ := (Option.bind_some _ _).symm.trans H; with_reducible exact H2_) | with_reducible exact H | (rw [hy115]; exact H) | exact H
 have Ny115 := Aside0.mk hy115
 clear hy115
 obtain ⟨y118, hy118⟩ : ∃ y_ : List Int, y_ = (([0, 0, 3, 10] : List Int)) := ⟨_, rfl⟩
 replace H : ((spec_l1Cur_among.f s0_0 s0_1 s0_2 y118).bind fun bt121 => ((spec_l1Cur_pick.f s0_0 bt121.2.1 bt121.2.2 7).bind fun bt124 => ((spec_l1Cur_one.f s0_0 bt124.2.1 bt124.2.2 16).bind fun bt127 => (if bt127.1 = true then ((spec_l1Cur_pick.f s0_0 bt127.2.1 bt127.2.2 3).bind fun bt130 => (spec_l1Cur_course.j0 k y115 bt121.1 (wrap64 (11 + bt130.1)) s0_0 bt130.2.1 bt130.2.2)) else (spec_l1Cur_course.j0 k y115 bt121.1 bt124.1 s0_0 bt127.2.1 bt127.2.2))))) = some (r1, r2, r3) := by first | (rw [hy118]; with_reducible exact H) | (have H2_ := (Option.bind_some _ _).symm.trans H; rw [hy118]; with_reducible exact H2_) | (have H2_ := (Option.bind_some _ _).symm.trans H; with_reducible exact H2_) | with_reducible exact H | (rw [hy118]; exact H) | exact H
 have Ny118 := Aside0.mk hy118
 clear hy118
 replace H := Option.bind_eq_some_iff.mp H
 obtain ⟨⟨t121, t122, t123⟩, A20, H⟩ := H
 replace H : ((spec_l1Cur_pick.f s0_0 t122 t123 7).bind fun bt124 => ((spec_l1Cur_one.f s0_0 bt124.2.1 bt124.2.2 16).bind fun bt127 => (if bt127.1 = true then ((spec_l1Cur_pick.f s0_0 bt127.2.1 bt127.2.2 3).bind fun bt130 => (spec_l1Cur_course.j0 k y115 t121 (wrap64 (11 + bt130.1)) s0_0 bt130.2.1 bt130.2.2)) else (spec_l1Cur_course.j0 k y115 t121 bt124.1 s0_0 bt127.2.1 bt127.2.2)))) = some (r1, r2, r3) := H
 have A2 := Aside0.mk A20
 clear A20
 replace H := Option.bind_eq_some_iff.mp H
 obtain ⟨⟨t124, t125, t126⟩, A30, H⟩ := H
 replace H : ((spec_l1Cur_one.f s0_0 t125 t126 16).bind fun bt127 => (if bt127.1 = true then ((spec_l1Cur_pick.f s0_0 bt127.2.1 bt127.2.2 3).bind fun bt130 => (spec_l1Cur_course.j0 k y115 t121 (wrap64 (11 + bt130.1)) s0_0 bt130.2.1 bt130.2.2)) else (spec_l1Cur_course.j0 k y115 t121 t124 s0_0 bt127.2.1 bt127.2.2))) = some (r1, r2, r3) := H
 have A3 := Aside0.mk A30
 clear A30
 replace H := Option.bind_eq_some_iff.mp H
 obtain ⟨⟨t127, t128, t129⟩, A40, H⟩ := H
 replace H : (if t127 = true then ((spec_l1Cur_pick.f s0_0 t128 t129 3).bind fun bt130 => (spec_l1Cur_course.j0 k y115 t121 (wrap64 (11 + bt130.1)) s0_0 bt130.2.1 bt130.2.2)) else (spec_l1Cur_course.j0 k y115 t121 t124 s0_0 t128 t129)) = some (r1, r2, r3) := H
 have A4 := Aside0.mk A40
 clear A40
 have HC5 := Aside0.mk H
 clear H
 go_enter Try.func57, Try.ntmps57
 go_upto_if 16 with (first | ((with_reducible refine gate_dst (N := 9) rfl ?_); (try (refine gate_guard (by rfl) ?_; dsimp only)); refine Kd.R_lit k41 _ 41 ?hg (N := 9) ?hd (xs := ([] : List (S41))) (inner := []) (ok := fun _ => True) (okp := fun _ => True) ?hr ?hp (fun _ hk => hk) trivial (Below.refl _ _) (Nat.le_refl _) (by simp) ?_; (case hd => rfl); (case hg => rfl); (case hr => exact zsx); (case hp => exact (Reps.none _ _)); intro v116 w6 ho7 hb hg_ hnew_; clear hg_ hnew_; (first | rw [← Ny115.out] at ho7 | (simp only [Int.reduceToNat] at ho7; rw [← Ny115.out] at ho7)); have n0_ := Aside0.mk (Kd.R_lower ho7 (keep_size (w := w) (g := g) (row := none) (zKx HK.out))); have n1_ := Aside0.mk (IsS78.below (IsS78.zI HI0.out) hb); have n2_ := Aside0.mk (KeepBut.trans (zKx HK.out) (KeepBut.of_below hb g none) (.inl rfl)); have n3_ := Aside0.mk (below_step (by first | exact zBy HB.out (IsS78.ge HI0.out) | exact zBx HB.out) hb); clear HI0; clear HK; clear HB; have HO117 := n0_; have HI0 := n1_; have HK := n2_; have HB := n3_; clear n0_ n1_ n2_ n3_; clear hb ho7) | ((with_reducible refine gate_dst (N := 11) rfl ?_); (try (refine gate_guard (by rfl) ?_; dsimp only)); refine Kd.R_lit (Kd.int .i64) _ 3 ?hg (N := 11) ?hd (xs := ([0, 0, 3, 10] : List Int)) (inner := [.int .i64 0, .int .i64 0, .int .i64 3, .int .i64 10]) (ok := fun _ => True) (okp := fun _ => True) ?hr ?hp (fun _ hk => hk) trivial (Below.refl _ _) (Nat.le_refl _) (by simp) ?_; (case hd => rfl); (case hg => rfl); (case hr => exact zsx); (case hp => exact (Reps.one (show Kd.M (Kd.int .i64) _ _ _ 0 [.int .i64 0] from rfl) (Reps.one (show Kd.M (Kd.int .i64) _ _ _ 0 [.int .i64 0] from rfl) (Reps.one (show Kd.M (Kd.int .i64) _ _ _ 3 [.int .i64 3] from rfl) (Reps.one (show Kd.M (Kd.int .i64) _ _ _ 10 [.int .i64 10] from rfl) (Reps.none _ _)))))); intro v119 w8 ho9 hb hg_ hnew_; clear hg_ hnew_; (first | rw [← Ny118.out] at ho9 | (simp only [Int.reduceToNat] at ho9; rw [← Ny118.out] at ho9)); have n0_ := Aside0.mk (Kd.R_below (zRx HO117.out) hb); have n1_ := Aside0.mk (Kd.R_lower ho9 (keep_size (w := w) (g := g) (row := none) (zKx HK.out))); have n2_ := Aside0.mk (IsS78.below (IsS78.zI HI0.out) hb); have n3_ := Aside0.mk (KeepBut.trans (zKx HK.out) (KeepBut.of_below hb g none) (.inl rfl)); have n4_ := Aside0.mk (below_step (by first | exact zBy HB.out (IsS78.ge HI0.out) | exact zBx HB.out) hb); clear HO117; clear HI0; clear HK; clear HB; have HO117 := n0_; have HO120 := n1_; have HI0 := n2_; have HK := n3_; have HB := n4_; clear n0_ n1_ n2_ n3_ n4_; clear hb ho9; obtain ⟨Ao10, co10, eo10⟩ := Kd.R_slice HO120.out; subst eo10) | ((with_reducible refine gate_callee (f := 67) rfl ?_); refine goesL_ (some 12) rfl rfl Try.func67 (by kernel_rfl) rfl #[.pointer (some ⟨g, 0, none⟩), .slice Ao10 y118.length co10] rfl zlx ?_; (with_reducible refine (spec_l1Cur_among.calls g s0_0 s0_1 s0_2 _ _ y118 t121 t122 t123 w0 _ ?side1 ?side2 ?side3 ?side4 ?side5 A2.out).mono ?_); (case side1 => exact IsS78.zI HI0.out); (case side2 => first | exact zBy HB.out (IsS78.ge HI0.out) | exact zBx HB.out); (case side3 => repeat (first | exact (Kd.R_reads' HO120.out).2.2 | (with_reducible refine Kd.C_alloc ?_ _) | (with_reducible refine Kd.C_drewN ?_ _) | (with_reducible refine Kd.C_drew ?_))); (case side4 => exact (Kd.R_reads' HO120.out).2.1); (case side5 => exact far_slice (IsS78.own_ne HI0.out HO120.out (by decide))); rintro e w11 ⟨rfl, hi, hb, hk⟩; refine ⟨_, rfl, ?_⟩; have n0_ := Aside0.mk (Kd.R_mono (Kd.R_keep (IsS78.apart (show IsS78 w0 _ g s0_0 s0_1 s0_2 from IsS78.zI HI0.out) (zRx HO117.out) (by decide)) hk (fun _ h => h.2)) (fun _ h => h.1)); have n1_ := Aside0.mk (Kd.R_mono (Kd.R_keep (IsS78.apart (show IsS78 w0 _ g s0_0 s0_1 s0_2 from IsS78.zI HI0.out) (zRx HO120.out) (by decide)) hk (fun _ h => h.2)) (fun _ h => h.1)); have n2_ := Aside0.mk (KeepBut.trans (zKx HK.out) hk (.inl rfl)); have n3_ := Aside0.mk (hb); have n4_ := Aside0.mk (hi); clear HO117; clear HO120; clear HK; clear HB; clear HI0; have HO117 := n0_; have HO120 := n1_; have HK := n2_; have HB := n3_; have HI0 := n4_; clear n0_ n1_ n2_ n3_ n4_; (try clear hb); (try clear hb2); (try clear hk); (try clear hi)) | ((with_reducible refine gate_callee (f := 72) rfl ?_); refine goesL_ (some 14) rfl rfl Try.func72 (by kernel_rfl) rfl #[.pointer (some ⟨g, 0, none⟩), .int .i64 7] rfl zlx ?_; (with_reducible refine (spec_l1Cur_pick.calls g s0_0 t122 t123 7 t124 t125 t126 w0 _ ?side1 ?side2 A3.out).mono ?_); (case side1 => exact IsS78.zI HI0.out); (case side2 => first | exact zBy HB.out (IsS78.ge HI0.out) | exact zBx HB.out); rintro e w12 ⟨rfl, hi, hb, hk⟩; refine ⟨_, rfl, ?_⟩; have n0_ := Aside0.mk (Kd.R_mono (Kd.R_keep (IsS78.apart (show IsS78 w0 _ g s0_0 t122 t123 from IsS78.zI HI0.out) (zRx HO117.out) (by decide)) hk (fun _ h => h.2)) (fun _ h => h.1)); have n1_ := Aside0.mk (Kd.R_mono (Kd.R_keep (IsS78.apart (show IsS78 w0 _ g s0_0 t122 t123 from IsS78.zI HI0.out) (zRx HO120.out) (by decide)) hk (fun _ h => h.2)) (fun _ h => h.1)); have n2_ := Aside0.mk (KeepBut.trans (zKx HK.out) hk (.inl rfl)); have n3_ := Aside0.mk (hb); have n4_ := Aside0.mk (hi); clear HO117; clear HO120; clear HK; clear HB; clear HI0; have HO117 := n0_; have HO120 := n1_; have HK := n2_; have HB := n3_; have HI0 := n4_; clear n0_ n1_ n2_ n3_ n4_; (try clear hb); (try clear hb2); (try clear hk); (try clear hi)) | ((with_reducible refine gate_callee (f := 94) rfl ?_); refine goesL_ (some 16) rfl rfl Try.func94 (by kernel_rfl) rfl #[.pointer (some ⟨g, 0, none⟩), .int .i64 16] rfl zlx ?_; (with_reducible refine (spec_l1Cur_one.calls g s0_0 t125 t126 16 t127 t128 t129 w0 _ ?side1 ?side2 A4.out).mono ?_); (case side1 => exact IsS78.zI HI0.out); (case side2 => first | exact zBy HB.out (IsS78.ge HI0.out) | exact zBx HB.out); rintro e w13 ⟨rfl, hi, hb, hk⟩; refine ⟨_, rfl, ?_⟩; have n0_ := Aside0.mk (Kd.R_mono (Kd.R_keep (IsS78.apart (show IsS78 w0 _ g s0_0 t125 t126 from IsS78.zI HI0.out) (zRx HO117.out) (by decide)) hk (fun _ h => h.2)) (fun _ h => h.1)); have n1_ := Aside0.mk (Kd.R_mono (Kd.R_keep (IsS78.apart (show IsS78 w0 _ g s0_0 t125 t126 from IsS78.zI HI0.out) (zRx HO120.out) (by decide)) hk (fun _ h => h.2)) (fun _ h => h.1)); have n2_ := Aside0.mk (KeepBut.trans (zKx HK.out) hk (.inl rfl)); have n3_ := Aside0.mk (hb); have n4_ := Aside0.mk (hi); clear HO117; clear HO120; clear HK; clear HB; clear HI0; have HO117 := n0_; have HO120 := n1_; have HK := n2_; have HB := n3_; have HI0 := n4_; clear n0_ n1_ n2_ n3_ n4_; (try clear hb); (try clear hb2); (try clear hk); (try clear hi)))
 (try simp only [Act.put, List.setIfInBounds_toArray, List.set_cons_zero, List.set_cons_succ])
 go_cut [5] (fun v5 wc => ∃ (kq : Nat) (x5_4 : Int) (x1001_4 : Int) (x1002_4 : Int), v5 = .int .i64 x5_4 ∧ Aside0 (spec_l1Cur_course.j0 kq y115 t121 x5_4 s0_0 x1001_4 x1002_4 = some (r1, r2, r3)) ∧ Aside0 (kq ≤ k) ∧ Aside0 (Kd.R k41 41 wc w.heap.size (fun _ => True) v116 y115) ∧ Aside0 (IsS78 w0 wc g s0_0 x1001_4 x1002_4) ∧ Aside0 (KeepBut w wc g none) ∧ Aside0 (Below w0.heap.size w0 wc))
 case first =>
  have H := HC5.out
  clear HC5
  by_cases c14 : t127 = true
  ·subst c14
   have H1 : ((spec_l1Cur_pick.f s0_0 t128 t129 3).bind fun bt130 => (spec_l1Cur_course.j0 k y115 t121 (wrap64 (11 + bt130.1)) s0_0 bt130.2.1 bt130.2.2)) = some (r1, r2, r3) := by rw [if_pos rfl] at H; exact H
   clear H
   have H := H1
   clear H1
   replace H := Option.bind_eq_some_iff.mp H
   obtain ⟨⟨t130, t131, t132⟩, A150, H⟩ := H
   replace H : (spec_l1Cur_course.j0 k y115 t121 (wrap64 (11 + t130)) s0_0 t131 t132) = some (r1, r2, r3) := H
   have A15 := Aside0.mk A150
   clear A150
   focus
    have H' := Aside0.mk H
    clear H
    go_wp2_with (first | ((with_reducible refine gate_callee (f := 72) rfl ?_); refine goesL_ (some 18) rfl rfl Try.func72 (by kernel_rfl) rfl #[.pointer (some ⟨g, 0, none⟩), .int .i64 3] rfl zlx ?_; (with_reducible refine (spec_l1Cur_pick.calls g s0_0 t128 t129 3 t130 t131 t132 w0 _ ?side1 ?side2 A15.out).mono ?_); (case side1 => exact IsS78.zI HI0.out); (case side2 => first | exact zBy HB.out (IsS78.ge HI0.out) | exact zBx HB.out); rintro e w16 ⟨rfl, hi, hb, hk⟩; refine ⟨_, rfl, ?_⟩; have n0_ := Aside0.mk (Kd.R_mono (Kd.R_keep (IsS78.apart (show IsS78 w0 _ g s0_0 t128 t129 from IsS78.zI HI0.out) (zRx HO117.out) (by decide)) hk (fun _ h => h.2)) (fun _ h => h.1)); have n1_ := Aside0.mk (Kd.R_mono (Kd.R_keep (IsS78.apart (show IsS78 w0 _ g s0_0 t128 t129 from IsS78.zI HI0.out) (zRx HO120.out) (by decide)) hk (fun _ h => h.2)) (fun _ h => h.1)); have n2_ := Aside0.mk (KeepBut.trans (zKx HK.out) hk (.inl rfl)); have n3_ := Aside0.mk (hb); have n4_ := Aside0.mk (hi); clear HO117; clear HO120; clear HK; clear HB; clear HI0; have HO117 := n0_; have HO120 := n1_; have HK := n2_; have HB := n3_; have HI0 := n4_; clear n0_ n1_ n2_ n3_ n4_; (try clear hb); (try clear hb2); (try clear hk); (try clear hi)))
    go_meet
    case rel => exact ⟨_, (wrap64 (11 + t130)), (t131), (t132), zrx, H', ⟨by first | omega | exact Nat.le_refl _⟩, ⟨by (with_reducible repeat (first | apply Kd.R_alloc | apply Kd.R_drewN | apply Kd.R_drew)); exact HO117.out⟩, ⟨by exact IsS78.zI HI0.out⟩, ⟨by exact zKx HK.out⟩, ⟨by first | exact zBy HB.out (IsS78.ge HI0.out) | exact zBx HB.out⟩⟩
  ·replace c14 := Bool.eq_false_iff.mpr c14
   subst c14
   have H1 : (spec_l1Cur_course.j0 k y115 t121 t124 s0_0 t128 t129) = some (r1, r2, r3) := by rw [if_neg (show ¬ (false = true) by decide)] at H; exact H
   clear H
   have H := H1
   clear H1
   focus
    have H' := Aside0.mk H
    clear H
    go_wp2
    go_meet
    case rel => exact ⟨_, (t124), (t128), (t129), zrx, H', ⟨by first | omega | exact Nat.le_refl _⟩, ⟨by (with_reducible repeat (first | apply Kd.R_alloc | apply Kd.R_drewN | apply Kd.R_drew)); exact HO117.out⟩, ⟨by exact IsS78.zI HI0.out⟩, ⟨by exact zKx HK.out⟩, ⟨by first | exact zBy HB.out (IsS78.ge HI0.out) | exact zBx HB.out⟩⟩
 case rest =>
  clear HC5
  try clear c1
  try clear p2
  try clear c5
  try clear c6
  try clear p6
  try clear c7
  try clear c9
  try clear c14
  obtain ⟨kq, x5_4, x1001_4, x1002_4, rfl, HA, HJ4, HO_3, HI0, HK, HB⟩ := hcut
  cases kq with
  | zero => exact absurd HA.out (by simp [spec_l1Cur_course.j0])
  | succ kj4 =>
   have H := HA.out
   clear HA
   simp only [spec_l1Cur_course.j0] at H
   have H' := Aside0.mk H
   clear H
   go_wp2
   go_loopg [3, 4, 5] kj4 (fun kq v3 v4 v5 w' => ∃ (x3_2 : List (S41)) (x4_2 : Int) (x5_2 : Int) (x1001_2 : Int) (x1002_2 : Int), v4 = .int .i64 x4_2 ∧ v5 = .int .i64 x5_2 ∧ Aside0 (spec_l1Cur_course.l0 kq x3_2 x4_2 x5_2 s0_0 x1001_2 x1002_2 = some (r1, r2, r3)) ∧ Aside0 (kq ≤ kj4) ∧ Aside0 (Kd.R k41 41 w' w.heap.size (fun _ => True) v3 x3_2) ∧ Aside0 (IsS78 w0 w' g s0_0 x1001_2 x1002_2) ∧ Aside0 (KeepBut w w' g none) ∧ Aside0 (Below w0.heap.size w0 w'))
   case atStart => exact ⟨(y115), (t121), (x5_4), (x1001_4), (x1002_4), zrx, zrx, H', ⟨Nat.le_refl _⟩, ⟨by (with_reducible repeat (first | apply Kd.R_alloc | apply Kd.R_drewN | apply Kd.R_drew)); exact HO_3.out⟩, ⟨by exact IsS78.zI HI0.out⟩, ⟨by exact zKx HK.out⟩, ⟨by first | exact zBy HB.out (IsS78.ge HI0.out) | exact zBx HB.out⟩⟩
   case round =>
    clear H'
    try clear c1
    try clear p2
    try clear c5
    try clear c6
    try clear p6
    try clear c7
    try clear c9
    try clear c14
    try clear p2
    try clear p6
    obtain ⟨x3_2, x4_2, x5_2, x1001_2, x1002_2, rfl, rfl, HA, HK2, HO_3, HI0, HK, HB⟩ := hrel
    cases gk with
    | zero => exact absurd HA.out (by simp [spec_l1Cur_course.l0])
    | succ k2 =>
     have H := HA.out
     clear HA
     simp only [spec_l1Cur_course.l0] at H
     by_cases c17 : x5_2 > 0
     ·rw [if_pos c17] at H
      have c17b0 : decide (0 < x5_2) = true := decide_eq_true c17
      clear c17
      obtain ⟨y133, hy133⟩ : ∃ y_ : List Int, y_ = (([1, 2, 6, 12] : List Int)) := ⟨_, rfl⟩
      replace H : ((spec_l1Cur_among.f s0_0 x1001_2 x1002_2 y133).bind fun bt136 => ((spec_l1Cur_pick.f s0_0 bt136.2.1 bt136.2.2 3).bind fun bt139 => (if (x3_2.length : Int) > 0 then (if 0 ≤ (wrap64 ((x3_2.length : Int) - 1)) then (if (wrap64 ((x3_2.length : Int) - 1)) < (x3_2.length : Int) then (if ((rd_T41 x3_2 (wrap64 ((x3_2.length : Int) - 1))).f1) = x4_2 then (if ((rd_T41 x3_2 (wrap64 ((x3_2.length : Int) - 1))).f2) = (wrap64 (1 + bt139.1)) then (if x3_2.length < 5864062014805 then ((spec_l1Cur_among.f s0_0 bt139.2.1 bt139.2.2 (([0, 0, 1, 5] : List Int))).bind fun bt151 => (spec_l1Cur_course.l0 k2 (x3_2 ++ [(⟨x4_2, wrap64 (x4_2 + bt136.1), wrap64 (1 + (Int.tmod (wrap64 (1 + bt139.1)) 3))⟩ : S41)]) (wrap64 ((wrap64 (x4_2 + bt136.1)) + bt151.1)) (wrap64 (x5_2 - 1)) s0_0 bt151.2.1 bt151.2.2)) else (none)) else (if x3_2.length < 5864062014805 then ((spec_l1Cur_among.f s0_0 bt139.2.1 bt139.2.2 (([0, 0, 1, 5] : List Int))).bind fun bt160 => (spec_l1Cur_course.l0 k2 (x3_2 ++ [(⟨x4_2, wrap64 (x4_2 + bt136.1), wrap64 (1 + bt139.1)⟩ : S41)]) (wrap64 ((wrap64 (x4_2 + bt136.1)) + bt160.1)) (wrap64 (x5_2 - 1)) s0_0 bt160.2.1 bt160.2.2)) else (none))) else (if x3_2.length < 5864062014805 then ((spec_l1Cur_among.f s0_0 bt139.2.1 bt139.2.2 (([0, 0, 1, 5] : List Int))).bind fun bt169 => (spec_l1Cur_course.l0 k2 (x3_2 ++ [(⟨x4_2, wrap64 (x4_2 + bt136.1), wrap64 (1 + bt139.1)⟩ : S41)]) (wrap64 ((wrap64 (x4_2 + bt136.1)) + bt169.1)) (wrap64 (x5_2 - 1)) s0_0 bt169.2.1 bt169.2.2)) else (none))) else (none)) else (none)) else (if x3_2.length < 5864062014805 then ((spec_l1Cur_among.f s0_0 bt139.2.1 bt139.2.2 (([0, 0, 1, 5] : List Int))).bind fun bt178 => (spec_l1Cur_course.l0 k2 (x3_2 ++ [(⟨x4_2, wrap64 (x4_2 + bt136.1), wrap64 (1 + bt139.1)⟩ : S41)]) (wrap64 ((wrap64 (x4_2 + bt136.1)) + bt178.1)) (wrap64 (x5_2 - 1)) s0_0 bt178.2.1 bt178.2.2)) else (none))))) = some (r1, r2, r3) := by first | (rw [hy133]; with_reducible exact H) | (have H2_ := (Option.bind_some _ _).symm.trans H; rw [hy133]; with_reducible exact H2_) | (have H2_ := (Option.bind_some _ _).symm.trans H; with_reducible exact H2_) | with_reducible exact H | (rw [hy133]; exact H) | exact H
      have Ny133 := Aside0.mk hy133
      clear hy133
      replace H := Option.bind_eq_some_iff.mp H
      obtain ⟨⟨t136, t137, t138⟩, A180, H⟩ := H
      replace H : ((spec_l1Cur_pick.f s0_0 t137 t138 3).bind fun bt139 => (if (x3_2.length : Int) > 0 then (if 0 ≤ (wrap64 ((x3_2.length : Int) - 1)) then (if (wrap64 ((x3_2.length : Int) - 1)) < (x3_2.length : Int) then (if ((rd_T41 x3_2 (wrap64 ((x3_2.length : Int) - 1))).f1) = x4_2 then (if ((rd_T41 x3_2 (wrap64 ((x3_2.length : Int) - 1))).f2) = (wrap64 (1 + bt139.1)) then (if x3_2.length < 5864062014805 then ((spec_l1Cur_among.f s0_0 bt139.2.1 bt139.2.2 (([0, 0, 1, 5] : List Int))).bind fun bt151 => (spec_l1Cur_course.l0 k2 (x3_2 ++ [(⟨x4_2, wrap64 (x4_2 + t136), wrap64 (1 + (Int.tmod (wrap64 (1 + bt139.1)) 3))⟩ : S41)]) (wrap64 ((wrap64 (x4_2 + t136)) + bt151.1)) (wrap64 (x5_2 - 1)) s0_0 bt151.2.1 bt151.2.2)) else (none)) else (if x3_2.length < 5864062014805 then ((spec_l1Cur_among.f s0_0 bt139.2.1 bt139.2.2 (([0, 0, 1, 5] : List Int))).bind fun bt160 => (spec_l1Cur_course.l0 k2 (x3_2 ++ [(⟨x4_2, wrap64 (x4_2 + t136), wrap64 (1 + bt139.1)⟩ : S41)]) (wrap64 ((wrap64 (x4_2 + t136)) + bt160.1)) (wrap64 (x5_2 - 1)) s0_0 bt160.2.1 bt160.2.2)) else (none))) else (if x3_2.length < 5864062014805 then ((spec_l1Cur_among.f s0_0 bt139.2.1 bt139.2.2 (([0, 0, 1, 5] : List Int))).bind fun bt169 => (spec_l1Cur_course.l0 k2 (x3_2 ++ [(⟨x4_2, wrap64 (x4_2 + t136), wrap64 (1 + bt139.1)⟩ : S41)]) (wrap64 ((wrap64 (x4_2 + t136)) + bt169.1)) (wrap64 (x5_2 - 1)) s0_0 bt169.2.1 bt169.2.2)) else (none))) else (none)) else (none)) else (if x3_2.length < 5864062014805 then ((spec_l1Cur_among.f s0_0 bt139.2.1 bt139.2.2 (([0, 0, 1, 5] : List Int))).bind fun bt178 => (spec_l1Cur_course.l0 k2 (x3_2 ++ [(⟨x4_2, wrap64 (x4_2 + t136), wrap64 (1 + bt139.1)⟩ : S41)]) (wrap64 ((wrap64 (x4_2 + t136)) + bt178.1)) (wrap64 (x5_2 - 1)) s0_0 bt178.2.1 bt178.2.2)) else (none)))) = some (r1, r2, r3) := H
      have A18 := Aside0.mk A180
      clear A180
      replace H := Option.bind_eq_some_iff.mp H
      obtain ⟨⟨t139, t140, t141⟩, A190, H⟩ := H
      replace H : (if (x3_2.length : Int) > 0 then (if 0 ≤ (wrap64 ((x3_2.length : Int) - 1)) then (if (wrap64 ((x3_2.length : Int) - 1)) < (x3_2.length : Int) then (if ((rd_T41 x3_2 (wrap64 ((x3_2.length : Int) - 1))).f1) = x4_2 then (if ((rd_T41 x3_2 (wrap64 ((x3_2.length : Int) - 1))).f2) = (wrap64 (1 + t139)) then (if x3_2.length < 5864062014805 then ((spec_l1Cur_among.f s0_0 t140 t141 (([0, 0, 1, 5] : List Int))).bind fun bt151 => (spec_l1Cur_course.l0 k2 (x3_2 ++ [(⟨x4_2, wrap64 (x4_2 + t136), wrap64 (1 + (Int.tmod (wrap64 (1 + t139)) 3))⟩ : S41)]) (wrap64 ((wrap64 (x4_2 + t136)) + bt151.1)) (wrap64 (x5_2 - 1)) s0_0 bt151.2.1 bt151.2.2)) else (none)) else (if x3_2.length < 5864062014805 then ((spec_l1Cur_among.f s0_0 t140 t141 (([0, 0, 1, 5] : List Int))).bind fun bt160 => (spec_l1Cur_course.l0 k2 (x3_2 ++ [(⟨x4_2, wrap64 (x4_2 + t136), wrap64 (1 + t139)⟩ : S41)]) (wrap64 ((wrap64 (x4_2 + t136)) + bt160.1)) (wrap64 (x5_2 - 1)) s0_0 bt160.2.1 bt160.2.2)) else (none))) else (if x3_2.length < 5864062014805 then ((spec_l1Cur_among.f s0_0 t140 t141 (([0, 0, 1, 5] : List Int))).bind fun bt169 => (spec_l1Cur_course.l0 k2 (x3_2 ++ [(⟨x4_2, wrap64 (x4_2 + t136), wrap64 (1 + t139)⟩ : S41)]) (wrap64 ((wrap64 (x4_2 + t136)) + bt169.1)) (wrap64 (x5_2 - 1)) s0_0 bt169.2.1 bt169.2.2)) else (none))) else (none)) else (none)) else (if x3_2.length < 5864062014805 then ((spec_l1Cur_among.f s0_0 t140 t141 (([0, 0, 1, 5] : List Int))).bind fun bt178 => (spec_l1Cur_course.l0 k2 (x3_2 ++ [(⟨x4_2, wrap64 (x4_2 + t136), wrap64 (1 + t139)⟩ : S41)]) (wrap64 ((wrap64 (x4_2 + t136)) + bt178.1)) (wrap64 (x5_2 - 1)) s0_0 bt178.2.1 bt178.2.2)) else (none))) = some (r1, r2, r3) := H
      have A19 := Aside0.mk A190
      clear A190
      by_cases c20 : (x3_2.length : Int) > 0
      ·rw [if_pos c20] at H
       have c20b0 : decide (0 < (x3_2.length : Int)) = true := decide_eq_true c20
       have c20b1 : decide (0 < x3_2.length) = true := decide_eq_true (by omega)
       clear c20
       obtain ⟨ji21, hji21⟩ : ∃ j_ : Int, (wrap64 ((x3_2.length : Int) - 1)) = j_ := ⟨_, rfl⟩
       replace H : (if 0 ≤ (ji21) then (if (ji21) < (x3_2.length : Int) then (if ((rd_T41 x3_2 (ji21)).f1) = x4_2 then (if ((rd_T41 x3_2 (ji21)).f2) = (wrap64 (1 + t139)) then (if x3_2.length < 5864062014805 then ((spec_l1Cur_among.f s0_0 t140 t141 (([0, 0, 1, 5] : List Int))).bind fun bt151 => (spec_l1Cur_course.l0 k2 (x3_2 ++ [(⟨x4_2, wrap64 (x4_2 + t136), wrap64 (1 + (Int.tmod (wrap64 (1 + t139)) 3))⟩ : S41)]) (wrap64 ((wrap64 (x4_2 + t136)) + bt151.1)) (wrap64 (x5_2 - 1)) s0_0 bt151.2.1 bt151.2.2)) else (none)) else (if x3_2.length < 5864062014805 then ((spec_l1Cur_among.f s0_0 t140 t141 (([0, 0, 1, 5] : List Int))).bind fun bt160 => (spec_l1Cur_course.l0 k2 (x3_2 ++ [(⟨x4_2, wrap64 (x4_2 + t136), wrap64 (1 + t139)⟩ : S41)]) (wrap64 ((wrap64 (x4_2 + t136)) + bt160.1)) (wrap64 (x5_2 - 1)) s0_0 bt160.2.1 bt160.2.2)) else (none))) else (if x3_2.length < 5864062014805 then ((spec_l1Cur_among.f s0_0 t140 t141 (([0, 0, 1, 5] : List Int))).bind fun bt169 => (spec_l1Cur_course.l0 k2 (x3_2 ++ [(⟨x4_2, wrap64 (x4_2 + t136), wrap64 (1 + t139)⟩ : S41)]) (wrap64 ((wrap64 (x4_2 + t136)) + bt169.1)) (wrap64 (x5_2 - 1)) s0_0 bt169.2.1 bt169.2.2)) else (none))) else (none)) else (none)) = some (r1, r2, r3) := by first | (rw [hji21] at H; exact H) | (simp only [hji21] at H ⊢; exact H)
       (try rw [hji21] at A18)
       (try rw [hji21] at A19)
       have hji21w : (IntKind.i64.wrap ((x3_2.length : Int) - 1)) = ji21 := (i64_w _).trans hji21
       by_cases c22 : 0 ≤ (ji21)
       ·rw [if_pos c22] at H
        have c22b0 : decide (0 ≤ (ji21)) = true := decide_eq_true c22
        clear c22
        by_cases c23 : (ji21) < (x3_2.length : Int)
        ·rw [if_pos c23] at H
         have c23b0 : decide ((ji21) < (x3_2.length : Int)) = true := decide_eq_true c23
         clear c23
         by_cases c24 : ((rd_T41 x3_2 (ji21)).f1) = x4_2
         ·rw [if_pos c24] at H
          have c24b0 : (((rd_T41 x3_2 (ji21)).f1) == x4_2) = true := beq_iff_eq.mpr c24
          have c24b1 : (((rd_T41 x3_2 (ji21)).f1) != x4_2) = false := bne_eq_false_iff_eq.mpr c24
          clear c24
          by_cases c25 : ((rd_T41 x3_2 (ji21)).f2) = (wrap64 (1 + t139))
          ·rw [if_pos c25] at H
           have c25b0 : (((rd_T41 x3_2 (ji21)).f2) == (wrap64 (1 + t139))) = true := beq_iff_eq.mpr c25
           have c25b1 : (((rd_T41 x3_2 (ji21)).f2) != (wrap64 (1 + t139))) = false := bne_eq_false_iff_eq.mpr c25
           clear c25
           by_cases c26 : x3_2.length < 5864062014805
           ·rw [if_pos c26] at H
            have LMc26 := Aside0.mk c26
            clear c26
            obtain ⟨y145, hy145⟩ : ∃ y_ : List (S41), y_ = (x3_2 ++ [(⟨x4_2, wrap64 (x4_2 + t136), wrap64 (1 + (Int.tmod (wrap64 (1 + t139)) 3))⟩ : S41)]) := ⟨_, rfl⟩
            replace H : ((spec_l1Cur_among.f s0_0 t140 t141 (([0, 0, 1, 5] : List Int))).bind fun bt151 => (spec_l1Cur_course.l0 k2 y145 (wrap64 ((wrap64 (x4_2 + t136)) + bt151.1)) (wrap64 (x5_2 - 1)) s0_0 bt151.2.1 bt151.2.2)) = some (r1, r2, r3) := by first | (rw [hy145]; with_reducible exact H) | (have H2_ := (Option.bind_some _ _).symm.trans H; rw [hy145]; with_reducible exact H2_) | (have H2_ := (Option.bind_some _ _).symm.trans H; with_reducible exact H2_) | with_reducible exact H | (rw [hy145]; exact H) | exact H
            have Ny145 := Aside0.mk hy145
            clear hy145
            obtain ⟨y148, hy148⟩ : ∃ y_ : List Int, y_ = (([0, 0, 1, 5] : List Int)) := ⟨_, rfl⟩
            replace H : ((spec_l1Cur_among.f s0_0 t140 t141 y148).bind fun bt151 => (spec_l1Cur_course.l0 k2 y145 (wrap64 ((wrap64 (x4_2 + t136)) + bt151.1)) (wrap64 (x5_2 - 1)) s0_0 bt151.2.1 bt151.2.2)) = some (r1, r2, r3) := by first | (rw [hy148]; with_reducible exact H) | (have H2_ := (Option.bind_some _ _).symm.trans H; rw [hy148]; with_reducible exact H2_) | (have H2_ := (Option.bind_some _ _).symm.trans H; with_reducible exact H2_) | with_reducible exact H | (rw [hy148]; exact H) | exact H
            have Ny148 := Aside0.mk hy148
            clear hy148
            replace H := Option.bind_eq_some_iff.mp H
            obtain ⟨⟨t151, t152, t153⟩, A270, H⟩ := H
            replace H : (spec_l1Cur_course.l0 k2 y145 (wrap64 ((wrap64 (x4_2 + t136)) + t151)) (wrap64 (x5_2 - 1)) s0_0 t152 t153) = some (r1, r2, r3) := H
            have A27 := Aside0.mk A270
            clear A270
            focus
             have H' := Aside0.mk H
             clear H
             try go_wp2_with (first | ((with_reducible refine gate_dst (N := 27) rfl ?_); (try (refine gate_guard (by rfl) ?_; dsimp only)); refine Kd.R_lit (Kd.int .i64) _ 3 ?hg (N := 27) ?hd (xs := ([1, 2, 6, 12] : List Int)) (inner := [.int .i64 1, .int .i64 2, .int .i64 6, .int .i64 12]) (ok := fun _ => True) (okp := fun _ => True) ?hr ?hp (fun _ hk => hk) trivial (Below.refl _ _) (Nat.le_refl _) (by simp) ?_; (case hd => rfl); (case hg => rfl); (case hr => exact zsx); (case hp => exact (Reps.one (show Kd.M (Kd.int .i64) _ _ _ 1 [.int .i64 1] from rfl) (Reps.one (show Kd.M (Kd.int .i64) _ _ _ 2 [.int .i64 2] from rfl) (Reps.one (show Kd.M (Kd.int .i64) _ _ _ 6 [.int .i64 6] from rfl) (Reps.one (show Kd.M (Kd.int .i64) _ _ _ 12 [.int .i64 12] from rfl) (Reps.none _ _)))))); intro v134 w28 ho29 hb hg_ hnew_; clear hg_ hnew_; (first | rw [← Ny133.out] at ho29 | (simp only [Int.reduceToNat] at ho29; rw [← Ny133.out] at ho29)); have n0_ := Aside0.mk (Kd.R_below (zRx HO_3.out) hb); have n1_ := Aside0.mk (Kd.R_lower ho29 (keep_size (w := w) (g := g) (row := none) (zKx HK.out))); have n2_ := Aside0.mk (IsS78.below (IsS78.zI HI0.out) hb); have n3_ := Aside0.mk (KeepBut.trans (zKx HK.out) (KeepBut.of_below hb g none) (.inl rfl)); have n4_ := Aside0.mk (below_step (by first | exact zBy HB.out (IsS78.ge HI0.out) | exact zBx HB.out) hb); clear HO_3; clear HI0; clear HK; clear HB; have HO_3 := n0_; have HO135 := n1_; have HI0 := n2_; have HK := n3_; have HB := n4_; clear n0_ n1_ n2_ n3_ n4_; clear hb ho29; obtain ⟨Ao30, co30, eo30⟩ := Kd.R_slice HO135.out; subst eo30) | ((with_reducible refine gate_callee (f := 67) rfl ?_); refine goesL_ (some 28) rfl rfl Try.func67 (by kernel_rfl) rfl #[.pointer (some ⟨g, 0, none⟩), .slice Ao30 y133.length co30] rfl zlx ?_; (with_reducible refine (spec_l1Cur_among.calls g s0_0 x1001_2 x1002_2 _ _ y133 t136 t137 t138 w0 _ ?side1 ?side2 ?side3 ?side4 ?side5 A18.out).mono ?_); (case side1 => exact IsS78.zI HI0.out); (case side2 => first | exact zBy HB.out (IsS78.ge HI0.out) | exact zBx HB.out); (case side3 => repeat (first | exact (Kd.R_reads' HO135.out).2.2 | (with_reducible refine Kd.C_alloc ?_ _) | (with_reducible refine Kd.C_drewN ?_ _) | (with_reducible refine Kd.C_drew ?_))); (case side4 => exact (Kd.R_reads' HO135.out).2.1); (case side5 => exact far_slice (IsS78.own_ne HI0.out HO135.out (by decide))); rintro e w31 ⟨rfl, hi, hb, hk⟩; refine ⟨_, rfl, ?_⟩; have n0_ := Aside0.mk (Kd.R_mono (Kd.R_keep (IsS78.apart (show IsS78 w0 _ g s0_0 x1001_2 x1002_2 from IsS78.zI HI0.out) (zRx HO_3.out) (by decide)) hk (fun _ h => h.2)) (fun _ h => h.1)); have n1_ := Aside0.mk (Kd.R_mono (Kd.R_keep (IsS78.apart (show IsS78 w0 _ g s0_0 x1001_2 x1002_2 from IsS78.zI HI0.out) (zRx HO135.out) (by decide)) hk (fun _ h => h.2)) (fun _ h => h.1)); have n2_ := Aside0.mk (KeepBut.trans (zKx HK.out) hk (.inl rfl)); have n3_ := Aside0.mk (hb); have n4_ := Aside0.mk (hi); clear HO_3; clear HO135; clear HK; clear HB; clear HI0; have HO_3 := n0_; have HO135 := n1_; have HK := n2_; have HB := n3_; have HI0 := n4_; clear n0_ n1_ n2_ n3_ n4_; (try clear hb); (try clear hb2); (try clear hk); (try clear hi)) | ((with_reducible refine gate_callee (f := 72) rfl ?_); refine goesL_ (some 31) rfl rfl Try.func72 (by kernel_rfl) rfl #[.pointer (some ⟨g, 0, none⟩), .int .i64 3] rfl zlx ?_; (with_reducible refine (spec_l1Cur_pick.calls g s0_0 t137 t138 3 t139 t140 t141 w0 _ ?side1 ?side2 A19.out).mono ?_); (case side1 => exact IsS78.zI HI0.out); (case side2 => first | exact zBy HB.out (IsS78.ge HI0.out) | exact zBx HB.out); rintro e w32 ⟨rfl, hi, hb, hk⟩; refine ⟨_, rfl, ?_⟩; have n0_ := Aside0.mk (Kd.R_mono (Kd.R_keep (IsS78.apart (show IsS78 w0 _ g s0_0 t137 t138 from IsS78.zI HI0.out) (zRx HO_3.out) (by decide)) hk (fun _ h => h.2)) (fun _ h => h.1)); have n1_ := Aside0.mk (Kd.R_mono (Kd.R_keep (IsS78.apart (show IsS78 w0 _ g s0_0 t137 t138 from IsS78.zI HI0.out) (zRx HO135.out) (by decide)) hk (fun _ h => h.2)) (fun _ h => h.1)); have n2_ := Aside0.mk (KeepBut.trans (zKx HK.out) hk (.inl rfl)); have n3_ := Aside0.mk (hb); have n4_ := Aside0.mk (hi); clear HO_3; clear HO135; clear HK; clear HB; clear HI0; have HO_3 := n0_; have HO135 := n1_; have HK := n2_; have HB := n3_; have HI0 := n4_; clear n0_ n1_ n2_ n3_ n4_; (try clear hb); (try clear hb2); (try clear hk); (try clear hi)) | ((with_reducible refine gate_dst (N := 6) rfl ?_); (try (refine gate_guard (by rfl) ?_; dsimp only)); refine box_event ?hg (N := 6) ?hd (cs := #[.int .i64 0, .int .i64 0, .int .i64 0]) (t := 41) ?hr ?_; (case hd => rfl); (case hg => rfl); (case hr => exact zsx); intro gb142 hg w33 hbox hb; have n0_ := Aside0.mk (Kd.R_below (Kd.R_elderB (zRx HO_3.out) gb142 (Nat.le_of_eq hg.symm)) hb); have n1_ := Aside0.mk (Kd.R_below (zRx HO135.out) hb); have n2_ := Aside0.mk (IsS78.below (IsS78.zI HI0.out) hb); have n3_ := Aside0.mk (KeepBut.trans (zKx HK.out) (KeepBut.of_below hb g none) (.inl rfl)); have n4_ := Aside0.mk (below_step (by first | exact zBy HB.out (IsS78.ge HI0.out) | exact zBx HB.out) hb); have n5_ := Aside0.mk (hbox); have n6_ := Aside0.mk ((by rw [hg]; exact (keep_size (w := w) (g := g) (row := none) (zKx HK.out)) : w.heap.size ≤ gb142)); have n7_ := Aside0.mk ((Nat.le_trans HW0.out (by rw [hg]; exact (keep_size (w := w) (g := g) (row := none) (zKx HK.out)) : w.heap.size ≤ gb142) : w0.heap.size ≤ gb142)); have n8_ := Aside0.mk ((by rw [hg]; exact Nat.ne_of_lt (IsS78.lt (show IsS78 w0 _ g s0_0 t140 t141 from IsS78.zI HI0.out)) : g ≠ gb142)); have n9_ := Aside0.mk ((by rw [hg]; exact Nat.ne_of_gt (IsS78.lt (show IsS78 w0 _ g s0_0 t140 t141 from IsS78.zI HI0.out)) : gb142 ≠ g)); clear HO_3; clear HO135; clear HI0; clear HK; clear HB; have HO_3 := n0_; have HO135 := n1_; have HI0 := n2_; have HK := n3_; have HB := n4_; have BK142 := n5_; have GW142 := n6_; have GE142 := n7_; have NB0_142 := n8_; have NB142_0 := n9_; clear n0_ n1_ n2_ n3_ n4_ n5_ n6_ n7_ n8_ n9_; clear hb hbox hg; have hnb34 := NB142_0.out; have hnc34 := NB0_142.out; have hcz35_0 : w33.cell? ⟨gb142, 0, none⟩ = some (.int .i64 0) := (blk_cell BK142.out 0).trans rfl; have hcz35_1 : w33.cell? ⟨gb142, 1, none⟩ = some (.int .i64 0) := (blk_cell BK142.out 1).trans rfl; have hcz35_2 : w33.cell? ⟨gb142, 2, none⟩ = some (.int .i64 0) := (blk_cell BK142.out 2).trans rfl; have hfz35_0 := blk_frozen BK142.out 0; have hfz35_1 := blk_frozen BK142.out 1; have hfz35_2 := blk_frozen BK142.out 2))
             have n0_ : Aside0 (Kd.R k41 41 (((w33.setCell ⟨gb142, 0, none⟩ (.int .i64 x4_2)).setCell ⟨gb142, 1, none⟩ (.int .i64 (wrap64 (x4_2 + t136)))).setCell ⟨gb142, 2, none⟩ (.int .i64 (wrap64 (1 + t139)))) w.heap.size (fun k_ => k_ ≠ gb142) u3 x3_2) := ⟨by (with_reducible repeat (first | apply Kd.R_alloc | apply Kd.R_drewN | apply Kd.R_drew)); exact Kd.R_mono (Kd.R_far (p := ⟨gb142, 2, none⟩) (Kd.R_far (p := ⟨gb142, 1, none⟩) (Kd.R_far (p := ⟨gb142, 0, none⟩) (Kd.R_mono HO_3.out (fun k_ hk => (⟨hk, hk.2⟩ : _ ∧ k_ ≠ gb142))) (fun _ hk => hk.2) (.int .i64 x4_2)) (fun _ hk => hk.2) (.int .i64 (wrap64 (x4_2 + t136)))) (fun _ hk => hk.2) (.int .i64 (wrap64 (1 + t139)))) (fun _ hk => hk.1.2)⟩
             have n1_ : Aside0 (Kd.R (Kd.int .i64) 3 (((w33.setCell ⟨gb142, 0, none⟩ (.int .i64 x4_2)).setCell ⟨gb142, 1, none⟩ (.int .i64 (wrap64 (x4_2 + t136)))).setCell ⟨gb142, 2, none⟩ (.int .i64 (wrap64 (1 + t139)))) w.heap.size (fun _ => True) (.slice Ao30 y133.length co30) y133) := ⟨by (with_reducible repeat (first | apply Kd.R_alloc | apply Kd.R_drewN | apply Kd.R_drew)); exact Kd.R_mono (Kd.R_far (p := ⟨gb142, 2, none⟩) (Kd.R_far (p := ⟨gb142, 1, none⟩) (Kd.R_far (p := ⟨gb142, 0, none⟩) (Kd.R_types HO135.out BK142.out (by decide)) (fun _ hk => hk.2) (.int .i64 x4_2)) (fun _ hk => hk.2) (.int .i64 (wrap64 (x4_2 + t136)))) (fun _ hk => hk.2) (.int .i64 (wrap64 (1 + t139)))) (fun _ hk => trivial)⟩
             have n2_ : Aside0 ((((w33.setCell ⟨gb142, 0, none⟩ (.int .i64 x4_2)).setCell ⟨gb142, 1, none⟩ (.int .i64 (wrap64 (x4_2 + t136)))).setCell ⟨gb142, 2, none⟩ (.int .i64 (wrap64 (1 + t139)))).heap[gb142]? = some (.cells #[.int .i64 x4_2, .int .i64 (wrap64 (x4_2 + t136)), .int .i64 (wrap64 (1 + t139))] 41 (0, 0))) := ⟨by (with_reducible repeat (first | refine blk_drewN ?_ _ | refine blk_drew ?_ | refine blk_alloc ?_ _)); refine blk_put (cs := #[.int .i64 x4_2, .int .i64 (wrap64 (x4_2 + t136)), .int .i64 0]) ?_ 2 _ rfl; (with_reducible repeat (first | refine blk_drewN ?_ _ | refine blk_drew ?_ | refine blk_alloc ?_ _)); refine blk_put (cs := #[.int .i64 x4_2, .int .i64 0, .int .i64 0]) ?_ 1 _ rfl; (with_reducible repeat (first | refine blk_drewN ?_ _ | refine blk_drew ?_ | refine blk_alloc ?_ _)); refine blk_put (cs := #[.int .i64 0, .int .i64 0, .int .i64 0]) ?_ 0 _ rfl; (with_reducible repeat (first | refine blk_drewN ?_ _ | refine blk_drew ?_ | refine blk_alloc ?_ _)); exact BK142.out⟩
             have n3_ : Aside0 (IsS78 w0 (((w33.setCell ⟨gb142, 0, none⟩ (.int .i64 x4_2)).setCell ⟨gb142, 1, none⟩ (.int .i64 (wrap64 (x4_2 + t136)))).setCell ⟨gb142, 2, none⟩ (.int .i64 (wrap64 (1 + t139)))) g s0_0 t140 t141) := ⟨by exact IsS78.zJ HI0.out NB0_142.out⟩
             have n4_ : Aside0 (KeepBut w (((w33.setCell ⟨gb142, 0, none⟩ (.int .i64 x4_2)).setCell ⟨gb142, 1, none⟩ (.int .i64 (wrap64 (x4_2 + t136)))).setCell ⟨gb142, 2, none⟩ (.int .i64 (wrap64 (1 + t139)))) g none) := ⟨by exact zKy HK.out GW142.out⟩
             have n5_ : Aside0 (Below w0.heap.size w0 (((w33.setCell ⟨gb142, 0, none⟩ (.int .i64 x4_2)).setCell ⟨gb142, 1, none⟩ (.int .i64 (wrap64 (x4_2 + t136)))).setCell ⟨gb142, 2, none⟩ (.int .i64 (wrap64 (1 + t139))))) := ⟨by exact zBz HB.out (IsS78.ge HI0.out) GE142.out⟩
             (try clear HO_3)
             (try clear HO135)
             (try clear BK142)
             (try clear HI0)
             (try clear HK)
             (try clear HB)
             generalize (((w33.setCell ⟨gb142, 0, none⟩ (.int .i64 x4_2)).setCell ⟨gb142, 1, none⟩ (.int .i64 (wrap64 (x4_2 + t136)))).setCell ⟨gb142, 2, none⟩ (.int .i64 (wrap64 (1 + t139)))) = w36 at n0_ n1_ n2_ n3_ n4_ n5_ ⊢
             have HO_3 := n0_
             have HO135 := n1_
             have BK142 := n2_
             have HI0 := n3_
             have HK := n4_
             have HB := n5_
             clear n0_ n1_ n2_ n3_ n4_ n5_
             have n0_ := Aside0.mk (Kd.R_drew HO_3.out)
             have n1_ := Aside0.mk (Kd.R_drew HO135.out)
             have n2_ := Aside0.mk (blk_drew BK142.out)
             have n3_ := Aside0.mk (IsS78.drew HI0.out)
             have n4_ := Aside0.mk (keep_drew HK.out)
             have n5_ := Aside0.mk (below_drew1 HB.out)
             clear HO_3
             clear HO135
             clear BK142
             clear HI0
             clear HK
             clear HB
             have HO_3 := n0_
             have HO135 := n1_
             have BK142 := n2_
             have HI0 := n3_
             have HK := n4_
             have HB := n5_
             clear n0_ n1_ n2_ n3_ n4_ n5_
             obtain ⟨Ao38, co38, eo38⟩ := Kd.R_slice HO_3.out
             (first | subst eo38 | (injection eo38 with f1_ f2_ f3_; have f4_ := f1_.symm; have f5_ := f3_.symm; clear f1_ f2_ f3_; subst f4_; subst f5_))
             have p143 : 0 ≤ ((ji21) : Int) := of_decide_eq_true zax
             have q143 : (ji21) < (x3_2.length : Int) := of_decide_eq_true zax
             obtain ⟨ad143, e143, hx143_0, hx143_1, hx143_2⟩ := at_T41 (Kd.R_reads' HO_3.out).2.2 (ji21) p143 q143
             cases e143
             replace p143 := eq_true p143
             replace q143 := eq_true q143
             have p144 : 0 ≤ ((ji21) : Int) := of_decide_eq_true zax
             have q144 : (ji21) < (x3_2.length : Int) := of_decide_eq_true zax
             obtain ⟨ad144, e144, hx144_0, hx144_1, hx144_2⟩ := at_T41 (Kd.R_reads' HO_3.out).2.2 (ji21) p144 q144
             obtain rfl : ad143 = ad144 := (by injection e144)
             replace p144 := eq_true p144
             replace q144 := eq_true q144
             refine start_ (n := 27) (S := fun w' => w'.cell? ⟨gb142, 0, none⟩ = some (.int .i64 x4_2) ∧ w'.cell? ⟨gb142, 1, none⟩ = some (.int .i64 (wrap64 (x4_2 + t136))) ∧ w'.cell? ⟨gb142, 2, none⟩ = some (.int .i64 (wrap64 (1 + t139))) ∧ w'.cell? (ad143.add (((ji21)).toNat * 3)) = some (.int .i64 ((rd_T41 x3_2 (ji21)).f0)) ∧ w'.cell? ⟨(ad143.add (((ji21)).toNat * 3)).block, (ad143.add (((ji21)).toNat * 3)).off + 1, none⟩ = some (.int .i64 ((rd_T41 x3_2 (ji21)).f1)) ∧ w'.cell? ⟨(ad143.add (((ji21)).toNat * 3)).block, (ad143.add (((ji21)).toNat * 3)).off + 2, none⟩ = some (.int .i64 ((rd_T41 x3_2 (ji21)).f2)) ∧ w'.cell? (ad143.add (((ji21)).toNat * 3)) = some (.int .i64 ((rd_T41 x3_2 (ji21)).f0)) ∧ w'.cell? ⟨(ad143.add (((ji21)).toNat * 3)).block, (ad143.add (((ji21)).toNat * 3)).off + 1, none⟩ = some (.int .i64 ((rd_T41 x3_2 (ji21)).f1)) ∧ w'.cell? ⟨(ad143.add (((ji21)).toNat * 3)).block, (ad143.add (((ji21)).toNat * 3)).off + 2, none⟩ = some (.int .i64 ((rd_T41 x3_2 (ji21)).f2))) (ds := []) #[false, false, false, false, false, false, false, false, false, false, false, false, false, false, false, false, false, false, false, false, false, false, false, false, false, false, false] (by kernel_rfl) rfl rfl ⟨(blk_cell BK142.out 0).trans rfl, (blk_cell BK142.out 1).trans rfl, (blk_cell BK142.out 2).trans rfl, hx143_0, hx143_1, hx143_2, hx144_0, hx144_1, hx144_2⟩ (fun hHeld => ?_); refine with_tabW spec_l1Cur_course.tab9 spec_l1Cur_course.bits9 (fun HT_ HW_ => ?_)
             generalize w36.drew = w37 at HO_3 HO135 BK142 HI0 HK HB hx143_0 hx143_1 hx143_2 hx144_0 hx144_1 hx144_2 hHeld ⊢
             refine pure_ (i := 0) (N := some 34) (v := ?_) (a' := ?_) #[true, false, false, false, false, false, false, false, false, false, false, false, false, false, false, false, false, false, false, false, false, false, false, false, false, false, false] rfl rfl (any_of HT_.out (by kernel_rfl)) (fun _ _ _ h => h) (Or.inl ⟨by rfl, ?_⟩) ?_ ?_
             rotate_left
             ·intro w'
              go_simp
              with_reducible rfl
             rotate_left
             ·simp only [Act.put, List.setIfInBounds_toArray, List.set_cons_zero, List.set_cons_succ, i64_w, i32_w]
              rfl
             refine pure_ (i := 1) (N := some 35) (v := ?_) (a' := ?_) #[true, true, false, false, false, false, false, false, false, false, false, false, false, false, false, false, false, false, false, false, false, false, false, false, false, false, false] rfl rfl (any_of HT_.out (by kernel_rfl)) (fun _ _ _ h => h) (Or.inl ⟨by rfl, ?_⟩) ?_ ?_
             rotate_left
             ·intro w'
              go_simp
              with_reducible rfl
             rotate_left
             ·simp only [Act.put, List.setIfInBounds_toArray, List.set_cons_zero, List.set_cons_succ, i64_w, i32_w]
              rfl
             refine pure_ (i := 2) (N := some 36) (v := ?_) (a' := ?_) #[true, true, true, false, false, false, false, false, false, false, false, false, false, false, false, false, false, false, false, false, false, false, false, false, false, false, false] rfl rfl (any_of HT_.out (by kernel_rfl)) (fun _ _ _ h => h) (Or.inl ⟨by rfl, ?_⟩) ?_ ?_
             rotate_left
             ·intro w'
              go_simp
              with_reducible rfl
             rotate_left
             ·simp only [Act.put, List.setIfInBounds_toArray, List.set_cons_zero, List.set_cons_succ, i64_w, i32_w]
              rfl
             refine pure_ (i := 3) (N := some 37) (v := ?_) (a' := ?_) #[true, true, true, true, false, false, false, false, false, false, false, false, false, false, false, false, false, false, false, false, false, false, false, false, false, false, false] rfl rfl (any_of HT_.out (by kernel_rfl)) (fun _ _ _ h => h) (Or.inl ⟨by rfl, ?_⟩) ?_ ?_
             rotate_left
             ·intro w'
              go_simp
              with_reducible rfl
             rotate_left
             ·simp only [Act.put, List.setIfInBounds_toArray, List.set_cons_zero, List.set_cons_succ, i64_w, i32_w]
              rfl
             refine pure_ (i := 4) (N := some 38) (v := ?_) (a' := ?_) #[true, true, true, true, true, false, false, false, false, false, false, false, false, false, false, false, false, false, false, false, false, false, false, false, false, false, false] rfl rfl (any_of HT_.out (by kernel_rfl)) (fun _ _ _ h => h) (Or.inl ⟨by rfl, ?_⟩) ?_ ?_
             rotate_left
             ·intro w'
              go_simp
              with_reducible rfl
             rotate_left
             ·simp only [Act.put, List.setIfInBounds_toArray, List.set_cons_zero, List.set_cons_succ, i64_w, i32_w]
              rfl
             refine pure_ (i := 5) (N := some 39) (v := ?_) (a' := ?_) #[true, true, true, true, true, true, false, false, false, false, false, false, false, false, false, false, false, false, false, false, false, false, false, false, false, false, false] rfl rfl (any_of HT_.out (by kernel_rfl)) (fun _ _ _ h => h) (Or.inl ⟨by rfl, ?_⟩) ?_ ?_
             rotate_left
             ·intro w'
              go_simp
              with_reducible rfl
             rotate_left
             ·simp only [Act.put, List.setIfInBounds_toArray, List.set_cons_zero, List.set_cons_succ, i64_w, i32_w]
              rfl
             refine pure_ (i := 6) (N := some 40) (v := ?_) (a' := ?_) #[true, true, true, true, true, true, true, false, false, false, false, false, false, false, false, false, false, false, false, false, false, false, false, false, false, false, false] rfl rfl (any_of HT_.out (by kernel_rfl)) (fun _ _ _ h => h) (Or.inl ⟨by rfl, ?_⟩) ?_ ?_
             rotate_left
             ·intro w'
              go_simp
              with_reducible rfl
             rotate_left
             ·simp only [Act.put, List.setIfInBounds_toArray, List.set_cons_zero, List.set_cons_succ, i64_w, i32_w]
              rfl
             refine pure_ (i := 7) (N := some 41) (v := ?_) (a' := ?_) #[true, true, true, true, true, true, true, true, false, false, false, false, false, false, false, false, false, false, false, false, false, false, false, false, false, false, false] rfl rfl (any_of HT_.out (by kernel_rfl)) (fun _ _ _ h => h) (Or.inl ⟨by rfl, ?_⟩) ?_ ?_
             rotate_left
             ·intro w'
              go_simp
              with_reducible rfl
             rotate_left
             ·simp only [Act.put, List.setIfInBounds_toArray, List.set_cons_zero, List.set_cons_succ, i64_w, i32_w]
              rfl
             refine pure_ (i := 8) (N := some 42) (v := ?_) (a' := ?_) #[true, true, true, true, true, true, true, true, true, false, false, false, false, false, false, false, false, false, false, false, false, false, false, false, false, false, false] rfl rfl (any_of HT_.out (by kernel_rfl)) (fun _ _ _ h => h) (Or.inl ⟨by rfl, ?_⟩) ?_ ?_
             rotate_left
             ·intro w'
              go_simp
              with_reducible rfl
             rotate_left
             ·simp only [Act.put, List.setIfInBounds_toArray, List.set_cons_zero, List.set_cons_succ, i64_w, i32_w]
              rfl
             refine pure_ (i := 9) (N := some 43) (v := ?_) (a' := ?_) #[true, true, true, true, true, true, true, true, true, true, false, false, false, false, false, false, false, false, false, false, false, false, false, false, false, false, false] rfl rfl (any_of HT_.out (by kernel_rfl)) (fun _ _ _ h => h) (Or.inl ⟨by rfl, ?_⟩) ?_ ?_
             rotate_left
             ·intro w'
              go_simp
              with_reducible rfl
             rotate_left
             ·simp only [Act.put, List.setIfInBounds_toArray, List.set_cons_zero, List.set_cons_succ, i64_w, i32_w]
              rfl
             refine pure_ (i := 11) (N := some 45) (v := ?_) (a' := ?_) #[true, true, true, true, true, true, true, true, true, true, false, true, false, false, false, false, false, false, false, false, false, false, false, false, false, false, false] rfl rfl (any_of HT_.out (by kernel_rfl)) (fun _ _ _ h => h) (Or.inl ⟨by rfl, ?_⟩) ?_ ?_
             rotate_left
             ·intro w'
              go_simp
              with_reducible rfl
             rotate_left
             ·simp only [Act.put, List.setIfInBounds_toArray, List.set_cons_zero, List.set_cons_succ, i64_w, i32_w]
              rfl
             refine take_ (i := 10) (N := some 44) (v := ?_) (a' := ?_) #[true, true, true, true, true, true, true, true, true, true, true, true, false, false, false, false, false, false, false, false, false, false, false, false, false, false, false] rfl rfl (take_ofW HT_.out HW_.out (by kernel_rfl)) (fun _ _ _ h => h) (Or.inl ⟨by rfl, ?_⟩) hHeld ?_ ?_
             rotate_left
             ·rintro w' ⟨s0, s1, s2, s3, s4, s5, s6, s7, s8⟩
              go_simp
              with_reducible rfl
             rotate_left
             ·simp only [Act.put, List.setIfInBounds_toArray, List.set_cons_zero, List.set_cons_succ, i64_w, i32_w]
              rfl
             refine take_ (i := 12) (N := some 46) (v := ?_) (a' := ?_) #[true, true, true, true, true, true, true, true, true, true, true, true, true, false, false, false, false, false, false, false, false, false, false, false, false, false, false] rfl rfl (take_ofW HT_.out HW_.out (by kernel_rfl)) (fun _ _ _ h => h) (Or.inl ⟨by rfl, ?_⟩) hHeld ?_ ?_
             rotate_left
             ·rintro w' ⟨s0, s1, s2, s3, s4, s5, s6, s7, s8⟩
              go_simp
              with_reducible rfl
             rotate_left
             ·simp only [Act.put, List.setIfInBounds_toArray, List.set_cons_zero, List.set_cons_succ, i64_w, i32_w]
              rfl
             refine pure_ (i := 13) (N := some 47) (v := ?_) (a' := ?_) #[true, true, true, true, true, true, true, true, true, true, true, true, true, true, false, false, false, false, false, false, false, false, false, false, false, false, false] rfl rfl (any_of HT_.out (by kernel_rfl)) (fun _ _ _ h => h) (Or.inl ⟨by rfl, ?_⟩) ?_ ?_
             rotate_left
             ·intro w'
              go_simp
              with_reducible rfl
             rotate_left
             ·simp only [Act.put, List.setIfInBounds_toArray, List.set_cons_zero, List.set_cons_succ, i64_w, i32_w]
              rfl
             refine pure_ (i := 14) (N := some 48) (v := ?_) (a' := ?_) #[true, true, true, true, true, true, true, true, true, true, true, true, true, true, true, false, false, false, false, false, false, false, false, false, false, false, false] rfl rfl (any_of HT_.out (by kernel_rfl)) (fun _ _ _ h => h) (Or.inl ⟨by rfl, ?_⟩) ?_ ?_
             rotate_left
             ·intro w'
              go_simp
              with_reducible rfl
             rotate_left
             ·simp only [Act.put, List.setIfInBounds_toArray, List.set_cons_zero, List.set_cons_succ, i64_w, i32_w]
              rfl
             refine pure_ (i := 15) (N := some 49) (v := ?_) (a' := ?_) #[true, true, true, true, true, true, true, true, true, true, true, true, true, true, true, true, false, false, false, false, false, false, false, false, false, false, false] rfl rfl (any_of HT_.out (by kernel_rfl)) (fun _ _ _ h => h) (Or.inl ⟨by rfl, ?_⟩) ?_ ?_
             rotate_left
             ·intro w'
              go_simp
              with_reducible rfl
             rotate_left
             ·simp only [Act.put, List.setIfInBounds_toArray, List.set_cons_zero, List.set_cons_succ, i64_w, i32_w]
              rfl
             refine pure_ (i := 16) (N := some 50) (v := ?_) (a' := ?_) #[true, true, true, true, true, true, true, true, true, true, true, true, true, true, true, true, true, false, false, false, false, false, false, false, false, false, false] rfl rfl (any_of HT_.out (by kernel_rfl)) (fun _ _ _ h => h) (Or.inl ⟨by rfl, ?_⟩) ?_ ?_
             rotate_left
             ·intro w'
              go_simp
              with_reducible rfl
             rotate_left
             ·simp only [Act.put, List.setIfInBounds_toArray, List.set_cons_zero, List.set_cons_succ, i64_w, i32_w]
              rfl
             refine pure_ (i := 17) (N := some 51) (v := ?_) (a' := ?_) #[true, true, true, true, true, true, true, true, true, true, true, true, true, true, true, true, true, true, false, false, false, false, false, false, false, false, false] rfl rfl (any_of HT_.out (by kernel_rfl)) (fun _ _ _ h => h) (Or.inl ⟨by rfl, ?_⟩) ?_ ?_
             rotate_left
             ·intro w'
              go_simp
              with_reducible rfl
             rotate_left
             ·simp only [Act.put, List.setIfInBounds_toArray, List.set_cons_zero, List.set_cons_succ, i64_w, i32_w]
              rfl
             refine pure_ (i := 18) (N := some 52) (v := ?_) (a' := ?_) #[true, true, true, true, true, true, true, true, true, true, true, true, true, true, true, true, true, true, true, false, false, false, false, false, false, false, false] rfl rfl (any_of HT_.out (by kernel_rfl)) (fun _ _ _ h => h) (Or.inl ⟨by rfl, ?_⟩) ?_ ?_
             rotate_left
             ·intro w'
              go_simp
              with_reducible rfl
             rotate_left
             ·simp only [Act.put, List.setIfInBounds_toArray, List.set_cons_zero, List.set_cons_succ, i64_w, i32_w]
              rfl
             refine pure_ (i := 19) (N := some 53) (v := ?_) (a' := ?_) #[true, true, true, true, true, true, true, true, true, true, true, true, true, true, true, true, true, true, true, true, false, false, false, false, false, false, false] rfl rfl (any_of HT_.out (by kernel_rfl)) (fun _ _ _ h => h) (Or.inl ⟨by rfl, ?_⟩) ?_ ?_
             rotate_left
             ·intro w'
              go_simp
              with_reducible rfl
             rotate_left
             ·simp only [Act.put, List.setIfInBounds_toArray, List.set_cons_zero, List.set_cons_succ, i64_w, i32_w]
              rfl
             refine pure_ (i := 20) (N := some 54) (v := ?_) (a' := ?_) #[true, true, true, true, true, true, true, true, true, true, true, true, true, true, true, true, true, true, true, true, true, false, false, false, false, false, false] rfl rfl (any_of HT_.out (by kernel_rfl)) (fun _ _ _ h => h) (Or.inl ⟨by rfl, ?_⟩) ?_ ?_
             rotate_left
             ·intro w'
              go_simp
              with_reducible rfl
             rotate_left
             ·simp only [Act.put, List.setIfInBounds_toArray, List.set_cons_zero, List.set_cons_succ, i64_w, i32_w]
              rfl
             refine pure_ (i := 21) (N := some 55) (v := ?_) (a' := ?_) #[true, true, true, true, true, true, true, true, true, true, true, true, true, true, true, true, true, true, true, true, true, true, false, false, false, false, false] rfl rfl (any_of HT_.out (by kernel_rfl)) (fun _ _ _ h => h) (Or.inl ⟨by rfl, ?_⟩) ?_ ?_
             rotate_left
             ·intro w'
              go_simp
              with_reducible rfl
             rotate_left
             ·simp only [Act.put, List.setIfInBounds_toArray, List.set_cons_zero, List.set_cons_succ, i64_w, i32_w]
              rfl
             refine pure_ (i := 23) (N := some 57) (v := ?_) (a' := ?_) #[true, true, true, true, true, true, true, true, true, true, true, true, true, true, true, true, true, true, true, true, true, true, false, true, false, false, false] rfl rfl (any_of HT_.out (by kernel_rfl)) (fun _ _ _ h => h) (Or.inl ⟨by rfl, ?_⟩) ?_ ?_
             rotate_left
             ·intro w'
              go_simp
              with_reducible rfl
             rotate_left
             ·simp only [Act.put, List.setIfInBounds_toArray, List.set_cons_zero, List.set_cons_succ, i64_w, i32_w]
              rfl
             refine take_ (i := 22) (N := some 56) (v := ?_) (a' := ?_) #[true, true, true, true, true, true, true, true, true, true, true, true, true, true, true, true, true, true, true, true, true, true, true, true, false, false, false] rfl rfl (take_ofW HT_.out HW_.out (by kernel_rfl)) (fun _ _ _ h => h) (Or.inl ⟨by rfl, ?_⟩) hHeld ?_ ?_
             rotate_left
             ·rintro w' ⟨s0, s1, s2, s3, s4, s5, s6, s7, s8⟩
              go_simp
              with_reducible rfl
             rotate_left
             ·simp only [Act.put, List.setIfInBounds_toArray, List.set_cons_zero, List.set_cons_succ, i64_w, i32_w]
              rfl
             refine take_ (i := 24) (N := some 58) (v := ?_) (a' := ?_) #[true, true, true, true, true, true, true, true, true, true, true, true, true, true, true, true, true, true, true, true, true, true, true, true, true, false, false] rfl rfl (take_ofW HT_.out HW_.out (by kernel_rfl)) (fun _ _ _ h => h) (Or.inl ⟨by rfl, ?_⟩) hHeld ?_ ?_
             rotate_left
             ·rintro w' ⟨s0, s1, s2, s3, s4, s5, s6, s7, s8⟩
              go_simp
              with_reducible rfl
             rotate_left
             ·simp only [Act.put, List.setIfInBounds_toArray, List.set_cons_zero, List.set_cons_succ, i64_w, i32_w]
              rfl
             refine pure_ (i := 25) (N := some 59) (v := ?_) (a' := ?_) #[true, true, true, true, true, true, true, true, true, true, true, true, true, true, true, true, true, true, true, true, true, true, true, true, true, true, false] rfl rfl (any_of HT_.out (by kernel_rfl)) (fun _ _ _ h => h) (Or.inl ⟨by rfl, ?_⟩) ?_ ?_
             rotate_left
             ·intro w'
              go_simp
              with_reducible rfl
             rotate_left
             ·simp only [Act.put, List.setIfInBounds_toArray, List.set_cons_zero, List.set_cons_succ, i64_w, i32_w]
              rfl
             refine pure_ (i := 26) (N := some 60) (v := ?_) (a' := ?_) #[true, true, true, true, true, true, true, true, true, true, true, true, true, true, true, true, true, true, true, true, true, true, true, true, true, true, true] rfl rfl (any_of HT_.out (by kernel_rfl)) (fun _ _ _ h => h) (Or.inl ⟨by rfl, ?_⟩) ?_ ?_
             rotate_left
             ·intro w'
              go_simp
              with_reducible rfl
             rotate_left
             ·simp only [Act.put, List.setIfInBounds_toArray, List.set_cons_zero, List.set_cons_succ, i64_w, i32_w]
              rfl
             refine done_ (done_of HT_.out (by kernel_rfl)) ?_
             have hcz39_0 : w37.cell? ⟨gb142, 0, none⟩ = some (.int .i64 x4_2) := (blk_cell BK142.out 0).trans rfl
             have hcz39_1 : w37.cell? ⟨gb142, 1, none⟩ = some (.int .i64 (wrap64 (x4_2 + t136))) := (blk_cell BK142.out 1).trans rfl
             have hcz39_2 : w37.cell? ⟨gb142, 2, none⟩ = some (.int .i64 (wrap64 (1 + t139))) := (blk_cell BK142.out 2).trans rfl
             have hfz39_0 := blk_frozen BK142.out 0
             have hfz39_1 := blk_frozen BK142.out 1
             have hfz39_2 := blk_frozen BK142.out 2
             try go_wp2_with (first | ((with_reducible refine gate_builtin (b := .append) (xs := #[.tmp 66, .tmp 68]) rfl ?_); (try (refine gate_guard (by rfl) ?_; dsimp only)); at_builtin; refine Kd.R_append k41 w.heap.size rfl (.tmp 66) (.tmp 68) 24 41 (.agg #[(.int .i64 0), (.int .i64 0), (.int .i64 0)]) 24 rfl Try.underlying24 info41 rfl (by decide) (by omega) (.slice (some ad143) x3_2.length co38) x3_2 (⟨x4_2, wrap64 (x4_2 + t136), wrap64 (1 + (Int.tmod (wrap64 (1 + t139)) 3))⟩ : S41) [.int .i64 x4_2, .int .i64 (wrap64 (x4_2 + t136)), .int .i64 (wrap64 (1 + (Int.tmod (wrap64 (1 + t139)) 3)))] (fun k_ => k_ ≠ gb142) (fun _ => False) rfl zsx ?aP (fun _ hk => hk.elim) ?aF ?aO (Below.refl _ _) ?aS ?aL ?_; (case aP => exact k41_mkM _ _ _ (⟨x4_2, wrap64 (x4_2 + t136), wrap64 (1 + (Int.tmod (wrap64 (1 + t139)) 3))⟩ : S41)); (case aF => exact (fun k_ hk => Kd.freshB (g := gb142) (o := .cells #[.int .i64 x4_2, .int .i64 (wrap64 (x4_2 + t136)), .int .i64 (wrap64 (1 + (Int.tmod (wrap64 (1 + t139)) 3)))] 41 (0, 0)) (by (with_reducible repeat (first | refine blk_drewN ?_ _ | refine blk_drew ?_ | refine blk_alloc ?_ _)); refine blk_put (cs := #[.int .i64 x4_2, .int .i64 (wrap64 (x4_2 + t136)), .int .i64 (wrap64 (1 + t139))]) ?_ 2 _ rfl; (with_reducible repeat (first | refine blk_drewN ?_ _ | refine blk_drew ?_ | refine blk_alloc ?_ _)); exact BK142.out) k_ hk)); (case aO => exact (by (with_reducible repeat (first | apply Kd.R_alloc | apply Kd.R_drewN | apply Kd.R_drew)); exact Kd.R_mono (Kd.R_far (p := ⟨gb142, 2, none⟩) (Kd.R_mono HO_3.out (fun k_ hk => (⟨hk, hk⟩ : _ ∧ k_ ≠ gb142))) (fun _ hk => hk.2) (.int .i64 (wrap64 (1 + (Int.tmod (wrap64 (1 + t139)) 3))))) (fun _ hk => hk.1))); (case aS => exact (keep_size (w := w) (g := g) (row := none) (zKy HK.out GW142.out))); (case aL => have := LMc26.out; omega); intro v146 w40 ho hb hg hat; rw [← Ny145.out] at ho; have n0_ := Aside0.mk (IsS78.grown (IsS78.zF HI0.out NB0_142.out) hg (IsS78.own_ne HI0.out HO_3.out (by decide))); have n1_ := Aside0.mk (Kd.R_over' (by (with_reducible repeat (first | apply Kd.R_alloc | apply Kd.R_drewN | apply Kd.R_drew)); exact (Kd.R_mono (Kd.R_far (p := ⟨gb142, 2, none⟩) (Kd.R_types HO135.out BK142.out (by decide)) (fun _ hk => hk.2) (.int .i64 (wrap64 (1 + (Int.tmod (wrap64 (1 + t139)) 3))))) (fun _ h_ => h_.1))) (Kd.R_typed (by (with_reducible repeat (first | apply Kd.R_alloc | apply Kd.R_drewN | apply Kd.R_drew)); exact (Kd.R_mono (Kd.R_far (p := ⟨gb142, 2, none⟩) (Kd.R_mono HO_3.out (fun k_ hk => (⟨hk, hk⟩ : _ ∧ k_ ≠ gb142))) (fun _ hk => hk.2) (.int .i64 (wrap64 (1 + (Int.tmod (wrap64 (1 + t139)) 3))))) (fun _ h_ => h_.1)))) (by decide) hg); have n2_ := Aside0.mk (blk_grown (g := gb142) (o := .cells #[.int .i64 x4_2, .int .i64 (wrap64 (x4_2 + t136)), .int .i64 (wrap64 (1 + (Int.tmod (wrap64 (1 + t139)) 3)))] 41 (0, 0)) (by (with_reducible repeat (first | refine blk_drewN ?_ _ | refine blk_drew ?_ | refine blk_alloc ?_ _)); refine blk_put (cs := #[.int .i64 x4_2, .int .i64 (wrap64 (x4_2 + t136)), .int .i64 (wrap64 (1 + t139))]) ?_ 2 _ rfl; (with_reducible repeat (first | refine blk_drewN ?_ _ | refine blk_drew ?_ | refine blk_alloc ?_ _)); exact BK142.out) hg (Kd.R_away HO_3.out (fun _ hk => hk))); have n3_ := Aside0.mk (below_weaken (by first | exact zBz HB.out (IsS78.ge HI0.out) GE142.out | exact zBy HB.out GE142.out) HL.out hb); have n4_ := Aside0.mk (KeepBut.trans (zKy HK.out GW142.out) (KeepBut.of_grown hg g) (Kd.R_base2 HO_3.out)); have n5_ := Aside0.mk (ho); clear HI0; clear HO135; clear BK142; clear HB; clear HK; clear HO_3; have HI0 := n0_; have HO135 := n1_; have BK142 := n2_; have HB := n3_; have HK := n4_; have HO147 := n5_; clear n0_ n1_ n2_ n3_ n4_ n5_; clear ho hb hg hat))
             have n0_ := Aside0.mk (Kd.R_drew HO135.out)
             have n1_ := Aside0.mk (Kd.R_drew HO147.out)
             have n2_ := Aside0.mk (blk_drew BK142.out)
             have n3_ := Aside0.mk (IsS78.drew HI0.out)
             have n4_ := Aside0.mk (keep_drew HK.out)
             have n5_ := Aside0.mk (below_drew1 HB.out)
             clear HO135
             clear HO147
             clear BK142
             clear HI0
             clear HK
             clear HB
             have HO135 := n0_
             have HO147 := n1_
             have BK142 := n2_
             have HI0 := n3_
             have HK := n4_
             have HB := n5_
             clear n0_ n1_ n2_ n3_ n4_ n5_
             refine start_ (n := 7) (S := fun w' => w'.cell? ⟨gb142, 0, none⟩ = some (.int .i64 x4_2) ∧ w'.cell? ⟨gb142, 1, none⟩ = some (.int .i64 (wrap64 (x4_2 + t136))) ∧ w'.cell? ⟨gb142, 2, none⟩ = some (.int .i64 (wrap64 (1 + (Int.tmod (wrap64 (1 + t139)) 3))))) (ds := []) #[false, false, false, false, false, false, false] (by kernel_rfl) rfl rfl ⟨(blk_cell BK142.out 0).trans rfl, (blk_cell BK142.out 1).trans rfl, (blk_cell BK142.out 2).trans rfl⟩ (fun hHeld => ?_)
             generalize w40.drew = w41 at HO135 HO147 BK142 HI0 HK HB hHeld ⊢
             refine pure_ (i := 0) (N := some 70) (v := ?_) (a' := ?_) #[true, false, false, false, false, false, false] rfl rfl (by kernel_rfl) (fun _ _ _ h => h) (Or.inl ⟨by rfl, ?_⟩) ?_ ?_
             rotate_left
             ·intro w'
              go_simp
              with_reducible rfl
             rotate_left
             ·simp only [Act.put, List.setIfInBounds_toArray, List.set_cons_zero, List.set_cons_succ, i64_w, i32_w]
              rfl
             refine pure_ (i := 2) (N := some 72) (v := ?_) (a' := ?_) #[true, false, true, false, false, false, false] rfl rfl (by kernel_rfl) (fun _ _ _ h => h) (Or.inl ⟨by rfl, ?_⟩) ?_ ?_
             rotate_left
             ·intro w'
              go_simp
              with_reducible rfl
             rotate_left
             ·simp only [Act.put, List.setIfInBounds_toArray, List.set_cons_zero, List.set_cons_succ, i64_w, i32_w]
              rfl
             refine take_ (i := 1) (N := some 71) (v := ?_) (a' := ?_) #[true, true, true, false, false, false, false] rfl rfl (by kernel_rfl) (fun _ _ _ h => h) (Or.inl ⟨by rfl, ?_⟩) hHeld ?_ ?_
             rotate_left
             ·rintro w' ⟨s0, s1, s2⟩
              go_simp
              with_reducible rfl
             rotate_left
             ·simp only [Act.put, List.setIfInBounds_toArray, List.set_cons_zero, List.set_cons_succ, i64_w, i32_w]
              rfl
             refine one_ (i := 3) (N := some 73) #[true, true, true, true, false, false, false] rfl rfl (by kernel_rfl) (by decide) (fun K hK => ?_)
             refine Kd.R_lit_step (Kd.int .i64) _ 3 ?hg (N := 73) ?hd (xs := ([0, 0, 1, 5] : List Int)) (inner := [.int .i64 0, .int .i64 0, .int .i64 1, .int .i64 5]) (ok := fun _ => True) (okp := fun _ => True) ?hr ?hp (fun _ hk => hk) trivial (Below.refl _ _) (Nat.le_refl _) (by simp) ?_; (case hd => rfl); (case hg => rfl); (case hr => exact zsx); (case hp => exact (Reps.one (show Kd.M (Kd.int .i64) _ _ _ 0 [.int .i64 0] from rfl) (Reps.one (show Kd.M (Kd.int .i64) _ _ _ 0 [.int .i64 0] from rfl) (Reps.one (show Kd.M (Kd.int .i64) _ _ _ 1 [.int .i64 1] from rfl) (Reps.one (show Kd.M (Kd.int .i64) _ _ _ 5 [.int .i64 5] from rfl) (Reps.none _ _))))))
             intro v149 w42 ho43 hb hg_ hnew_
             clear hg_ hnew_
             (first | rw [← Ny148.out] at ho43 | (simp only [Int.reduceToNat] at ho43; rw [← Ny148.out] at ho43))
             have n0_ := Aside0.mk (Kd.R_elder' (zRx HO135.out) (Kd.R_base ho43) hb)
             have n1_ := Aside0.mk (Kd.R_below (zRx HO147.out) hb)
             have n2_ := Aside0.mk (Kd.R_lower (Kd.R_new' ho43 (Kd.R_lt (zRx HO135.out))) (keep_size (w := w) (g := g) (row := none) (zKy HK.out GW142.out)))
             have n3_ := Aside0.mk (IsS78.below (IsS78.zF HI0.out NB0_142.out) hb)
             have n4_ := Aside0.mk (blk_below (g := gb142) (o := .cells #[.int .i64 x4_2, .int .i64 (wrap64 (x4_2 + t136)), .int .i64 (wrap64 (1 + (Int.tmod (wrap64 (1 + t139)) 3)))] 41 (0, 0)) (zbx BK142.out) hb)
             have n5_ := Aside0.mk (KeepBut.trans (zKy HK.out GW142.out) (KeepBut.of_below hb g none) (.inl rfl))
             have n6_ := Aside0.mk (below_step (by first | exact zBz HB.out (IsS78.ge HI0.out) GE142.out | exact zBy HB.out GE142.out) hb)
             clear HO135
             clear HO147
             clear HI0
             clear BK142
             clear HK
             clear HB
             have HO135 := n0_
             have HO147 := n1_
             have HO150 := n2_
             have HI0 := n3_
             have BK142 := n4_
             have HK := n5_
             have HB := n6_
             clear n0_ n1_ n2_ n3_ n4_ n5_ n6_
             clear hb ho43
             obtain ⟨Ao44, co44, eo44⟩ := Kd.R_slice HO150.out
             (first | subst eo44 | (injection eo44 with f1_ f2_ f3_; have f4_ := f1_.symm; have f5_ := f3_.symm; clear f1_ f2_ f3_; subst f4_; subst f5_))
             refine hK.out _ _ ⟨(blk_cell BK142.out 0).trans rfl, (blk_cell BK142.out 1).trans rfl, (blk_cell BK142.out 2).trans rfl⟩ (fun hHeld => ?_)
             clear hK K
             refine norm_ (a' := ?_) ?_ ?_
             rotate_left
             ·show Act.put _ (some 73) _ = _
              simp only [Act.put, List.setIfInBounds_toArray, List.set_cons_zero, List.set_cons_succ, i64_w, i32_w]
              rfl
             refine one_ (i := 4) (N := some 74) #[true, true, true, true, true, false, false] rfl rfl (by kernel_rfl) (by decide) (fun K hK => ?_)
             refine goes_ Try.func67 (by kernel_rfl) rfl #[.pointer (some ⟨g, 0, none⟩), .slice Ao44 y148.length co44] (by rfl) rfl rfl zlx ?_
             with_reducible refine (spec_l1Cur_among.calls g s0_0 t140 t141 _ _ y148 t151 t152 t153 w0 _ ?side1 ?side2 ?side3 ?side4 ?side5 A27.out).mono ?_
             (case side1 => exact IsS78.zJ HI0.out NB0_142.out)
             (case side2 => first | exact zBz HB.out (IsS78.ge HI0.out) GE142.out | exact zBy HB.out GE142.out)
             (case side3 => repeat (first | exact (Kd.R_reads' HO150.out).2.2 | (with_reducible refine Kd.C_alloc ?_ _) | (with_reducible refine Kd.C_drewN ?_ _) | (with_reducible refine Kd.C_drew ?_)))
             (case side4 => exact (Kd.R_reads' HO150.out).2.1)
             (case side5 => exact far_slice (IsS78.own_ne HI0.out HO150.out (by decide)))
             rintro e w45 ⟨rfl, hi, hb, hk⟩
             refine ⟨_, rfl, ?_⟩
             have n0_ := Aside0.mk (Kd.R_mono (Kd.R_keep (IsS78.apart (show IsS78 w0 _ g s0_0 t140 t141 from IsS78.zJ HI0.out NB0_142.out) (zRx HO135.out) (by decide)) hk (fun _ h => h.2)) (fun _ h => h.1))
             have n1_ := Aside0.mk (KeepBut.blk hk (g' := gb142) (o := .cells #[.int .i64 x4_2, .int .i64 (wrap64 (x4_2 + t136)), .int .i64 (wrap64 (1 + (Int.tmod (wrap64 (1 + t139)) 3)))] 41 (0, 0)) (zbx BK142.out) NB142_0.out (by simp))
             have n2_ := Aside0.mk (Kd.R_mono (Kd.R_keep (IsS78.apart (show IsS78 w0 _ g s0_0 t140 t141 from IsS78.zJ HI0.out NB0_142.out) (zRx HO147.out) (by decide)) hk (fun _ h => h.2)) (fun _ h => h.1))
             have n3_ := Aside0.mk (Kd.R_mono (Kd.R_keep (IsS78.apart (show IsS78 w0 _ g s0_0 t140 t141 from IsS78.zJ HI0.out NB0_142.out) (zRx HO150.out) (by decide)) hk (fun _ h => h.2)) (fun _ h => h.1))
             have n4_ := Aside0.mk (KeepBut.trans (zKy HK.out GW142.out) hk (.inl rfl))
             have n5_ := Aside0.mk (hb)
             have n6_ := Aside0.mk (hi)
             clear HO135
             clear BK142
             clear HO147
             clear HO150
             clear HK
             clear HB
             clear HI0
             have HO135 := n0_
             have BK142 := n1_
             have HO147 := n2_
             have HO150 := n3_
             have HK := n4_
             have HB := n5_
             have HI0 := n6_
             clear n0_ n1_ n2_ n3_ n4_ n5_ n6_
             (try clear hb)
             (try clear hb2)
             (try clear hk)
             (try clear hi)
             refine hK.out _ _ ⟨(blk_cell BK142.out 0).trans rfl, (blk_cell BK142.out 1).trans rfl, (blk_cell BK142.out 2).trans rfl⟩ (fun hHeld => ?_)
             clear hK K
             refine norm_ (a' := ?_) ?_ ?_
             rotate_left
             ·show Act.put _ (some 74) _ = _
              simp only [Act.put, List.setIfInBounds_toArray, List.set_cons_zero, List.set_cons_succ, i64_w, i32_w]
              rfl
             refine pure_ (i := 5) (N := some 75) (v := ?_) (a' := ?_) #[true, true, true, true, true, true, false] rfl rfl (by kernel_rfl) (fun _ _ _ h => h) (Or.inl ⟨by rfl, ?_⟩) ?_ ?_
             rotate_left
             ·intro w'
              go_simp
              with_reducible rfl
             rotate_left
             ·simp only [Act.put, List.setIfInBounds_toArray, List.set_cons_zero, List.set_cons_succ, i64_w, i32_w]
              rfl
             refine pure_ (i := 6) (N := some 4) (v := ?_) (a' := ?_) #[true, true, true, true, true, true, true] rfl rfl (by kernel_rfl) (fun _ _ _ h => h) (Or.inl ⟨by rfl, ?_⟩) ?_ ?_
             rotate_left
             ·intro w'
              go_simp
              with_reducible rfl
             rotate_left
             ·simp only [Act.put, List.setIfInBounds_toArray, List.set_cons_zero, List.set_cons_succ, i64_w, i32_w]
              rfl
             refine done_ (by kernel_rfl) ?_
             try go_wp2
             go_roundg k2
             case measure => have := HJ4.out; have := HK2.out; omega
             case rel => exact ⟨(y145), (wrap64 ((wrap64 (x4_2 + t136)) + t151)), (wrap64 (x5_2 - 1)), (t152), (t153), zrx, zrx, H', ⟨by have := HJ4.out; have := HK2.out; omega⟩, ⟨by (with_reducible repeat (first | apply Kd.R_alloc | apply Kd.R_drewN | apply Kd.R_drew)); exact Kd.R_mono HO147.out (fun _ hk => trivial)⟩, ⟨by exact IsS78.zJ HI0.out NB0_142.out⟩, ⟨by exact zKy HK.out GW142.out⟩, ⟨by exact zBz HB.out (IsS78.ge HI0.out) GE142.out⟩⟩
           ·rw [if_neg c26] at H
            exact absurd H (by simp)
          ·rw [if_neg c25] at H
           have c25b0 : (((rd_T41 x3_2 (ji21)).f2) == (wrap64 (1 + t139))) = false := beq_eq_false_iff_ne.mpr c25
           have c25b1 : (((rd_T41 x3_2 (ji21)).f2) != (wrap64 (1 + t139))) = true := bne_iff_ne.mpr c25
           by_cases c46 : x3_2.length < 5864062014805
           ·rw [if_pos c46] at H
            have LMc46 := Aside0.mk c46
            clear c46
            obtain ⟨y154, hy154⟩ : ∃ y_ : List (S41), y_ = (x3_2 ++ [(⟨x4_2, wrap64 (x4_2 + t136), wrap64 (1 + t139)⟩ : S41)]) := ⟨_, rfl⟩
            replace H : ((spec_l1Cur_among.f s0_0 t140 t141 (([0, 0, 1, 5] : List Int))).bind fun bt160 => (spec_l1Cur_course.l0 k2 y154 (wrap64 ((wrap64 (x4_2 + t136)) + bt160.1)) (wrap64 (x5_2 - 1)) s0_0 bt160.2.1 bt160.2.2)) = some (r1, r2, r3) := by first | (rw [hy154]; with_reducible exact H) | (have H2_ := (Option.bind_some _ _).symm.trans H; rw [hy154]; with_reducible exact H2_) | (have H2_ := (Option.bind_some _ _).symm.trans H; with_reducible exact H2_) | with_reducible exact H | (rw [hy154]; exact H) | exact H
            have Ny154 := Aside0.mk hy154
            clear hy154
            obtain ⟨y157, hy157⟩ : ∃ y_ : List Int, y_ = (([0, 0, 1, 5] : List Int)) := ⟨_, rfl⟩
            replace H : ((spec_l1Cur_among.f s0_0 t140 t141 y157).bind fun bt160 => (spec_l1Cur_course.l0 k2 y154 (wrap64 ((wrap64 (x4_2 + t136)) + bt160.1)) (wrap64 (x5_2 - 1)) s0_0 bt160.2.1 bt160.2.2)) = some (r1, r2, r3) := by first | (rw [hy157]; with_reducible exact H) | (have H2_ := (Option.bind_some _ _).symm.trans H; rw [hy157]; with_reducible exact H2_) | (have H2_ := (Option.bind_some _ _).symm.trans H; with_reducible exact H2_) | with_reducible exact H | (rw [hy157]; exact H) | exact H
            have Ny157 := Aside0.mk hy157
            clear hy157
            replace H := Option.bind_eq_some_iff.mp H
            obtain ⟨⟨t160, t161, t162⟩, A470, H⟩ := H
            replace H : (spec_l1Cur_course.l0 k2 y154 (wrap64 ((wrap64 (x4_2 + t136)) + t160)) (wrap64 (x5_2 - 1)) s0_0 t161 t162) = some (r1, r2, r3) := H
            have A47 := Aside0.mk A470
            clear A470
            focus
             have H' := Aside0.mk H
             clear H
             try go_wp2_with (first | ((with_reducible refine gate_dst (N := 27) rfl ?_); (try (refine gate_guard (by rfl) ?_; dsimp only)); refine Kd.R_lit (Kd.int .i64) _ 3 ?hg (N := 27) ?hd (xs := ([1, 2, 6, 12] : List Int)) (inner := [.int .i64 1, .int .i64 2, .int .i64 6, .int .i64 12]) (ok := fun _ => True) (okp := fun _ => True) ?hr ?hp (fun _ hk => hk) trivial (Below.refl _ _) (Nat.le_refl _) (by simp) ?_; (case hd => rfl); (case hg => rfl); (case hr => exact zsx); (case hp => exact (Reps.one (show Kd.M (Kd.int .i64) _ _ _ 1 [.int .i64 1] from rfl) (Reps.one (show Kd.M (Kd.int .i64) _ _ _ 2 [.int .i64 2] from rfl) (Reps.one (show Kd.M (Kd.int .i64) _ _ _ 6 [.int .i64 6] from rfl) (Reps.one (show Kd.M (Kd.int .i64) _ _ _ 12 [.int .i64 12] from rfl) (Reps.none _ _)))))); intro v134 w48 ho49 hb hg_ hnew_; clear hg_ hnew_; (first | rw [← Ny133.out] at ho49 | (simp only [Int.reduceToNat] at ho49; rw [← Ny133.out] at ho49)); have n0_ := Aside0.mk (Kd.R_below (zRx HO_3.out) hb); have n1_ := Aside0.mk (Kd.R_lower ho49 (keep_size (w := w) (g := g) (row := none) (zKx HK.out))); have n2_ := Aside0.mk (IsS78.below (IsS78.zI HI0.out) hb); have n3_ := Aside0.mk (KeepBut.trans (zKx HK.out) (KeepBut.of_below hb g none) (.inl rfl)); have n4_ := Aside0.mk (below_step (by first | exact zBy HB.out (IsS78.ge HI0.out) | exact zBx HB.out) hb); clear HO_3; clear HI0; clear HK; clear HB; have HO_3 := n0_; have HO135 := n1_; have HI0 := n2_; have HK := n3_; have HB := n4_; clear n0_ n1_ n2_ n3_ n4_; clear hb ho49; obtain ⟨Ao50, co50, eo50⟩ := Kd.R_slice HO135.out; subst eo50) | ((with_reducible refine gate_callee (f := 67) rfl ?_); refine goesL_ (some 28) rfl rfl Try.func67 (by kernel_rfl) rfl #[.pointer (some ⟨g, 0, none⟩), .slice Ao50 y133.length co50] rfl zlx ?_; (with_reducible refine (spec_l1Cur_among.calls g s0_0 x1001_2 x1002_2 _ _ y133 t136 t137 t138 w0 _ ?side1 ?side2 ?side3 ?side4 ?side5 A18.out).mono ?_); (case side1 => exact IsS78.zI HI0.out); (case side2 => first | exact zBy HB.out (IsS78.ge HI0.out) | exact zBx HB.out); (case side3 => repeat (first | exact (Kd.R_reads' HO135.out).2.2 | (with_reducible refine Kd.C_alloc ?_ _) | (with_reducible refine Kd.C_drewN ?_ _) | (with_reducible refine Kd.C_drew ?_))); (case side4 => exact (Kd.R_reads' HO135.out).2.1); (case side5 => exact far_slice (IsS78.own_ne HI0.out HO135.out (by decide))); rintro e w51 ⟨rfl, hi, hb, hk⟩; refine ⟨_, rfl, ?_⟩; have n0_ := Aside0.mk (Kd.R_mono (Kd.R_keep (IsS78.apart (show IsS78 w0 _ g s0_0 x1001_2 x1002_2 from IsS78.zI HI0.out) (zRx HO_3.out) (by decide)) hk (fun _ h => h.2)) (fun _ h => h.1)); have n1_ := Aside0.mk (Kd.R_mono (Kd.R_keep (IsS78.apart (show IsS78 w0 _ g s0_0 x1001_2 x1002_2 from IsS78.zI HI0.out) (zRx HO135.out) (by decide)) hk (fun _ h => h.2)) (fun _ h => h.1)); have n2_ := Aside0.mk (KeepBut.trans (zKx HK.out) hk (.inl rfl)); have n3_ := Aside0.mk (hb); have n4_ := Aside0.mk (hi); clear HO_3; clear HO135; clear HK; clear HB; clear HI0; have HO_3 := n0_; have HO135 := n1_; have HK := n2_; have HB := n3_; have HI0 := n4_; clear n0_ n1_ n2_ n3_ n4_; (try clear hb); (try clear hb2); (try clear hk); (try clear hi)) | ((with_reducible refine gate_callee (f := 72) rfl ?_); refine goesL_ (some 31) rfl rfl Try.func72 (by kernel_rfl) rfl #[.pointer (some ⟨g, 0, none⟩), .int .i64 3] rfl zlx ?_; (with_reducible refine (spec_l1Cur_pick.calls g s0_0 t137 t138 3 t139 t140 t141 w0 _ ?side1 ?side2 A19.out).mono ?_); (case side1 => exact IsS78.zI HI0.out); (case side2 => first | exact zBy HB.out (IsS78.ge HI0.out) | exact zBx HB.out); rintro e w52 ⟨rfl, hi, hb, hk⟩; refine ⟨_, rfl, ?_⟩; have n0_ := Aside0.mk (Kd.R_mono (Kd.R_keep (IsS78.apart (show IsS78 w0 _ g s0_0 t137 t138 from IsS78.zI HI0.out) (zRx HO_3.out) (by decide)) hk (fun _ h => h.2)) (fun _ h => h.1)); have n1_ := Aside0.mk (Kd.R_mono (Kd.R_keep (IsS78.apart (show IsS78 w0 _ g s0_0 t137 t138 from IsS78.zI HI0.out) (zRx HO135.out) (by decide)) hk (fun _ h => h.2)) (fun _ h => h.1)); have n2_ := Aside0.mk (KeepBut.trans (zKx HK.out) hk (.inl rfl)); have n3_ := Aside0.mk (hb); have n4_ := Aside0.mk (hi); clear HO_3; clear HO135; clear HK; clear HB; clear HI0; have HO_3 := n0_; have HO135 := n1_; have HK := n2_; have HB := n3_; have HI0 := n4_; clear n0_ n1_ n2_ n3_ n4_; (try clear hb); (try clear hb2); (try clear hk); (try clear hi)) | ((with_reducible refine gate_dst (N := 6) rfl ?_); (try (refine gate_guard (by rfl) ?_; dsimp only)); refine box_event ?hg (N := 6) ?hd (cs := #[.int .i64 0, .int .i64 0, .int .i64 0]) (t := 41) ?hr ?_; (case hd => rfl); (case hg => rfl); (case hr => exact zsx); intro gb142 hg w53 hbox hb; have n0_ := Aside0.mk (Kd.R_below (Kd.R_elderB (zRx HO_3.out) gb142 (Nat.le_of_eq hg.symm)) hb); have n1_ := Aside0.mk (Kd.R_below (zRx HO135.out) hb); have n2_ := Aside0.mk (IsS78.below (IsS78.zI HI0.out) hb); have n3_ := Aside0.mk (KeepBut.trans (zKx HK.out) (KeepBut.of_below hb g none) (.inl rfl)); have n4_ := Aside0.mk (below_step (by first | exact zBy HB.out (IsS78.ge HI0.out) | exact zBx HB.out) hb); have n5_ := Aside0.mk (hbox); have n6_ := Aside0.mk ((by rw [hg]; exact (keep_size (w := w) (g := g) (row := none) (zKx HK.out)) : w.heap.size ≤ gb142)); have n7_ := Aside0.mk ((Nat.le_trans HW0.out (by rw [hg]; exact (keep_size (w := w) (g := g) (row := none) (zKx HK.out)) : w.heap.size ≤ gb142) : w0.heap.size ≤ gb142)); have n8_ := Aside0.mk ((by rw [hg]; exact Nat.ne_of_lt (IsS78.lt (show IsS78 w0 _ g s0_0 t140 t141 from IsS78.zI HI0.out)) : g ≠ gb142)); have n9_ := Aside0.mk ((by rw [hg]; exact Nat.ne_of_gt (IsS78.lt (show IsS78 w0 _ g s0_0 t140 t141 from IsS78.zI HI0.out)) : gb142 ≠ g)); clear HO_3; clear HO135; clear HI0; clear HK; clear HB; have HO_3 := n0_; have HO135 := n1_; have HI0 := n2_; have HK := n3_; have HB := n4_; have BK142 := n5_; have GW142 := n6_; have GE142 := n7_; have NB0_142 := n8_; have NB142_0 := n9_; clear n0_ n1_ n2_ n3_ n4_ n5_ n6_ n7_ n8_ n9_; clear hb hbox hg; have hnb54 := NB142_0.out; have hnc54 := NB0_142.out; have hcz55_0 : w53.cell? ⟨gb142, 0, none⟩ = some (.int .i64 0) := (blk_cell BK142.out 0).trans rfl; have hcz55_1 : w53.cell? ⟨gb142, 1, none⟩ = some (.int .i64 0) := (blk_cell BK142.out 1).trans rfl; have hcz55_2 : w53.cell? ⟨gb142, 2, none⟩ = some (.int .i64 0) := (blk_cell BK142.out 2).trans rfl; have hfz55_0 := blk_frozen BK142.out 0; have hfz55_1 := blk_frozen BK142.out 1; have hfz55_2 := blk_frozen BK142.out 2))
             have n0_ : Aside0 (Kd.R k41 41 (((w53.setCell ⟨gb142, 0, none⟩ (.int .i64 x4_2)).setCell ⟨gb142, 1, none⟩ (.int .i64 (wrap64 (x4_2 + t136)))).setCell ⟨gb142, 2, none⟩ (.int .i64 (wrap64 (1 + t139)))) w.heap.size (fun k_ => k_ ≠ gb142) u3 x3_2) := ⟨by (with_reducible repeat (first | apply Kd.R_alloc | apply Kd.R_drewN | apply Kd.R_drew)); exact Kd.R_mono (Kd.R_far (p := ⟨gb142, 2, none⟩) (Kd.R_far (p := ⟨gb142, 1, none⟩) (Kd.R_far (p := ⟨gb142, 0, none⟩) (Kd.R_mono HO_3.out (fun k_ hk => (⟨hk, hk.2⟩ : _ ∧ k_ ≠ gb142))) (fun _ hk => hk.2) (.int .i64 x4_2)) (fun _ hk => hk.2) (.int .i64 (wrap64 (x4_2 + t136)))) (fun _ hk => hk.2) (.int .i64 (wrap64 (1 + t139)))) (fun _ hk => hk.1.2)⟩
             have n1_ : Aside0 (Kd.R (Kd.int .i64) 3 (((w53.setCell ⟨gb142, 0, none⟩ (.int .i64 x4_2)).setCell ⟨gb142, 1, none⟩ (.int .i64 (wrap64 (x4_2 + t136)))).setCell ⟨gb142, 2, none⟩ (.int .i64 (wrap64 (1 + t139)))) w.heap.size (fun _ => True) (.slice Ao50 y133.length co50) y133) := ⟨by (with_reducible repeat (first | apply Kd.R_alloc | apply Kd.R_drewN | apply Kd.R_drew)); exact Kd.R_mono (Kd.R_far (p := ⟨gb142, 2, none⟩) (Kd.R_far (p := ⟨gb142, 1, none⟩) (Kd.R_far (p := ⟨gb142, 0, none⟩) (Kd.R_types HO135.out BK142.out (by decide)) (fun _ hk => hk.2) (.int .i64 x4_2)) (fun _ hk => hk.2) (.int .i64 (wrap64 (x4_2 + t136)))) (fun _ hk => hk.2) (.int .i64 (wrap64 (1 + t139)))) (fun _ hk => trivial)⟩
             have n2_ : Aside0 ((((w53.setCell ⟨gb142, 0, none⟩ (.int .i64 x4_2)).setCell ⟨gb142, 1, none⟩ (.int .i64 (wrap64 (x4_2 + t136)))).setCell ⟨gb142, 2, none⟩ (.int .i64 (wrap64 (1 + t139)))).heap[gb142]? = some (.cells #[.int .i64 x4_2, .int .i64 (wrap64 (x4_2 + t136)), .int .i64 (wrap64 (1 + t139))] 41 (0, 0))) := ⟨by (with_reducible repeat (first | refine blk_drewN ?_ _ | refine blk_drew ?_ | refine blk_alloc ?_ _)); refine blk_put (cs := #[.int .i64 x4_2, .int .i64 (wrap64 (x4_2 + t136)), .int .i64 0]) ?_ 2 _ rfl; (with_reducible repeat (first | refine blk_drewN ?_ _ | refine blk_drew ?_ | refine blk_alloc ?_ _)); refine blk_put (cs := #[.int .i64 x4_2, .int .i64 0, .int .i64 0]) ?_ 1 _ rfl; (with_reducible repeat (first | refine blk_drewN ?_ _ | refine blk_drew ?_ | refine blk_alloc ?_ _)); refine blk_put (cs := #[.int .i64 0, .int .i64 0, .int .i64 0]) ?_ 0 _ rfl; (with_reducible repeat (first | refine blk_drewN ?_ _ | refine blk_drew ?_ | refine blk_alloc ?_ _)); exact BK142.out⟩
             have n3_ : Aside0 (IsS78 w0 (((w53.setCell ⟨gb142, 0, none⟩ (.int .i64 x4_2)).setCell ⟨gb142, 1, none⟩ (.int .i64 (wrap64 (x4_2 + t136)))).setCell ⟨gb142, 2, none⟩ (.int .i64 (wrap64 (1 + t139)))) g s0_0 t140 t141) := ⟨by exact IsS78.zJ HI0.out NB0_142.out⟩
             have n4_ : Aside0 (KeepBut w (((w53.setCell ⟨gb142, 0, none⟩ (.int .i64 x4_2)).setCell ⟨gb142, 1, none⟩ (.int .i64 (wrap64 (x4_2 + t136)))).setCell ⟨gb142, 2, none⟩ (.int .i64 (wrap64 (1 + t139)))) g none) := ⟨by exact zKy HK.out GW142.out⟩
             have n5_ : Aside0 (Below w0.heap.size w0 (((w53.setCell ⟨gb142, 0, none⟩ (.int .i64 x4_2)).setCell ⟨gb142, 1, none⟩ (.int .i64 (wrap64 (x4_2 + t136)))).setCell ⟨gb142, 2, none⟩ (.int .i64 (wrap64 (1 + t139))))) := ⟨by exact zBz HB.out (IsS78.ge HI0.out) GE142.out⟩
             (try clear HO_3)
             (try clear HO135)
             (try clear BK142)
             (try clear HI0)
             (try clear HK)
             (try clear HB)
             generalize (((w53.setCell ⟨gb142, 0, none⟩ (.int .i64 x4_2)).setCell ⟨gb142, 1, none⟩ (.int .i64 (wrap64 (x4_2 + t136)))).setCell ⟨gb142, 2, none⟩ (.int .i64 (wrap64 (1 + t139)))) = w56 at n0_ n1_ n2_ n3_ n4_ n5_ ⊢
             have HO_3 := n0_
             have HO135 := n1_
             have BK142 := n2_
             have HI0 := n3_
             have HK := n4_
             have HB := n5_
             clear n0_ n1_ n2_ n3_ n4_ n5_
             have n0_ := Aside0.mk (Kd.R_drew HO_3.out)
             have n1_ := Aside0.mk (Kd.R_drew HO135.out)
             have n2_ := Aside0.mk (blk_drew BK142.out)
             have n3_ := Aside0.mk (IsS78.drew HI0.out)
             have n4_ := Aside0.mk (keep_drew HK.out)
             have n5_ := Aside0.mk (below_drew1 HB.out)
             clear HO_3
             clear HO135
             clear BK142
             clear HI0
             clear HK
             clear HB
             have HO_3 := n0_
             have HO135 := n1_
             have BK142 := n2_
             have HI0 := n3_
             have HK := n4_
             have HB := n5_
             clear n0_ n1_ n2_ n3_ n4_ n5_
             obtain ⟨Ao58, co58, eo58⟩ := Kd.R_slice HO_3.out
             (first | subst eo58 | (injection eo58 with f1_ f2_ f3_; have f4_ := f1_.symm; have f5_ := f3_.symm; clear f1_ f2_ f3_; subst f4_; subst f5_))
             have p143 : 0 ≤ ((ji21) : Int) := of_decide_eq_true zax
             have q143 : (ji21) < (x3_2.length : Int) := of_decide_eq_true zax
             obtain ⟨ad143, e143, hx143_0, hx143_1, hx143_2⟩ := at_T41 (Kd.R_reads' HO_3.out).2.2 (ji21) p143 q143
             cases e143
             replace p143 := eq_true p143
             replace q143 := eq_true q143
             have p144 : 0 ≤ ((ji21) : Int) := of_decide_eq_true zax
             have q144 : (ji21) < (x3_2.length : Int) := of_decide_eq_true zax
             obtain ⟨ad144, e144, hx144_0, hx144_1, hx144_2⟩ := at_T41 (Kd.R_reads' HO_3.out).2.2 (ji21) p144 q144
             obtain rfl : ad143 = ad144 := (by injection e144)
             replace p144 := eq_true p144
             replace q144 := eq_true q144
             refine start_ (n := 27) (S := fun w' => w'.cell? ⟨gb142, 0, none⟩ = some (.int .i64 x4_2) ∧ w'.cell? ⟨gb142, 1, none⟩ = some (.int .i64 (wrap64 (x4_2 + t136))) ∧ w'.cell? ⟨gb142, 2, none⟩ = some (.int .i64 (wrap64 (1 + t139))) ∧ w'.cell? (ad143.add (((ji21)).toNat * 3)) = some (.int .i64 ((rd_T41 x3_2 (ji21)).f0)) ∧ w'.cell? ⟨(ad143.add (((ji21)).toNat * 3)).block, (ad143.add (((ji21)).toNat * 3)).off + 1, none⟩ = some (.int .i64 ((rd_T41 x3_2 (ji21)).f1)) ∧ w'.cell? ⟨(ad143.add (((ji21)).toNat * 3)).block, (ad143.add (((ji21)).toNat * 3)).off + 2, none⟩ = some (.int .i64 ((rd_T41 x3_2 (ji21)).f2)) ∧ w'.cell? (ad143.add (((ji21)).toNat * 3)) = some (.int .i64 ((rd_T41 x3_2 (ji21)).f0)) ∧ w'.cell? ⟨(ad143.add (((ji21)).toNat * 3)).block, (ad143.add (((ji21)).toNat * 3)).off + 1, none⟩ = some (.int .i64 ((rd_T41 x3_2 (ji21)).f1)) ∧ w'.cell? ⟨(ad143.add (((ji21)).toNat * 3)).block, (ad143.add (((ji21)).toNat * 3)).off + 2, none⟩ = some (.int .i64 ((rd_T41 x3_2 (ji21)).f2))) (ds := []) #[false, false, false, false, false, false, false, false, false, false, false, false, false, false, false, false, false, false, false, false, false, false, false, false, false, false, false] (by kernel_rfl) rfl rfl ⟨(blk_cell BK142.out 0).trans rfl, (blk_cell BK142.out 1).trans rfl, (blk_cell BK142.out 2).trans rfl, hx143_0, hx143_1, hx143_2, hx144_0, hx144_1, hx144_2⟩ (fun hHeld => ?_); refine with_tabW spec_l1Cur_course.tab9 spec_l1Cur_course.bits9 (fun HT_ HW_ => ?_)
             generalize w56.drew = w57 at HO_3 HO135 BK142 HI0 HK HB hx143_0 hx143_1 hx143_2 hx144_0 hx144_1 hx144_2 hHeld ⊢
             refine pure_ (i := 0) (N := some 34) (v := ?_) (a' := ?_) #[true, false, false, false, false, false, false, false, false, false, false, false, false, false, false, false, false, false, false, false, false, false, false, false, false, false, false] rfl rfl (any_of HT_.out (by kernel_rfl)) (fun _ _ _ h => h) (Or.inl ⟨by rfl, ?_⟩) ?_ ?_
             rotate_left
             ·intro w'
              go_simp
              with_reducible rfl
             rotate_left
             ·simp only [Act.put, List.setIfInBounds_toArray, List.set_cons_zero, List.set_cons_succ, i64_w, i32_w]
              rfl
             refine pure_ (i := 1) (N := some 35) (v := ?_) (a' := ?_) #[true, true, false, false, false, false, false, false, false, false, false, false, false, false, false, false, false, false, false, false, false, false, false, false, false, false, false] rfl rfl (any_of HT_.out (by kernel_rfl)) (fun _ _ _ h => h) (Or.inl ⟨by rfl, ?_⟩) ?_ ?_
             rotate_left
             ·intro w'
              go_simp
              with_reducible rfl
             rotate_left
             ·simp only [Act.put, List.setIfInBounds_toArray, List.set_cons_zero, List.set_cons_succ, i64_w, i32_w]
              rfl
             refine pure_ (i := 2) (N := some 36) (v := ?_) (a' := ?_) #[true, true, true, false, false, false, false, false, false, false, false, false, false, false, false, false, false, false, false, false, false, false, false, false, false, false, false] rfl rfl (any_of HT_.out (by kernel_rfl)) (fun _ _ _ h => h) (Or.inl ⟨by rfl, ?_⟩) ?_ ?_
             rotate_left
             ·intro w'
              go_simp
              with_reducible rfl
             rotate_left
             ·simp only [Act.put, List.setIfInBounds_toArray, List.set_cons_zero, List.set_cons_succ, i64_w, i32_w]
              rfl
             refine pure_ (i := 3) (N := some 37) (v := ?_) (a' := ?_) #[true, true, true, true, false, false, false, false, false, false, false, false, false, false, false, false, false, false, false, false, false, false, false, false, false, false, false] rfl rfl (any_of HT_.out (by kernel_rfl)) (fun _ _ _ h => h) (Or.inl ⟨by rfl, ?_⟩) ?_ ?_
             rotate_left
             ·intro w'
              go_simp
              with_reducible rfl
             rotate_left
             ·simp only [Act.put, List.setIfInBounds_toArray, List.set_cons_zero, List.set_cons_succ, i64_w, i32_w]
              rfl
             refine pure_ (i := 4) (N := some 38) (v := ?_) (a' := ?_) #[true, true, true, true, true, false, false, false, false, false, false, false, false, false, false, false, false, false, false, false, false, false, false, false, false, false, false] rfl rfl (any_of HT_.out (by kernel_rfl)) (fun _ _ _ h => h) (Or.inl ⟨by rfl, ?_⟩) ?_ ?_
             rotate_left
             ·intro w'
              go_simp
              with_reducible rfl
             rotate_left
             ·simp only [Act.put, List.setIfInBounds_toArray, List.set_cons_zero, List.set_cons_succ, i64_w, i32_w]
              rfl
             refine pure_ (i := 5) (N := some 39) (v := ?_) (a' := ?_) #[true, true, true, true, true, true, false, false, false, false, false, false, false, false, false, false, false, false, false, false, false, false, false, false, false, false, false] rfl rfl (any_of HT_.out (by kernel_rfl)) (fun _ _ _ h => h) (Or.inl ⟨by rfl, ?_⟩) ?_ ?_
             rotate_left
             ·intro w'
              go_simp
              with_reducible rfl
             rotate_left
             ·simp only [Act.put, List.setIfInBounds_toArray, List.set_cons_zero, List.set_cons_succ, i64_w, i32_w]
              rfl
             refine pure_ (i := 6) (N := some 40) (v := ?_) (a' := ?_) #[true, true, true, true, true, true, true, false, false, false, false, false, false, false, false, false, false, false, false, false, false, false, false, false, false, false, false] rfl rfl (any_of HT_.out (by kernel_rfl)) (fun _ _ _ h => h) (Or.inl ⟨by rfl, ?_⟩) ?_ ?_
             rotate_left
             ·intro w'
              go_simp
              with_reducible rfl
             rotate_left
             ·simp only [Act.put, List.setIfInBounds_toArray, List.set_cons_zero, List.set_cons_succ, i64_w, i32_w]
              rfl
             refine pure_ (i := 7) (N := some 41) (v := ?_) (a' := ?_) #[true, true, true, true, true, true, true, true, false, false, false, false, false, false, false, false, false, false, false, false, false, false, false, false, false, false, false] rfl rfl (any_of HT_.out (by kernel_rfl)) (fun _ _ _ h => h) (Or.inl ⟨by rfl, ?_⟩) ?_ ?_
             rotate_left
             ·intro w'
              go_simp
              with_reducible rfl
             rotate_left
             ·simp only [Act.put, List.setIfInBounds_toArray, List.set_cons_zero, List.set_cons_succ, i64_w, i32_w]
              rfl
             refine pure_ (i := 8) (N := some 42) (v := ?_) (a' := ?_) #[true, true, true, true, true, true, true, true, true, false, false, false, false, false, false, false, false, false, false, false, false, false, false, false, false, false, false] rfl rfl (any_of HT_.out (by kernel_rfl)) (fun _ _ _ h => h) (Or.inl ⟨by rfl, ?_⟩) ?_ ?_
             rotate_left
             ·intro w'
              go_simp
              with_reducible rfl
             rotate_left
             ·simp only [Act.put, List.setIfInBounds_toArray, List.set_cons_zero, List.set_cons_succ, i64_w, i32_w]
              rfl
             refine pure_ (i := 9) (N := some 43) (v := ?_) (a' := ?_) #[true, true, true, true, true, true, true, true, true, true, false, false, false, false, false, false, false, false, false, false, false, false, false, false, false, false, false] rfl rfl (any_of HT_.out (by kernel_rfl)) (fun _ _ _ h => h) (Or.inl ⟨by rfl, ?_⟩) ?_ ?_
             rotate_left
             ·intro w'
              go_simp
              with_reducible rfl
             rotate_left
             ·simp only [Act.put, List.setIfInBounds_toArray, List.set_cons_zero, List.set_cons_succ, i64_w, i32_w]
              rfl
             refine pure_ (i := 11) (N := some 45) (v := ?_) (a' := ?_) #[true, true, true, true, true, true, true, true, true, true, false, true, false, false, false, false, false, false, false, false, false, false, false, false, false, false, false] rfl rfl (any_of HT_.out (by kernel_rfl)) (fun _ _ _ h => h) (Or.inl ⟨by rfl, ?_⟩) ?_ ?_
             rotate_left
             ·intro w'
              go_simp
              with_reducible rfl
             rotate_left
             ·simp only [Act.put, List.setIfInBounds_toArray, List.set_cons_zero, List.set_cons_succ, i64_w, i32_w]
              rfl
             refine take_ (i := 10) (N := some 44) (v := ?_) (a' := ?_) #[true, true, true, true, true, true, true, true, true, true, true, true, false, false, false, false, false, false, false, false, false, false, false, false, false, false, false] rfl rfl (take_ofW HT_.out HW_.out (by kernel_rfl)) (fun _ _ _ h => h) (Or.inl ⟨by rfl, ?_⟩) hHeld ?_ ?_
             rotate_left
             ·rintro w' ⟨s0, s1, s2, s3, s4, s5, s6, s7, s8⟩
              go_simp
              with_reducible rfl
             rotate_left
             ·simp only [Act.put, List.setIfInBounds_toArray, List.set_cons_zero, List.set_cons_succ, i64_w, i32_w]
              rfl
             refine take_ (i := 12) (N := some 46) (v := ?_) (a' := ?_) #[true, true, true, true, true, true, true, true, true, true, true, true, true, false, false, false, false, false, false, false, false, false, false, false, false, false, false] rfl rfl (take_ofW HT_.out HW_.out (by kernel_rfl)) (fun _ _ _ h => h) (Or.inl ⟨by rfl, ?_⟩) hHeld ?_ ?_
             rotate_left
             ·rintro w' ⟨s0, s1, s2, s3, s4, s5, s6, s7, s8⟩
              go_simp
              with_reducible rfl
             rotate_left
             ·simp only [Act.put, List.setIfInBounds_toArray, List.set_cons_zero, List.set_cons_succ, i64_w, i32_w]
              rfl
             refine pure_ (i := 13) (N := some 47) (v := ?_) (a' := ?_) #[true, true, true, true, true, true, true, true, true, true, true, true, true, true, false, false, false, false, false, false, false, false, false, false, false, false, false] rfl rfl (any_of HT_.out (by kernel_rfl)) (fun _ _ _ h => h) (Or.inl ⟨by rfl, ?_⟩) ?_ ?_
             rotate_left
             ·intro w'
              go_simp
              with_reducible rfl
             rotate_left
             ·simp only [Act.put, List.setIfInBounds_toArray, List.set_cons_zero, List.set_cons_succ, i64_w, i32_w]
              rfl
             refine pure_ (i := 14) (N := some 48) (v := ?_) (a' := ?_) #[true, true, true, true, true, true, true, true, true, true, true, true, true, true, true, false, false, false, false, false, false, false, false, false, false, false, false] rfl rfl (any_of HT_.out (by kernel_rfl)) (fun _ _ _ h => h) (Or.inl ⟨by rfl, ?_⟩) ?_ ?_
             rotate_left
             ·intro w'
              go_simp
              with_reducible rfl
             rotate_left
             ·simp only [Act.put, List.setIfInBounds_toArray, List.set_cons_zero, List.set_cons_succ, i64_w, i32_w]
              rfl
             refine pure_ (i := 15) (N := some 49) (v := ?_) (a' := ?_) #[true, true, true, true, true, true, true, true, true, true, true, true, true, true, true, true, false, false, false, false, false, false, false, false, false, false, false] rfl rfl (any_of HT_.out (by kernel_rfl)) (fun _ _ _ h => h) (Or.inl ⟨by rfl, ?_⟩) ?_ ?_
             rotate_left
             ·intro w'
              go_simp
              with_reducible rfl
             rotate_left
             ·simp only [Act.put, List.setIfInBounds_toArray, List.set_cons_zero, List.set_cons_succ, i64_w, i32_w]
              rfl
             refine pure_ (i := 16) (N := some 50) (v := ?_) (a' := ?_) #[true, true, true, true, true, true, true, true, true, true, true, true, true, true, true, true, true, false, false, false, false, false, false, false, false, false, false] rfl rfl (any_of HT_.out (by kernel_rfl)) (fun _ _ _ h => h) (Or.inl ⟨by rfl, ?_⟩) ?_ ?_
             rotate_left
             ·intro w'
              go_simp
              with_reducible rfl
             rotate_left
             ·simp only [Act.put, List.setIfInBounds_toArray, List.set_cons_zero, List.set_cons_succ, i64_w, i32_w]
              rfl
             refine pure_ (i := 17) (N := some 51) (v := ?_) (a' := ?_) #[true, true, true, true, true, true, true, true, true, true, true, true, true, true, true, true, true, true, false, false, false, false, false, false, false, false, false] rfl rfl (any_of HT_.out (by kernel_rfl)) (fun _ _ _ h => h) (Or.inl ⟨by rfl, ?_⟩) ?_ ?_
             rotate_left
             ·intro w'
              go_simp
              with_reducible rfl
             rotate_left
             ·simp only [Act.put, List.setIfInBounds_toArray, List.set_cons_zero, List.set_cons_succ, i64_w, i32_w]
              rfl
             refine pure_ (i := 18) (N := some 52) (v := ?_) (a' := ?_) #[true, true, true, true, true, true, true, true, true, true, true, true, true, true, true, true, true, true, true, false, false, false, false, false, false, false, false] rfl rfl (any_of HT_.out (by kernel_rfl)) (fun _ _ _ h => h) (Or.inl ⟨by rfl, ?_⟩) ?_ ?_
             rotate_left
             ·intro w'
              go_simp
              with_reducible rfl
             rotate_left
             ·simp only [Act.put, List.setIfInBounds_toArray, List.set_cons_zero, List.set_cons_succ, i64_w, i32_w]
              rfl
             refine pure_ (i := 19) (N := some 53) (v := ?_) (a' := ?_) #[true, true, true, true, true, true, true, true, true, true, true, true, true, true, true, true, true, true, true, true, false, false, false, false, false, false, false] rfl rfl (any_of HT_.out (by kernel_rfl)) (fun _ _ _ h => h) (Or.inl ⟨by rfl, ?_⟩) ?_ ?_
             rotate_left
             ·intro w'
              go_simp
              with_reducible rfl
             rotate_left
             ·simp only [Act.put, List.setIfInBounds_toArray, List.set_cons_zero, List.set_cons_succ, i64_w, i32_w]
              rfl
             refine pure_ (i := 20) (N := some 54) (v := ?_) (a' := ?_) #[true, true, true, true, true, true, true, true, true, true, true, true, true, true, true, true, true, true, true, true, true, false, false, false, false, false, false] rfl rfl (any_of HT_.out (by kernel_rfl)) (fun _ _ _ h => h) (Or.inl ⟨by rfl, ?_⟩) ?_ ?_
             rotate_left
             ·intro w'
              go_simp
              with_reducible rfl
             rotate_left
             ·simp only [Act.put, List.setIfInBounds_toArray, List.set_cons_zero, List.set_cons_succ, i64_w, i32_w]
              rfl
             refine pure_ (i := 21) (N := some 55) (v := ?_) (a' := ?_) #[true, true, true, true, true, true, true, true, true, true, true, true, true, true, true, true, true, true, true, true, true, true, false, false, false, false, false] rfl rfl (any_of HT_.out (by kernel_rfl)) (fun _ _ _ h => h) (Or.inl ⟨by rfl, ?_⟩) ?_ ?_
             rotate_left
             ·intro w'
              go_simp
              with_reducible rfl
             rotate_left
             ·simp only [Act.put, List.setIfInBounds_toArray, List.set_cons_zero, List.set_cons_succ, i64_w, i32_w]
              rfl
             refine pure_ (i := 23) (N := some 57) (v := ?_) (a' := ?_) #[true, true, true, true, true, true, true, true, true, true, true, true, true, true, true, true, true, true, true, true, true, true, false, true, false, false, false] rfl rfl (any_of HT_.out (by kernel_rfl)) (fun _ _ _ h => h) (Or.inl ⟨by rfl, ?_⟩) ?_ ?_
             rotate_left
             ·intro w'
              go_simp
              with_reducible rfl
             rotate_left
             ·simp only [Act.put, List.setIfInBounds_toArray, List.set_cons_zero, List.set_cons_succ, i64_w, i32_w]
              rfl
             refine take_ (i := 22) (N := some 56) (v := ?_) (a' := ?_) #[true, true, true, true, true, true, true, true, true, true, true, true, true, true, true, true, true, true, true, true, true, true, true, true, false, false, false] rfl rfl (take_ofW HT_.out HW_.out (by kernel_rfl)) (fun _ _ _ h => h) (Or.inl ⟨by rfl, ?_⟩) hHeld ?_ ?_
             rotate_left
             ·rintro w' ⟨s0, s1, s2, s3, s4, s5, s6, s7, s8⟩
              go_simp
              with_reducible rfl
             rotate_left
             ·simp only [Act.put, List.setIfInBounds_toArray, List.set_cons_zero, List.set_cons_succ, i64_w, i32_w]
              rfl
             refine take_ (i := 24) (N := some 58) (v := ?_) (a' := ?_) #[true, true, true, true, true, true, true, true, true, true, true, true, true, true, true, true, true, true, true, true, true, true, true, true, true, false, false] rfl rfl (take_ofW HT_.out HW_.out (by kernel_rfl)) (fun _ _ _ h => h) (Or.inl ⟨by rfl, ?_⟩) hHeld ?_ ?_
             rotate_left
             ·rintro w' ⟨s0, s1, s2, s3, s4, s5, s6, s7, s8⟩
              go_simp
              with_reducible rfl
             rotate_left
             ·simp only [Act.put, List.setIfInBounds_toArray, List.set_cons_zero, List.set_cons_succ, i64_w, i32_w]
              rfl
             refine pure_ (i := 25) (N := some 59) (v := ?_) (a' := ?_) #[true, true, true, true, true, true, true, true, true, true, true, true, true, true, true, true, true, true, true, true, true, true, true, true, true, true, false] rfl rfl (any_of HT_.out (by kernel_rfl)) (fun _ _ _ h => h) (Or.inl ⟨by rfl, ?_⟩) ?_ ?_
             rotate_left
             ·intro w'
              go_simp
              with_reducible rfl
             rotate_left
             ·simp only [Act.put, List.setIfInBounds_toArray, List.set_cons_zero, List.set_cons_succ, i64_w, i32_w]
              rfl
             refine pure_ (i := 26) (N := some 60) (v := ?_) (a' := ?_) #[true, true, true, true, true, true, true, true, true, true, true, true, true, true, true, true, true, true, true, true, true, true, true, true, true, true, true] rfl rfl (any_of HT_.out (by kernel_rfl)) (fun _ _ _ h => h) (Or.inl ⟨by rfl, ?_⟩) ?_ ?_
             rotate_left
             ·intro w'
              go_simp
              with_reducible rfl
             rotate_left
             ·simp only [Act.put, List.setIfInBounds_toArray, List.set_cons_zero, List.set_cons_succ, i64_w, i32_w]
              rfl
             refine done_ (done_of HT_.out (by kernel_rfl)) ?_
             have hcz59_0 : w57.cell? ⟨gb142, 0, none⟩ = some (.int .i64 x4_2) := (blk_cell BK142.out 0).trans rfl
             have hcz59_1 : w57.cell? ⟨gb142, 1, none⟩ = some (.int .i64 (wrap64 (x4_2 + t136))) := (blk_cell BK142.out 1).trans rfl
             have hcz59_2 : w57.cell? ⟨gb142, 2, none⟩ = some (.int .i64 (wrap64 (1 + t139))) := (blk_cell BK142.out 2).trans rfl
             have hfz59_0 := blk_frozen BK142.out 0
             have hfz59_1 := blk_frozen BK142.out 1
             have hfz59_2 := blk_frozen BK142.out 2
             try go_wp2_with (first | ((with_reducible refine gate_builtin (b := .append) (xs := #[.tmp 66, .tmp 68]) rfl ?_); (try (refine gate_guard (by rfl) ?_; dsimp only)); at_builtin; refine Kd.R_append k41 w.heap.size rfl (.tmp 66) (.tmp 68) 24 41 (.agg #[(.int .i64 0), (.int .i64 0), (.int .i64 0)]) 24 rfl Try.underlying24 info41 rfl (by decide) (by omega) (.slice (some ad143) x3_2.length co58) x3_2 (⟨x4_2, wrap64 (x4_2 + t136), wrap64 (1 + t139)⟩ : S41) [.int .i64 x4_2, .int .i64 (wrap64 (x4_2 + t136)), .int .i64 (wrap64 (1 + t139))] (fun k_ => k_ ≠ gb142) (fun _ => False) rfl rfl ?aP (fun _ hk => hk.elim) ?aF ?aO (Below.refl _ _) ?aS ?aL ?_; (case aP => exact k41_mkM _ _ _ (⟨x4_2, wrap64 (x4_2 + t136), wrap64 (1 + t139)⟩ : S41)); (case aF => exact (fun k_ hk => Kd.freshB (g := gb142) (o := .cells #[.int .i64 x4_2, .int .i64 (wrap64 (x4_2 + t136)), .int .i64 (wrap64 (1 + t139))] 41 (0, 0)) (zbx BK142.out) k_ hk)); (case aO => exact (zRx HO_3.out)); (case aS => exact (keep_size (w := w) (g := g) (row := none) (zKy HK.out GW142.out))); (case aL => have := LMc46.out; omega); intro v155 w60 ho hb hg hat; rw [← Ny154.out] at ho; have n0_ := Aside0.mk (IsS78.grown (IsS78.zF HI0.out NB0_142.out) hg (IsS78.own_ne HI0.out HO_3.out (by decide))); have n1_ := Aside0.mk (Kd.R_over' (zRx HO135.out) (Kd.R_typed (zRx HO_3.out)) (by decide) hg); have n2_ := Aside0.mk (blk_grown (g := gb142) (o := .cells #[.int .i64 x4_2, .int .i64 (wrap64 (x4_2 + t136)), .int .i64 (wrap64 (1 + t139))] 41 (0, 0)) (zbx BK142.out) hg (Kd.R_away HO_3.out (fun _ hk => hk))); have n3_ := Aside0.mk (below_weaken (by first | exact zBz HB.out (IsS78.ge HI0.out) GE142.out | exact zBy HB.out GE142.out) HL.out hb); have n4_ := Aside0.mk (KeepBut.trans (zKy HK.out GW142.out) (KeepBut.of_grown hg g) (Kd.R_base2 HO_3.out)); have n5_ := Aside0.mk (ho); clear HI0; clear HO135; clear BK142; clear HB; clear HK; clear HO_3; have HI0 := n0_; have HO135 := n1_; have BK142 := n2_; have HB := n3_; have HK := n4_; have HO156 := n5_; clear n0_ n1_ n2_ n3_ n4_ n5_; clear ho hb hg hat))
             have n0_ := Aside0.mk (Kd.R_drew HO135.out)
             have n1_ := Aside0.mk (Kd.R_drew HO156.out)
             have n2_ := Aside0.mk (blk_drew BK142.out)
             have n3_ := Aside0.mk (IsS78.drew HI0.out)
             have n4_ := Aside0.mk (keep_drew HK.out)
             have n5_ := Aside0.mk (below_drew1 HB.out)
             clear HO135
             clear HO156
             clear BK142
             clear HI0
             clear HK
             clear HB
             have HO135 := n0_
             have HO156 := n1_
             have BK142 := n2_
             have HI0 := n3_
             have HK := n4_
             have HB := n5_
             clear n0_ n1_ n2_ n3_ n4_ n5_
             refine start_ (n := 7) (S := fun w' => w'.cell? ⟨gb142, 0, none⟩ = some (.int .i64 x4_2) ∧ w'.cell? ⟨gb142, 1, none⟩ = some (.int .i64 (wrap64 (x4_2 + t136))) ∧ w'.cell? ⟨gb142, 2, none⟩ = some (.int .i64 (wrap64 (1 + t139)))) (ds := []) #[false, false, false, false, false, false, false] (by kernel_rfl) rfl rfl ⟨(blk_cell BK142.out 0).trans rfl, (blk_cell BK142.out 1).trans rfl, (blk_cell BK142.out 2).trans rfl⟩ (fun hHeld => ?_)
             generalize w60.drew = w61 at HO135 HO156 BK142 HI0 HK HB hHeld ⊢
             refine pure_ (i := 0) (N := some 70) (v := ?_) (a' := ?_) #[true, false, false, false, false, false, false] rfl rfl (by kernel_rfl) (fun _ _ _ h => h) (Or.inl ⟨by rfl, ?_⟩) ?_ ?_
             rotate_left
             ·intro w'
              go_simp
              with_reducible rfl
             rotate_left
             ·simp only [Act.put, List.setIfInBounds_toArray, List.set_cons_zero, List.set_cons_succ, i64_w, i32_w]
              rfl
             refine pure_ (i := 2) (N := some 72) (v := ?_) (a' := ?_) #[true, false, true, false, false, false, false] rfl rfl (by kernel_rfl) (fun _ _ _ h => h) (Or.inl ⟨by rfl, ?_⟩) ?_ ?_
             rotate_left
             ·intro w'
              go_simp
              with_reducible rfl
             rotate_left
             ·simp only [Act.put, List.setIfInBounds_toArray, List.set_cons_zero, List.set_cons_succ, i64_w, i32_w]
              rfl
             refine take_ (i := 1) (N := some 71) (v := ?_) (a' := ?_) #[true, true, true, false, false, false, false] rfl rfl (by kernel_rfl) (fun _ _ _ h => h) (Or.inl ⟨by rfl, ?_⟩) hHeld ?_ ?_
             rotate_left
             ·rintro w' ⟨s0, s1, s2⟩
              go_simp
              with_reducible rfl
             rotate_left
             ·simp only [Act.put, List.setIfInBounds_toArray, List.set_cons_zero, List.set_cons_succ, i64_w, i32_w]
              rfl
             refine one_ (i := 3) (N := some 73) #[true, true, true, true, false, false, false] rfl rfl (by kernel_rfl) (by decide) (fun K hK => ?_)
             refine Kd.R_lit_step (Kd.int .i64) _ 3 ?hg (N := 73) ?hd (xs := ([0, 0, 1, 5] : List Int)) (inner := [.int .i64 0, .int .i64 0, .int .i64 1, .int .i64 5]) (ok := fun _ => True) (okp := fun _ => True) ?hr ?hp (fun _ hk => hk) trivial (Below.refl _ _) (Nat.le_refl _) (by simp) ?_; (case hd => rfl); (case hg => rfl); (case hr => exact zsx); (case hp => exact (Reps.one (show Kd.M (Kd.int .i64) _ _ _ 0 [.int .i64 0] from rfl) (Reps.one (show Kd.M (Kd.int .i64) _ _ _ 0 [.int .i64 0] from rfl) (Reps.one (show Kd.M (Kd.int .i64) _ _ _ 1 [.int .i64 1] from rfl) (Reps.one (show Kd.M (Kd.int .i64) _ _ _ 5 [.int .i64 5] from rfl) (Reps.none _ _))))))
             intro v158 w62 ho63 hb hg_ hnew_
             clear hg_ hnew_
             (first | rw [← Ny157.out] at ho63 | (simp only [Int.reduceToNat] at ho63; rw [← Ny157.out] at ho63))
             have n0_ := Aside0.mk (Kd.R_elder' (zRx HO135.out) (Kd.R_base ho63) hb)
             have n1_ := Aside0.mk (Kd.R_below (zRx HO156.out) hb)
             have n2_ := Aside0.mk (Kd.R_lower (Kd.R_new' ho63 (Kd.R_lt (zRx HO135.out))) (keep_size (w := w) (g := g) (row := none) (zKy HK.out GW142.out)))
             have n3_ := Aside0.mk (IsS78.below (IsS78.zF HI0.out NB0_142.out) hb)
             have n4_ := Aside0.mk (blk_below (g := gb142) (o := .cells #[.int .i64 x4_2, .int .i64 (wrap64 (x4_2 + t136)), .int .i64 (wrap64 (1 + t139))] 41 (0, 0)) (zbx BK142.out) hb)
             have n5_ := Aside0.mk (KeepBut.trans (zKy HK.out GW142.out) (KeepBut.of_below hb g none) (.inl rfl))
             have n6_ := Aside0.mk (below_step (by first | exact zBz HB.out (IsS78.ge HI0.out) GE142.out | exact zBy HB.out GE142.out) hb)
             clear HO135
             clear HO156
             clear HI0
             clear BK142
             clear HK
             clear HB
             have HO135 := n0_
             have HO156 := n1_
             have HO159 := n2_
             have HI0 := n3_
             have BK142 := n4_
             have HK := n5_
             have HB := n6_
             clear n0_ n1_ n2_ n3_ n4_ n5_ n6_
             clear hb ho63
             obtain ⟨Ao64, co64, eo64⟩ := Kd.R_slice HO159.out
             (first | subst eo64 | (injection eo64 with f1_ f2_ f3_; have f4_ := f1_.symm; have f5_ := f3_.symm; clear f1_ f2_ f3_; subst f4_; subst f5_))
             refine hK.out _ _ ⟨(blk_cell BK142.out 0).trans rfl, (blk_cell BK142.out 1).trans rfl, (blk_cell BK142.out 2).trans rfl⟩ (fun hHeld => ?_)
             clear hK K
             refine norm_ (a' := ?_) ?_ ?_
             rotate_left
             ·show Act.put _ (some 73) _ = _
              simp only [Act.put, List.setIfInBounds_toArray, List.set_cons_zero, List.set_cons_succ, i64_w, i32_w]
              rfl
             refine one_ (i := 4) (N := some 74) #[true, true, true, true, true, false, false] rfl rfl (by kernel_rfl) (by decide) (fun K hK => ?_)
             refine goes_ Try.func67 (by kernel_rfl) rfl #[.pointer (some ⟨g, 0, none⟩), .slice Ao64 y157.length co64] (by rfl) rfl rfl zlx ?_
             with_reducible refine (spec_l1Cur_among.calls g s0_0 t140 t141 _ _ y157 t160 t161 t162 w0 _ ?side1 ?side2 ?side3 ?side4 ?side5 A47.out).mono ?_
             (case side1 => exact IsS78.zJ HI0.out NB0_142.out)
             (case side2 => first | exact zBz HB.out (IsS78.ge HI0.out) GE142.out | exact zBy HB.out GE142.out)
             (case side3 => repeat (first | exact (Kd.R_reads' HO159.out).2.2 | (with_reducible refine Kd.C_alloc ?_ _) | (with_reducible refine Kd.C_drewN ?_ _) | (with_reducible refine Kd.C_drew ?_)))
             (case side4 => exact (Kd.R_reads' HO159.out).2.1)
             (case side5 => exact far_slice (IsS78.own_ne HI0.out HO159.out (by decide)))
             rintro e w65 ⟨rfl, hi, hb, hk⟩
             refine ⟨_, rfl, ?_⟩
             have n0_ := Aside0.mk (Kd.R_mono (Kd.R_keep (IsS78.apart (show IsS78 w0 _ g s0_0 t140 t141 from IsS78.zJ HI0.out NB0_142.out) (zRx HO135.out) (by decide)) hk (fun _ h => h.2)) (fun _ h => h.1))
             have n1_ := Aside0.mk (KeepBut.blk hk (g' := gb142) (o := .cells #[.int .i64 x4_2, .int .i64 (wrap64 (x4_2 + t136)), .int .i64 (wrap64 (1 + t139))] 41 (0, 0)) (zbx BK142.out) NB142_0.out (by simp))
             have n2_ := Aside0.mk (Kd.R_mono (Kd.R_keep (IsS78.apart (show IsS78 w0 _ g s0_0 t140 t141 from IsS78.zJ HI0.out NB0_142.out) (zRx HO156.out) (by decide)) hk (fun _ h => h.2)) (fun _ h => h.1))
             have n3_ := Aside0.mk (Kd.R_mono (Kd.R_keep (IsS78.apart (show IsS78 w0 _ g s0_0 t140 t141 from IsS78.zJ HI0.out NB0_142.out) (zRx HO159.out) (by decide)) hk (fun _ h => h.2)) (fun _ h => h.1))
             have n4_ := Aside0.mk (KeepBut.trans (zKy HK.out GW142.out) hk (.inl rfl))
             have n5_ := Aside0.mk (hb)
             have n6_ := Aside0.mk (hi)
             clear HO135
             clear BK142
             clear HO156
             clear HO159
             clear HK
             clear HB
             clear HI0
             have HO135 := n0_
             have BK142 := n1_
             have HO156 := n2_
             have HO159 := n3_
             have HK := n4_
             have HB := n5_
             have HI0 := n6_
             clear n0_ n1_ n2_ n3_ n4_ n5_ n6_
             (try clear hb)
             (try clear hb2)
             (try clear hk)
             (try clear hi)
             refine hK.out _ _ ⟨(blk_cell BK142.out 0).trans rfl, (blk_cell BK142.out 1).trans rfl, (blk_cell BK142.out 2).trans rfl⟩ (fun hHeld => ?_)
             clear hK K
             refine norm_ (a' := ?_) ?_ ?_
             rotate_left
             ·show Act.put _ (some 74) _ = _
              simp only [Act.put, List.setIfInBounds_toArray, List.set_cons_zero, List.set_cons_succ, i64_w, i32_w]
              rfl
             refine pure_ (i := 5) (N := some 75) (v := ?_) (a' := ?_) #[true, true, true, true, true, true, false] rfl rfl (by kernel_rfl) (fun _ _ _ h => h) (Or.inl ⟨by rfl, ?_⟩) ?_ ?_
             rotate_left
             ·intro w'
              go_simp
              with_reducible rfl
             rotate_left
             ·simp only [Act.put, List.setIfInBounds_toArray, List.set_cons_zero, List.set_cons_succ, i64_w, i32_w]
              rfl
             refine pure_ (i := 6) (N := some 4) (v := ?_) (a' := ?_) #[true, true, true, true, true, true, true] rfl rfl (by kernel_rfl) (fun _ _ _ h => h) (Or.inl ⟨by rfl, ?_⟩) ?_ ?_
             rotate_left
             ·intro w'
              go_simp
              with_reducible rfl
             rotate_left
             ·simp only [Act.put, List.setIfInBounds_toArray, List.set_cons_zero, List.set_cons_succ, i64_w, i32_w]
              rfl
             refine done_ (by kernel_rfl) ?_
             try go_wp2
             go_roundg k2
             case measure => have := HJ4.out; have := HK2.out; omega
             case rel => exact ⟨(y154), (wrap64 ((wrap64 (x4_2 + t136)) + t160)), (wrap64 (x5_2 - 1)), (t161), (t162), zrx, zrx, H', ⟨by have := HJ4.out; have := HK2.out; omega⟩, ⟨by (with_reducible repeat (first | apply Kd.R_alloc | apply Kd.R_drewN | apply Kd.R_drew)); exact Kd.R_mono HO156.out (fun _ hk => trivial)⟩, ⟨by exact IsS78.zJ HI0.out NB0_142.out⟩, ⟨by exact zKy HK.out GW142.out⟩, ⟨by exact zBz HB.out (IsS78.ge HI0.out) GE142.out⟩⟩
           ·rw [if_neg c46] at H
            exact absurd H (by simp)
         ·rw [if_neg c24] at H
          have c24b0 : (((rd_T41 x3_2 (ji21)).f1) == x4_2) = false := beq_eq_false_iff_ne.mpr c24
          have c24b1 : (((rd_T41 x3_2 (ji21)).f1) != x4_2) = true := bne_iff_ne.mpr c24
          by_cases c66 : x3_2.length < 5864062014805
          ·rw [if_pos c66] at H
           have LMc66 := Aside0.mk c66
           clear c66
           obtain ⟨y163, hy163⟩ : ∃ y_ : List (S41), y_ = (x3_2 ++ [(⟨x4_2, wrap64 (x4_2 + t136), wrap64 (1 + t139)⟩ : S41)]) := ⟨_, rfl⟩
           replace H : ((spec_l1Cur_among.f s0_0 t140 t141 (([0, 0, 1, 5] : List Int))).bind fun bt169 => (spec_l1Cur_course.l0 k2 y163 (wrap64 ((wrap64 (x4_2 + t136)) + bt169.1)) (wrap64 (x5_2 - 1)) s0_0 bt169.2.1 bt169.2.2)) = some (r1, r2, r3) := by first | (rw [hy163]; with_reducible exact H) | (have H2_ := (Option.bind_some _ _).symm.trans H; rw [hy163]; with_reducible exact H2_) | (have H2_ := (Option.bind_some _ _).symm.trans H; with_reducible exact H2_) | with_reducible exact H | (rw [hy163]; exact H) | exact H
           have Ny163 := Aside0.mk hy163
           clear hy163
           obtain ⟨y166, hy166⟩ : ∃ y_ : List Int, y_ = (([0, 0, 1, 5] : List Int)) := ⟨_, rfl⟩
           replace H : ((spec_l1Cur_among.f s0_0 t140 t141 y166).bind fun bt169 => (spec_l1Cur_course.l0 k2 y163 (wrap64 ((wrap64 (x4_2 + t136)) + bt169.1)) (wrap64 (x5_2 - 1)) s0_0 bt169.2.1 bt169.2.2)) = some (r1, r2, r3) := by first | (rw [hy166]; with_reducible exact H) | (have H2_ := (Option.bind_some _ _).symm.trans H; rw [hy166]; with_reducible exact H2_) | (have H2_ := (Option.bind_some _ _).symm.trans H; with_reducible exact H2_) | with_reducible exact H | (rw [hy166]; exact H) | exact H
           have Ny166 := Aside0.mk hy166
           clear hy166
           replace H := Option.bind_eq_some_iff.mp H
           obtain ⟨⟨t169, t170, t171⟩, A670, H⟩ := H
           replace H : (spec_l1Cur_course.l0 k2 y163 (wrap64 ((wrap64 (x4_2 + t136)) + t169)) (wrap64 (x5_2 - 1)) s0_0 t170 t171) = some (r1, r2, r3) := H
           have A67 := Aside0.mk A670
           clear A670
           focus
            have H' := Aside0.mk H
            clear H
            try go_wp2_with (first | ((with_reducible refine gate_dst (N := 27) rfl ?_); (try (refine gate_guard (by rfl) ?_; dsimp only)); refine Kd.R_lit (Kd.int .i64) _ 3 ?hg (N := 27) ?hd (xs := ([1, 2, 6, 12] : List Int)) (inner := [.int .i64 1, .int .i64 2, .int .i64 6, .int .i64 12]) (ok := fun _ => True) (okp := fun _ => True) ?hr ?hp (fun _ hk => hk) trivial (Below.refl _ _) (Nat.le_refl _) (by simp) ?_; (case hd => rfl); (case hg => rfl); (case hr => exact zsx); (case hp => exact (Reps.one (show Kd.M (Kd.int .i64) _ _ _ 1 [.int .i64 1] from rfl) (Reps.one (show Kd.M (Kd.int .i64) _ _ _ 2 [.int .i64 2] from rfl) (Reps.one (show Kd.M (Kd.int .i64) _ _ _ 6 [.int .i64 6] from rfl) (Reps.one (show Kd.M (Kd.int .i64) _ _ _ 12 [.int .i64 12] from rfl) (Reps.none _ _)))))); intro v134 w68 ho69 hb hg_ hnew_; clear hg_ hnew_; (first | rw [← Ny133.out] at ho69 | (simp only [Int.reduceToNat] at ho69; rw [← Ny133.out] at ho69)); have n0_ := Aside0.mk (Kd.R_below (zRx HO_3.out) hb); have n1_ := Aside0.mk (Kd.R_lower ho69 (keep_size (w := w) (g := g) (row := none) (zKx HK.out))); have n2_ := Aside0.mk (IsS78.below (IsS78.zI HI0.out) hb); have n3_ := Aside0.mk (KeepBut.trans (zKx HK.out) (KeepBut.of_below hb g none) (.inl rfl)); have n4_ := Aside0.mk (below_step (by first | exact zBy HB.out (IsS78.ge HI0.out) | exact zBx HB.out) hb); clear HO_3; clear HI0; clear HK; clear HB; have HO_3 := n0_; have HO135 := n1_; have HI0 := n2_; have HK := n3_; have HB := n4_; clear n0_ n1_ n2_ n3_ n4_; clear hb ho69; obtain ⟨Ao70, co70, eo70⟩ := Kd.R_slice HO135.out; subst eo70) | ((with_reducible refine gate_callee (f := 67) rfl ?_); refine goesL_ (some 28) rfl rfl Try.func67 (by kernel_rfl) rfl #[.pointer (some ⟨g, 0, none⟩), .slice Ao70 y133.length co70] rfl zlx ?_; (with_reducible refine (spec_l1Cur_among.calls g s0_0 x1001_2 x1002_2 _ _ y133 t136 t137 t138 w0 _ ?side1 ?side2 ?side3 ?side4 ?side5 A18.out).mono ?_); (case side1 => exact IsS78.zI HI0.out); (case side2 => first | exact zBy HB.out (IsS78.ge HI0.out) | exact zBx HB.out); (case side3 => repeat (first | exact (Kd.R_reads' HO135.out).2.2 | (with_reducible refine Kd.C_alloc ?_ _) | (with_reducible refine Kd.C_drewN ?_ _) | (with_reducible refine Kd.C_drew ?_))); (case side4 => exact (Kd.R_reads' HO135.out).2.1); (case side5 => exact far_slice (IsS78.own_ne HI0.out HO135.out (by decide))); rintro e w71 ⟨rfl, hi, hb, hk⟩; refine ⟨_, rfl, ?_⟩; have n0_ := Aside0.mk (Kd.R_mono (Kd.R_keep (IsS78.apart (show IsS78 w0 _ g s0_0 x1001_2 x1002_2 from IsS78.zI HI0.out) (zRx HO_3.out) (by decide)) hk (fun _ h => h.2)) (fun _ h => h.1)); have n1_ := Aside0.mk (Kd.R_mono (Kd.R_keep (IsS78.apart (show IsS78 w0 _ g s0_0 x1001_2 x1002_2 from IsS78.zI HI0.out) (zRx HO135.out) (by decide)) hk (fun _ h => h.2)) (fun _ h => h.1)); have n2_ := Aside0.mk (KeepBut.trans (zKx HK.out) hk (.inl rfl)); have n3_ := Aside0.mk (hb); have n4_ := Aside0.mk (hi); clear HO_3; clear HO135; clear HK; clear HB; clear HI0; have HO_3 := n0_; have HO135 := n1_; have HK := n2_; have HB := n3_; have HI0 := n4_; clear n0_ n1_ n2_ n3_ n4_; (try clear hb); (try clear hb2); (try clear hk); (try clear hi)) | ((with_reducible refine gate_callee (f := 72) rfl ?_); refine goesL_ (some 31) rfl rfl Try.func72 (by kernel_rfl) rfl #[.pointer (some ⟨g, 0, none⟩), .int .i64 3] rfl zlx ?_; (with_reducible refine (spec_l1Cur_pick.calls g s0_0 t137 t138 3 t139 t140 t141 w0 _ ?side1 ?side2 A19.out).mono ?_); (case side1 => exact IsS78.zI HI0.out); (case side2 => first | exact zBy HB.out (IsS78.ge HI0.out) | exact zBx HB.out); rintro e w72 ⟨rfl, hi, hb, hk⟩; refine ⟨_, rfl, ?_⟩; have n0_ := Aside0.mk (Kd.R_mono (Kd.R_keep (IsS78.apart (show IsS78 w0 _ g s0_0 t137 t138 from IsS78.zI HI0.out) (zRx HO_3.out) (by decide)) hk (fun _ h => h.2)) (fun _ h => h.1)); have n1_ := Aside0.mk (Kd.R_mono (Kd.R_keep (IsS78.apart (show IsS78 w0 _ g s0_0 t137 t138 from IsS78.zI HI0.out) (zRx HO135.out) (by decide)) hk (fun _ h => h.2)) (fun _ h => h.1)); have n2_ := Aside0.mk (KeepBut.trans (zKx HK.out) hk (.inl rfl)); have n3_ := Aside0.mk (hb); have n4_ := Aside0.mk (hi); clear HO_3; clear HO135; clear HK; clear HB; clear HI0; have HO_3 := n0_; have HO135 := n1_; have HK := n2_; have HB := n3_; have HI0 := n4_; clear n0_ n1_ n2_ n3_ n4_; (try clear hb); (try clear hb2); (try clear hk); (try clear hi)) | ((with_reducible refine gate_dst (N := 6) rfl ?_); (try (refine gate_guard (by rfl) ?_; dsimp only)); refine box_event ?hg (N := 6) ?hd (cs := #[.int .i64 0, .int .i64 0, .int .i64 0]) (t := 41) ?hr ?_; (case hd => rfl); (case hg => rfl); (case hr => exact zsx); intro gb142 hg w73 hbox hb; have n0_ := Aside0.mk (Kd.R_below (Kd.R_elderB (zRx HO_3.out) gb142 (Nat.le_of_eq hg.symm)) hb); have n1_ := Aside0.mk (Kd.R_below (zRx HO135.out) hb); have n2_ := Aside0.mk (IsS78.below (IsS78.zI HI0.out) hb); have n3_ := Aside0.mk (KeepBut.trans (zKx HK.out) (KeepBut.of_below hb g none) (.inl rfl)); have n4_ := Aside0.mk (below_step (by first | exact zBy HB.out (IsS78.ge HI0.out) | exact zBx HB.out) hb); have n5_ := Aside0.mk (hbox); have n6_ := Aside0.mk ((by rw [hg]; exact (keep_size (w := w) (g := g) (row := none) (zKx HK.out)) : w.heap.size ≤ gb142)); have n7_ := Aside0.mk ((Nat.le_trans HW0.out (by rw [hg]; exact (keep_size (w := w) (g := g) (row := none) (zKx HK.out)) : w.heap.size ≤ gb142) : w0.heap.size ≤ gb142)); have n8_ := Aside0.mk ((by rw [hg]; exact Nat.ne_of_lt (IsS78.lt (show IsS78 w0 _ g s0_0 t140 t141 from IsS78.zI HI0.out)) : g ≠ gb142)); have n9_ := Aside0.mk ((by rw [hg]; exact Nat.ne_of_gt (IsS78.lt (show IsS78 w0 _ g s0_0 t140 t141 from IsS78.zI HI0.out)) : gb142 ≠ g)); clear HO_3; clear HO135; clear HI0; clear HK; clear HB; have HO_3 := n0_; have HO135 := n1_; have HI0 := n2_; have HK := n3_; have HB := n4_; have BK142 := n5_; have GW142 := n6_; have GE142 := n7_; have NB0_142 := n8_; have NB142_0 := n9_; clear n0_ n1_ n2_ n3_ n4_ n5_ n6_ n7_ n8_ n9_; clear hb hbox hg; have hnb74 := NB142_0.out; have hnc74 := NB0_142.out; have hcz75_0 : w73.cell? ⟨gb142, 0, none⟩ = some (.int .i64 0) := (blk_cell BK142.out 0).trans rfl; have hcz75_1 : w73.cell? ⟨gb142, 1, none⟩ = some (.int .i64 0) := (blk_cell BK142.out 1).trans rfl; have hcz75_2 : w73.cell? ⟨gb142, 2, none⟩ = some (.int .i64 0) := (blk_cell BK142.out 2).trans rfl; have hfz75_0 := blk_frozen BK142.out 0; have hfz75_1 := blk_frozen BK142.out 1; have hfz75_2 := blk_frozen BK142.out 2))
            have n0_ : Aside0 (Kd.R k41 41 (((w73.setCell ⟨gb142, 0, none⟩ (.int .i64 x4_2)).setCell ⟨gb142, 1, none⟩ (.int .i64 (wrap64 (x4_2 + t136)))).setCell ⟨gb142, 2, none⟩ (.int .i64 (wrap64 (1 + t139)))) w.heap.size (fun k_ => k_ ≠ gb142) u3 x3_2) := ⟨by (with_reducible repeat (first | apply Kd.R_alloc | apply Kd.R_drewN | apply Kd.R_drew)); exact Kd.R_mono (Kd.R_far (p := ⟨gb142, 2, none⟩) (Kd.R_far (p := ⟨gb142, 1, none⟩) (Kd.R_far (p := ⟨gb142, 0, none⟩) (Kd.R_mono HO_3.out (fun k_ hk => (⟨hk, hk.2⟩ : _ ∧ k_ ≠ gb142))) (fun _ hk => hk.2) (.int .i64 x4_2)) (fun _ hk => hk.2) (.int .i64 (wrap64 (x4_2 + t136)))) (fun _ hk => hk.2) (.int .i64 (wrap64 (1 + t139)))) (fun _ hk => hk.1.2)⟩
            have n1_ : Aside0 (Kd.R (Kd.int .i64) 3 (((w73.setCell ⟨gb142, 0, none⟩ (.int .i64 x4_2)).setCell ⟨gb142, 1, none⟩ (.int .i64 (wrap64 (x4_2 + t136)))).setCell ⟨gb142, 2, none⟩ (.int .i64 (wrap64 (1 + t139)))) w.heap.size (fun _ => True) (.slice Ao70 y133.length co70) y133) := ⟨by (with_reducible repeat (first | apply Kd.R_alloc | apply Kd.R_drewN | apply Kd.R_drew)); exact Kd.R_mono (Kd.R_far (p := ⟨gb142, 2, none⟩) (Kd.R_far (p := ⟨gb142, 1, none⟩) (Kd.R_far (p := ⟨gb142, 0, none⟩) (Kd.R_types HO135.out BK142.out (by decide)) (fun _ hk => hk.2) (.int .i64 x4_2)) (fun _ hk => hk.2) (.int .i64 (wrap64 (x4_2 + t136)))) (fun _ hk => hk.2) (.int .i64 (wrap64 (1 + t139)))) (fun _ hk => trivial)⟩
            have n2_ : Aside0 ((((w73.setCell ⟨gb142, 0, none⟩ (.int .i64 x4_2)).setCell ⟨gb142, 1, none⟩ (.int .i64 (wrap64 (x4_2 + t136)))).setCell ⟨gb142, 2, none⟩ (.int .i64 (wrap64 (1 + t139)))).heap[gb142]? = some (.cells #[.int .i64 x4_2, .int .i64 (wrap64 (x4_2 + t136)), .int .i64 (wrap64 (1 + t139))] 41 (0, 0))) := ⟨by (with_reducible repeat (first | refine blk_drewN ?_ _ | refine blk_drew ?_ | refine blk_alloc ?_ _)); refine blk_put (cs := #[.int .i64 x4_2, .int .i64 (wrap64 (x4_2 + t136)), .int .i64 0]) ?_ 2 _ rfl; (with_reducible repeat (first | refine blk_drewN ?_ _ | refine blk_drew ?_ | refine blk_alloc ?_ _)); refine blk_put (cs := #[.int .i64 x4_2, .int .i64 0, .int .i64 0]) ?_ 1 _ rfl; (with_reducible repeat (first | refine blk_drewN ?_ _ | refine blk_drew ?_ | refine blk_alloc ?_ _)); refine blk_put (cs := #[.int .i64 0, .int .i64 0, .int .i64 0]) ?_ 0 _ rfl; (with_reducible repeat (first | refine blk_drewN ?_ _ | refine blk_drew ?_ | refine blk_alloc ?_ _)); exact BK142.out⟩
            have n3_ : Aside0 (IsS78 w0 (((w73.setCell ⟨gb142, 0, none⟩ (.int .i64 x4_2)).setCell ⟨gb142, 1, none⟩ (.int .i64 (wrap64 (x4_2 + t136)))).setCell ⟨gb142, 2, none⟩ (.int .i64 (wrap64 (1 + t139)))) g s0_0 t140 t141) := ⟨by exact IsS78.zJ HI0.out NB0_142.out⟩
            have n4_ : Aside0 (KeepBut w (((w73.setCell ⟨gb142, 0, none⟩ (.int .i64 x4_2)).setCell ⟨gb142, 1, none⟩ (.int .i64 (wrap64 (x4_2 + t136)))).setCell ⟨gb142, 2, none⟩ (.int .i64 (wrap64 (1 + t139)))) g none) := ⟨by exact zKy HK.out GW142.out⟩
            have n5_ : Aside0 (Below w0.heap.size w0 (((w73.setCell ⟨gb142, 0, none⟩ (.int .i64 x4_2)).setCell ⟨gb142, 1, none⟩ (.int .i64 (wrap64 (x4_2 + t136)))).setCell ⟨gb142, 2, none⟩ (.int .i64 (wrap64 (1 + t139))))) := ⟨by exact zBz HB.out (IsS78.ge HI0.out) GE142.out⟩
            (try clear HO_3)
            (try clear HO135)
            (try clear BK142)
            (try clear HI0)
            (try clear HK)
            (try clear HB)
            generalize (((w73.setCell ⟨gb142, 0, none⟩ (.int .i64 x4_2)).setCell ⟨gb142, 1, none⟩ (.int .i64 (wrap64 (x4_2 + t136)))).setCell ⟨gb142, 2, none⟩ (.int .i64 (wrap64 (1 + t139)))) = w76 at n0_ n1_ n2_ n3_ n4_ n5_ ⊢
            have HO_3 := n0_
            have HO135 := n1_
            have BK142 := n2_
            have HI0 := n3_
            have HK := n4_
            have HB := n5_
            clear n0_ n1_ n2_ n3_ n4_ n5_
            have n0_ := Aside0.mk (Kd.R_drew HO_3.out)
            have n1_ := Aside0.mk (Kd.R_drew HO135.out)
            have n2_ := Aside0.mk (blk_drew BK142.out)
            have n3_ := Aside0.mk (IsS78.drew HI0.out)
            have n4_ := Aside0.mk (keep_drew HK.out)
            have n5_ := Aside0.mk (below_drew1 HB.out)
            clear HO_3
            clear HO135
            clear BK142
            clear HI0
            clear HK
            clear HB
            have HO_3 := n0_
            have HO135 := n1_
            have BK142 := n2_
            have HI0 := n3_
            have HK := n4_
            have HB := n5_
            clear n0_ n1_ n2_ n3_ n4_ n5_
            obtain ⟨Ao78, co78, eo78⟩ := Kd.R_slice HO_3.out
            (first | subst eo78 | (injection eo78 with f1_ f2_ f3_; have f4_ := f1_.symm; have f5_ := f3_.symm; clear f1_ f2_ f3_; subst f4_; subst f5_))
            have p143 : 0 ≤ ((ji21) : Int) := of_decide_eq_true zax
            have q143 : (ji21) < (x3_2.length : Int) := of_decide_eq_true zax
            obtain ⟨ad143, e143, hx143_0, hx143_1, hx143_2⟩ := at_T41 (Kd.R_reads' HO_3.out).2.2 (ji21) p143 q143
            cases e143
            replace p143 := eq_true p143
            replace q143 := eq_true q143
            refine start_ (n := 27) (S := fun w' => w'.cell? ⟨gb142, 0, none⟩ = some (.int .i64 x4_2) ∧ w'.cell? ⟨gb142, 1, none⟩ = some (.int .i64 (wrap64 (x4_2 + t136))) ∧ w'.cell? ⟨gb142, 2, none⟩ = some (.int .i64 (wrap64 (1 + t139))) ∧ w'.cell? (ad143.add (((ji21)).toNat * 3)) = some (.int .i64 ((rd_T41 x3_2 (ji21)).f0)) ∧ w'.cell? ⟨(ad143.add (((ji21)).toNat * 3)).block, (ad143.add (((ji21)).toNat * 3)).off + 1, none⟩ = some (.int .i64 ((rd_T41 x3_2 (ji21)).f1)) ∧ w'.cell? ⟨(ad143.add (((ji21)).toNat * 3)).block, (ad143.add (((ji21)).toNat * 3)).off + 2, none⟩ = some (.int .i64 ((rd_T41 x3_2 (ji21)).f2))) (ds := []) #[false, false, false, false, false, false, false, false, false, false, false, false, false, false, false, false, false, false, false, false, false, false, false, false, false, false, false] (by kernel_rfl) rfl rfl ⟨(blk_cell BK142.out 0).trans rfl, (blk_cell BK142.out 1).trans rfl, (blk_cell BK142.out 2).trans rfl, hx143_0, hx143_1, hx143_2⟩ (fun hHeld => ?_); refine with_tabW spec_l1Cur_course.tab9 spec_l1Cur_course.bits9 (fun HT_ HW_ => ?_)
            generalize w76.drew = w77 at HO_3 HO135 BK142 HI0 HK HB hx143_0 hx143_1 hx143_2 hHeld ⊢
            refine pure_ (i := 0) (N := some 34) (v := ?_) (a' := ?_) #[true, false, false, false, false, false, false, false, false, false, false, false, false, false, false, false, false, false, false, false, false, false, false, false, false, false, false] rfl rfl (any_of HT_.out (by kernel_rfl)) (fun _ _ _ h => h) (Or.inl ⟨by rfl, ?_⟩) ?_ ?_
            rotate_left
            ·intro w'
             go_simp
             with_reducible rfl
            rotate_left
            ·simp only [Act.put, List.setIfInBounds_toArray, List.set_cons_zero, List.set_cons_succ, i64_w, i32_w]
             rfl
            refine pure_ (i := 1) (N := some 35) (v := ?_) (a' := ?_) #[true, true, false, false, false, false, false, false, false, false, false, false, false, false, false, false, false, false, false, false, false, false, false, false, false, false, false] rfl rfl (any_of HT_.out (by kernel_rfl)) (fun _ _ _ h => h) (Or.inl ⟨by rfl, ?_⟩) ?_ ?_
            rotate_left
            ·intro w'
             go_simp
             with_reducible rfl
            rotate_left
            ·simp only [Act.put, List.setIfInBounds_toArray, List.set_cons_zero, List.set_cons_succ, i64_w, i32_w]
             rfl
            refine pure_ (i := 2) (N := some 36) (v := ?_) (a' := ?_) #[true, true, true, false, false, false, false, false, false, false, false, false, false, false, false, false, false, false, false, false, false, false, false, false, false, false, false] rfl rfl (any_of HT_.out (by kernel_rfl)) (fun _ _ _ h => h) (Or.inl ⟨by rfl, ?_⟩) ?_ ?_
            rotate_left
            ·intro w'
             go_simp
             with_reducible rfl
            rotate_left
            ·simp only [Act.put, List.setIfInBounds_toArray, List.set_cons_zero, List.set_cons_succ, i64_w, i32_w]
             rfl
            refine pure_ (i := 3) (N := some 37) (v := ?_) (a' := ?_) #[true, true, true, true, false, false, false, false, false, false, false, false, false, false, false, false, false, false, false, false, false, false, false, false, false, false, false] rfl rfl (any_of HT_.out (by kernel_rfl)) (fun _ _ _ h => h) (Or.inl ⟨by rfl, ?_⟩) ?_ ?_
            rotate_left
            ·intro w'
             go_simp
             with_reducible rfl
            rotate_left
            ·simp only [Act.put, List.setIfInBounds_toArray, List.set_cons_zero, List.set_cons_succ, i64_w, i32_w]
             rfl
            refine pure_ (i := 4) (N := some 38) (v := ?_) (a' := ?_) #[true, true, true, true, true, false, false, false, false, false, false, false, false, false, false, false, false, false, false, false, false, false, false, false, false, false, false] rfl rfl (any_of HT_.out (by kernel_rfl)) (fun _ _ _ h => h) (Or.inl ⟨by rfl, ?_⟩) ?_ ?_
            rotate_left
            ·intro w'
             go_simp
             with_reducible rfl
            rotate_left
            ·simp only [Act.put, List.setIfInBounds_toArray, List.set_cons_zero, List.set_cons_succ, i64_w, i32_w]
             rfl
            refine pure_ (i := 5) (N := some 39) (v := ?_) (a' := ?_) #[true, true, true, true, true, true, false, false, false, false, false, false, false, false, false, false, false, false, false, false, false, false, false, false, false, false, false] rfl rfl (any_of HT_.out (by kernel_rfl)) (fun _ _ _ h => h) (Or.inl ⟨by rfl, ?_⟩) ?_ ?_
            rotate_left
            ·intro w'
             go_simp
             with_reducible rfl
            rotate_left
            ·simp only [Act.put, List.setIfInBounds_toArray, List.set_cons_zero, List.set_cons_succ, i64_w, i32_w]
             rfl
            refine pure_ (i := 6) (N := some 40) (v := ?_) (a' := ?_) #[true, true, true, true, true, true, true, false, false, false, false, false, false, false, false, false, false, false, false, false, false, false, false, false, false, false, false] rfl rfl (any_of HT_.out (by kernel_rfl)) (fun _ _ _ h => h) (Or.inl ⟨by rfl, ?_⟩) ?_ ?_
            rotate_left
            ·intro w'
             go_simp
             with_reducible rfl
            rotate_left
            ·simp only [Act.put, List.setIfInBounds_toArray, List.set_cons_zero, List.set_cons_succ, i64_w, i32_w]
             rfl
            refine pure_ (i := 7) (N := some 41) (v := ?_) (a' := ?_) #[true, true, true, true, true, true, true, true, false, false, false, false, false, false, false, false, false, false, false, false, false, false, false, false, false, false, false] rfl rfl (any_of HT_.out (by kernel_rfl)) (fun _ _ _ h => h) (Or.inl ⟨by rfl, ?_⟩) ?_ ?_
            rotate_left
            ·intro w'
             go_simp
             with_reducible rfl
            rotate_left
            ·simp only [Act.put, List.setIfInBounds_toArray, List.set_cons_zero, List.set_cons_succ, i64_w, i32_w]
             rfl
            refine pure_ (i := 8) (N := some 42) (v := ?_) (a' := ?_) #[true, true, true, true, true, true, true, true, true, false, false, false, false, false, false, false, false, false, false, false, false, false, false, false, false, false, false] rfl rfl (any_of HT_.out (by kernel_rfl)) (fun _ _ _ h => h) (Or.inl ⟨by rfl, ?_⟩) ?_ ?_
            rotate_left
            ·intro w'
             go_simp
             with_reducible rfl
            rotate_left
            ·simp only [Act.put, List.setIfInBounds_toArray, List.set_cons_zero, List.set_cons_succ, i64_w, i32_w]
             rfl
            refine pure_ (i := 9) (N := some 43) (v := ?_) (a' := ?_) #[true, true, true, true, true, true, true, true, true, true, false, false, false, false, false, false, false, false, false, false, false, false, false, false, false, false, false] rfl rfl (any_of HT_.out (by kernel_rfl)) (fun _ _ _ h => h) (Or.inl ⟨by rfl, ?_⟩) ?_ ?_
            rotate_left
            ·intro w'
             go_simp
             with_reducible rfl
            rotate_left
            ·simp only [Act.put, List.setIfInBounds_toArray, List.set_cons_zero, List.set_cons_succ, i64_w, i32_w]
             rfl
            refine pure_ (i := 11) (N := some 45) (v := ?_) (a' := ?_) #[true, true, true, true, true, true, true, true, true, true, false, true, false, false, false, false, false, false, false, false, false, false, false, false, false, false, false] rfl rfl (any_of HT_.out (by kernel_rfl)) (fun _ _ _ h => h) (Or.inl ⟨by rfl, ?_⟩) ?_ ?_
            rotate_left
            ·intro w'
             go_simp
             with_reducible rfl
            rotate_left
            ·simp only [Act.put, List.setIfInBounds_toArray, List.set_cons_zero, List.set_cons_succ, i64_w, i32_w]
             rfl
            refine take_ (i := 10) (N := some 44) (v := ?_) (a' := ?_) #[true, true, true, true, true, true, true, true, true, true, true, true, false, false, false, false, false, false, false, false, false, false, false, false, false, false, false] rfl rfl (take_ofW HT_.out HW_.out (by kernel_rfl)) (fun _ _ _ h => h) (Or.inl ⟨by rfl, ?_⟩) hHeld ?_ ?_
            rotate_left
            ·rintro w' ⟨s0, s1, s2, s3, s4, s5⟩
             go_simp
             with_reducible rfl
            rotate_left
            ·simp only [Act.put, List.setIfInBounds_toArray, List.set_cons_zero, List.set_cons_succ, i64_w, i32_w]
             rfl
            refine take_ (i := 12) (N := some 46) (v := ?_) (a' := ?_) #[true, true, true, true, true, true, true, true, true, true, true, true, true, false, false, false, false, false, false, false, false, false, false, false, false, false, false] rfl rfl (take_ofW HT_.out HW_.out (by kernel_rfl)) (fun _ _ _ h => h) (Or.inl ⟨by rfl, ?_⟩) hHeld ?_ ?_
            rotate_left
            ·rintro w' ⟨s0, s1, s2, s3, s4, s5⟩
             go_simp
             with_reducible rfl
            rotate_left
            ·simp only [Act.put, List.setIfInBounds_toArray, List.set_cons_zero, List.set_cons_succ, i64_w, i32_w]
             rfl
            refine pure_ (i := 13) (N := some 47) (v := ?_) (a' := ?_) #[true, true, true, true, true, true, true, true, true, true, true, true, true, true, false, false, false, false, false, false, false, false, false, false, false, false, false] rfl rfl (any_of HT_.out (by kernel_rfl)) (fun _ _ _ h => h) (Or.inl ⟨by rfl, ?_⟩) ?_ ?_
            rotate_left
            ·intro w'
             go_simp
             with_reducible rfl
            rotate_left
            ·simp only [Act.put, List.setIfInBounds_toArray, List.set_cons_zero, List.set_cons_succ, i64_w, i32_w]
             rfl
            refine pure_ (i := 14) (N := some 48) (v := ?_) (a' := ?_) #[true, true, true, true, true, true, true, true, true, true, true, true, true, true, true, false, false, false, false, false, false, false, false, false, false, false, false] rfl rfl (any_of HT_.out (by kernel_rfl)) (fun _ _ _ h => h) (Or.inl ⟨by rfl, ?_⟩) ?_ ?_
            rotate_left
            ·intro w'
             go_simp
             with_reducible rfl
            rotate_left
            ·simp only [Act.put, List.setIfInBounds_toArray, List.set_cons_zero, List.set_cons_succ, i64_w, i32_w]
             rfl
            refine pure_ (i := 15) (N := some 49) (v := ?_) (a' := ?_) #[true, true, true, true, true, true, true, true, true, true, true, true, true, true, true, true, false, false, false, false, false, false, false, false, false, false, false] rfl rfl (any_of HT_.out (by kernel_rfl)) (fun _ _ _ h => h) (Or.inl ⟨by rfl, ?_⟩) ?_ ?_
            rotate_left
            ·intro w'
             go_simp
             with_reducible rfl
            rotate_left
            ·simp only [Act.put, List.setIfInBounds_toArray, List.set_cons_zero, List.set_cons_succ, i64_w, i32_w]
             rfl
            refine pure_ (i := 16) (N := some 50) (v := undef) (a' := ?_) #[true, true, true, true, true, true, true, true, true, true, true, true, true, true, true, true, true, false, false, false, false, false, false, false, false, false, false] rfl rfl (any_of HT_.out (by kernel_rfl)) (fun _ _ _ h => h) (Or.inr ⟨by rfl, rfl⟩) ?_ ?_
            rotate_left
            ·simp only [Act.put, List.setIfInBounds_toArray, List.set_cons_zero, List.set_cons_succ, i64_w, i32_w]
             rfl
            refine pure_ (i := 17) (N := some 51) (v := undef) (a' := ?_) #[true, true, true, true, true, true, true, true, true, true, true, true, true, true, true, true, true, true, false, false, false, false, false, false, false, false, false] rfl rfl (any_of HT_.out (by kernel_rfl)) (fun _ _ _ h => h) (Or.inr ⟨by rfl, rfl⟩) ?_ ?_
            rotate_left
            ·simp only [Act.put, List.setIfInBounds_toArray, List.set_cons_zero, List.set_cons_succ, i64_w, i32_w]
             rfl
            refine pure_ (i := 18) (N := some 52) (v := undef) (a' := ?_) #[true, true, true, true, true, true, true, true, true, true, true, true, true, true, true, true, true, true, true, false, false, false, false, false, false, false, false] rfl rfl (any_of HT_.out (by kernel_rfl)) (fun _ _ _ h => h) (Or.inr ⟨by rfl, rfl⟩) ?_ ?_
            rotate_left
            ·simp only [Act.put, List.setIfInBounds_toArray, List.set_cons_zero, List.set_cons_succ, i64_w, i32_w]
             rfl
            refine pure_ (i := 19) (N := some 53) (v := undef) (a' := ?_) #[true, true, true, true, true, true, true, true, true, true, true, true, true, true, true, true, true, true, true, true, false, false, false, false, false, false, false] rfl rfl (any_of HT_.out (by kernel_rfl)) (fun _ _ _ h => h) (Or.inr ⟨by rfl, rfl⟩) ?_ ?_
            rotate_left
            ·simp only [Act.put, List.setIfInBounds_toArray, List.set_cons_zero, List.set_cons_succ, i64_w, i32_w]
             rfl
            refine pure_ (i := 20) (N := some 54) (v := undef) (a' := ?_) #[true, true, true, true, true, true, true, true, true, true, true, true, true, true, true, true, true, true, true, true, true, false, false, false, false, false, false] rfl rfl (any_of HT_.out (by kernel_rfl)) (fun _ _ _ h => h) (Or.inr ⟨by rfl, rfl⟩) ?_ ?_
            rotate_left
            ·simp only [Act.put, List.setIfInBounds_toArray, List.set_cons_zero, List.set_cons_succ, i64_w, i32_w]
             rfl
            refine pure_ (i := 21) (N := some 55) (v := undef) (a' := ?_) #[true, true, true, true, true, true, true, true, true, true, true, true, true, true, true, true, true, true, true, true, true, true, false, false, false, false, false] rfl rfl (any_of HT_.out (by kernel_rfl)) (fun _ _ _ h => h) (Or.inr ⟨by rfl, rfl⟩) ?_ ?_
            rotate_left
            ·simp only [Act.put, List.setIfInBounds_toArray, List.set_cons_zero, List.set_cons_succ, i64_w, i32_w]
             rfl
            refine pure_ (i := 22) (N := some 56) (v := undef) (a' := ?_) #[true, true, true, true, true, true, true, true, true, true, true, true, true, true, true, true, true, true, true, true, true, true, true, false, false, false, false] rfl rfl (any_of HT_.out (by kernel_rfl)) (fun _ _ _ h => h) (Or.inr ⟨by rfl, rfl⟩) ?_ ?_
            rotate_left
            ·simp only [Act.put, List.setIfInBounds_toArray, List.set_cons_zero, List.set_cons_succ, i64_w, i32_w]
             rfl
            refine pure_ (i := 23) (N := some 57) (v := undef) (a' := ?_) #[true, true, true, true, true, true, true, true, true, true, true, true, true, true, true, true, true, true, true, true, true, true, true, true, false, false, false] rfl rfl (any_of HT_.out (by kernel_rfl)) (fun _ _ _ h => h) (Or.inr ⟨by rfl, rfl⟩) ?_ ?_
            rotate_left
            ·simp only [Act.put, List.setIfInBounds_toArray, List.set_cons_zero, List.set_cons_succ, i64_w, i32_w]
             rfl
            refine pure_ (i := 24) (N := some 58) (v := undef) (a' := ?_) #[true, true, true, true, true, true, true, true, true, true, true, true, true, true, true, true, true, true, true, true, true, true, true, true, true, false, false] rfl rfl (any_of HT_.out (by kernel_rfl)) (fun _ _ _ h => h) (Or.inr ⟨by rfl, rfl⟩) ?_ ?_
            rotate_left
            ·simp only [Act.put, List.setIfInBounds_toArray, List.set_cons_zero, List.set_cons_succ, i64_w, i32_w]
             rfl
            refine pure_ (i := 25) (N := some 59) (v := undef) (a' := ?_) #[true, true, true, true, true, true, true, true, true, true, true, true, true, true, true, true, true, true, true, true, true, true, true, true, true, true, false] rfl rfl (any_of HT_.out (by kernel_rfl)) (fun _ _ _ h => h) (Or.inr ⟨by rfl, rfl⟩) ?_ ?_
            rotate_left
            ·simp only [Act.put, List.setIfInBounds_toArray, List.set_cons_zero, List.set_cons_succ, i64_w, i32_w]
             rfl
            refine pure_ (i := 26) (N := some 60) (v := ?_) (a' := ?_) #[true, true, true, true, true, true, true, true, true, true, true, true, true, true, true, true, true, true, true, true, true, true, true, true, true, true, true] rfl rfl (any_of HT_.out (by kernel_rfl)) (fun _ _ _ h => h) (Or.inl ⟨by rfl, ?_⟩) ?_ ?_
            rotate_left
            ·intro w'
             go_simp
             with_reducible rfl
            rotate_left
            ·simp only [Act.put, List.setIfInBounds_toArray, List.set_cons_zero, List.set_cons_succ, i64_w, i32_w]
             rfl
            refine done_ (done_of HT_.out (by kernel_rfl)) ?_
            have hcz79_0 : w77.cell? ⟨gb142, 0, none⟩ = some (.int .i64 x4_2) := (blk_cell BK142.out 0).trans rfl
            have hcz79_1 : w77.cell? ⟨gb142, 1, none⟩ = some (.int .i64 (wrap64 (x4_2 + t136))) := (blk_cell BK142.out 1).trans rfl
            have hcz79_2 : w77.cell? ⟨gb142, 2, none⟩ = some (.int .i64 (wrap64 (1 + t139))) := (blk_cell BK142.out 2).trans rfl
            have hfz79_0 := blk_frozen BK142.out 0
            have hfz79_1 := blk_frozen BK142.out 1
            have hfz79_2 := blk_frozen BK142.out 2
            try go_wp2_with (first | ((with_reducible refine gate_builtin (b := .append) (xs := #[.tmp 66, .tmp 68]) rfl ?_); (try (refine gate_guard (by rfl) ?_; dsimp only)); at_builtin; refine Kd.R_append k41 w.heap.size rfl (.tmp 66) (.tmp 68) 24 41 (.agg #[(.int .i64 0), (.int .i64 0), (.int .i64 0)]) 24 rfl Try.underlying24 info41 rfl (by decide) (by omega) (.slice (some ad143) x3_2.length co78) x3_2 (⟨x4_2, wrap64 (x4_2 + t136), wrap64 (1 + t139)⟩ : S41) [.int .i64 x4_2, .int .i64 (wrap64 (x4_2 + t136)), .int .i64 (wrap64 (1 + t139))] (fun k_ => k_ ≠ gb142) (fun _ => False) rfl rfl ?aP (fun _ hk => hk.elim) ?aF ?aO (Below.refl _ _) ?aS ?aL ?_; (case aP => exact k41_mkM _ _ _ (⟨x4_2, wrap64 (x4_2 + t136), wrap64 (1 + t139)⟩ : S41)); (case aF => exact (fun k_ hk => Kd.freshB (g := gb142) (o := .cells #[.int .i64 x4_2, .int .i64 (wrap64 (x4_2 + t136)), .int .i64 (wrap64 (1 + t139))] 41 (0, 0)) (zbx BK142.out) k_ hk)); (case aO => exact (zRx HO_3.out)); (case aS => exact (keep_size (w := w) (g := g) (row := none) (zKy HK.out GW142.out))); (case aL => have := LMc66.out; omega); intro v164 w80 ho hb hg hat; rw [← Ny163.out] at ho; have n0_ := Aside0.mk (IsS78.grown (IsS78.zF HI0.out NB0_142.out) hg (IsS78.own_ne HI0.out HO_3.out (by decide))); have n1_ := Aside0.mk (Kd.R_over' (zRx HO135.out) (Kd.R_typed (zRx HO_3.out)) (by decide) hg); have n2_ := Aside0.mk (blk_grown (g := gb142) (o := .cells #[.int .i64 x4_2, .int .i64 (wrap64 (x4_2 + t136)), .int .i64 (wrap64 (1 + t139))] 41 (0, 0)) (zbx BK142.out) hg (Kd.R_away HO_3.out (fun _ hk => hk))); have n3_ := Aside0.mk (below_weaken (by first | exact zBz HB.out (IsS78.ge HI0.out) GE142.out | exact zBy HB.out GE142.out) HL.out hb); have n4_ := Aside0.mk (KeepBut.trans (zKy HK.out GW142.out) (KeepBut.of_grown hg g) (Kd.R_base2 HO_3.out)); have n5_ := Aside0.mk (ho); clear HI0; clear HO135; clear BK142; clear HB; clear HK; clear HO_3; have HI0 := n0_; have HO135 := n1_; have BK142 := n2_; have HB := n3_; have HK := n4_; have HO165 := n5_; clear n0_ n1_ n2_ n3_ n4_ n5_; clear ho hb hg hat))
            have n0_ := Aside0.mk (Kd.R_drew HO135.out)
            have n1_ := Aside0.mk (Kd.R_drew HO165.out)
            have n2_ := Aside0.mk (blk_drew BK142.out)
            have n3_ := Aside0.mk (IsS78.drew HI0.out)
            have n4_ := Aside0.mk (keep_drew HK.out)
            have n5_ := Aside0.mk (below_drew1 HB.out)
            clear HO135
            clear HO165
            clear BK142
            clear HI0
            clear HK
            clear HB
            have HO135 := n0_
            have HO165 := n1_
            have BK142 := n2_
            have HI0 := n3_
            have HK := n4_
            have HB := n5_
            clear n0_ n1_ n2_ n3_ n4_ n5_
            refine start_ (n := 7) (S := fun w' => w'.cell? ⟨gb142, 0, none⟩ = some (.int .i64 x4_2) ∧ w'.cell? ⟨gb142, 1, none⟩ = some (.int .i64 (wrap64 (x4_2 + t136))) ∧ w'.cell? ⟨gb142, 2, none⟩ = some (.int .i64 (wrap64 (1 + t139)))) (ds := []) #[false, false, false, false, false, false, false] (by kernel_rfl) rfl rfl ⟨(blk_cell BK142.out 0).trans rfl, (blk_cell BK142.out 1).trans rfl, (blk_cell BK142.out 2).trans rfl⟩ (fun hHeld => ?_)
            generalize w80.drew = w81 at HO135 HO165 BK142 HI0 HK HB hHeld ⊢
            refine pure_ (i := 0) (N := some 70) (v := ?_) (a' := ?_) #[true, false, false, false, false, false, false] rfl rfl (by kernel_rfl) (fun _ _ _ h => h) (Or.inl ⟨by rfl, ?_⟩) ?_ ?_
            rotate_left
            ·intro w'
             go_simp
             with_reducible rfl
            rotate_left
            ·simp only [Act.put, List.setIfInBounds_toArray, List.set_cons_zero, List.set_cons_succ, i64_w, i32_w]
             rfl
            refine pure_ (i := 2) (N := some 72) (v := ?_) (a' := ?_) #[true, false, true, false, false, false, false] rfl rfl (by kernel_rfl) (fun _ _ _ h => h) (Or.inl ⟨by rfl, ?_⟩) ?_ ?_
            rotate_left
            ·intro w'
             go_simp
             with_reducible rfl
            rotate_left
            ·simp only [Act.put, List.setIfInBounds_toArray, List.set_cons_zero, List.set_cons_succ, i64_w, i32_w]
             rfl
            refine take_ (i := 1) (N := some 71) (v := ?_) (a' := ?_) #[true, true, true, false, false, false, false] rfl rfl (by kernel_rfl) (fun _ _ _ h => h) (Or.inl ⟨by rfl, ?_⟩) hHeld ?_ ?_
            rotate_left
            ·rintro w' ⟨s0, s1, s2⟩
             go_simp
             with_reducible rfl
            rotate_left
            ·simp only [Act.put, List.setIfInBounds_toArray, List.set_cons_zero, List.set_cons_succ, i64_w, i32_w]
             rfl
            refine one_ (i := 3) (N := some 73) #[true, true, true, true, false, false, false] rfl rfl (by kernel_rfl) (by decide) (fun K hK => ?_)
            refine Kd.R_lit_step (Kd.int .i64) _ 3 ?hg (N := 73) ?hd (xs := ([0, 0, 1, 5] : List Int)) (inner := [.int .i64 0, .int .i64 0, .int .i64 1, .int .i64 5]) (ok := fun _ => True) (okp := fun _ => True) ?hr ?hp (fun _ hk => hk) trivial (Below.refl _ _) (Nat.le_refl _) (by simp) ?_; (case hd => rfl); (case hg => rfl); (case hr => exact zsx); (case hp => exact (Reps.one (show Kd.M (Kd.int .i64) _ _ _ 0 [.int .i64 0] from rfl) (Reps.one (show Kd.M (Kd.int .i64) _ _ _ 0 [.int .i64 0] from rfl) (Reps.one (show Kd.M (Kd.int .i64) _ _ _ 1 [.int .i64 1] from rfl) (Reps.one (show Kd.M (Kd.int .i64) _ _ _ 5 [.int .i64 5] from rfl) (Reps.none _ _))))))
            intro v167 w82 ho83 hb hg_ hnew_
            clear hg_ hnew_
            (first | rw [← Ny166.out] at ho83 | (simp only [Int.reduceToNat] at ho83; rw [← Ny166.out] at ho83))
            have n0_ := Aside0.mk (Kd.R_elder' (zRx HO135.out) (Kd.R_base ho83) hb)
            have n1_ := Aside0.mk (Kd.R_below (zRx HO165.out) hb)
            have n2_ := Aside0.mk (Kd.R_lower (Kd.R_new' ho83 (Kd.R_lt (zRx HO135.out))) (keep_size (w := w) (g := g) (row := none) (zKy HK.out GW142.out)))
            have n3_ := Aside0.mk (IsS78.below (IsS78.zF HI0.out NB0_142.out) hb)
            have n4_ := Aside0.mk (blk_below (g := gb142) (o := .cells #[.int .i64 x4_2, .int .i64 (wrap64 (x4_2 + t136)), .int .i64 (wrap64 (1 + t139))] 41 (0, 0)) (zbx BK142.out) hb)
            have n5_ := Aside0.mk (KeepBut.trans (zKy HK.out GW142.out) (KeepBut.of_below hb g none) (.inl rfl))
            have n6_ := Aside0.mk (below_step (by first | exact zBz HB.out (IsS78.ge HI0.out) GE142.out | exact zBy HB.out GE142.out) hb)
            clear HO135
            clear HO165
            clear HI0
            clear BK142
            clear HK
            clear HB
            have HO135 := n0_
            have HO165 := n1_
            have HO168 := n2_
            have HI0 := n3_
            have BK142 := n4_
            have HK := n5_
            have HB := n6_
            clear n0_ n1_ n2_ n3_ n4_ n5_ n6_
            clear hb ho83
            obtain ⟨Ao84, co84, eo84⟩ := Kd.R_slice HO168.out
            (first | subst eo84 | (injection eo84 with f1_ f2_ f3_; have f4_ := f1_.symm; have f5_ := f3_.symm; clear f1_ f2_ f3_; subst f4_; subst f5_))
            refine hK.out _ _ ⟨(blk_cell BK142.out 0).trans rfl, (blk_cell BK142.out 1).trans rfl, (blk_cell BK142.out 2).trans rfl⟩ (fun hHeld => ?_)
            clear hK K
            refine norm_ (a' := ?_) ?_ ?_
            rotate_left
            ·show Act.put _ (some 73) _ = _
             simp only [Act.put, List.setIfInBounds_toArray, List.set_cons_zero, List.set_cons_succ, i64_w, i32_w]
             rfl
            refine one_ (i := 4) (N := some 74) #[true, true, true, true, true, false, false] rfl rfl (by kernel_rfl) (by decide) (fun K hK => ?_)
            refine goes_ Try.func67 (by kernel_rfl) rfl #[.pointer (some ⟨g, 0, none⟩), .slice Ao84 y166.length co84] (by rfl) rfl rfl zlx ?_
            with_reducible refine (spec_l1Cur_among.calls g s0_0 t140 t141 _ _ y166 t169 t170 t171 w0 _ ?side1 ?side2 ?side3 ?side4 ?side5 A67.out).mono ?_
            (case side1 => exact IsS78.zJ HI0.out NB0_142.out)
            (case side2 => first | exact zBz HB.out (IsS78.ge HI0.out) GE142.out | exact zBy HB.out GE142.out)
            (case side3 => repeat (first | exact (Kd.R_reads' HO168.out).2.2 | (with_reducible refine Kd.C_alloc ?_ _) | (with_reducible refine Kd.C_drewN ?_ _) | (with_reducible refine Kd.C_drew ?_)))
            (case side4 => exact (Kd.R_reads' HO168.out).2.1)
            (case side5 => exact far_slice (IsS78.own_ne HI0.out HO168.out (by decide)))
            rintro e w85 ⟨rfl, hi, hb, hk⟩
            refine ⟨_, rfl, ?_⟩
            have n0_ := Aside0.mk (Kd.R_mono (Kd.R_keep (IsS78.apart (show IsS78 w0 _ g s0_0 t140 t141 from IsS78.zJ HI0.out NB0_142.out) (zRx HO135.out) (by decide)) hk (fun _ h => h.2)) (fun _ h => h.1))
            have n1_ := Aside0.mk (KeepBut.blk hk (g' := gb142) (o := .cells #[.int .i64 x4_2, .int .i64 (wrap64 (x4_2 + t136)), .int .i64 (wrap64 (1 + t139))] 41 (0, 0)) (zbx BK142.out) NB142_0.out (by simp))
            have n2_ := Aside0.mk (Kd.R_mono (Kd.R_keep (IsS78.apart (show IsS78 w0 _ g s0_0 t140 t141 from IsS78.zJ HI0.out NB0_142.out) (zRx HO165.out) (by decide)) hk (fun _ h => h.2)) (fun _ h => h.1))
            have n3_ := Aside0.mk (Kd.R_mono (Kd.R_keep (IsS78.apart (show IsS78 w0 _ g s0_0 t140 t141 from IsS78.zJ HI0.out NB0_142.out) (zRx HO168.out) (by decide)) hk (fun _ h => h.2)) (fun _ h => h.1))
            have n4_ := Aside0.mk (KeepBut.trans (zKy HK.out GW142.out) hk (.inl rfl))
            have n5_ := Aside0.mk (hb)
            have n6_ := Aside0.mk (hi)
            clear HO135
            clear BK142
            clear HO165
            clear HO168
            clear HK
            clear HB
            clear HI0
            have HO135 := n0_
            have BK142 := n1_
            have HO165 := n2_
            have HO168 := n3_
            have HK := n4_
            have HB := n5_
            have HI0 := n6_
            clear n0_ n1_ n2_ n3_ n4_ n5_ n6_
            (try clear hb)
            (try clear hb2)
            (try clear hk)
            (try clear hi)
            refine hK.out _ _ ⟨(blk_cell BK142.out 0).trans rfl, (blk_cell BK142.out 1).trans rfl, (blk_cell BK142.out 2).trans rfl⟩ (fun hHeld => ?_)
            clear hK K
            refine norm_ (a' := ?_) ?_ ?_
            rotate_left
            ·show Act.put _ (some 74) _ = _
             simp only [Act.put, List.setIfInBounds_toArray, List.set_cons_zero, List.set_cons_succ, i64_w, i32_w]
             rfl
            refine pure_ (i := 5) (N := some 75) (v := ?_) (a' := ?_) #[true, true, true, true, true, true, false] rfl rfl (by kernel_rfl) (fun _ _ _ h => h) (Or.inl ⟨by rfl, ?_⟩) ?_ ?_
            rotate_left
            ·intro w'
             go_simp
             with_reducible rfl
            rotate_left
            ·simp only [Act.put, List.setIfInBounds_toArray, List.set_cons_zero, List.set_cons_succ, i64_w, i32_w]
             rfl
            refine pure_ (i := 6) (N := some 4) (v := ?_) (a' := ?_) #[true, true, true, true, true, true, true] rfl rfl (by kernel_rfl) (fun _ _ _ h => h) (Or.inl ⟨by rfl, ?_⟩) ?_ ?_
            rotate_left
            ·intro w'
             go_simp
             with_reducible rfl
            rotate_left
            ·simp only [Act.put, List.setIfInBounds_toArray, List.set_cons_zero, List.set_cons_succ, i64_w, i32_w]
             rfl
            refine done_ (by kernel_rfl) ?_
            try go_wp2
            go_roundg k2
            case measure => have := HJ4.out; have := HK2.out; omega
            case rel => exact ⟨(y163), (wrap64 ((wrap64 (x4_2 + t136)) + t169)), (wrap64 (x5_2 - 1)), (t170), (t171), zrx, zrx, H', ⟨by have := HJ4.out; have := HK2.out; omega⟩, ⟨by (with_reducible repeat (first | apply Kd.R_alloc | apply Kd.R_drewN | apply Kd.R_drew)); exact Kd.R_mono HO165.out (fun _ hk => trivial)⟩, ⟨by exact IsS78.zJ HI0.out NB0_142.out⟩, ⟨by exact zKy HK.out GW142.out⟩, ⟨by exact zBz HB.out (IsS78.ge HI0.out) GE142.out⟩⟩
          ·rw [if_neg c66] at H
           exact absurd H (by simp)
        ·rw [if_neg c23] at H
         exact absurd H (by simp)
       ·rw [if_neg c22] at H
        exact absurd H (by simp)
      ·rw [if_neg c20] at H
       have c20b0 : decide (0 < (x3_2.length : Int)) = false := decide_eq_false c20
       have c20b1 : decide (0 < x3_2.length) = false := decide_eq_false (by omega)
       clear c20
       by_cases c86 : x3_2.length < 5864062014805
       ·rw [if_pos c86] at H
        have LMc86 := Aside0.mk c86
        clear c86
        obtain ⟨y172, hy172⟩ : ∃ y_ : List (S41), y_ = (x3_2 ++ [(⟨x4_2, wrap64 (x4_2 + t136), wrap64 (1 + t139)⟩ : S41)]) := ⟨_, rfl⟩
        replace H : ((spec_l1Cur_among.f s0_0 t140 t141 (([0, 0, 1, 5] : List Int))).bind fun bt178 => (spec_l1Cur_course.l0 k2 y172 (wrap64 ((wrap64 (x4_2 + t136)) + bt178.1)) (wrap64 (x5_2 - 1)) s0_0 bt178.2.1 bt178.2.2)) = some (r1, r2, r3) := by first | (rw [hy172]; with_reducible exact H) | (have H2_ := (Option.bind_some _ _).symm.trans H; rw [hy172]; with_reducible exact H2_) | (have H2_ := (Option.bind_some _ _).symm.trans H; with_reducible exact H2_) | with_reducible exact H | (rw [hy172]; exact H) | exact H
        have Ny172 := Aside0.mk hy172
        clear hy172
        obtain ⟨y175, hy175⟩ : ∃ y_ : List Int, y_ = (([0, 0, 1, 5] : List Int)) := ⟨_, rfl⟩
        replace H : ((spec_l1Cur_among.f s0_0 t140 t141 y175).bind fun bt178 => (spec_l1Cur_course.l0 k2 y172 (wrap64 ((wrap64 (x4_2 + t136)) + bt178.1)) (wrap64 (x5_2 - 1)) s0_0 bt178.2.1 bt178.2.2)) = some (r1, r2, r3) := by first | (rw [hy175]; with_reducible exact H) | (have H2_ := (Option.bind_some _ _).symm.trans H; rw [hy175]; with_reducible exact H2_) | (have H2_ := (Option.bind_some _ _).symm.trans H; with_reducible exact H2_) | with_reducible exact H | (rw [hy175]; exact H) | exact H
        have Ny175 := Aside0.mk hy175
        clear hy175
        replace H := Option.bind_eq_some_iff.mp H
        obtain ⟨⟨t178, t179, t180⟩, A870, H⟩ := H
        replace H : (spec_l1Cur_course.l0 k2 y172 (wrap64 ((wrap64 (x4_2 + t136)) + t178)) (wrap64 (x5_2 - 1)) s0_0 t179 t180) = some (r1, r2, r3) := H
        have A87 := Aside0.mk A870
        clear A870
        focus
         have H' := Aside0.mk H
         clear H
         try go_wp2_with (first | ((with_reducible refine gate_dst (N := 27) rfl ?_); (try (refine gate_guard (by rfl) ?_; dsimp only)); refine Kd.R_lit (Kd.int .i64) _ 3 ?hg (N := 27) ?hd (xs := ([1, 2, 6, 12] : List Int)) (inner := [.int .i64 1, .int .i64 2, .int .i64 6, .int .i64 12]) (ok := fun _ => True) (okp := fun _ => True) ?hr ?hp (fun _ hk => hk) trivial (Below.refl _ _) (Nat.le_refl _) (by simp) ?_; (case hd => rfl); (case hg => rfl); (case hr => exact zsx); (case hp => exact (Reps.one (show Kd.M (Kd.int .i64) _ _ _ 1 [.int .i64 1] from rfl) (Reps.one (show Kd.M (Kd.int .i64) _ _ _ 2 [.int .i64 2] from rfl) (Reps.one (show Kd.M (Kd.int .i64) _ _ _ 6 [.int .i64 6] from rfl) (Reps.one (show Kd.M (Kd.int .i64) _ _ _ 12 [.int .i64 12] from rfl) (Reps.none _ _)))))); intro v134 w88 ho89 hb hg_ hnew_; clear hg_ hnew_; (first | rw [← Ny133.out] at ho89 | (simp only [Int.reduceToNat] at ho89; rw [← Ny133.out] at ho89)); have n0_ := Aside0.mk (Kd.R_below (zRx HO_3.out) hb); have n1_ := Aside0.mk (Kd.R_lower ho89 (keep_size (w := w) (g := g) (row := none) (zKx HK.out))); have n2_ := Aside0.mk (IsS78.below (IsS78.zI HI0.out) hb); have n3_ := Aside0.mk (KeepBut.trans (zKx HK.out) (KeepBut.of_below hb g none) (.inl rfl)); have n4_ := Aside0.mk (below_step (by first | exact zBy HB.out (IsS78.ge HI0.out) | exact zBx HB.out) hb); clear HO_3; clear HI0; clear HK; clear HB; have HO_3 := n0_; have HO135 := n1_; have HI0 := n2_; have HK := n3_; have HB := n4_; clear n0_ n1_ n2_ n3_ n4_; clear hb ho89; obtain ⟨Ao90, co90, eo90⟩ := Kd.R_slice HO135.out; subst eo90) | ((with_reducible refine gate_callee (f := 67) rfl ?_); refine goesL_ (some 28) rfl rfl Try.func67 (by kernel_rfl) rfl #[.pointer (some ⟨g, 0, none⟩), .slice Ao90 y133.length co90] rfl zlx ?_; (with_reducible refine (spec_l1Cur_among.calls g s0_0 x1001_2 x1002_2 _ _ y133 t136 t137 t138 w0 _ ?side1 ?side2 ?side3 ?side4 ?side5 A18.out).mono ?_); (case side1 => exact IsS78.zI HI0.out); (case side2 => first | exact zBy HB.out (IsS78.ge HI0.out) | exact zBx HB.out); (case side3 => repeat (first | exact (Kd.R_reads' HO135.out).2.2 | (with_reducible refine Kd.C_alloc ?_ _) | (with_reducible refine Kd.C_drewN ?_ _) | (with_reducible refine Kd.C_drew ?_))); (case side4 => exact (Kd.R_reads' HO135.out).2.1); (case side5 => exact far_slice (IsS78.own_ne HI0.out HO135.out (by decide))); rintro e w91 ⟨rfl, hi, hb, hk⟩; refine ⟨_, rfl, ?_⟩; have n0_ := Aside0.mk (Kd.R_mono (Kd.R_keep (IsS78.apart (show IsS78 w0 _ g s0_0 x1001_2 x1002_2 from IsS78.zI HI0.out) (zRx HO_3.out) (by decide)) hk (fun _ h => h.2)) (fun _ h => h.1)); have n1_ := Aside0.mk (Kd.R_mono (Kd.R_keep (IsS78.apart (show IsS78 w0 _ g s0_0 x1001_2 x1002_2 from IsS78.zI HI0.out) (zRx HO135.out) (by decide)) hk (fun _ h => h.2)) (fun _ h => h.1)); have n2_ := Aside0.mk (KeepBut.trans (zKx HK.out) hk (.inl rfl)); have n3_ := Aside0.mk (hb); have n4_ := Aside0.mk (hi); clear HO_3; clear HO135; clear HK; clear HB; clear HI0; have HO_3 := n0_; have HO135 := n1_; have HK := n2_; have HB := n3_; have HI0 := n4_; clear n0_ n1_ n2_ n3_ n4_; (try clear hb); (try clear hb2); (try clear hk); (try clear hi)) | ((with_reducible refine gate_callee (f := 72) rfl ?_); refine goesL_ (some 31) rfl rfl Try.func72 (by kernel_rfl) rfl #[.pointer (some ⟨g, 0, none⟩), .int .i64 3] rfl zlx ?_; (with_reducible refine (spec_l1Cur_pick.calls g s0_0 t137 t138 3 t139 t140 t141 w0 _ ?side1 ?side2 A19.out).mono ?_); (case side1 => exact IsS78.zI HI0.out); (case side2 => first | exact zBy HB.out (IsS78.ge HI0.out) | exact zBx HB.out); rintro e w92 ⟨rfl, hi, hb, hk⟩; refine ⟨_, rfl, ?_⟩; have n0_ := Aside0.mk (Kd.R_mono (Kd.R_keep (IsS78.apart (show IsS78 w0 _ g s0_0 t137 t138 from IsS78.zI HI0.out) (zRx HO_3.out) (by decide)) hk (fun _ h => h.2)) (fun _ h => h.1)); have n1_ := Aside0.mk (Kd.R_mono (Kd.R_keep (IsS78.apart (show IsS78 w0 _ g s0_0 t137 t138 from IsS78.zI HI0.out) (zRx HO135.out) (by decide)) hk (fun _ h => h.2)) (fun _ h => h.1)); have n2_ := Aside0.mk (KeepBut.trans (zKx HK.out) hk (.inl rfl)); have n3_ := Aside0.mk (hb); have n4_ := Aside0.mk (hi); clear HO_3; clear HO135; clear HK; clear HB; clear HI0; have HO_3 := n0_; have HO135 := n1_; have HK := n2_; have HB := n3_; have HI0 := n4_; clear n0_ n1_ n2_ n3_ n4_; (try clear hb); (try clear hb2); (try clear hk); (try clear hi)) | ((with_reducible refine gate_dst (N := 6) rfl ?_); (try (refine gate_guard (by rfl) ?_; dsimp only)); refine box_event ?hg (N := 6) ?hd (cs := #[.int .i64 0, .int .i64 0, .int .i64 0]) (t := 41) ?hr ?_; (case hd => rfl); (case hg => rfl); (case hr => exact zsx); intro gb142 hg w93 hbox hb; have n0_ := Aside0.mk (Kd.R_below (Kd.R_elderB (zRx HO_3.out) gb142 (Nat.le_of_eq hg.symm)) hb); have n1_ := Aside0.mk (Kd.R_below (zRx HO135.out) hb); have n2_ := Aside0.mk (IsS78.below (IsS78.zI HI0.out) hb); have n3_ := Aside0.mk (KeepBut.trans (zKx HK.out) (KeepBut.of_below hb g none) (.inl rfl)); have n4_ := Aside0.mk (below_step (by first | exact zBy HB.out (IsS78.ge HI0.out) | exact zBx HB.out) hb); have n5_ := Aside0.mk (hbox); have n6_ := Aside0.mk ((by rw [hg]; exact (keep_size (w := w) (g := g) (row := none) (zKx HK.out)) : w.heap.size ≤ gb142)); have n7_ := Aside0.mk ((Nat.le_trans HW0.out (by rw [hg]; exact (keep_size (w := w) (g := g) (row := none) (zKx HK.out)) : w.heap.size ≤ gb142) : w0.heap.size ≤ gb142)); have n8_ := Aside0.mk ((by rw [hg]; exact Nat.ne_of_lt (IsS78.lt (show IsS78 w0 _ g s0_0 t140 t141 from IsS78.zI HI0.out)) : g ≠ gb142)); have n9_ := Aside0.mk ((by rw [hg]; exact Nat.ne_of_gt (IsS78.lt (show IsS78 w0 _ g s0_0 t140 t141 from IsS78.zI HI0.out)) : gb142 ≠ g)); clear HO_3; clear HO135; clear HI0; clear HK; clear HB; have HO_3 := n0_; have HO135 := n1_; have HI0 := n2_; have HK := n3_; have HB := n4_; have BK142 := n5_; have GW142 := n6_; have GE142 := n7_; have NB0_142 := n8_; have NB142_0 := n9_; clear n0_ n1_ n2_ n3_ n4_ n5_ n6_ n7_ n8_ n9_; clear hb hbox hg; have hnb94 := NB142_0.out; have hnc94 := NB0_142.out; have hcz95_0 : w93.cell? ⟨gb142, 0, none⟩ = some (.int .i64 0) := (blk_cell BK142.out 0).trans rfl; have hcz95_1 : w93.cell? ⟨gb142, 1, none⟩ = some (.int .i64 0) := (blk_cell BK142.out 1).trans rfl; have hcz95_2 : w93.cell? ⟨gb142, 2, none⟩ = some (.int .i64 0) := (blk_cell BK142.out 2).trans rfl; have hfz95_0 := blk_frozen BK142.out 0; have hfz95_1 := blk_frozen BK142.out 1; have hfz95_2 := blk_frozen BK142.out 2))
         have n0_ : Aside0 (Kd.R k41 41 (((w93.setCell ⟨gb142, 0, none⟩ (.int .i64 x4_2)).setCell ⟨gb142, 1, none⟩ (.int .i64 (wrap64 (x4_2 + t136)))).setCell ⟨gb142, 2, none⟩ (.int .i64 (wrap64 (1 + t139)))) w.heap.size (fun k_ => k_ ≠ gb142) u3 x3_2) := ⟨by (with_reducible repeat (first | apply Kd.R_alloc | apply Kd.R_drewN | apply Kd.R_drew)); exact Kd.R_mono (Kd.R_far (p := ⟨gb142, 2, none⟩) (Kd.R_far (p := ⟨gb142, 1, none⟩) (Kd.R_far (p := ⟨gb142, 0, none⟩) (Kd.R_mono HO_3.out (fun k_ hk => (⟨hk, hk.2⟩ : _ ∧ k_ ≠ gb142))) (fun _ hk => hk.2) (.int .i64 x4_2)) (fun _ hk => hk.2) (.int .i64 (wrap64 (x4_2 + t136)))) (fun _ hk => hk.2) (.int .i64 (wrap64 (1 + t139)))) (fun _ hk => hk.1.2)⟩
         have n1_ : Aside0 (Kd.R (Kd.int .i64) 3 (((w93.setCell ⟨gb142, 0, none⟩ (.int .i64 x4_2)).setCell ⟨gb142, 1, none⟩ (.int .i64 (wrap64 (x4_2 + t136)))).setCell ⟨gb142, 2, none⟩ (.int .i64 (wrap64 (1 + t139)))) w.heap.size (fun _ => True) (.slice Ao90 y133.length co90) y133) := ⟨by (with_reducible repeat (first | apply Kd.R_alloc | apply Kd.R_drewN | apply Kd.R_drew)); exact Kd.R_mono (Kd.R_far (p := ⟨gb142, 2, none⟩) (Kd.R_far (p := ⟨gb142, 1, none⟩) (Kd.R_far (p := ⟨gb142, 0, none⟩) (Kd.R_types HO135.out BK142.out (by decide)) (fun _ hk => hk.2) (.int .i64 x4_2)) (fun _ hk => hk.2) (.int .i64 (wrap64 (x4_2 + t136)))) (fun _ hk => hk.2) (.int .i64 (wrap64 (1 + t139)))) (fun _ hk => trivial)⟩
         have n2_ : Aside0 ((((w93.setCell ⟨gb142, 0, none⟩ (.int .i64 x4_2)).setCell ⟨gb142, 1, none⟩ (.int .i64 (wrap64 (x4_2 + t136)))).setCell ⟨gb142, 2, none⟩ (.int .i64 (wrap64 (1 + t139)))).heap[gb142]? = some (.cells #[.int .i64 x4_2, .int .i64 (wrap64 (x4_2 + t136)), .int .i64 (wrap64 (1 + t139))] 41 (0, 0))) := ⟨by (with_reducible repeat (first | refine blk_drewN ?_ _ | refine blk_drew ?_ | refine blk_alloc ?_ _)); refine blk_put (cs := #[.int .i64 x4_2, .int .i64 (wrap64 (x4_2 + t136)), .int .i64 0]) ?_ 2 _ rfl; (with_reducible repeat (first | refine blk_drewN ?_ _ | refine blk_drew ?_ | refine blk_alloc ?_ _)); refine blk_put (cs := #[.int .i64 x4_2, .int .i64 0, .int .i64 0]) ?_ 1 _ rfl; (with_reducible repeat (first | refine blk_drewN ?_ _ | refine blk_drew ?_ | refine blk_alloc ?_ _)); refine blk_put (cs := #[.int .i64 0, .int .i64 0, .int .i64 0]) ?_ 0 _ rfl; (with_reducible repeat (first | refine blk_drewN ?_ _ | refine blk_drew ?_ | refine blk_alloc ?_ _)); exact BK142.out⟩
         have n3_ : Aside0 (IsS78 w0 (((w93.setCell ⟨gb142, 0, none⟩ (.int .i64 x4_2)).setCell ⟨gb142, 1, none⟩ (.int .i64 (wrap64 (x4_2 + t136)))).setCell ⟨gb142, 2, none⟩ (.int .i64 (wrap64 (1 + t139)))) g s0_0 t140 t141) := ⟨by exact IsS78.zJ HI0.out NB0_142.out⟩
         have n4_ : Aside0 (KeepBut w (((w93.setCell ⟨gb142, 0, none⟩ (.int .i64 x4_2)).setCell ⟨gb142, 1, none⟩ (.int .i64 (wrap64 (x4_2 + t136)))).setCell ⟨gb142, 2, none⟩ (.int .i64 (wrap64 (1 + t139)))) g none) := ⟨by exact zKy HK.out GW142.out⟩
         have n5_ : Aside0 (Below w0.heap.size w0 (((w93.setCell ⟨gb142, 0, none⟩ (.int .i64 x4_2)).setCell ⟨gb142, 1, none⟩ (.int .i64 (wrap64 (x4_2 + t136)))).setCell ⟨gb142, 2, none⟩ (.int .i64 (wrap64 (1 + t139))))) := ⟨by exact zBz HB.out (IsS78.ge HI0.out) GE142.out⟩
         (try clear HO_3)
         (try clear HO135)
         (try clear BK142)
         (try clear HI0)
         (try clear HK)
         (try clear HB)
         generalize (((w93.setCell ⟨gb142, 0, none⟩ (.int .i64 x4_2)).setCell ⟨gb142, 1, none⟩ (.int .i64 (wrap64 (x4_2 + t136)))).setCell ⟨gb142, 2, none⟩ (.int .i64 (wrap64 (1 + t139)))) = w96 at n0_ n1_ n2_ n3_ n4_ n5_ ⊢
         have HO_3 := n0_
         have HO135 := n1_
         have BK142 := n2_
         have HI0 := n3_
         have HK := n4_
         have HB := n5_
         clear n0_ n1_ n2_ n3_ n4_ n5_
         have n0_ := Aside0.mk (Kd.R_drew HO_3.out)
         have n1_ := Aside0.mk (Kd.R_drew HO135.out)
         have n2_ := Aside0.mk (blk_drew BK142.out)
         have n3_ := Aside0.mk (IsS78.drew HI0.out)
         have n4_ := Aside0.mk (keep_drew HK.out)
         have n5_ := Aside0.mk (below_drew1 HB.out)
         clear HO_3
         clear HO135
         clear BK142
         clear HI0
         clear HK
         clear HB
         have HO_3 := n0_
         have HO135 := n1_
         have BK142 := n2_
         have HI0 := n3_
         have HK := n4_
         have HB := n5_
         clear n0_ n1_ n2_ n3_ n4_ n5_
         obtain ⟨Ao98, co98, eo98⟩ := Kd.R_slice HO_3.out
         (first | subst eo98 | (injection eo98 with f1_ f2_ f3_; have f4_ := f1_.symm; have f5_ := f3_.symm; clear f1_ f2_ f3_; subst f4_; subst f5_))
         refine start_ (n := 27) (S := fun w' => True) (ds := []) #[false, false, false, false, false, false, false, false, false, false, false, false, false, false, false, false, false, false, false, false, false, false, false, false, false, false, false] (by kernel_rfl) rfl rfl trivial (fun hHeld => ?_); refine with_tabW spec_l1Cur_course.tab9 spec_l1Cur_course.bits9 (fun HT_ HW_ => ?_)
         generalize w96.drew = w97 at HO_3 HO135 BK142 HI0 HK HB hHeld ⊢
         refine pure_ (i := 0) (N := some 34) (v := ?_) (a' := ?_) #[true, false, false, false, false, false, false, false, false, false, false, false, false, false, false, false, false, false, false, false, false, false, false, false, false, false, false] rfl rfl (any_of HT_.out (by kernel_rfl)) (fun _ _ _ h => h) (Or.inl ⟨by rfl, ?_⟩) ?_ ?_
         rotate_left
         ·intro w'
          go_simp
          with_reducible rfl
         rotate_left
         ·simp only [Act.put, List.setIfInBounds_toArray, List.set_cons_zero, List.set_cons_succ, i64_w, i32_w]
          rfl
         refine pure_ (i := 1) (N := some 35) (v := ?_) (a' := ?_) #[true, true, false, false, false, false, false, false, false, false, false, false, false, false, false, false, false, false, false, false, false, false, false, false, false, false, false] rfl rfl (any_of HT_.out (by kernel_rfl)) (fun _ _ _ h => h) (Or.inl ⟨by rfl, ?_⟩) ?_ ?_
         rotate_left
         ·intro w'
          go_simp
          with_reducible rfl
         rotate_left
         ·simp only [Act.put, List.setIfInBounds_toArray, List.set_cons_zero, List.set_cons_succ, i64_w, i32_w]
          rfl
         refine pure_ (i := 2) (N := some 36) (v := ?_) (a' := ?_) #[true, true, true, false, false, false, false, false, false, false, false, false, false, false, false, false, false, false, false, false, false, false, false, false, false, false, false] rfl rfl (any_of HT_.out (by kernel_rfl)) (fun _ _ _ h => h) (Or.inl ⟨by rfl, ?_⟩) ?_ ?_
         rotate_left
         ·intro w'
          go_simp
          with_reducible rfl
         rotate_left
         ·simp only [Act.put, List.setIfInBounds_toArray, List.set_cons_zero, List.set_cons_succ, i64_w, i32_w]
          rfl
         refine pure_ (i := 3) (N := some 37) (v := ?_) (a' := ?_) #[true, true, true, true, false, false, false, false, false, false, false, false, false, false, false, false, false, false, false, false, false, false, false, false, false, false, false] rfl rfl (any_of HT_.out (by kernel_rfl)) (fun _ _ _ h => h) (Or.inl ⟨by rfl, ?_⟩) ?_ ?_
         rotate_left
         ·intro w'
          go_simp
          with_reducible rfl
         rotate_left
         ·simp only [Act.put, List.setIfInBounds_toArray, List.set_cons_zero, List.set_cons_succ, i64_w, i32_w]
          rfl
         refine pure_ (i := 4) (N := some 38) (v := undef) (a' := ?_) #[true, true, true, true, true, false, false, false, false, false, false, false, false, false, false, false, false, false, false, false, false, false, false, false, false, false, false] rfl rfl (any_of HT_.out (by kernel_rfl)) (fun _ _ _ h => h) (Or.inr ⟨by rfl, rfl⟩) ?_ ?_
         rotate_left
         ·simp only [Act.put, List.setIfInBounds_toArray, List.set_cons_zero, List.set_cons_succ, i64_w, i32_w]
          rfl
         refine pure_ (i := 5) (N := some 39) (v := undef) (a' := ?_) #[true, true, true, true, true, true, false, false, false, false, false, false, false, false, false, false, false, false, false, false, false, false, false, false, false, false, false] rfl rfl (any_of HT_.out (by kernel_rfl)) (fun _ _ _ h => h) (Or.inr ⟨by rfl, rfl⟩) ?_ ?_
         rotate_left
         ·simp only [Act.put, List.setIfInBounds_toArray, List.set_cons_zero, List.set_cons_succ, i64_w, i32_w]
          rfl
         refine pure_ (i := 6) (N := some 40) (v := undef) (a' := ?_) #[true, true, true, true, true, true, true, false, false, false, false, false, false, false, false, false, false, false, false, false, false, false, false, false, false, false, false] rfl rfl (any_of HT_.out (by kernel_rfl)) (fun _ _ _ h => h) (Or.inr ⟨by rfl, rfl⟩) ?_ ?_
         rotate_left
         ·simp only [Act.put, List.setIfInBounds_toArray, List.set_cons_zero, List.set_cons_succ, i64_w, i32_w]
          rfl
         refine pure_ (i := 7) (N := some 41) (v := undef) (a' := ?_) #[true, true, true, true, true, true, true, true, false, false, false, false, false, false, false, false, false, false, false, false, false, false, false, false, false, false, false] rfl rfl (any_of HT_.out (by kernel_rfl)) (fun _ _ _ h => h) (Or.inr ⟨by rfl, rfl⟩) ?_ ?_
         rotate_left
         ·simp only [Act.put, List.setIfInBounds_toArray, List.set_cons_zero, List.set_cons_succ, i64_w, i32_w]
          rfl
         refine pure_ (i := 8) (N := some 42) (v := undef) (a' := ?_) #[true, true, true, true, true, true, true, true, true, false, false, false, false, false, false, false, false, false, false, false, false, false, false, false, false, false, false] rfl rfl (any_of HT_.out (by kernel_rfl)) (fun _ _ _ h => h) (Or.inr ⟨by rfl, rfl⟩) ?_ ?_
         rotate_left
         ·simp only [Act.put, List.setIfInBounds_toArray, List.set_cons_zero, List.set_cons_succ, i64_w, i32_w]
          rfl
         refine pure_ (i := 9) (N := some 43) (v := undef) (a' := ?_) #[true, true, true, true, true, true, true, true, true, true, false, false, false, false, false, false, false, false, false, false, false, false, false, false, false, false, false] rfl rfl (any_of HT_.out (by kernel_rfl)) (fun _ _ _ h => h) (Or.inr ⟨by rfl, rfl⟩) ?_ ?_
         rotate_left
         ·simp only [Act.put, List.setIfInBounds_toArray, List.set_cons_zero, List.set_cons_succ, i64_w, i32_w]
          rfl
         refine pure_ (i := 10) (N := some 44) (v := undef) (a' := ?_) #[true, true, true, true, true, true, true, true, true, true, true, false, false, false, false, false, false, false, false, false, false, false, false, false, false, false, false] rfl rfl (any_of HT_.out (by kernel_rfl)) (fun _ _ _ h => h) (Or.inr ⟨by rfl, rfl⟩) ?_ ?_
         rotate_left
         ·simp only [Act.put, List.setIfInBounds_toArray, List.set_cons_zero, List.set_cons_succ, i64_w, i32_w]
          rfl
         refine pure_ (i := 11) (N := some 45) (v := undef) (a' := ?_) #[true, true, true, true, true, true, true, true, true, true, true, true, false, false, false, false, false, false, false, false, false, false, false, false, false, false, false] rfl rfl (any_of HT_.out (by kernel_rfl)) (fun _ _ _ h => h) (Or.inr ⟨by rfl, rfl⟩) ?_ ?_
         rotate_left
         ·simp only [Act.put, List.setIfInBounds_toArray, List.set_cons_zero, List.set_cons_succ, i64_w, i32_w]
          rfl
         refine pure_ (i := 12) (N := some 46) (v := undef) (a' := ?_) #[true, true, true, true, true, true, true, true, true, true, true, true, true, false, false, false, false, false, false, false, false, false, false, false, false, false, false] rfl rfl (any_of HT_.out (by kernel_rfl)) (fun _ _ _ h => h) (Or.inr ⟨by rfl, rfl⟩) ?_ ?_
         rotate_left
         ·simp only [Act.put, List.setIfInBounds_toArray, List.set_cons_zero, List.set_cons_succ, i64_w, i32_w]
          rfl
         refine pure_ (i := 13) (N := some 47) (v := undef) (a' := ?_) #[true, true, true, true, true, true, true, true, true, true, true, true, true, true, false, false, false, false, false, false, false, false, false, false, false, false, false] rfl rfl (any_of HT_.out (by kernel_rfl)) (fun _ _ _ h => h) (Or.inr ⟨by rfl, rfl⟩) ?_ ?_
         rotate_left
         ·simp only [Act.put, List.setIfInBounds_toArray, List.set_cons_zero, List.set_cons_succ, i64_w, i32_w]
          rfl
         refine pure_ (i := 14) (N := some 48) (v := ?_) (a' := ?_) #[true, true, true, true, true, true, true, true, true, true, true, true, true, true, true, false, false, false, false, false, false, false, false, false, false, false, false] rfl rfl (any_of HT_.out (by kernel_rfl)) (fun _ _ _ h => h) (Or.inl ⟨by rfl, ?_⟩) ?_ ?_
         rotate_left
         ·intro w'
          go_simp
          with_reducible rfl
         rotate_left
         ·simp only [Act.put, List.setIfInBounds_toArray, List.set_cons_zero, List.set_cons_succ, i64_w, i32_w]
          rfl
         refine pure_ (i := 15) (N := some 49) (v := ?_) (a' := ?_) #[true, true, true, true, true, true, true, true, true, true, true, true, true, true, true, true, false, false, false, false, false, false, false, false, false, false, false] rfl rfl (any_of HT_.out (by kernel_rfl)) (fun _ _ _ h => h) (Or.inl ⟨by rfl, ?_⟩) ?_ ?_
         rotate_left
         ·intro w'
          go_simp
          with_reducible rfl
         rotate_left
         ·simp only [Act.put, List.setIfInBounds_toArray, List.set_cons_zero, List.set_cons_succ, i64_w, i32_w]
          rfl
         refine pure_ (i := 16) (N := some 50) (v := undef) (a' := ?_) #[true, true, true, true, true, true, true, true, true, true, true, true, true, true, true, true, true, false, false, false, false, false, false, false, false, false, false] rfl rfl (any_of HT_.out (by kernel_rfl)) (fun _ _ _ h => h) (Or.inr ⟨by rfl, rfl⟩) ?_ ?_
         rotate_left
         ·simp only [Act.put, List.setIfInBounds_toArray, List.set_cons_zero, List.set_cons_succ, i64_w, i32_w]
          rfl
         refine pure_ (i := 17) (N := some 51) (v := undef) (a' := ?_) #[true, true, true, true, true, true, true, true, true, true, true, true, true, true, true, true, true, true, false, false, false, false, false, false, false, false, false] rfl rfl (any_of HT_.out (by kernel_rfl)) (fun _ _ _ h => h) (Or.inr ⟨by rfl, rfl⟩) ?_ ?_
         rotate_left
         ·simp only [Act.put, List.setIfInBounds_toArray, List.set_cons_zero, List.set_cons_succ, i64_w, i32_w]
          rfl
         refine pure_ (i := 18) (N := some 52) (v := undef) (a' := ?_) #[true, true, true, true, true, true, true, true, true, true, true, true, true, true, true, true, true, true, true, false, false, false, false, false, false, false, false] rfl rfl (any_of HT_.out (by kernel_rfl)) (fun _ _ _ h => h) (Or.inr ⟨by rfl, rfl⟩) ?_ ?_
         rotate_left
         ·simp only [Act.put, List.setIfInBounds_toArray, List.set_cons_zero, List.set_cons_succ, i64_w, i32_w]
          rfl
         refine pure_ (i := 19) (N := some 53) (v := undef) (a' := ?_) #[true, true, true, true, true, true, true, true, true, true, true, true, true, true, true, true, true, true, true, true, false, false, false, false, false, false, false] rfl rfl (any_of HT_.out (by kernel_rfl)) (fun _ _ _ h => h) (Or.inr ⟨by rfl, rfl⟩) ?_ ?_
         rotate_left
         ·simp only [Act.put, List.setIfInBounds_toArray, List.set_cons_zero, List.set_cons_succ, i64_w, i32_w]
          rfl
         refine pure_ (i := 20) (N := some 54) (v := undef) (a' := ?_) #[true, true, true, true, true, true, true, true, true, true, true, true, true, true, true, true, true, true, true, true, true, false, false, false, false, false, false] rfl rfl (any_of HT_.out (by kernel_rfl)) (fun _ _ _ h => h) (Or.inr ⟨by rfl, rfl⟩) ?_ ?_
         rotate_left
         ·simp only [Act.put, List.setIfInBounds_toArray, List.set_cons_zero, List.set_cons_succ, i64_w, i32_w]
          rfl
         refine pure_ (i := 21) (N := some 55) (v := undef) (a' := ?_) #[true, true, true, true, true, true, true, true, true, true, true, true, true, true, true, true, true, true, true, true, true, true, false, false, false, false, false] rfl rfl (any_of HT_.out (by kernel_rfl)) (fun _ _ _ h => h) (Or.inr ⟨by rfl, rfl⟩) ?_ ?_
         rotate_left
         ·simp only [Act.put, List.setIfInBounds_toArray, List.set_cons_zero, List.set_cons_succ, i64_w, i32_w]
          rfl
         refine pure_ (i := 22) (N := some 56) (v := undef) (a' := ?_) #[true, true, true, true, true, true, true, true, true, true, true, true, true, true, true, true, true, true, true, true, true, true, true, false, false, false, false] rfl rfl (any_of HT_.out (by kernel_rfl)) (fun _ _ _ h => h) (Or.inr ⟨by rfl, rfl⟩) ?_ ?_
         rotate_left
         ·simp only [Act.put, List.setIfInBounds_toArray, List.set_cons_zero, List.set_cons_succ, i64_w, i32_w]
          rfl
         refine pure_ (i := 23) (N := some 57) (v := undef) (a' := ?_) #[true, true, true, true, true, true, true, true, true, true, true, true, true, true, true, true, true, true, true, true, true, true, true, true, false, false, false] rfl rfl (any_of HT_.out (by kernel_rfl)) (fun _ _ _ h => h) (Or.inr ⟨by rfl, rfl⟩) ?_ ?_
         rotate_left
         ·simp only [Act.put, List.setIfInBounds_toArray, List.set_cons_zero, List.set_cons_succ, i64_w, i32_w]
          rfl
         refine pure_ (i := 24) (N := some 58) (v := undef) (a' := ?_) #[true, true, true, true, true, true, true, true, true, true, true, true, true, true, true, true, true, true, true, true, true, true, true, true, true, false, false] rfl rfl (any_of HT_.out (by kernel_rfl)) (fun _ _ _ h => h) (Or.inr ⟨by rfl, rfl⟩) ?_ ?_
         rotate_left
         ·simp only [Act.put, List.setIfInBounds_toArray, List.set_cons_zero, List.set_cons_succ, i64_w, i32_w]
          rfl
         refine pure_ (i := 25) (N := some 59) (v := undef) (a' := ?_) #[true, true, true, true, true, true, true, true, true, true, true, true, true, true, true, true, true, true, true, true, true, true, true, true, true, true, false] rfl rfl (any_of HT_.out (by kernel_rfl)) (fun _ _ _ h => h) (Or.inr ⟨by rfl, rfl⟩) ?_ ?_
         rotate_left
         ·simp only [Act.put, List.setIfInBounds_toArray, List.set_cons_zero, List.set_cons_succ, i64_w, i32_w]
          rfl
         refine pure_ (i := 26) (N := some 60) (v := ?_) (a' := ?_) #[true, true, true, true, true, true, true, true, true, true, true, true, true, true, true, true, true, true, true, true, true, true, true, true, true, true, true] rfl rfl (any_of HT_.out (by kernel_rfl)) (fun _ _ _ h => h) (Or.inl ⟨by rfl, ?_⟩) ?_ ?_
         rotate_left
         ·intro w'
          go_simp
          with_reducible rfl
         rotate_left
         ·simp only [Act.put, List.setIfInBounds_toArray, List.set_cons_zero, List.set_cons_succ, i64_w, i32_w]
          rfl
         refine done_ (done_of HT_.out (by kernel_rfl)) ?_
         have hcz99_0 : w97.cell? ⟨gb142, 0, none⟩ = some (.int .i64 x4_2) := (blk_cell BK142.out 0).trans rfl
         have hcz99_1 : w97.cell? ⟨gb142, 1, none⟩ = some (.int .i64 (wrap64 (x4_2 + t136))) := (blk_cell BK142.out 1).trans rfl
         have hcz99_2 : w97.cell? ⟨gb142, 2, none⟩ = some (.int .i64 (wrap64 (1 + t139))) := (blk_cell BK142.out 2).trans rfl
         have hfz99_0 := blk_frozen BK142.out 0
         have hfz99_1 := blk_frozen BK142.out 1
         have hfz99_2 := blk_frozen BK142.out 2
         try go_wp2_with (first | ((with_reducible refine gate_builtin (b := .append) (xs := #[.tmp 66, .tmp 68]) rfl ?_); (try (refine gate_guard (by rfl) ?_; dsimp only)); at_builtin; refine Kd.R_append k41 w.heap.size rfl (.tmp 66) (.tmp 68) 24 41 (.agg #[(.int .i64 0), (.int .i64 0), (.int .i64 0)]) 24 rfl Try.underlying24 info41 rfl (by decide) (by omega) (.slice Ao98 x3_2.length co98) x3_2 (⟨x4_2, wrap64 (x4_2 + t136), wrap64 (1 + t139)⟩ : S41) [.int .i64 x4_2, .int .i64 (wrap64 (x4_2 + t136)), .int .i64 (wrap64 (1 + t139))] (fun k_ => k_ ≠ gb142) (fun _ => False) rfl rfl ?aP (fun _ hk => hk.elim) ?aF ?aO (Below.refl _ _) ?aS ?aL ?_; (case aP => exact k41_mkM _ _ _ (⟨x4_2, wrap64 (x4_2 + t136), wrap64 (1 + t139)⟩ : S41)); (case aF => exact (fun k_ hk => Kd.freshB (g := gb142) (o := .cells #[.int .i64 x4_2, .int .i64 (wrap64 (x4_2 + t136)), .int .i64 (wrap64 (1 + t139))] 41 (0, 0)) (zbx BK142.out) k_ hk)); (case aO => exact (zRx HO_3.out)); (case aS => exact (keep_size (w := w) (g := g) (row := none) (zKy HK.out GW142.out))); (case aL => have := LMc86.out; omega); intro v173 w100 ho hb hg hat; rw [← Ny172.out] at ho; have n0_ := Aside0.mk (IsS78.grown (IsS78.zF HI0.out NB0_142.out) hg (IsS78.own_ne HI0.out HO_3.out (by decide))); have n1_ := Aside0.mk (Kd.R_over' (zRx HO135.out) (Kd.R_typed (zRx HO_3.out)) (by decide) hg); have n2_ := Aside0.mk (blk_grown (g := gb142) (o := .cells #[.int .i64 x4_2, .int .i64 (wrap64 (x4_2 + t136)), .int .i64 (wrap64 (1 + t139))] 41 (0, 0)) (zbx BK142.out) hg (Kd.R_away HO_3.out (fun _ hk => hk))); have n3_ := Aside0.mk (below_weaken (by first | exact zBz HB.out (IsS78.ge HI0.out) GE142.out | exact zBy HB.out GE142.out) HL.out hb); have n4_ := Aside0.mk (KeepBut.trans (zKy HK.out GW142.out) (KeepBut.of_grown hg g) (Kd.R_base2 HO_3.out)); have n5_ := Aside0.mk (ho); clear HI0; clear HO135; clear BK142; clear HB; clear HK; clear HO_3; have HI0 := n0_; have HO135 := n1_; have BK142 := n2_; have HB := n3_; have HK := n4_; have HO174 := n5_; clear n0_ n1_ n2_ n3_ n4_ n5_; clear ho hb hg hat))
         have n0_ := Aside0.mk (Kd.R_drew HO135.out)
         have n1_ := Aside0.mk (Kd.R_drew HO174.out)
         have n2_ := Aside0.mk (blk_drew BK142.out)
         have n3_ := Aside0.mk (IsS78.drew HI0.out)
         have n4_ := Aside0.mk (keep_drew HK.out)
         have n5_ := Aside0.mk (below_drew1 HB.out)
         clear HO135
         clear HO174
         clear BK142
         clear HI0
         clear HK
         clear HB
         have HO135 := n0_
         have HO174 := n1_
         have BK142 := n2_
         have HI0 := n3_
         have HK := n4_
         have HB := n5_
         clear n0_ n1_ n2_ n3_ n4_ n5_
         refine start_ (n := 7) (S := fun w' => w'.cell? ⟨gb142, 0, none⟩ = some (.int .i64 x4_2) ∧ w'.cell? ⟨gb142, 1, none⟩ = some (.int .i64 (wrap64 (x4_2 + t136))) ∧ w'.cell? ⟨gb142, 2, none⟩ = some (.int .i64 (wrap64 (1 + t139)))) (ds := []) #[false, false, false, false, false, false, false] (by kernel_rfl) rfl rfl ⟨(blk_cell BK142.out 0).trans rfl, (blk_cell BK142.out 1).trans rfl, (blk_cell BK142.out 2).trans rfl⟩ (fun hHeld => ?_)
         generalize w100.drew = w101 at HO135 HO174 BK142 HI0 HK HB hHeld ⊢
         refine pure_ (i := 0) (N := some 70) (v := ?_) (a' := ?_) #[true, false, false, false, false, false, false] rfl rfl (by kernel_rfl) (fun _ _ _ h => h) (Or.inl ⟨by rfl, ?_⟩) ?_ ?_
         rotate_left
         ·intro w'
          go_simp
          with_reducible rfl
         rotate_left
         ·simp only [Act.put, List.setIfInBounds_toArray, List.set_cons_zero, List.set_cons_succ, i64_w, i32_w]
          rfl
         refine pure_ (i := 2) (N := some 72) (v := ?_) (a' := ?_) #[true, false, true, false, false, false, false] rfl rfl (by kernel_rfl) (fun _ _ _ h => h) (Or.inl ⟨by rfl, ?_⟩) ?_ ?_
         rotate_left
         ·intro w'
          go_simp
          with_reducible rfl
         rotate_left
         ·simp only [Act.put, List.setIfInBounds_toArray, List.set_cons_zero, List.set_cons_succ, i64_w, i32_w]
          rfl
         refine take_ (i := 1) (N := some 71) (v := ?_) (a' := ?_) #[true, true, true, false, false, false, false] rfl rfl (by kernel_rfl) (fun _ _ _ h => h) (Or.inl ⟨by rfl, ?_⟩) hHeld ?_ ?_
         rotate_left
         ·rintro w' ⟨s0, s1, s2⟩
          go_simp
          with_reducible rfl
         rotate_left
         ·simp only [Act.put, List.setIfInBounds_toArray, List.set_cons_zero, List.set_cons_succ, i64_w, i32_w]
          rfl
         refine one_ (i := 3) (N := some 73) #[true, true, true, true, false, false, false] rfl rfl (by kernel_rfl) (by decide) (fun K hK => ?_)
         refine Kd.R_lit_step (Kd.int .i64) _ 3 ?hg (N := 73) ?hd (xs := ([0, 0, 1, 5] : List Int)) (inner := [.int .i64 0, .int .i64 0, .int .i64 1, .int .i64 5]) (ok := fun _ => True) (okp := fun _ => True) ?hr ?hp (fun _ hk => hk) trivial (Below.refl _ _) (Nat.le_refl _) (by simp) ?_; (case hd => rfl); (case hg => rfl); (case hr => exact zsx); (case hp => exact (Reps.one (show Kd.M (Kd.int .i64) _ _ _ 0 [.int .i64 0] from rfl) (Reps.one (show Kd.M (Kd.int .i64) _ _ _ 0 [.int .i64 0] from rfl) (Reps.one (show Kd.M (Kd.int .i64) _ _ _ 1 [.int .i64 1] from rfl) (Reps.one (show Kd.M (Kd.int .i64) _ _ _ 5 [.int .i64 5] from rfl) (Reps.none _ _))))))
         intro v176 w102 ho103 hb hg_ hnew_
         clear hg_ hnew_
         (first | rw [← Ny175.out] at ho103 | (simp only [Int.reduceToNat] at ho103; rw [← Ny175.out] at ho103))
         have n0_ := Aside0.mk (Kd.R_elder' (zRx HO135.out) (Kd.R_base ho103) hb)
         have n1_ := Aside0.mk (Kd.R_below (zRx HO174.out) hb)
         have n2_ := Aside0.mk (Kd.R_lower (Kd.R_new' ho103 (Kd.R_lt (zRx HO135.out))) (keep_size (w := w) (g := g) (row := none) (zKy HK.out GW142.out)))
         have n3_ := Aside0.mk (IsS78.below (IsS78.zF HI0.out NB0_142.out) hb)
         have n4_ := Aside0.mk (blk_below (g := gb142) (o := .cells #[.int .i64 x4_2, .int .i64 (wrap64 (x4_2 + t136)), .int .i64 (wrap64 (1 + t139))] 41 (0, 0)) (zbx BK142.out) hb)
         have n5_ := Aside0.mk (KeepBut.trans (zKy HK.out GW142.out) (KeepBut.of_below hb g none) (.inl rfl))
         have n6_ := Aside0.mk (below_step (by first | exact zBz HB.out (IsS78.ge HI0.out) GE142.out | exact zBy HB.out GE142.out) hb)
         clear HO135
         clear HO174
         clear HI0
         clear BK142
         clear HK
         clear HB
         have HO135 := n0_
         have HO174 := n1_
         have HO177 := n2_
         have HI0 := n3_
         have BK142 := n4_
         have HK := n5_
         have HB := n6_
         clear n0_ n1_ n2_ n3_ n4_ n5_ n6_
         clear hb ho103
         obtain ⟨Ao104, co104, eo104⟩ := Kd.R_slice HO177.out
         (first | subst eo104 | (injection eo104 with f1_ f2_ f3_; have f4_ := f1_.symm; have f5_ := f3_.symm; clear f1_ f2_ f3_; subst f4_; subst f5_))
         refine hK.out _ _ ⟨(blk_cell BK142.out 0).trans rfl, (blk_cell BK142.out 1).trans rfl, (blk_cell BK142.out 2).trans rfl⟩ (fun hHeld => ?_)
         clear hK K
         refine norm_ (a' := ?_) ?_ ?_
         rotate_left
         ·show Act.put _ (some 73) _ = _
          simp only [Act.put, List.setIfInBounds_toArray, List.set_cons_zero, List.set_cons_succ, i64_w, i32_w]
          rfl
         refine one_ (i := 4) (N := some 74) #[true, true, true, true, true, false, false] rfl rfl (by kernel_rfl) (by decide) (fun K hK => ?_)
         refine goes_ Try.func67 (by kernel_rfl) rfl #[.pointer (some ⟨g, 0, none⟩), .slice Ao104 y175.length co104] (by rfl) rfl rfl zlx ?_
         with_reducible refine (spec_l1Cur_among.calls g s0_0 t140 t141 _ _ y175 t178 t179 t180 w0 _ ?side1 ?side2 ?side3 ?side4 ?side5 A87.out).mono ?_
         (case side1 => exact IsS78.zJ HI0.out NB0_142.out)
         (case side2 => first | exact zBz HB.out (IsS78.ge HI0.out) GE142.out | exact zBy HB.out GE142.out)
         (case side3 => repeat (first | exact (Kd.R_reads' HO177.out).2.2 | (with_reducible refine Kd.C_alloc ?_ _) | (with_reducible refine Kd.C_drewN ?_ _) | (with_reducible refine Kd.C_drew ?_)))
         (case side4 => exact (Kd.R_reads' HO177.out).2.1)
         (case side5 => exact far_slice (IsS78.own_ne HI0.out HO177.out (by decide)))
         rintro e w105 ⟨rfl, hi, hb, hk⟩
         refine ⟨_, rfl, ?_⟩
         have n0_ := Aside0.mk (Kd.R_mono (Kd.R_keep (IsS78.apart (show IsS78 w0 _ g s0_0 t140 t141 from IsS78.zJ HI0.out NB0_142.out) (zRx HO135.out) (by decide)) hk (fun _ h => h.2)) (fun _ h => h.1))
         have n1_ := Aside0.mk (KeepBut.blk hk (g' := gb142) (o := .cells #[.int .i64 x4_2, .int .i64 (wrap64 (x4_2 + t136)), .int .i64 (wrap64 (1 + t139))] 41 (0, 0)) (zbx BK142.out) NB142_0.out (by simp))
         have n2_ := Aside0.mk (Kd.R_mono (Kd.R_keep (IsS78.apart (show IsS78 w0 _ g s0_0 t140 t141 from IsS78.zJ HI0.out NB0_142.out) (zRx HO174.out) (by decide)) hk (fun _ h => h.2)) (fun _ h => h.1))
         have n3_ := Aside0.mk (Kd.R_mono (Kd.R_keep (IsS78.apart (show IsS78 w0 _ g s0_0 t140 t141 from IsS78.zJ HI0.out NB0_142.out) (zRx HO177.out) (by decide)) hk (fun _ h => h.2)) (fun _ h => h.1))
         have n4_ := Aside0.mk (KeepBut.trans (zKy HK.out GW142.out) hk (.inl rfl))
         have n5_ := Aside0.mk (hb)
         have n6_ := Aside0.mk (hi)
         clear HO135
         clear BK142
         clear HO174
         clear HO177
         clear HK
         clear HB
         clear HI0
         have HO135 := n0_
         have BK142 := n1_
         have HO174 := n2_
         have HO177 := n3_
         have HK := n4_
         have HB := n5_
         have HI0 := n6_
         clear n0_ n1_ n2_ n3_ n4_ n5_ n6_
         (try clear hb)
         (try clear hb2)
         (try clear hk)
         (try clear hi)
         refine hK.out _ _ ⟨(blk_cell BK142.out 0).trans rfl, (blk_cell BK142.out 1).trans rfl, (blk_cell BK142.out 2).trans rfl⟩ (fun hHeld => ?_)
         clear hK K
         refine norm_ (a' := ?_) ?_ ?_
         rotate_left
         ·show Act.put _ (some 74) _ = _
          simp only [Act.put, List.setIfInBounds_toArray, List.set_cons_zero, List.set_cons_succ, i64_w, i32_w]
          rfl
         refine pure_ (i := 5) (N := some 75) (v := ?_) (a' := ?_) #[true, true, true, true, true, true, false] rfl rfl (by kernel_rfl) (fun _ _ _ h => h) (Or.inl ⟨by rfl, ?_⟩) ?_ ?_
         rotate_left
         ·intro w'
          go_simp
          with_reducible rfl
         rotate_left
         ·simp only [Act.put, List.setIfInBounds_toArray, List.set_cons_zero, List.set_cons_succ, i64_w, i32_w]
          rfl
         refine pure_ (i := 6) (N := some 4) (v := ?_) (a' := ?_) #[true, true, true, true, true, true, true] rfl rfl (by kernel_rfl) (fun _ _ _ h => h) (Or.inl ⟨by rfl, ?_⟩) ?_ ?_
         rotate_left
         ·intro w'
          go_simp
          with_reducible rfl
         rotate_left
         ·simp only [Act.put, List.setIfInBounds_toArray, List.set_cons_zero, List.set_cons_succ, i64_w, i32_w]
          rfl
         refine done_ (by kernel_rfl) ?_
         try go_wp2
         go_roundg k2
         case measure => have := HJ4.out; have := HK2.out; omega
         case rel => exact ⟨(y172), (wrap64 ((wrap64 (x4_2 + t136)) + t178)), (wrap64 (x5_2 - 1)), (t179), (t180), zrx, zrx, H', ⟨by have := HJ4.out; have := HK2.out; omega⟩, ⟨by (with_reducible repeat (first | apply Kd.R_alloc | apply Kd.R_drewN | apply Kd.R_drew)); exact Kd.R_mono HO174.out (fun _ hk => trivial)⟩, ⟨by exact IsS78.zJ HI0.out NB0_142.out⟩, ⟨by exact zKy HK.out GW142.out⟩, ⟨by exact zBz HB.out (IsS78.ge HI0.out) GE142.out⟩⟩
       ·rw [if_neg c86] at H
        exact absurd H (by simp)
     ·rw [if_neg c17] at H
      have c17b0 : decide (0 < x5_2) = false := decide_eq_false c17
      clear c17
      by_cases c106 : (x3_2.length : Int) = 0
      ·rw [if_pos c106] at H
       have c106b0 : ((x3_2.length : Int) == 0) = true := beq_iff_eq.mpr c106
       have c106b1 : ((x3_2.length : Int) != 0) = false := bne_eq_false_iff_eq.mpr c106
       clear c106
       focus
        simp only [Option.some.injEq, Prod.mk.injEq] at H
        obtain ⟨rfl, rfl, rfl⟩ := H
        obtain ⟨Ao107, co107, eo107⟩ := Kd.R_slice HO_3.out
        subst eo107
        go_wp2
        go_ret
        exact ⟨_, by first | rfl | (simp [errW_none, errW_some] <;> rfl) | (simp [*, errW_none, errW_some] <;> rfl), by (with_reducible repeat (first | apply Kd.R_alloc | apply Kd.R_drewN | apply Kd.R_drew)); exact HO_3.out, by exact IsS78.zI HI0.out, by first | exact zBy HB.out (IsS78.ge HI0.out) | exact zBx HB.out, by exact zKx HK.out⟩
      ·rw [if_neg c106] at H
       have c106b0 : ((x3_2.length : Int) == 0) = false := beq_eq_false_iff_ne.mpr c106
       have c106b1 : ((x3_2.length : Int) != 0) = true := bne_iff_ne.mpr c106
       have c106b2 : ¬ (x3_2 = []) := fun h_ => c106 (by rw [h_]; rfl)
       replace H := Option.bind_eq_some_iff.mp H
       obtain ⟨⟨t181, t182, t183⟩, A1080, H⟩ := H
       replace H : (if 0 ≤ t181 then (if t181 < (x3_2.length : Int) then ((spec_l1Cur_pick.f s0_0 t182 t183 40).bind fun bt186 => (if bt186.1 = 0 then ((spec_l1Cur_among.f s0_0 bt186.2.1 bt186.2.2 (([(-1), (rd_T41 x3_2 t181).f1, 0] : List Int))).bind fun bt192 => (some ((x3_2.set (t181 : Int).toNat (⟨bt192.1, (rd_T41 x3_2 t181).f1, (rd_T41 x3_2 t181).f2⟩ : S41)), bt192.2.1, bt192.2.2))) else (if bt186.1 = 1 then ((spec_l1Cur_among.f s0_0 bt186.2.1 bt186.2.2 (([240, 241, (rd_T41 x3_2 t181).f0] : List Int))).bind fun bt199 => (some ((x3_2.set (t181 : Int).toNat (⟨(rd_T41 x3_2 t181).f0, bt199.1, (rd_T41 x3_2 t181).f2⟩ : S41)), bt199.2.1, bt199.2.2))) else (if bt186.1 = 2 then ((spec_l1Cur_among.f s0_0 bt186.2.1 bt186.2.2 (([0, 4, 1] : List Int))).bind fun bt206 => (some ((x3_2.set (t181 : Int).toNat (⟨(rd_T41 x3_2 t181).f0, (rd_T41 x3_2 t181).f1, bt206.1⟩ : S41)), bt206.2.1, bt206.2.2))) else (some ((x3_2.set (t181 : Int).toNat (⟨(rd_T41 x3_2 t181).f0, (rd_T41 x3_2 t181).f1, (rd_T41 x3_2 t181).f2⟩ : S41)), bt186.2.1, bt186.2.2)))))) else (none)) else (none)) = some (r1, r2, r3) := H
       have A108 := Aside0.mk A1080
       clear A1080
       by_cases c109 : 0 ≤ t181
       ·rw [if_pos c109] at H
        have c109b0 : decide (0 ≤ t181) = true := decide_eq_true c109
        clear c109
        by_cases c110 : t181 < (x3_2.length : Int)
        ·rw [if_pos c110] at H
         have c110b0 : decide (t181 < (x3_2.length : Int)) = true := decide_eq_true c110
         clear c110
         replace H := Option.bind_eq_some_iff.mp H
         obtain ⟨⟨t186, t187, t188⟩, A1110, H⟩ := H
         replace H : (if t186 = 0 then ((spec_l1Cur_among.f s0_0 t187 t188 (([(-1), (rd_T41 x3_2 t181).f1, 0] : List Int))).bind fun bt192 => (some ((x3_2.set (t181 : Int).toNat (⟨bt192.1, (rd_T41 x3_2 t181).f1, (rd_T41 x3_2 t181).f2⟩ : S41)), bt192.2.1, bt192.2.2))) else (if t186 = 1 then ((spec_l1Cur_among.f s0_0 t187 t188 (([240, 241, (rd_T41 x3_2 t181).f0] : List Int))).bind fun bt199 => (some ((x3_2.set (t181 : Int).toNat (⟨(rd_T41 x3_2 t181).f0, bt199.1, (rd_T41 x3_2 t181).f2⟩ : S41)), bt199.2.1, bt199.2.2))) else (if t186 = 2 then ((spec_l1Cur_among.f s0_0 t187 t188 (([0, 4, 1] : List Int))).bind fun bt206 => (some ((x3_2.set (t181 : Int).toNat (⟨(rd_T41 x3_2 t181).f0, (rd_T41 x3_2 t181).f1, bt206.1⟩ : S41)), bt206.2.1, bt206.2.2))) else (some ((x3_2.set (t181 : Int).toNat (⟨(rd_T41 x3_2 t181).f0, (rd_T41 x3_2 t181).f1, (rd_T41 x3_2 t181).f2⟩ : S41)), t187, t188))))) = some (r1, r2, r3) := H
         have A111 := Aside0.mk A1110
         clear A1110
         by_cases c112 : t186 = 0
         ·rw [if_pos c112] at H
          have c112b0 : (t186 == 0) = true := beq_iff_eq.mpr c112
          have c112b1 : (t186 != 0) = false := bne_eq_false_iff_eq.mpr c112
          clear c112
          obtain ⟨y189, hy189⟩ : ∃ y_ : List Int, y_ = (([(-1), (rd_T41 x3_2 t181).f1, 0] : List Int)) := ⟨_, rfl⟩
          replace H : ((spec_l1Cur_among.f s0_0 t187 t188 y189).bind fun bt192 => (some ((x3_2.set (t181 : Int).toNat (⟨bt192.1, (rd_T41 x3_2 t181).f1, (rd_T41 x3_2 t181).f2⟩ : S41)), bt192.2.1, bt192.2.2))) = some (r1, r2, r3) := by first | (rw [hy189]; with_reducible exact H) | (have H2_ := (Option.bind_some _ _).symm.trans H; rw [hy189]; with_reducible exact H2_) | (have H2_ := (Option.bind_some _ _).symm.trans H; with_reducible exact H2_) | with_reducible exact H | (rw [hy189]; exact H) | exact H
          have Ny189 := Aside0.mk hy189
          clear hy189
          replace H := Option.bind_eq_some_iff.mp H
          obtain ⟨⟨t192, t193, t194⟩, A1130, H⟩ := H
          replace H : (some ((x3_2.set (t181 : Int).toNat (⟨t192, (rd_T41 x3_2 t181).f1, (rd_T41 x3_2 t181).f2⟩ : S41)), t193, t194)) = some (r1, r2, r3) := H
          have A113 := Aside0.mk A1130
          clear A1130
          obtain ⟨y195, hy195⟩ : ∃ y_ : List (S41), y_ = (x3_2.set (t181 : Int).toNat (⟨t192, (rd_T41 x3_2 t181).f1, (rd_T41 x3_2 t181).f2⟩ : S41)) := ⟨_, rfl⟩
          replace H : (some (y195, t193, t194)) = some (r1, r2, r3) := by first | (rw [hy195]; with_reducible exact H) | (have H2_ := (Option.bind_some _ _).symm.trans H; rw [hy195]; with_reducible exact H2_) | (have H2_ := (Option.bind_some _ _).symm.trans H; with_reducible exact H2_) | with_reducible exact H | (rw [hy195]; exact H) | exact H
          have Ny195 := Aside0.mk hy195
          clear hy195
          focus
           simp only [Option.some.injEq, Prod.mk.injEq] at H
           obtain ⟨rfl, rfl, rfl⟩ := H
           obtain ⟨Ao115, co115, eo115⟩ := Kd.R_slice HO_3.out
           subst eo115
           go_wp2_with (first | ((with_reducible refine gate_callee (f := 72) rfl ?_); refine goesL_ (some 83) rfl rfl Try.func72 (by kernel_rfl) rfl #[.pointer (some ⟨g, 0, none⟩), .int .i64 (x3_2.length : Int)] rfl zlx ?_; (with_reducible refine (spec_l1Cur_pick.calls g s0_0 x1001_2 x1002_2 (x3_2.length : Int) t181 t182 t183 w0 _ ?side1 ?side2 A108.out).mono ?_); (case side1 => exact IsS78.zI HI0.out); (case side2 => first | exact zBy HB.out (IsS78.ge HI0.out) | exact zBx HB.out); rintro e w116 ⟨rfl, hi, hb, hk⟩; refine ⟨_, rfl, ?_⟩; have n0_ := Aside0.mk (Kd.R_mono (Kd.R_keep (IsS78.apart (show IsS78 w0 _ g s0_0 x1001_2 x1002_2 from IsS78.zI HI0.out) (zRx HO_3.out) (by decide)) hk (fun _ h => h.2)) (fun _ h => h.1)); have n1_ := Aside0.mk (KeepBut.trans (zKx HK.out) hk (.inl rfl)); have n2_ := Aside0.mk (hb); have n3_ := Aside0.mk (hi); clear HO_3; clear HK; clear HB; clear HI0; have HO_3 := n0_; have HK := n1_; have HB := n2_; have HI0 := n3_; clear n0_ n1_ n2_ n3_; (try clear hb); (try clear hb2); (try clear hk); (try clear hi); have p184 : 0 ≤ (t181 : Int) := of_decide_eq_true zax; have q184 : t181 < (x3_2.length : Int) := of_decide_eq_true zax; obtain ⟨ad184, e184, hx184_0, hx184_1, hx184_2⟩ := at_T41 (Kd.R_reads' HO_3.out).2.2 t181 p184 q184; cases e184; replace p184 := eq_true p184; replace q184 := eq_true q184) | ((with_reducible refine gate_dst (N := 8) rfl ?_); (try (refine gate_guard (by rfl) ?_; dsimp only)); refine box_event ?hg (N := 8) ?hd (cs := #[.int .i64 0, .int .i64 0, .int .i64 0]) (t := 41) ?hr ?_; (case hd => rfl); (case hg => rfl); (case hr => exact zsx); intro gb185 hg w117 hbox hb; have n0_ := Aside0.mk (Kd.R_below (Kd.R_elderB (zRx HO_3.out) gb185 (Nat.le_of_eq hg.symm)) hb); have n1_ := Aside0.mk (IsS78.below (IsS78.zI HI0.out) hb); have n2_ := Aside0.mk (KeepBut.trans (zKx HK.out) (KeepBut.of_below hb g none) (.inl rfl)); have n3_ := Aside0.mk (below_step (by first | exact zBy HB.out (IsS78.ge HI0.out) | exact zBx HB.out) hb); have n4_ := Aside0.mk (hbox); have n5_ := Aside0.mk ((by rw [hg]; exact (keep_size (w := w) (g := g) (row := none) (zKx HK.out)) : w.heap.size ≤ gb185)); have n6_ := Aside0.mk ((Nat.le_trans HW0.out (by rw [hg]; exact (keep_size (w := w) (g := g) (row := none) (zKx HK.out)) : w.heap.size ≤ gb185) : w0.heap.size ≤ gb185)); have n7_ := Aside0.mk ((by rw [hg]; exact Nat.ne_of_lt (IsS78.lt (show IsS78 w0 _ g s0_0 t182 t183 from IsS78.zI HI0.out)) : g ≠ gb185)); have n8_ := Aside0.mk ((by rw [hg]; exact Nat.ne_of_gt (IsS78.lt (show IsS78 w0 _ g s0_0 t182 t183 from IsS78.zI HI0.out)) : gb185 ≠ g)); clear HO_3; clear HI0; clear HK; clear HB; have HO_3 := n0_; have HI0 := n1_; have HK := n2_; have HB := n3_; have BK185 := n4_; have GW185 := n5_; have GE185 := n6_; have NB0_185 := n7_; have NB185_0 := n8_; clear n0_ n1_ n2_ n3_ n4_ n5_ n6_ n7_ n8_; clear hb hbox hg; have hnb118 := NB185_0.out; have hnc118 := NB0_185.out; have hcz119_0 : w117.cell? ⟨gb185, 0, none⟩ = some (.int .i64 0) := (blk_cell BK185.out 0).trans rfl; have hcz119_1 : w117.cell? ⟨gb185, 1, none⟩ = some (.int .i64 0) := (blk_cell BK185.out 1).trans rfl; have hcz119_2 : w117.cell? ⟨gb185, 2, none⟩ = some (.int .i64 0) := (blk_cell BK185.out 2).trans rfl; have hfz119_0 := blk_frozen BK185.out 0; have hfz119_1 := blk_frozen BK185.out 1; have hfz119_2 := blk_frozen BK185.out 2) | ((with_reducible refine gate_callee (f := 72) rfl ?_); refine goesL_ (some 89) rfl rfl Try.func72 (by kernel_rfl) rfl #[.pointer (some ⟨g, 0, none⟩), .int .i64 40] rfl zlx ?_; (with_reducible refine (spec_l1Cur_pick.calls g s0_0 t182 t183 40 t186 t187 t188 w0 _ ?side1 ?side2 A111.out).mono ?_); (case side1 => exact IsS78.zJ HI0.out NB0_185.out); (case side2 => first | exact zBz HB.out (IsS78.ge HI0.out) GE185.out | exact zBy HB.out GE185.out); rintro e w120 ⟨rfl, hi, hb, hk⟩; refine ⟨_, rfl, ?_⟩; have n0_ := Aside0.mk (Kd.R_mono (Kd.R_keep (IsS78.apart (show IsS78 w0 _ g s0_0 t182 t183 from IsS78.zJ HI0.out NB0_185.out) (by (with_reducible repeat (first | apply Kd.R_alloc | apply Kd.R_drewN | apply Kd.R_drew)); exact (Kd.R_mono (Kd.R_far (p := ⟨gb185, 2, none⟩) (Kd.R_far (p := ⟨gb185, 1, none⟩) (Kd.R_far (p := ⟨gb185, 0, none⟩) (Kd.R_mono HO_3.out (fun k_ hk => (⟨hk, hk.2⟩ : _ ∧ k_ ≠ gb185))) (fun _ hk => hk.2) (.int .i64 ((rd_T41 x3_2 t181).f0))) (fun _ hk => hk.2) (.int .i64 ((rd_T41 x3_2 t181).f1))) (fun _ hk => hk.2) (.int .i64 ((rd_T41 x3_2 t181).f2))) (fun _ h_ => h_.1))) (by decide)) hk (fun _ h => h.2)) (fun _ h => h.1)); have n1_ := Aside0.mk (KeepBut.blk hk (g' := gb185) (o := .cells #[.int .i64 ((rd_T41 x3_2 t181).f0), .int .i64 ((rd_T41 x3_2 t181).f1), .int .i64 ((rd_T41 x3_2 t181).f2)] 41 (0, 0)) (by (with_reducible repeat (first | refine blk_drewN ?_ _ | refine blk_drew ?_ | refine blk_alloc ?_ _)); refine blk_put (cs := #[.int .i64 ((rd_T41 x3_2 t181).f0), .int .i64 ((rd_T41 x3_2 t181).f1), .int .i64 0]) ?_ 2 _ rfl; (with_reducible repeat (first | refine blk_drewN ?_ _ | refine blk_drew ?_ | refine blk_alloc ?_ _)); refine blk_put (cs := #[.int .i64 ((rd_T41 x3_2 t181).f0), .int .i64 0, .int .i64 0]) ?_ 1 _ rfl; (with_reducible repeat (first | refine blk_drewN ?_ _ | refine blk_drew ?_ | refine blk_alloc ?_ _)); refine blk_put (cs := #[.int .i64 0, .int .i64 0, .int .i64 0]) ?_ 0 _ rfl; (with_reducible repeat (first | refine blk_drewN ?_ _ | refine blk_drew ?_ | refine blk_alloc ?_ _)); exact BK185.out) NB185_0.out (by simp)); have n2_ := Aside0.mk (KeepBut.trans (zKy HK.out GW185.out) hk (.inl rfl)); have n3_ := Aside0.mk (hb); have n4_ := Aside0.mk (hi); clear HO_3; clear BK185; clear HK; clear HB; clear HI0; have HO_3 := n0_; have BK185 := n1_; have HK := n2_; have HB := n3_; have HI0 := n4_; clear n0_ n1_ n2_ n3_ n4_; (try clear hb); (try clear hb2); (try clear hk); (try clear hi); have hcz121_0 : w120.cell? ⟨gb185, 0, none⟩ = some (.int .i64 ((rd_T41 x3_2 t181).f0)) := (blk_cell BK185.out 0).trans rfl; have hcz121_1 : w120.cell? ⟨gb185, 1, none⟩ = some (.int .i64 ((rd_T41 x3_2 t181).f1)) := (blk_cell BK185.out 1).trans rfl; have hcz121_2 : w120.cell? ⟨gb185, 2, none⟩ = some (.int .i64 ((rd_T41 x3_2 t181).f2)) := (blk_cell BK185.out 2).trans rfl; have hfz121_0 := blk_frozen BK185.out 0; have hfz121_1 := blk_frozen BK185.out 1; have hfz121_2 := blk_frozen BK185.out 2) | ((with_reducible refine gate_dst (N := 95) rfl ?_); (try (refine gate_guard (by rfl) ?_; dsimp only)); refine Kd.R_lit (Kd.int .i64) _ 3 ?hg (N := 95) ?hd (xs := ([(-1), (rd_T41 x3_2 t181).f1, 0] : List Int)) (inner := [.int .i64 (-1), .int .i64 ((rd_T41 x3_2 t181).f1), .int .i64 0]) (ok := fun _ => True) (okp := fun _ => True) ?hr ?hp (fun _ hk => hk) trivial (Below.refl _ _) (Nat.le_refl _) (by simp) ?_; (case hd => rfl); (case hg => rfl); (case hr => exact zsx); (case hp => exact (Reps.one (show Kd.M (Kd.int .i64) _ _ _ (-1) [.int .i64 (-1)] from rfl) (Reps.one (show Kd.M (Kd.int .i64) _ _ _ ((rd_T41 x3_2 t181).f1) [.int .i64 ((rd_T41 x3_2 t181).f1)] from rfl) (Reps.one (show Kd.M (Kd.int .i64) _ _ _ 0 [.int .i64 0] from rfl) (Reps.none _ _))))); intro v190 w122 ho123 hb hg_ hnew_; clear hg_ hnew_; (first | rw [← Ny189.out] at ho123 | (simp only [Int.reduceToNat] at ho123; rw [← Ny189.out] at ho123)); have n0_ := Aside0.mk (Kd.R_below (zRx HO_3.out) hb); have n1_ := Aside0.mk (Kd.R_lower ho123 (keep_size (w := w) (g := g) (row := none) (zKy HK.out GW185.out))); have n2_ := Aside0.mk (IsS78.below (IsS78.zF HI0.out NB0_185.out) hb); have n3_ := Aside0.mk (blk_below (g := gb185) (o := .cells #[.int .i64 ((rd_T41 x3_2 t181).f0), .int .i64 ((rd_T41 x3_2 t181).f1), .int .i64 ((rd_T41 x3_2 t181).f2)] 41 (0, 0)) (zbx BK185.out) hb); have n4_ := Aside0.mk (KeepBut.trans (zKy HK.out GW185.out) (KeepBut.of_below hb g none) (.inl rfl)); have n5_ := Aside0.mk (below_step (by first | exact zBz HB.out (IsS78.ge HI0.out) GE185.out | exact zBy HB.out GE185.out) hb); clear HO_3; clear HI0; clear BK185; clear HK; clear HB; have HO_3 := n0_; have HO191 := n1_; have HI0 := n2_; have BK185 := n3_; have HK := n4_; have HB := n5_; clear n0_ n1_ n2_ n3_ n4_ n5_; clear hb ho123; obtain ⟨Ao124, co124, eo124⟩ := Kd.R_slice HO191.out; subst eo124) | ((with_reducible refine gate_callee (f := 67) rfl ?_); refine goesL_ (some 96) rfl rfl Try.func67 (by kernel_rfl) rfl #[.pointer (some ⟨g, 0, none⟩), .slice Ao124 y189.length co124] rfl zlx ?_; (with_reducible refine (spec_l1Cur_among.calls g s0_0 t187 t188 _ _ y189 t192 t193 t194 w0 _ ?side1 ?side2 ?side3 ?side4 ?side5 A113.out).mono ?_); (case side1 => exact IsS78.zJ HI0.out NB0_185.out); (case side2 => first | exact zBz HB.out (IsS78.ge HI0.out) GE185.out | exact zBy HB.out GE185.out); (case side3 => repeat (first | exact (Kd.R_reads' HO191.out).2.2 | (with_reducible refine Kd.C_alloc ?_ _) | (with_reducible refine Kd.C_drewN ?_ _) | (with_reducible refine Kd.C_drew ?_))); (case side4 => exact (Kd.R_reads' HO191.out).2.1); (case side5 => exact far_slice (IsS78.own_ne HI0.out HO191.out (by decide))); rintro e w125 ⟨rfl, hi, hb, hk⟩; refine ⟨_, rfl, ?_⟩; have n0_ := Aside0.mk (Kd.R_mono (Kd.R_keep (IsS78.apart (show IsS78 w0 _ g s0_0 t187 t188 from IsS78.zJ HI0.out NB0_185.out) (zRx HO_3.out) (by decide)) hk (fun _ h => h.2)) (fun _ h => h.1)); have n1_ := Aside0.mk (KeepBut.blk hk (g' := gb185) (o := .cells #[.int .i64 ((rd_T41 x3_2 t181).f0), .int .i64 ((rd_T41 x3_2 t181).f1), .int .i64 ((rd_T41 x3_2 t181).f2)] 41 (0, 0)) (zbx BK185.out) NB185_0.out (by simp)); have n2_ := Aside0.mk (Kd.R_mono (Kd.R_keep (IsS78.apart (show IsS78 w0 _ g s0_0 t187 t188 from IsS78.zJ HI0.out NB0_185.out) (zRx HO191.out) (by decide)) hk (fun _ h => h.2)) (fun _ h => h.1)); have n3_ := Aside0.mk (KeepBut.trans (zKy HK.out GW185.out) hk (.inl rfl)); have n4_ := Aside0.mk (hb); have n5_ := Aside0.mk (hi); clear HO_3; clear BK185; clear HO191; clear HK; clear HB; clear HI0; have HO_3 := n0_; have BK185 := n1_; have HO191 := n2_; have HK := n3_; have HB := n4_; have HI0 := n5_; clear n0_ n1_ n2_ n3_ n4_ n5_; (try clear hb); (try clear hb2); (try clear hk); (try clear hi); have hcz126_0 : w125.cell? ⟨gb185, 0, none⟩ = some (.int .i64 ((rd_T41 x3_2 t181).f0)) := (blk_cell BK185.out 0).trans rfl; have hcz126_1 : w125.cell? ⟨gb185, 1, none⟩ = some (.int .i64 ((rd_T41 x3_2 t181).f1)) := (blk_cell BK185.out 1).trans rfl; have hcz126_2 : w125.cell? ⟨gb185, 2, none⟩ = some (.int .i64 ((rd_T41 x3_2 t181).f2)) := (blk_cell BK185.out 2).trans rfl; have hfz126_0 := blk_frozen BK185.out 0; have hfz126_1 := blk_frozen BK185.out 1; have hfz126_2 := blk_frozen BK185.out 2) | ((with_reducible refine gate_store (t := 3) (p := 97) rfl ?_); refine store_event (t := 3) (p := 97) (v := ?vo_w127) (w1 := (w125.setCell ⟨gb185, 0, none⟩ (.int .i64 t192))) ?hg ?ho ?hn ?hr ?_; (case ho => rfl); (case hg => rfl); (case hn => rfl); (case hr => exact zsx); intro w127 hw; have n0_ : Aside0 (Kd.R k41 41 w127 w.heap.size (fun k_ => k_ ≠ gb185) (.slice (some ad184) x3_2.length co115) x3_2) := ⟨(by rw [hw]; exact (by (with_reducible repeat (first | apply Kd.R_alloc | apply Kd.R_drewN | apply Kd.R_drew)); exact Kd.R_mono (Kd.R_far (p := ⟨gb185, 0, none⟩) (Kd.R_mono HO_3.out (fun k_ hk => (⟨hk, hk.2⟩ : _ ∧ k_ ≠ gb185))) (fun _ hk => hk.2) (.int .i64 t192)) (fun _ hk => hk.1.2)))⟩; have n1_ : Aside0 (Kd.R (Kd.int .i64) 3 w127 w.heap.size (fun _ => True) (.slice Ao124 y189.length co124) y189) := ⟨(by rw [hw]; exact (by (with_reducible repeat (first | apply Kd.R_alloc | apply Kd.R_drewN | apply Kd.R_drew)); exact Kd.R_mono (Kd.R_far (p := ⟨gb185, 0, none⟩) (Kd.R_types HO191.out BK185.out (by decide)) (fun _ hk => hk.2) (.int .i64 t192)) (fun _ hk => trivial)))⟩; have n2_ : Aside0 (w127.heap[gb185]? = some (.cells #[.int .i64 t192, .int .i64 ((rd_T41 x3_2 t181).f1), .int .i64 ((rd_T41 x3_2 t181).f2)] 41 (0, 0))) := ⟨(by rw [hw]; exact (by (with_reducible repeat (first | refine blk_drewN ?_ _ | refine blk_drew ?_ | refine blk_alloc ?_ _)); refine blk_put (cs := #[.int .i64 ((rd_T41 x3_2 t181).f0), .int .i64 ((rd_T41 x3_2 t181).f1), .int .i64 ((rd_T41 x3_2 t181).f2)]) ?_ 0 _ rfl; (with_reducible repeat (first | refine blk_drewN ?_ _ | refine blk_drew ?_ | refine blk_alloc ?_ _)); exact BK185.out))⟩; have n3_ : Aside0 (IsS78 w0 w127 g s0_0 t193 t194) := ⟨(by rw [hw]; exact (IsS78.zJ HI0.out NB0_185.out))⟩; have n4_ : Aside0 (KeepBut w w127 g none) := ⟨(by rw [hw]; exact (zKy HK.out GW185.out))⟩; have n5_ : Aside0 (Below w0.heap.size w0 w127) := ⟨(by rw [hw]; exact (by first | exact zBz HB.out (IsS78.ge HI0.out) GE185.out | exact zBy HB.out GE185.out))⟩; clear hw; clear HO_3; clear HO191; clear BK185; clear HI0; clear HK; clear HB; have HO_3 := n0_; have HO191 := n1_; have BK185 := n2_; have HI0 := n3_; have HK := n4_; have HB := n5_; clear n0_ n1_ n2_ n3_ n4_ n5_; have hcz128_0 : w127.cell? ⟨gb185, 0, none⟩ = some (.int .i64 t192) := (blk_cell BK185.out 0).trans rfl; have hcz128_1 : w127.cell? ⟨gb185, 1, none⟩ = some (.int .i64 ((rd_T41 x3_2 t181).f1)) := (blk_cell BK185.out 1).trans rfl; have hcz128_2 : w127.cell? ⟨gb185, 2, none⟩ = some (.int .i64 ((rd_T41 x3_2 t181).f2)) := (blk_cell BK185.out 2).trans rfl; have hfz128_0 := blk_frozen BK185.out 0; have hfz128_1 := blk_frozen BK185.out 1; have hfz128_2 := blk_frozen BK185.out 2; have p114 : 0 ≤ (t181 : Int) := of_decide_eq_true zax; have q114 : (t181 : Int) < ((x3_2.length : Int) : Int) := of_decide_eq_true zax; obtain ⟨go114, co114, eo114, gb114, gl114, cl114, HG114⟩ := Kd.R_form HO_3.out (by omega); (first | cases eo114 | (injection eo114 with ea_ en_ ec_; (first | subst ea_ | (injection ea_ with ea_; subst ea_)); subst ec_; clear en_)); have GB114 := Aside0.mk gb114; have GG114 := Aside0.mk HG114; clear gb114 gl114 HG114; (first | simp only [add_plain] at hx184_0 | skip); (first | simp only [add_plain] at hx184_1 | skip); (first | simp only [add_plain] at hx184_2 | skip); obtain ⟨ce114, hcl114, hM114, hcc114, hfr114⟩ := Kd.R_elem HO_3.out z41 (t181 : Int) p114 q114; obtain rfl := k41_openM hM114; have hx114_0 : w127.cell? ⟨go114, (t181 : Int).toNat * 3, none⟩ = some (.int .i64 ((rd_T41 x3_2 t181).f0)) := hcc114 0 _ rfl; have hx114_1 : w127.cell? ⟨go114, (t181 : Int).toNat * 3 + 1, none⟩ = some (.int .i64 ((rd_T41 x3_2 t181).f1)) := hcc114 1 _ rfl; have hx114_2 : w127.cell? ⟨go114, (t181 : Int).toNat * 3 + 2, none⟩ = some (.int .i64 ((rd_T41 x3_2 t181).f2)) := hcc114 2 _ rfl; have hf114_0 : w127.frozen? ⟨go114, (t181 : Int).toNat * 3, none⟩ = false := hfr114 0; have hf114_1 : w127.frozen? ⟨go114, (t181 : Int).toNat * 3 + 1, none⟩ = false := hfr114 1; have hf114_2 : w127.frozen? ⟨go114, (t181 : Int).toNat * 3 + 2, none⟩ = false := hfr114 2; clear hcl114 hcc114 hfr114 hM114; replace p114 := eq_true p114; replace q114 := eq_true q114; have HX129 := Aside0.mk (show Kd.R k41 41 w127 w.heap.size (fun k_ => k_ ≠ gb185) (.slice (some ⟨go114, 0, none⟩) x3_2.length co115) x3_2 from (zRx HO_3.out)); obtain ⟨ce129, hcl129, hM129, hcc129, hfr129⟩ := Kd.R_elem HX129.out z41 (t181 : Int) (of_decide_eq_true zax) (by have h_ : (t181 : Int) < ((x3_2.length : Int) : Int) := of_decide_eq_true zax; first | exact h_ | (have e_ := (Kd.R_reads' HO_3.out).1; omega) | simpa using h_); obtain rfl := k41_openM hM129; have HP129 := Kd.R_seg HX129.out (t181 : Int) (of_decide_eq_true zax) (by have h_ : (t181 : Int) < ((x3_2.length : Int) : Int) := of_decide_eq_true zax; first | exact h_ | (have e_ := (Kd.R_reads' HO_3.out).1; omega) | simpa using h_) (seg := [.int .i64 t192, .int .i64 ((rd_T41 x3_2 t181).f1), .int .i64 ((rd_T41 x3_2 t181).f2)]) (j := 0) hcl129 hcc129 (show 3 ≤ 3 from by decide) (x' := (⟨t192, (rd_T41 x3_2 t181).f1, (rd_T41 x3_2 t181).f2⟩ : S41)) (k41_mkM _ _ _ (⟨t192, (rd_T41 x3_2 t181).f1, (rd_T41 x3_2 t181).f2⟩ : S41) ) (fun _ hk => hk); have hx129_0 := hcc129 0 _ rfl; (try simp only [show (k41).sz = 3 from rfl, Nat.mul_one, Nat.add_zero] at hx129_0); have hf129_0 := hfr129 0; (try simp only [show (k41).sz = 3 from rfl, Nat.mul_one, Nat.add_zero] at hf129_0); have hx129_1 := hcc129 1 _ rfl; (try simp only [show (k41).sz = 3 from rfl, Nat.mul_one, Nat.add_zero] at hx129_1); have hf129_1 := hfr129 1; (try simp only [show (k41).sz = 3 from rfl, Nat.mul_one, Nat.add_zero] at hf129_1); have hx129_2 := hcc129 2 _ rfl; (try simp only [show (k41).sz = 3 from rfl, Nat.mul_one, Nat.add_zero] at hx129_2); have hf129_2 := hfr129 2; (try simp only [show (k41).sz = 3 from rfl, Nat.mul_one, Nat.add_zero] at hf129_2); clear hcl129 hcc129 hfr129 hM129) | ((with_reducible refine gate_store (t := 41) (p := 115) rfl ?_); refine store_event (t := 41) (p := 115) (v := ?vo_w130) (w1 := (((w127.setCell ⟨go114, (t181 : Int).toNat * 3, none⟩ (.int .i64 t192)).setCell ⟨go114, (t181 : Int).toNat * 3 + 1, none⟩ (.int .i64 ((rd_T41 x3_2 t181).f1))).setCell ⟨go114, (t181 : Int).toNat * 3 + 2, none⟩ (.int .i64 ((rd_T41 x3_2 t181).f2)))) ?hg ?ho ?hn ?hr ?_; (case ho => rfl); (case hg => rfl); (case hn => rfl); (case hr => exact zsx); intro w130 hw; have hg : w127.grownBy w130 (some go114) := (by rw [hw]; exact HP129.2); have hp_ : Kd.R k41 41 w130 w.heap.size (fun k_ => k_ ≠ gb185) (.slice (some ⟨go114, 0, none⟩) x3_2.length co115) y195 := (by rw [hw, Ny195.out]; exact HP129.1); clear HP129; have n0_ := Aside0.mk (hp_); have n1_ := Aside0.mk (IsS78.grown (IsS78.zF HI0.out NB0_185.out) hg (IsS78.own_ne HI0.out HO_3.out (by decide))); have n2_ := Aside0.mk (blk_grown (g := gb185) (o := .cells #[.int .i64 t192, .int .i64 ((rd_T41 x3_2 t181).f1), .int .i64 ((rd_T41 x3_2 t181).f2)] 41 (0, 0)) (zbx BK185.out) hg (Kd.R_away HO_3.out (fun _ hk => hk))); have n3_ := Aside0.mk (Kd.R_over' (v := (.slice (some ⟨go114, 0, none⟩) x3_2.length co115)) (zRx HO191.out) (Kd.R_typed HO_3.out) (by decide) hg); have n4_ := Aside0.mk ((by rw [hw]; exact below_set (below_set (below_set (HB.out) (Nat.le_trans HL.out GB114.out)) (Nat.le_trans HL.out GB114.out)) (Nat.le_trans HL.out GB114.out) : Below w0.heap.size w0 w130)); have n5_ := Aside0.mk (KeepBut.trans (zKy HK.out GW185.out) (KeepBut.of_grown hg g) (Kd.R_base2 HO_3.out)); clear HO_3; clear HI0; clear BK185; clear HO191; clear HB; clear HK; have HO_3 := n0_; have HI0 := n1_; have BK185 := n2_; have HO191 := n3_; have HB := n4_; have HK := n5_; clear n0_ n1_ n2_ n3_ n4_ n5_; clear hg hw hp_))
           go_ret
           exact ⟨_, by first | rfl | (simp [errW_none, errW_some] <;> rfl) | (simp [*, errW_none, errW_some] <;> rfl), by (with_reducible repeat (first | apply Kd.R_alloc | apply Kd.R_drewN | apply Kd.R_drew)); exact Kd.R_mono HO_3.out (fun _ hk => trivial), by exact IsS78.zJ HI0.out NB0_185.out, by exact zBz HB.out (IsS78.ge HI0.out) GE185.out, by exact zKy HK.out GW185.out⟩
         ·rw [if_neg c112] at H
          have c112b0 : (t186 == 0) = false := beq_eq_false_iff_ne.mpr c112
          have c112b1 : (t186 != 0) = true := bne_iff_ne.mpr c112
          by_cases c131 : t186 = 1
          ·rw [if_pos c131] at H
           have c131b0 : (t186 == 1) = true := beq_iff_eq.mpr c131
           have c131b1 : (t186 != 1) = false := bne_eq_false_iff_eq.mpr c131
           clear c131
           obtain ⟨y196, hy196⟩ : ∃ y_ : List Int, y_ = (([240, 241, (rd_T41 x3_2 t181).f0] : List Int)) := ⟨_, rfl⟩
           replace H : ((spec_l1Cur_among.f s0_0 t187 t188 y196).bind fun bt199 => (some ((x3_2.set (t181 : Int).toNat (⟨(rd_T41 x3_2 t181).f0, bt199.1, (rd_T41 x3_2 t181).f2⟩ : S41)), bt199.2.1, bt199.2.2))) = some (r1, r2, r3) := by first | (rw [hy196]; with_reducible exact H) | (have H2_ := (Option.bind_some _ _).symm.trans H; rw [hy196]; with_reducible exact H2_) | (have H2_ := (Option.bind_some _ _).symm.trans H; with_reducible exact H2_) | with_reducible exact H | (rw [hy196]; exact H) | exact H
           have Ny196 := Aside0.mk hy196
           clear hy196
           replace H := Option.bind_eq_some_iff.mp H
           obtain ⟨⟨t199, t200, t201⟩, A1320, H⟩ := H
           replace H : (some ((x3_2.set (t181 : Int).toNat (⟨(rd_T41 x3_2 t181).f0, t199, (rd_T41 x3_2 t181).f2⟩ : S41)), t200, t201)) = some (r1, r2, r3) := H
           have A132 := Aside0.mk A1320
           clear A1320
           obtain ⟨y202, hy202⟩ : ∃ y_ : List (S41), y_ = (x3_2.set (t181 : Int).toNat (⟨(rd_T41 x3_2 t181).f0, t199, (rd_T41 x3_2 t181).f2⟩ : S41)) := ⟨_, rfl⟩
           replace H : (some (y202, t200, t201)) = some (r1, r2, r3) := by first | (rw [hy202]; with_reducible exact H) | (have H2_ := (Option.bind_some _ _).symm.trans H; rw [hy202]; with_reducible exact H2_) | (have H2_ := (Option.bind_some _ _).symm.trans H; with_reducible exact H2_) | with_reducible exact H | (rw [hy202]; exact H) | exact H
           have Ny202 := Aside0.mk hy202
           clear hy202
           focus
            simp only [Option.some.injEq, Prod.mk.injEq] at H
            obtain ⟨rfl, rfl, rfl⟩ := H
            obtain ⟨Ao134, co134, eo134⟩ := Kd.R_slice HO_3.out
            subst eo134
            go_wp2_with (first | ((with_reducible refine gate_callee (f := 72) rfl ?_); refine goesL_ (some 83) rfl rfl Try.func72 (by kernel_rfl) rfl #[.pointer (some ⟨g, 0, none⟩), .int .i64 (x3_2.length : Int)] rfl zlx ?_; (with_reducible refine (spec_l1Cur_pick.calls g s0_0 x1001_2 x1002_2 (x3_2.length : Int) t181 t182 t183 w0 _ ?side1 ?side2 A108.out).mono ?_); (case side1 => exact IsS78.zI HI0.out); (case side2 => first | exact zBy HB.out (IsS78.ge HI0.out) | exact zBx HB.out); rintro e w135 ⟨rfl, hi, hb, hk⟩; refine ⟨_, rfl, ?_⟩; have n0_ := Aside0.mk (Kd.R_mono (Kd.R_keep (IsS78.apart (show IsS78 w0 _ g s0_0 x1001_2 x1002_2 from IsS78.zI HI0.out) (zRx HO_3.out) (by decide)) hk (fun _ h => h.2)) (fun _ h => h.1)); have n1_ := Aside0.mk (KeepBut.trans (zKx HK.out) hk (.inl rfl)); have n2_ := Aside0.mk (hb); have n3_ := Aside0.mk (hi); clear HO_3; clear HK; clear HB; clear HI0; have HO_3 := n0_; have HK := n1_; have HB := n2_; have HI0 := n3_; clear n0_ n1_ n2_ n3_; (try clear hb); (try clear hb2); (try clear hk); (try clear hi); have p184 : 0 ≤ (t181 : Int) := of_decide_eq_true zax; have q184 : t181 < (x3_2.length : Int) := of_decide_eq_true zax; obtain ⟨ad184, e184, hx184_0, hx184_1, hx184_2⟩ := at_T41 (Kd.R_reads' HO_3.out).2.2 t181 p184 q184; cases e184; replace p184 := eq_true p184; replace q184 := eq_true q184) | ((with_reducible refine gate_dst (N := 8) rfl ?_); (try (refine gate_guard (by rfl) ?_; dsimp only)); refine box_event ?hg (N := 8) ?hd (cs := #[.int .i64 0, .int .i64 0, .int .i64 0]) (t := 41) ?hr ?_; (case hd => rfl); (case hg => rfl); (case hr => exact zsx); intro gb185 hg w136 hbox hb; have n0_ := Aside0.mk (Kd.R_below (Kd.R_elderB (zRx HO_3.out) gb185 (Nat.le_of_eq hg.symm)) hb); have n1_ := Aside0.mk (IsS78.below (IsS78.zI HI0.out) hb); have n2_ := Aside0.mk (KeepBut.trans (zKx HK.out) (KeepBut.of_below hb g none) (.inl rfl)); have n3_ := Aside0.mk (below_step (by first | exact zBy HB.out (IsS78.ge HI0.out) | exact zBx HB.out) hb); have n4_ := Aside0.mk (hbox); have n5_ := Aside0.mk ((by rw [hg]; exact (keep_size (w := w) (g := g) (row := none) (zKx HK.out)) : w.heap.size ≤ gb185)); have n6_ := Aside0.mk ((Nat.le_trans HW0.out (by rw [hg]; exact (keep_size (w := w) (g := g) (row := none) (zKx HK.out)) : w.heap.size ≤ gb185) : w0.heap.size ≤ gb185)); have n7_ := Aside0.mk ((by rw [hg]; exact Nat.ne_of_lt (IsS78.lt (show IsS78 w0 _ g s0_0 t182 t183 from IsS78.zI HI0.out)) : g ≠ gb185)); have n8_ := Aside0.mk ((by rw [hg]; exact Nat.ne_of_gt (IsS78.lt (show IsS78 w0 _ g s0_0 t182 t183 from IsS78.zI HI0.out)) : gb185 ≠ g)); clear HO_3; clear HI0; clear HK; clear HB; have HO_3 := n0_; have HI0 := n1_; have HK := n2_; have HB := n3_; have BK185 := n4_; have GW185 := n5_; have GE185 := n6_; have NB0_185 := n7_; have NB185_0 := n8_; clear n0_ n1_ n2_ n3_ n4_ n5_ n6_ n7_ n8_; clear hb hbox hg; have hnb137 := NB185_0.out; have hnc137 := NB0_185.out; have hcz138_0 : w136.cell? ⟨gb185, 0, none⟩ = some (.int .i64 0) := (blk_cell BK185.out 0).trans rfl; have hcz138_1 : w136.cell? ⟨gb185, 1, none⟩ = some (.int .i64 0) := (blk_cell BK185.out 1).trans rfl; have hcz138_2 : w136.cell? ⟨gb185, 2, none⟩ = some (.int .i64 0) := (blk_cell BK185.out 2).trans rfl; have hfz138_0 := blk_frozen BK185.out 0; have hfz138_1 := blk_frozen BK185.out 1; have hfz138_2 := blk_frozen BK185.out 2) | ((with_reducible refine gate_callee (f := 72) rfl ?_); refine goesL_ (some 89) rfl rfl Try.func72 (by kernel_rfl) rfl #[.pointer (some ⟨g, 0, none⟩), .int .i64 40] rfl zlx ?_; (with_reducible refine (spec_l1Cur_pick.calls g s0_0 t182 t183 40 t186 t187 t188 w0 _ ?side1 ?side2 A111.out).mono ?_); (case side1 => exact IsS78.zJ HI0.out NB0_185.out); (case side2 => first | exact zBz HB.out (IsS78.ge HI0.out) GE185.out | exact zBy HB.out GE185.out); rintro e w139 ⟨rfl, hi, hb, hk⟩; refine ⟨_, rfl, ?_⟩; have n0_ := Aside0.mk (Kd.R_mono (Kd.R_keep (IsS78.apart (show IsS78 w0 _ g s0_0 t182 t183 from IsS78.zJ HI0.out NB0_185.out) (by (with_reducible repeat (first | apply Kd.R_alloc | apply Kd.R_drewN | apply Kd.R_drew)); exact (Kd.R_mono (Kd.R_far (p := ⟨gb185, 2, none⟩) (Kd.R_far (p := ⟨gb185, 1, none⟩) (Kd.R_far (p := ⟨gb185, 0, none⟩) (Kd.R_mono HO_3.out (fun k_ hk => (⟨hk, hk.2⟩ : _ ∧ k_ ≠ gb185))) (fun _ hk => hk.2) (.int .i64 ((rd_T41 x3_2 t181).f0))) (fun _ hk => hk.2) (.int .i64 ((rd_T41 x3_2 t181).f1))) (fun _ hk => hk.2) (.int .i64 ((rd_T41 x3_2 t181).f2))) (fun _ h_ => h_.1))) (by decide)) hk (fun _ h => h.2)) (fun _ h => h.1)); have n1_ := Aside0.mk (KeepBut.blk hk (g' := gb185) (o := .cells #[.int .i64 ((rd_T41 x3_2 t181).f0), .int .i64 ((rd_T41 x3_2 t181).f1), .int .i64 ((rd_T41 x3_2 t181).f2)] 41 (0, 0)) (by (with_reducible repeat (first | refine blk_drewN ?_ _ | refine blk_drew ?_ | refine blk_alloc ?_ _)); refine blk_put (cs := #[.int .i64 ((rd_T41 x3_2 t181).f0), .int .i64 ((rd_T41 x3_2 t181).f1), .int .i64 0]) ?_ 2 _ rfl; (with_reducible repeat (first | refine blk_drewN ?_ _ | refine blk_drew ?_ | refine blk_alloc ?_ _)); refine blk_put (cs := #[.int .i64 ((rd_T41 x3_2 t181).f0), .int .i64 0, .int .i64 0]) ?_ 1 _ rfl; (with_reducible repeat (first | refine blk_drewN ?_ _ | refine blk_drew ?_ | refine blk_alloc ?_ _)); refine blk_put (cs := #[.int .i64 0, .int .i64 0, .int .i64 0]) ?_ 0 _ rfl; (with_reducible repeat (first | refine blk_drewN ?_ _ | refine blk_drew ?_ | refine blk_alloc ?_ _)); exact BK185.out) NB185_0.out (by simp)); have n2_ := Aside0.mk (KeepBut.trans (zKy HK.out GW185.out) hk (.inl rfl)); have n3_ := Aside0.mk (hb); have n4_ := Aside0.mk (hi); clear HO_3; clear BK185; clear HK; clear HB; clear HI0; have HO_3 := n0_; have BK185 := n1_; have HK := n2_; have HB := n3_; have HI0 := n4_; clear n0_ n1_ n2_ n3_ n4_; (try clear hb); (try clear hb2); (try clear hk); (try clear hi); have hcz140_0 : w139.cell? ⟨gb185, 0, none⟩ = some (.int .i64 ((rd_T41 x3_2 t181).f0)) := (blk_cell BK185.out 0).trans rfl; have hcz140_1 : w139.cell? ⟨gb185, 1, none⟩ = some (.int .i64 ((rd_T41 x3_2 t181).f1)) := (blk_cell BK185.out 1).trans rfl; have hcz140_2 : w139.cell? ⟨gb185, 2, none⟩ = some (.int .i64 ((rd_T41 x3_2 t181).f2)) := (blk_cell BK185.out 2).trans rfl; have hfz140_0 := blk_frozen BK185.out 0; have hfz140_1 := blk_frozen BK185.out 1; have hfz140_2 := blk_frozen BK185.out 2) | ((with_reducible refine gate_dst (N := 103) rfl ?_); (try (refine gate_guard (by rfl) ?_; dsimp only)); refine Kd.R_lit (Kd.int .i64) _ 3 ?hg (N := 103) ?hd (xs := ([240, 241, (rd_T41 x3_2 t181).f0] : List Int)) (inner := [.int .i64 240, .int .i64 241, .int .i64 ((rd_T41 x3_2 t181).f0)]) (ok := fun _ => True) (okp := fun _ => True) ?hr ?hp (fun _ hk => hk) trivial (Below.refl _ _) (Nat.le_refl _) (by simp) ?_; (case hd => rfl); (case hg => rfl); (case hr => exact zsx); (case hp => exact (Reps.one (show Kd.M (Kd.int .i64) _ _ _ 240 [.int .i64 240] from rfl) (Reps.one (show Kd.M (Kd.int .i64) _ _ _ 241 [.int .i64 241] from rfl) (Reps.one (show Kd.M (Kd.int .i64) _ _ _ ((rd_T41 x3_2 t181).f0) [.int .i64 ((rd_T41 x3_2 t181).f0)] from rfl) (Reps.none _ _))))); intro v197 w141 ho142 hb hg_ hnew_; clear hg_ hnew_; (first | rw [← Ny196.out] at ho142 | (simp only [Int.reduceToNat] at ho142; rw [← Ny196.out] at ho142)); have n0_ := Aside0.mk (Kd.R_below (zRx HO_3.out) hb); have n1_ := Aside0.mk (Kd.R_lower ho142 (keep_size (w := w) (g := g) (row := none) (zKy HK.out GW185.out))); have n2_ := Aside0.mk (IsS78.below (IsS78.zF HI0.out NB0_185.out) hb); have n3_ := Aside0.mk (blk_below (g := gb185) (o := .cells #[.int .i64 ((rd_T41 x3_2 t181).f0), .int .i64 ((rd_T41 x3_2 t181).f1), .int .i64 ((rd_T41 x3_2 t181).f2)] 41 (0, 0)) (zbx BK185.out) hb); have n4_ := Aside0.mk (KeepBut.trans (zKy HK.out GW185.out) (KeepBut.of_below hb g none) (.inl rfl)); have n5_ := Aside0.mk (below_step (by first | exact zBz HB.out (IsS78.ge HI0.out) GE185.out | exact zBy HB.out GE185.out) hb); clear HO_3; clear HI0; clear BK185; clear HK; clear HB; have HO_3 := n0_; have HO198 := n1_; have HI0 := n2_; have BK185 := n3_; have HK := n4_; have HB := n5_; clear n0_ n1_ n2_ n3_ n4_ n5_; clear hb ho142; obtain ⟨Ao143, co143, eo143⟩ := Kd.R_slice HO198.out; subst eo143) | ((with_reducible refine gate_callee (f := 67) rfl ?_); refine goesL_ (some 104) rfl rfl Try.func67 (by kernel_rfl) rfl #[.pointer (some ⟨g, 0, none⟩), .slice Ao143 y196.length co143] rfl zlx ?_; (with_reducible refine (spec_l1Cur_among.calls g s0_0 t187 t188 _ _ y196 t199 t200 t201 w0 _ ?side1 ?side2 ?side3 ?side4 ?side5 A132.out).mono ?_); (case side1 => exact IsS78.zJ HI0.out NB0_185.out); (case side2 => first | exact zBz HB.out (IsS78.ge HI0.out) GE185.out | exact zBy HB.out GE185.out); (case side3 => repeat (first | exact (Kd.R_reads' HO198.out).2.2 | (with_reducible refine Kd.C_alloc ?_ _) | (with_reducible refine Kd.C_drewN ?_ _) | (with_reducible refine Kd.C_drew ?_))); (case side4 => exact (Kd.R_reads' HO198.out).2.1); (case side5 => exact far_slice (IsS78.own_ne HI0.out HO198.out (by decide))); rintro e w144 ⟨rfl, hi, hb, hk⟩; refine ⟨_, rfl, ?_⟩; have n0_ := Aside0.mk (Kd.R_mono (Kd.R_keep (IsS78.apart (show IsS78 w0 _ g s0_0 t187 t188 from IsS78.zJ HI0.out NB0_185.out) (zRx HO_3.out) (by decide)) hk (fun _ h => h.2)) (fun _ h => h.1)); have n1_ := Aside0.mk (KeepBut.blk hk (g' := gb185) (o := .cells #[.int .i64 ((rd_T41 x3_2 t181).f0), .int .i64 ((rd_T41 x3_2 t181).f1), .int .i64 ((rd_T41 x3_2 t181).f2)] 41 (0, 0)) (zbx BK185.out) NB185_0.out (by simp)); have n2_ := Aside0.mk (Kd.R_mono (Kd.R_keep (IsS78.apart (show IsS78 w0 _ g s0_0 t187 t188 from IsS78.zJ HI0.out NB0_185.out) (zRx HO198.out) (by decide)) hk (fun _ h => h.2)) (fun _ h => h.1)); have n3_ := Aside0.mk (KeepBut.trans (zKy HK.out GW185.out) hk (.inl rfl)); have n4_ := Aside0.mk (hb); have n5_ := Aside0.mk (hi); clear HO_3; clear BK185; clear HO198; clear HK; clear HB; clear HI0; have HO_3 := n0_; have BK185 := n1_; have HO198 := n2_; have HK := n3_; have HB := n4_; have HI0 := n5_; clear n0_ n1_ n2_ n3_ n4_ n5_; (try clear hb); (try clear hb2); (try clear hk); (try clear hi); have hcz145_0 : w144.cell? ⟨gb185, 0, none⟩ = some (.int .i64 ((rd_T41 x3_2 t181).f0)) := (blk_cell BK185.out 0).trans rfl; have hcz145_1 : w144.cell? ⟨gb185, 1, none⟩ = some (.int .i64 ((rd_T41 x3_2 t181).f1)) := (blk_cell BK185.out 1).trans rfl; have hcz145_2 : w144.cell? ⟨gb185, 2, none⟩ = some (.int .i64 ((rd_T41 x3_2 t181).f2)) := (blk_cell BK185.out 2).trans rfl; have hfz145_0 := blk_frozen BK185.out 0; have hfz145_1 := blk_frozen BK185.out 1; have hfz145_2 := blk_frozen BK185.out 2) | ((with_reducible refine gate_store (t := 3) (p := 105) rfl ?_); refine store_event (t := 3) (p := 105) (v := ?vo_w146) (w1 := (w144.setCell ⟨gb185, 1, none⟩ (.int .i64 t199))) ?hg ?ho ?hn ?hr ?_; (case ho => rfl); (case hg => rfl); (case hn => rfl); (case hr => exact zsx); intro w146 hw; have n0_ : Aside0 (Kd.R k41 41 w146 w.heap.size (fun k_ => k_ ≠ gb185) (.slice (some ad184) x3_2.length co134) x3_2) := ⟨(by rw [hw]; exact (by (with_reducible repeat (first | apply Kd.R_alloc | apply Kd.R_drewN | apply Kd.R_drew)); exact Kd.R_mono (Kd.R_far (p := ⟨gb185, 1, none⟩) (Kd.R_mono HO_3.out (fun k_ hk => (⟨hk, hk.2⟩ : _ ∧ k_ ≠ gb185))) (fun _ hk => hk.2) (.int .i64 t199)) (fun _ hk => hk.1.2)))⟩; have n1_ : Aside0 (Kd.R (Kd.int .i64) 3 w146 w.heap.size (fun _ => True) (.slice Ao143 y196.length co143) y196) := ⟨(by rw [hw]; exact (by (with_reducible repeat (first | apply Kd.R_alloc | apply Kd.R_drewN | apply Kd.R_drew)); exact Kd.R_mono (Kd.R_far (p := ⟨gb185, 1, none⟩) (Kd.R_types HO198.out BK185.out (by decide)) (fun _ hk => hk.2) (.int .i64 t199)) (fun _ hk => trivial)))⟩; have n2_ : Aside0 (w146.heap[gb185]? = some (.cells #[.int .i64 ((rd_T41 x3_2 t181).f0), .int .i64 t199, .int .i64 ((rd_T41 x3_2 t181).f2)] 41 (0, 0))) := ⟨(by rw [hw]; exact (by (with_reducible repeat (first | refine blk_drewN ?_ _ | refine blk_drew ?_ | refine blk_alloc ?_ _)); refine blk_put (cs := #[.int .i64 ((rd_T41 x3_2 t181).f0), .int .i64 ((rd_T41 x3_2 t181).f1), .int .i64 ((rd_T41 x3_2 t181).f2)]) ?_ 1 _ rfl; (with_reducible repeat (first | refine blk_drewN ?_ _ | refine blk_drew ?_ | refine blk_alloc ?_ _)); exact BK185.out))⟩; have n3_ : Aside0 (IsS78 w0 w146 g s0_0 t200 t201) := ⟨(by rw [hw]; exact (IsS78.zJ HI0.out NB0_185.out))⟩; have n4_ : Aside0 (KeepBut w w146 g none) := ⟨(by rw [hw]; exact (zKy HK.out GW185.out))⟩; have n5_ : Aside0 (Below w0.heap.size w0 w146) := ⟨(by rw [hw]; exact (by first | exact zBz HB.out (IsS78.ge HI0.out) GE185.out | exact zBy HB.out GE185.out))⟩; clear hw; clear HO_3; clear HO198; clear BK185; clear HI0; clear HK; clear HB; have HO_3 := n0_; have HO198 := n1_; have BK185 := n2_; have HI0 := n3_; have HK := n4_; have HB := n5_; clear n0_ n1_ n2_ n3_ n4_ n5_; have hcz147_0 : w146.cell? ⟨gb185, 0, none⟩ = some (.int .i64 ((rd_T41 x3_2 t181).f0)) := (blk_cell BK185.out 0).trans rfl; have hcz147_1 : w146.cell? ⟨gb185, 1, none⟩ = some (.int .i64 t199) := (blk_cell BK185.out 1).trans rfl; have hcz147_2 : w146.cell? ⟨gb185, 2, none⟩ = some (.int .i64 ((rd_T41 x3_2 t181).f2)) := (blk_cell BK185.out 2).trans rfl; have hfz147_0 := blk_frozen BK185.out 0; have hfz147_1 := blk_frozen BK185.out 1; have hfz147_2 := blk_frozen BK185.out 2; have p133 : 0 ≤ (t181 : Int) := of_decide_eq_true zax; have q133 : (t181 : Int) < ((x3_2.length : Int) : Int) := of_decide_eq_true zax; obtain ⟨go133, co133, eo133, gb133, gl133, cl133, HG133⟩ := Kd.R_form HO_3.out (by omega); (first | cases eo133 | (injection eo133 with ea_ en_ ec_; (first | subst ea_ | (injection ea_ with ea_; subst ea_)); subst ec_; clear en_)); have GB133 := Aside0.mk gb133; have GG133 := Aside0.mk HG133; clear gb133 gl133 HG133; (first | simp only [add_plain] at hx184_0 | skip); (first | simp only [add_plain] at hx184_1 | skip); (first | simp only [add_plain] at hx184_2 | skip); obtain ⟨ce133, hcl133, hM133, hcc133, hfr133⟩ := Kd.R_elem HO_3.out z41 (t181 : Int) p133 q133; obtain rfl := k41_openM hM133; have hx133_0 : w146.cell? ⟨go133, (t181 : Int).toNat * 3, none⟩ = some (.int .i64 ((rd_T41 x3_2 t181).f0)) := hcc133 0 _ rfl; have hx133_1 : w146.cell? ⟨go133, (t181 : Int).toNat * 3 + 1, none⟩ = some (.int .i64 ((rd_T41 x3_2 t181).f1)) := hcc133 1 _ rfl; have hx133_2 : w146.cell? ⟨go133, (t181 : Int).toNat * 3 + 2, none⟩ = some (.int .i64 ((rd_T41 x3_2 t181).f2)) := hcc133 2 _ rfl; have hf133_0 : w146.frozen? ⟨go133, (t181 : Int).toNat * 3, none⟩ = false := hfr133 0; have hf133_1 : w146.frozen? ⟨go133, (t181 : Int).toNat * 3 + 1, none⟩ = false := hfr133 1; have hf133_2 : w146.frozen? ⟨go133, (t181 : Int).toNat * 3 + 2, none⟩ = false := hfr133 2; clear hcl133 hcc133 hfr133 hM133; replace p133 := eq_true p133; replace q133 := eq_true q133; have HX148 := Aside0.mk (show Kd.R k41 41 w146 w.heap.size (fun k_ => k_ ≠ gb185) (.slice (some ⟨go133, 0, none⟩) x3_2.length co134) x3_2 from (zRx HO_3.out)); obtain ⟨ce148, hcl148, hM148, hcc148, hfr148⟩ := Kd.R_elem HX148.out z41 (t181 : Int) (of_decide_eq_true zax) (by have h_ : (t181 : Int) < ((x3_2.length : Int) : Int) := of_decide_eq_true zax; first | exact h_ | (have e_ := (Kd.R_reads' HO_3.out).1; omega) | simpa using h_); obtain rfl := k41_openM hM148; have HP148 := Kd.R_seg HX148.out (t181 : Int) (of_decide_eq_true zax) (by have h_ : (t181 : Int) < ((x3_2.length : Int) : Int) := of_decide_eq_true zax; first | exact h_ | (have e_ := (Kd.R_reads' HO_3.out).1; omega) | simpa using h_) (seg := [.int .i64 ((rd_T41 x3_2 t181).f0), .int .i64 t199, .int .i64 ((rd_T41 x3_2 t181).f2)]) (j := 0) hcl148 hcc148 (show 3 ≤ 3 from by decide) (x' := (⟨(rd_T41 x3_2 t181).f0, t199, (rd_T41 x3_2 t181).f2⟩ : S41)) (k41_mkM _ _ _ (⟨(rd_T41 x3_2 t181).f0, t199, (rd_T41 x3_2 t181).f2⟩ : S41) ) (fun _ hk => hk); have hx148_0 := hcc148 0 _ rfl; (try simp only [show (k41).sz = 3 from rfl, Nat.mul_one, Nat.add_zero] at hx148_0); have hf148_0 := hfr148 0; (try simp only [show (k41).sz = 3 from rfl, Nat.mul_one, Nat.add_zero] at hf148_0); have hx148_1 := hcc148 1 _ rfl; (try simp only [show (k41).sz = 3 from rfl, Nat.mul_one, Nat.add_zero] at hx148_1); have hf148_1 := hfr148 1; (try simp only [show (k41).sz = 3 from rfl, Nat.mul_one, Nat.add_zero] at hf148_1); have hx148_2 := hcc148 2 _ rfl; (try simp only [show (k41).sz = 3 from rfl, Nat.mul_one, Nat.add_zero] at hx148_2); have hf148_2 := hfr148 2; (try simp only [show (k41).sz = 3 from rfl, Nat.mul_one, Nat.add_zero] at hf148_2); clear hcl148 hcc148 hfr148 hM148) | ((with_reducible refine gate_store (t := 41) (p := 115) rfl ?_); refine store_event (t := 41) (p := 115) (v := ?vo_w149) (w1 := (((w146.setCell ⟨go133, (t181 : Int).toNat * 3, none⟩ (.int .i64 ((rd_T41 x3_2 t181).f0))).setCell ⟨go133, (t181 : Int).toNat * 3 + 1, none⟩ (.int .i64 t199)).setCell ⟨go133, (t181 : Int).toNat * 3 + 2, none⟩ (.int .i64 ((rd_T41 x3_2 t181).f2)))) ?hg ?ho ?hn ?hr ?_; (case ho => rfl); (case hg => rfl); (case hn => rfl); (case hr => exact zsx); intro w149 hw; have hg : w146.grownBy w149 (some go133) := (by rw [hw]; exact HP148.2); have hp_ : Kd.R k41 41 w149 w.heap.size (fun k_ => k_ ≠ gb185) (.slice (some ⟨go133, 0, none⟩) x3_2.length co134) y202 := (by rw [hw, Ny202.out]; exact HP148.1); clear HP148; have n0_ := Aside0.mk (hp_); have n1_ := Aside0.mk (IsS78.grown (IsS78.zF HI0.out NB0_185.out) hg (IsS78.own_ne HI0.out HO_3.out (by decide))); have n2_ := Aside0.mk (blk_grown (g := gb185) (o := .cells #[.int .i64 ((rd_T41 x3_2 t181).f0), .int .i64 t199, .int .i64 ((rd_T41 x3_2 t181).f2)] 41 (0, 0)) (zbx BK185.out) hg (Kd.R_away HO_3.out (fun _ hk => hk))); have n3_ := Aside0.mk (Kd.R_over' (v := (.slice (some ⟨go133, 0, none⟩) x3_2.length co134)) (zRx HO198.out) (Kd.R_typed HO_3.out) (by decide) hg); have n4_ := Aside0.mk ((by rw [hw]; exact below_set (below_set (below_set (HB.out) (Nat.le_trans HL.out GB133.out)) (Nat.le_trans HL.out GB133.out)) (Nat.le_trans HL.out GB133.out) : Below w0.heap.size w0 w149)); have n5_ := Aside0.mk (KeepBut.trans (zKy HK.out GW185.out) (KeepBut.of_grown hg g) (Kd.R_base2 HO_3.out)); clear HO_3; clear HI0; clear BK185; clear HO198; clear HB; clear HK; have HO_3 := n0_; have HI0 := n1_; have BK185 := n2_; have HO198 := n3_; have HB := n4_; have HK := n5_; clear n0_ n1_ n2_ n3_ n4_ n5_; clear hg hw hp_))
            go_ret
            exact ⟨_, by first | rfl | (simp [errW_none, errW_some] <;> rfl) | (simp [*, errW_none, errW_some] <;> rfl), by (with_reducible repeat (first | apply Kd.R_alloc | apply Kd.R_drewN | apply Kd.R_drew)); exact Kd.R_mono HO_3.out (fun _ hk => trivial), by exact IsS78.zJ HI0.out NB0_185.out, by exact zBz HB.out (IsS78.ge HI0.out) GE185.out, by exact zKy HK.out GW185.out⟩
          ·rw [if_neg c131] at H
           have c131b0 : (t186 == 1) = false := beq_eq_false_iff_ne.mpr c131
           have c131b1 : (t186 != 1) = true := bne_iff_ne.mpr c131
           by_cases c150 : t186 = 2
           ·rw [if_pos c150] at H
            have c150b0 : (t186 == 2) = true := beq_iff_eq.mpr c150
            have c150b1 : (t186 != 2) = false := bne_eq_false_iff_eq.mpr c150
            clear c150
            obtain ⟨y203, hy203⟩ : ∃ y_ : List Int, y_ = (([0, 4, 1] : List Int)) := ⟨_, rfl⟩
            replace H : ((spec_l1Cur_among.f s0_0 t187 t188 y203).bind fun bt206 => (some ((x3_2.set (t181 : Int).toNat (⟨(rd_T41 x3_2 t181).f0, (rd_T41 x3_2 t181).f1, bt206.1⟩ : S41)), bt206.2.1, bt206.2.2))) = some (r1, r2, r3) := by first | (rw [hy203]; with_reducible exact H) | (have H2_ := (Option.bind_some _ _).symm.trans H; rw [hy203]; with_reducible exact H2_) | (have H2_ := (Option.bind_some _ _).symm.trans H; with_reducible exact H2_) | with_reducible exact H | (rw [hy203]; exact H) | exact H
            have Ny203 := Aside0.mk hy203
            clear hy203
            replace H := Option.bind_eq_some_iff.mp H
            obtain ⟨⟨t206, t207, t208⟩, A1510, H⟩ := H
            replace H : (some ((x3_2.set (t181 : Int).toNat (⟨(rd_T41 x3_2 t181).f0, (rd_T41 x3_2 t181).f1, t206⟩ : S41)), t207, t208)) = some (r1, r2, r3) := H
            have A151 := Aside0.mk A1510
            clear A1510
            obtain ⟨y209, hy209⟩ : ∃ y_ : List (S41), y_ = (x3_2.set (t181 : Int).toNat (⟨(rd_T41 x3_2 t181).f0, (rd_T41 x3_2 t181).f1, t206⟩ : S41)) := ⟨_, rfl⟩
            replace H : (some (y209, t207, t208)) = some (r1, r2, r3) := by first | (rw [hy209]; with_reducible exact H) | (have H2_ := (Option.bind_some _ _).symm.trans H; rw [hy209]; with_reducible exact H2_) | (have H2_ := (Option.bind_some _ _).symm.trans H; with_reducible exact H2_) | with_reducible exact H | (rw [hy209]; exact H) | exact H
            have Ny209 := Aside0.mk hy209
            clear hy209
            focus
             simp only [Option.some.injEq, Prod.mk.injEq] at H
             obtain ⟨rfl, rfl, rfl⟩ := H
             obtain ⟨Ao153, co153, eo153⟩ := Kd.R_slice HO_3.out
             subst eo153
             go_wp2_with (first | ((with_reducible refine gate_callee (f := 72) rfl ?_); refine goesL_ (some 83) rfl rfl Try.func72 (by kernel_rfl) rfl #[.pointer (some ⟨g, 0, none⟩), .int .i64 (x3_2.length : Int)] rfl zlx ?_; (with_reducible refine (spec_l1Cur_pick.calls g s0_0 x1001_2 x1002_2 (x3_2.length : Int) t181 t182 t183 w0 _ ?side1 ?side2 A108.out).mono ?_); (case side1 => exact IsS78.zI HI0.out); (case side2 => first | exact zBy HB.out (IsS78.ge HI0.out) | exact zBx HB.out); rintro e w154 ⟨rfl, hi, hb, hk⟩; refine ⟨_, rfl, ?_⟩; have n0_ := Aside0.mk (Kd.R_mono (Kd.R_keep (IsS78.apart (show IsS78 w0 _ g s0_0 x1001_2 x1002_2 from IsS78.zI HI0.out) (zRx HO_3.out) (by decide)) hk (fun _ h => h.2)) (fun _ h => h.1)); have n1_ := Aside0.mk (KeepBut.trans (zKx HK.out) hk (.inl rfl)); have n2_ := Aside0.mk (hb); have n3_ := Aside0.mk (hi); clear HO_3; clear HK; clear HB; clear HI0; have HO_3 := n0_; have HK := n1_; have HB := n2_; have HI0 := n3_; clear n0_ n1_ n2_ n3_; (try clear hb); (try clear hb2); (try clear hk); (try clear hi); have p184 : 0 ≤ (t181 : Int) := of_decide_eq_true zax; have q184 : t181 < (x3_2.length : Int) := of_decide_eq_true zax; obtain ⟨ad184, e184, hx184_0, hx184_1, hx184_2⟩ := at_T41 (Kd.R_reads' HO_3.out).2.2 t181 p184 q184; cases e184; replace p184 := eq_true p184; replace q184 := eq_true q184) | ((with_reducible refine gate_dst (N := 8) rfl ?_); (try (refine gate_guard (by rfl) ?_; dsimp only)); refine box_event ?hg (N := 8) ?hd (cs := #[.int .i64 0, .int .i64 0, .int .i64 0]) (t := 41) ?hr ?_; (case hd => rfl); (case hg => rfl); (case hr => exact zsx); intro gb185 hg w155 hbox hb; have n0_ := Aside0.mk (Kd.R_below (Kd.R_elderB (zRx HO_3.out) gb185 (Nat.le_of_eq hg.symm)) hb); have n1_ := Aside0.mk (IsS78.below (IsS78.zI HI0.out) hb); have n2_ := Aside0.mk (KeepBut.trans (zKx HK.out) (KeepBut.of_below hb g none) (.inl rfl)); have n3_ := Aside0.mk (below_step (by first | exact zBy HB.out (IsS78.ge HI0.out) | exact zBx HB.out) hb); have n4_ := Aside0.mk (hbox); have n5_ := Aside0.mk ((by rw [hg]; exact (keep_size (w := w) (g := g) (row := none) (zKx HK.out)) : w.heap.size ≤ gb185)); have n6_ := Aside0.mk ((Nat.le_trans HW0.out (by rw [hg]; exact (keep_size (w := w) (g := g) (row := none) (zKx HK.out)) : w.heap.size ≤ gb185) : w0.heap.size ≤ gb185)); have n7_ := Aside0.mk ((by rw [hg]; exact Nat.ne_of_lt (IsS78.lt (show IsS78 w0 _ g s0_0 t182 t183 from IsS78.zI HI0.out)) : g ≠ gb185)); have n8_ := Aside0.mk ((by rw [hg]; exact Nat.ne_of_gt (IsS78.lt (show IsS78 w0 _ g s0_0 t182 t183 from IsS78.zI HI0.out)) : gb185 ≠ g)); clear HO_3; clear HI0; clear HK; clear HB; have HO_3 := n0_; have HI0 := n1_; have HK := n2_; have HB := n3_; have BK185 := n4_; have GW185 := n5_; have GE185 := n6_; have NB0_185 := n7_; have NB185_0 := n8_; clear n0_ n1_ n2_ n3_ n4_ n5_ n6_ n7_ n8_; clear hb hbox hg; have hnb156 := NB185_0.out; have hnc156 := NB0_185.out; have hcz157_0 : w155.cell? ⟨gb185, 0, none⟩ = some (.int .i64 0) := (blk_cell BK185.out 0).trans rfl; have hcz157_1 : w155.cell? ⟨gb185, 1, none⟩ = some (.int .i64 0) := (blk_cell BK185.out 1).trans rfl; have hcz157_2 : w155.cell? ⟨gb185, 2, none⟩ = some (.int .i64 0) := (blk_cell BK185.out 2).trans rfl; have hfz157_0 := blk_frozen BK185.out 0; have hfz157_1 := blk_frozen BK185.out 1; have hfz157_2 := blk_frozen BK185.out 2) | ((with_reducible refine gate_callee (f := 72) rfl ?_); refine goesL_ (some 89) rfl rfl Try.func72 (by kernel_rfl) rfl #[.pointer (some ⟨g, 0, none⟩), .int .i64 40] rfl zlx ?_; (with_reducible refine (spec_l1Cur_pick.calls g s0_0 t182 t183 40 t186 t187 t188 w0 _ ?side1 ?side2 A111.out).mono ?_); (case side1 => exact IsS78.zJ HI0.out NB0_185.out); (case side2 => first | exact zBz HB.out (IsS78.ge HI0.out) GE185.out | exact zBy HB.out GE185.out); rintro e w158 ⟨rfl, hi, hb, hk⟩; refine ⟨_, rfl, ?_⟩; have n0_ := Aside0.mk (Kd.R_mono (Kd.R_keep (IsS78.apart (show IsS78 w0 _ g s0_0 t182 t183 from IsS78.zJ HI0.out NB0_185.out) (by (with_reducible repeat (first | apply Kd.R_alloc | apply Kd.R_drewN | apply Kd.R_drew)); exact (Kd.R_mono (Kd.R_far (p := ⟨gb185, 2, none⟩) (Kd.R_far (p := ⟨gb185, 1, none⟩) (Kd.R_far (p := ⟨gb185, 0, none⟩) (Kd.R_mono HO_3.out (fun k_ hk => (⟨hk, hk.2⟩ : _ ∧ k_ ≠ gb185))) (fun _ hk => hk.2) (.int .i64 ((rd_T41 x3_2 t181).f0))) (fun _ hk => hk.2) (.int .i64 ((rd_T41 x3_2 t181).f1))) (fun _ hk => hk.2) (.int .i64 ((rd_T41 x3_2 t181).f2))) (fun _ h_ => h_.1))) (by decide)) hk (fun _ h => h.2)) (fun _ h => h.1)); have n1_ := Aside0.mk (KeepBut.blk hk (g' := gb185) (o := .cells #[.int .i64 ((rd_T41 x3_2 t181).f0), .int .i64 ((rd_T41 x3_2 t181).f1), .int .i64 ((rd_T41 x3_2 t181).f2)] 41 (0, 0)) (by (with_reducible repeat (first | refine blk_drewN ?_ _ | refine blk_drew ?_ | refine blk_alloc ?_ _)); refine blk_put (cs := #[.int .i64 ((rd_T41 x3_2 t181).f0), .int .i64 ((rd_T41 x3_2 t181).f1), .int .i64 0]) ?_ 2 _ rfl; (with_reducible repeat (first | refine blk_drewN ?_ _ | refine blk_drew ?_ | refine blk_alloc ?_ _)); refine blk_put (cs := #[.int .i64 ((rd_T41 x3_2 t181).f0), .int .i64 0, .int .i64 0]) ?_ 1 _ rfl; (with_reducible repeat (first | refine blk_drewN ?_ _ | refine blk_drew ?_ | refine blk_alloc ?_ _)); refine blk_put (cs := #[.int .i64 0, .int .i64 0, .int .i64 0]) ?_ 0 _ rfl; (with_reducible repeat (first | refine blk_drewN ?_ _ | refine blk_drew ?_ | refine blk_alloc ?_ _)); exact BK185.out) NB185_0.out (by simp)); have n2_ := Aside0.mk (KeepBut.trans (zKy HK.out GW185.out) hk (.inl rfl)); have n3_ := Aside0.mk (hb); have n4_ := Aside0.mk (hi); clear HO_3; clear BK185; clear HK; clear HB; clear HI0; have HO_3 := n0_; have BK185 := n1_; have HK := n2_; have HB := n3_; have HI0 := n4_; clear n0_ n1_ n2_ n3_ n4_; (try clear hb); (try clear hb2); (try clear hk); (try clear hi)) | ((with_reducible refine gate_dst (N := 109) rfl ?_); (try (refine gate_guard (by rfl) ?_; dsimp only)); refine Kd.R_lit (Kd.int .i64) _ 3 ?hg (N := 109) ?hd (xs := ([0, 4, 1] : List Int)) (inner := [.int .i64 0, .int .i64 4, .int .i64 1]) (ok := fun _ => True) (okp := fun _ => True) ?hr ?hp (fun _ hk => hk) trivial (Below.refl _ _) (Nat.le_refl _) (by simp) ?_; (case hd => rfl); (case hg => rfl); (case hr => exact zsx); (case hp => exact (Reps.one (show Kd.M (Kd.int .i64) _ _ _ 0 [.int .i64 0] from rfl) (Reps.one (show Kd.M (Kd.int .i64) _ _ _ 4 [.int .i64 4] from rfl) (Reps.one (show Kd.M (Kd.int .i64) _ _ _ 1 [.int .i64 1] from rfl) (Reps.none _ _))))); intro v204 w159 ho160 hb hg_ hnew_; clear hg_ hnew_; (first | rw [← Ny203.out] at ho160 | (simp only [Int.reduceToNat] at ho160; rw [← Ny203.out] at ho160)); have n0_ := Aside0.mk (Kd.R_below (zRx HO_3.out) hb); have n1_ := Aside0.mk (Kd.R_lower ho160 (keep_size (w := w) (g := g) (row := none) (zKy HK.out GW185.out))); have n2_ := Aside0.mk (IsS78.below (IsS78.zF HI0.out NB0_185.out) hb); have n3_ := Aside0.mk (blk_below (g := gb185) (o := .cells #[.int .i64 ((rd_T41 x3_2 t181).f0), .int .i64 ((rd_T41 x3_2 t181).f1), .int .i64 ((rd_T41 x3_2 t181).f2)] 41 (0, 0)) (zbx BK185.out) hb); have n4_ := Aside0.mk (KeepBut.trans (zKy HK.out GW185.out) (KeepBut.of_below hb g none) (.inl rfl)); have n5_ := Aside0.mk (below_step (by first | exact zBz HB.out (IsS78.ge HI0.out) GE185.out | exact zBy HB.out GE185.out) hb); clear HO_3; clear HI0; clear BK185; clear HK; clear HB; have HO_3 := n0_; have HO205 := n1_; have HI0 := n2_; have BK185 := n3_; have HK := n4_; have HB := n5_; clear n0_ n1_ n2_ n3_ n4_ n5_; clear hb ho160; obtain ⟨Ao161, co161, eo161⟩ := Kd.R_slice HO205.out; subst eo161) | ((with_reducible refine gate_callee (f := 67) rfl ?_); refine goesL_ (some 110) rfl rfl Try.func67 (by kernel_rfl) rfl #[.pointer (some ⟨g, 0, none⟩), .slice Ao161 y203.length co161] rfl zlx ?_; (with_reducible refine (spec_l1Cur_among.calls g s0_0 t187 t188 _ _ y203 t206 t207 t208 w0 _ ?side1 ?side2 ?side3 ?side4 ?side5 A151.out).mono ?_); (case side1 => exact IsS78.zJ HI0.out NB0_185.out); (case side2 => first | exact zBz HB.out (IsS78.ge HI0.out) GE185.out | exact zBy HB.out GE185.out); (case side3 => repeat (first | exact (Kd.R_reads' HO205.out).2.2 | (with_reducible refine Kd.C_alloc ?_ _) | (with_reducible refine Kd.C_drewN ?_ _) | (with_reducible refine Kd.C_drew ?_))); (case side4 => exact (Kd.R_reads' HO205.out).2.1); (case side5 => exact far_slice (IsS78.own_ne HI0.out HO205.out (by decide))); rintro e w162 ⟨rfl, hi, hb, hk⟩; refine ⟨_, rfl, ?_⟩; have n0_ := Aside0.mk (Kd.R_mono (Kd.R_keep (IsS78.apart (show IsS78 w0 _ g s0_0 t187 t188 from IsS78.zJ HI0.out NB0_185.out) (zRx HO_3.out) (by decide)) hk (fun _ h => h.2)) (fun _ h => h.1)); have n1_ := Aside0.mk (KeepBut.blk hk (g' := gb185) (o := .cells #[.int .i64 ((rd_T41 x3_2 t181).f0), .int .i64 ((rd_T41 x3_2 t181).f1), .int .i64 ((rd_T41 x3_2 t181).f2)] 41 (0, 0)) (zbx BK185.out) NB185_0.out (by simp)); have n2_ := Aside0.mk (Kd.R_mono (Kd.R_keep (IsS78.apart (show IsS78 w0 _ g s0_0 t187 t188 from IsS78.zJ HI0.out NB0_185.out) (zRx HO205.out) (by decide)) hk (fun _ h => h.2)) (fun _ h => h.1)); have n3_ := Aside0.mk (KeepBut.trans (zKy HK.out GW185.out) hk (.inl rfl)); have n4_ := Aside0.mk (hb); have n5_ := Aside0.mk (hi); clear HO_3; clear BK185; clear HO205; clear HK; clear HB; clear HI0; have HO_3 := n0_; have BK185 := n1_; have HO205 := n2_; have HK := n3_; have HB := n4_; have HI0 := n5_; clear n0_ n1_ n2_ n3_ n4_ n5_; (try clear hb); (try clear hb2); (try clear hk); (try clear hi); have hcz163_0 : w162.cell? ⟨gb185, 0, none⟩ = some (.int .i64 ((rd_T41 x3_2 t181).f0)) := (blk_cell BK185.out 0).trans rfl; have hcz163_1 : w162.cell? ⟨gb185, 1, none⟩ = some (.int .i64 ((rd_T41 x3_2 t181).f1)) := (blk_cell BK185.out 1).trans rfl; have hcz163_2 : w162.cell? ⟨gb185, 2, none⟩ = some (.int .i64 ((rd_T41 x3_2 t181).f2)) := (blk_cell BK185.out 2).trans rfl; have hfz163_0 := blk_frozen BK185.out 0; have hfz163_1 := blk_frozen BK185.out 1; have hfz163_2 := blk_frozen BK185.out 2) | ((with_reducible refine gate_store (t := 3) (p := 111) rfl ?_); refine store_event (t := 3) (p := 111) (v := ?vo_w164) (w1 := (w162.setCell ⟨gb185, 2, none⟩ (.int .i64 t206))) ?hg ?ho ?hn ?hr ?_; (case ho => rfl); (case hg => rfl); (case hn => rfl); (case hr => exact zsx); intro w164 hw; have n0_ : Aside0 (Kd.R k41 41 w164 w.heap.size (fun k_ => k_ ≠ gb185) (.slice (some ad184) x3_2.length co153) x3_2) := ⟨(by rw [hw]; exact (by (with_reducible repeat (first | apply Kd.R_alloc | apply Kd.R_drewN | apply Kd.R_drew)); exact Kd.R_mono (Kd.R_far (p := ⟨gb185, 2, none⟩) (Kd.R_mono HO_3.out (fun k_ hk => (⟨hk, hk.2⟩ : _ ∧ k_ ≠ gb185))) (fun _ hk => hk.2) (.int .i64 t206)) (fun _ hk => hk.1.2)))⟩; have n1_ : Aside0 (Kd.R (Kd.int .i64) 3 w164 w.heap.size (fun _ => True) (.slice Ao161 y203.length co161) y203) := ⟨(by rw [hw]; exact (by (with_reducible repeat (first | apply Kd.R_alloc | apply Kd.R_drewN | apply Kd.R_drew)); exact Kd.R_mono (Kd.R_far (p := ⟨gb185, 2, none⟩) (Kd.R_types HO205.out BK185.out (by decide)) (fun _ hk => hk.2) (.int .i64 t206)) (fun _ hk => trivial)))⟩; have n2_ : Aside0 (w164.heap[gb185]? = some (.cells #[.int .i64 ((rd_T41 x3_2 t181).f0), .int .i64 ((rd_T41 x3_2 t181).f1), .int .i64 t206] 41 (0, 0))) := ⟨(by rw [hw]; exact (by (with_reducible repeat (first | refine blk_drewN ?_ _ | refine blk_drew ?_ | refine blk_alloc ?_ _)); refine blk_put (cs := #[.int .i64 ((rd_T41 x3_2 t181).f0), .int .i64 ((rd_T41 x3_2 t181).f1), .int .i64 ((rd_T41 x3_2 t181).f2)]) ?_ 2 _ rfl; (with_reducible repeat (first | refine blk_drewN ?_ _ | refine blk_drew ?_ | refine blk_alloc ?_ _)); exact BK185.out))⟩; have n3_ : Aside0 (IsS78 w0 w164 g s0_0 t207 t208) := ⟨(by rw [hw]; exact (IsS78.zJ HI0.out NB0_185.out))⟩; have n4_ : Aside0 (KeepBut w w164 g none) := ⟨(by rw [hw]; exact (zKy HK.out GW185.out))⟩; have n5_ : Aside0 (Below w0.heap.size w0 w164) := ⟨(by rw [hw]; exact (by first | exact zBz HB.out (IsS78.ge HI0.out) GE185.out | exact zBy HB.out GE185.out))⟩; clear hw; clear HO_3; clear HO205; clear BK185; clear HI0; clear HK; clear HB; have HO_3 := n0_; have HO205 := n1_; have BK185 := n2_; have HI0 := n3_; have HK := n4_; have HB := n5_; clear n0_ n1_ n2_ n3_ n4_ n5_; have hcz165_0 : w164.cell? ⟨gb185, 0, none⟩ = some (.int .i64 ((rd_T41 x3_2 t181).f0)) := (blk_cell BK185.out 0).trans rfl; have hcz165_1 : w164.cell? ⟨gb185, 1, none⟩ = some (.int .i64 ((rd_T41 x3_2 t181).f1)) := (blk_cell BK185.out 1).trans rfl; have hcz165_2 : w164.cell? ⟨gb185, 2, none⟩ = some (.int .i64 t206) := (blk_cell BK185.out 2).trans rfl; have hfz165_0 := blk_frozen BK185.out 0; have hfz165_1 := blk_frozen BK185.out 1; have hfz165_2 := blk_frozen BK185.out 2; have p152 : 0 ≤ (t181 : Int) := of_decide_eq_true zax; have q152 : (t181 : Int) < ((x3_2.length : Int) : Int) := of_decide_eq_true zax; obtain ⟨go152, co152, eo152, gb152, gl152, cl152, HG152⟩ := Kd.R_form HO_3.out (by omega); (first | cases eo152 | (injection eo152 with ea_ en_ ec_; (first | subst ea_ | (injection ea_ with ea_; subst ea_)); subst ec_; clear en_)); have GB152 := Aside0.mk gb152; have GG152 := Aside0.mk HG152; clear gb152 gl152 HG152; (first | simp only [add_plain] at hx184_0 | skip); (first | simp only [add_plain] at hx184_1 | skip); (first | simp only [add_plain] at hx184_2 | skip); obtain ⟨ce152, hcl152, hM152, hcc152, hfr152⟩ := Kd.R_elem HO_3.out z41 (t181 : Int) p152 q152; obtain rfl := k41_openM hM152; have hx152_0 : w164.cell? ⟨go152, (t181 : Int).toNat * 3, none⟩ = some (.int .i64 ((rd_T41 x3_2 t181).f0)) := hcc152 0 _ rfl; have hx152_1 : w164.cell? ⟨go152, (t181 : Int).toNat * 3 + 1, none⟩ = some (.int .i64 ((rd_T41 x3_2 t181).f1)) := hcc152 1 _ rfl; have hx152_2 : w164.cell? ⟨go152, (t181 : Int).toNat * 3 + 2, none⟩ = some (.int .i64 ((rd_T41 x3_2 t181).f2)) := hcc152 2 _ rfl; have hf152_0 : w164.frozen? ⟨go152, (t181 : Int).toNat * 3, none⟩ = false := hfr152 0; have hf152_1 : w164.frozen? ⟨go152, (t181 : Int).toNat * 3 + 1, none⟩ = false := hfr152 1; have hf152_2 : w164.frozen? ⟨go152, (t181 : Int).toNat * 3 + 2, none⟩ = false := hfr152 2; clear hcl152 hcc152 hfr152 hM152; replace p152 := eq_true p152; replace q152 := eq_true q152; have HX166 := Aside0.mk (show Kd.R k41 41 w164 w.heap.size (fun k_ => k_ ≠ gb185) (.slice (some ⟨go152, 0, none⟩) x3_2.length co153) x3_2 from (zRx HO_3.out)); obtain ⟨ce166, hcl166, hM166, hcc166, hfr166⟩ := Kd.R_elem HX166.out z41 (t181 : Int) (of_decide_eq_true zax) (by have h_ : (t181 : Int) < ((x3_2.length : Int) : Int) := of_decide_eq_true zax; first | exact h_ | (have e_ := (Kd.R_reads' HO_3.out).1; omega) | simpa using h_); obtain rfl := k41_openM hM166; have HP166 := Kd.R_seg HX166.out (t181 : Int) (of_decide_eq_true zax) (by have h_ : (t181 : Int) < ((x3_2.length : Int) : Int) := of_decide_eq_true zax; first | exact h_ | (have e_ := (Kd.R_reads' HO_3.out).1; omega) | simpa using h_) (seg := [.int .i64 ((rd_T41 x3_2 t181).f0), .int .i64 ((rd_T41 x3_2 t181).f1), .int .i64 t206]) (j := 0) hcl166 hcc166 (show 3 ≤ 3 from by decide) (x' := (⟨(rd_T41 x3_2 t181).f0, (rd_T41 x3_2 t181).f1, t206⟩ : S41)) (k41_mkM _ _ _ (⟨(rd_T41 x3_2 t181).f0, (rd_T41 x3_2 t181).f1, t206⟩ : S41) ) (fun _ hk => hk); have hx166_0 := hcc166 0 _ rfl; (try simp only [show (k41).sz = 3 from rfl, Nat.mul_one, Nat.add_zero] at hx166_0); have hf166_0 := hfr166 0; (try simp only [show (k41).sz = 3 from rfl, Nat.mul_one, Nat.add_zero] at hf166_0); have hx166_1 := hcc166 1 _ rfl; (try simp only [show (k41).sz = 3 from rfl, Nat.mul_one, Nat.add_zero] at hx166_1); have hf166_1 := hfr166 1; (try simp only [show (k41).sz = 3 from rfl, Nat.mul_one, Nat.add_zero] at hf166_1); have hx166_2 := hcc166 2 _ rfl; (try simp only [show (k41).sz = 3 from rfl, Nat.mul_one, Nat.add_zero] at hx166_2); have hf166_2 := hfr166 2; (try simp only [show (k41).sz = 3 from rfl, Nat.mul_one, Nat.add_zero] at hf166_2); clear hcl166 hcc166 hfr166 hM166) | ((with_reducible refine gate_store (t := 41) (p := 115) rfl ?_); refine store_event (t := 41) (p := 115) (v := ?vo_w167) (w1 := (((w164.setCell ⟨go152, (t181 : Int).toNat * 3, none⟩ (.int .i64 ((rd_T41 x3_2 t181).f0))).setCell ⟨go152, (t181 : Int).toNat * 3 + 1, none⟩ (.int .i64 ((rd_T41 x3_2 t181).f1))).setCell ⟨go152, (t181 : Int).toNat * 3 + 2, none⟩ (.int .i64 t206))) ?hg ?ho ?hn ?hr ?_; (case ho => rfl); (case hg => rfl); (case hn => rfl); (case hr => exact zsx); intro w167 hw; have hg : w164.grownBy w167 (some go152) := (by rw [hw]; exact HP166.2); have hp_ : Kd.R k41 41 w167 w.heap.size (fun k_ => k_ ≠ gb185) (.slice (some ⟨go152, 0, none⟩) x3_2.length co153) y209 := (by rw [hw, Ny209.out]; exact HP166.1); clear HP166; have n0_ := Aside0.mk (hp_); have n1_ := Aside0.mk (IsS78.grown (IsS78.zF HI0.out NB0_185.out) hg (IsS78.own_ne HI0.out HO_3.out (by decide))); have n2_ := Aside0.mk (blk_grown (g := gb185) (o := .cells #[.int .i64 ((rd_T41 x3_2 t181).f0), .int .i64 ((rd_T41 x3_2 t181).f1), .int .i64 t206] 41 (0, 0)) (zbx BK185.out) hg (Kd.R_away HO_3.out (fun _ hk => hk))); have n3_ := Aside0.mk (Kd.R_over' (v := (.slice (some ⟨go152, 0, none⟩) x3_2.length co153)) (zRx HO205.out) (Kd.R_typed HO_3.out) (by decide) hg); have n4_ := Aside0.mk ((by rw [hw]; exact below_set (below_set (below_set (HB.out) (Nat.le_trans HL.out GB152.out)) (Nat.le_trans HL.out GB152.out)) (Nat.le_trans HL.out GB152.out) : Below w0.heap.size w0 w167)); have n5_ := Aside0.mk (KeepBut.trans (zKy HK.out GW185.out) (KeepBut.of_grown hg g) (Kd.R_base2 HO_3.out)); clear HO_3; clear HI0; clear BK185; clear HO205; clear HB; clear HK; have HO_3 := n0_; have HI0 := n1_; have BK185 := n2_; have HO205 := n3_; have HB := n4_; have HK := n5_; clear n0_ n1_ n2_ n3_ n4_ n5_; clear hg hw hp_))
             go_ret
             exact ⟨_, by first | rfl | (simp [errW_none, errW_some] <;> rfl) | (simp [*, errW_none, errW_some] <;> rfl), by (with_reducible repeat (first | apply Kd.R_alloc | apply Kd.R_drewN | apply Kd.R_drew)); exact Kd.R_mono HO_3.out (fun _ hk => trivial), by exact IsS78.zJ HI0.out NB0_185.out, by exact zBz HB.out (IsS78.ge HI0.out) GE185.out, by exact zKy HK.out GW185.out⟩
           ·rw [if_neg c150] at H
            have c150b0 : (t186 == 2) = false := beq_eq_false_iff_ne.mpr c150
            have c150b1 : (t186 != 2) = true := bne_iff_ne.mpr c150
            obtain ⟨y210, hy210⟩ : ∃ y_ : List (S41), y_ = (x3_2.set (t181 : Int).toNat (⟨(rd_T41 x3_2 t181).f0, (rd_T41 x3_2 t181).f1, (rd_T41 x3_2 t181).f2⟩ : S41)) := ⟨_, rfl⟩
            replace H : (some (y210, t187, t188)) = some (r1, r2, r3) := by first | (rw [hy210]; with_reducible exact H) | (have H2_ := (Option.bind_some _ _).symm.trans H; rw [hy210]; with_reducible exact H2_) | (have H2_ := (Option.bind_some _ _).symm.trans H; with_reducible exact H2_) | with_reducible exact H | (rw [hy210]; exact H) | exact H
            have Ny210 := Aside0.mk hy210
            clear hy210
            focus
             simp only [Option.some.injEq, Prod.mk.injEq] at H
             obtain ⟨rfl, rfl, rfl⟩ := H
             obtain ⟨Ao169, co169, eo169⟩ := Kd.R_slice HO_3.out
             subst eo169
             go_wp2_with (first | ((with_reducible refine gate_callee (f := 72) rfl ?_); refine goesL_ (some 83) rfl rfl Try.func72 (by kernel_rfl) rfl #[.pointer (some ⟨g, 0, none⟩), .int .i64 (x3_2.length : Int)] rfl zlx ?_; (with_reducible refine (spec_l1Cur_pick.calls g s0_0 x1001_2 x1002_2 (x3_2.length : Int) t181 t182 t183 w0 _ ?side1 ?side2 A108.out).mono ?_); (case side1 => exact IsS78.zI HI0.out); (case side2 => first | exact zBy HB.out (IsS78.ge HI0.out) | exact zBx HB.out); rintro e w170 ⟨rfl, hi, hb, hk⟩; refine ⟨_, rfl, ?_⟩; have n0_ := Aside0.mk (Kd.R_mono (Kd.R_keep (IsS78.apart (show IsS78 w0 _ g s0_0 x1001_2 x1002_2 from IsS78.zI HI0.out) (zRx HO_3.out) (by decide)) hk (fun _ h => h.2)) (fun _ h => h.1)); have n1_ := Aside0.mk (KeepBut.trans (zKx HK.out) hk (.inl rfl)); have n2_ := Aside0.mk (hb); have n3_ := Aside0.mk (hi); clear HO_3; clear HK; clear HB; clear HI0; have HO_3 := n0_; have HK := n1_; have HB := n2_; have HI0 := n3_; clear n0_ n1_ n2_ n3_; (try clear hb); (try clear hb2); (try clear hk); (try clear hi); have p184 : 0 ≤ (t181 : Int) := of_decide_eq_true zax; have q184 : t181 < (x3_2.length : Int) := of_decide_eq_true zax; obtain ⟨ad184, e184, hx184_0, hx184_1, hx184_2⟩ := at_T41 (Kd.R_reads' HO_3.out).2.2 t181 p184 q184; cases e184; replace p184 := eq_true p184; replace q184 := eq_true q184) | ((with_reducible refine gate_dst (N := 8) rfl ?_); (try (refine gate_guard (by rfl) ?_; dsimp only)); refine box_event ?hg (N := 8) ?hd (cs := #[.int .i64 0, .int .i64 0, .int .i64 0]) (t := 41) ?hr ?_; (case hd => rfl); (case hg => rfl); (case hr => exact zsx); intro gb185 hg w171 hbox hb; have n0_ := Aside0.mk (Kd.R_below (Kd.R_elderB (zRx HO_3.out) gb185 (Nat.le_of_eq hg.symm)) hb); have n1_ := Aside0.mk (IsS78.below (IsS78.zI HI0.out) hb); have n2_ := Aside0.mk (KeepBut.trans (zKx HK.out) (KeepBut.of_below hb g none) (.inl rfl)); have n3_ := Aside0.mk (below_step (by first | exact zBy HB.out (IsS78.ge HI0.out) | exact zBx HB.out) hb); have n4_ := Aside0.mk (hbox); have n5_ := Aside0.mk ((by rw [hg]; exact (keep_size (w := w) (g := g) (row := none) (zKx HK.out)) : w.heap.size ≤ gb185)); have n6_ := Aside0.mk ((Nat.le_trans HW0.out (by rw [hg]; exact (keep_size (w := w) (g := g) (row := none) (zKx HK.out)) : w.heap.size ≤ gb185) : w0.heap.size ≤ gb185)); have n7_ := Aside0.mk ((by rw [hg]; exact Nat.ne_of_lt (IsS78.lt (show IsS78 w0 _ g s0_0 t182 t183 from IsS78.zI HI0.out)) : g ≠ gb185)); have n8_ := Aside0.mk ((by rw [hg]; exact Nat.ne_of_gt (IsS78.lt (show IsS78 w0 _ g s0_0 t182 t183 from IsS78.zI HI0.out)) : gb185 ≠ g)); clear HO_3; clear HI0; clear HK; clear HB; have HO_3 := n0_; have HI0 := n1_; have HK := n2_; have HB := n3_; have BK185 := n4_; have GW185 := n5_; have GE185 := n6_; have NB0_185 := n7_; have NB185_0 := n8_; clear n0_ n1_ n2_ n3_ n4_ n5_ n6_ n7_ n8_; clear hb hbox hg; have hnb172 := NB185_0.out; have hnc172 := NB0_185.out; have hcz173_0 : w171.cell? ⟨gb185, 0, none⟩ = some (.int .i64 0) := (blk_cell BK185.out 0).trans rfl; have hcz173_1 : w171.cell? ⟨gb185, 1, none⟩ = some (.int .i64 0) := (blk_cell BK185.out 1).trans rfl; have hcz173_2 : w171.cell? ⟨gb185, 2, none⟩ = some (.int .i64 0) := (blk_cell BK185.out 2).trans rfl; have hfz173_0 := blk_frozen BK185.out 0; have hfz173_1 := blk_frozen BK185.out 1; have hfz173_2 := blk_frozen BK185.out 2) | ((with_reducible refine gate_callee (f := 72) rfl ?_); refine goesL_ (some 89) rfl rfl Try.func72 (by kernel_rfl) rfl #[.pointer (some ⟨g, 0, none⟩), .int .i64 40] rfl zlx ?_; (with_reducible refine (spec_l1Cur_pick.calls g s0_0 t182 t183 40 t186 t187 t188 w0 _ ?side1 ?side2 A111.out).mono ?_); (case side1 => exact IsS78.zJ HI0.out NB0_185.out); (case side2 => first | exact zBz HB.out (IsS78.ge HI0.out) GE185.out | exact zBy HB.out GE185.out); rintro e w174 ⟨rfl, hi, hb, hk⟩; refine ⟨_, rfl, ?_⟩; have n0_ := Aside0.mk (Kd.R_mono (Kd.R_keep (IsS78.apart (show IsS78 w0 _ g s0_0 t182 t183 from IsS78.zJ HI0.out NB0_185.out) (by (with_reducible repeat (first | apply Kd.R_alloc | apply Kd.R_drewN | apply Kd.R_drew)); exact (Kd.R_mono (Kd.R_far (p := ⟨gb185, 2, none⟩) (Kd.R_far (p := ⟨gb185, 1, none⟩) (Kd.R_far (p := ⟨gb185, 0, none⟩) (Kd.R_mono HO_3.out (fun k_ hk => (⟨hk, hk.2⟩ : _ ∧ k_ ≠ gb185))) (fun _ hk => hk.2) (.int .i64 ((rd_T41 x3_2 t181).f0))) (fun _ hk => hk.2) (.int .i64 ((rd_T41 x3_2 t181).f1))) (fun _ hk => hk.2) (.int .i64 ((rd_T41 x3_2 t181).f2))) (fun _ h_ => h_.1))) (by decide)) hk (fun _ h => h.2)) (fun _ h => h.1)); have n1_ := Aside0.mk (KeepBut.blk hk (g' := gb185) (o := .cells #[.int .i64 ((rd_T41 x3_2 t181).f0), .int .i64 ((rd_T41 x3_2 t181).f1), .int .i64 ((rd_T41 x3_2 t181).f2)] 41 (0, 0)) (by (with_reducible repeat (first | refine blk_drewN ?_ _ | refine blk_drew ?_ | refine blk_alloc ?_ _)); refine blk_put (cs := #[.int .i64 ((rd_T41 x3_2 t181).f0), .int .i64 ((rd_T41 x3_2 t181).f1), .int .i64 0]) ?_ 2 _ rfl; (with_reducible repeat (first | refine blk_drewN ?_ _ | refine blk_drew ?_ | refine blk_alloc ?_ _)); refine blk_put (cs := #[.int .i64 ((rd_T41 x3_2 t181).f0), .int .i64 0, .int .i64 0]) ?_ 1 _ rfl; (with_reducible repeat (first | refine blk_drewN ?_ _ | refine blk_drew ?_ | refine blk_alloc ?_ _)); refine blk_put (cs := #[.int .i64 0, .int .i64 0, .int .i64 0]) ?_ 0 _ rfl; (with_reducible repeat (first | refine blk_drewN ?_ _ | refine blk_drew ?_ | refine blk_alloc ?_ _)); exact BK185.out) NB185_0.out (by simp)); have n2_ := Aside0.mk (KeepBut.trans (zKy HK.out GW185.out) hk (.inl rfl)); have n3_ := Aside0.mk (hb); have n4_ := Aside0.mk (hi); clear HO_3; clear BK185; clear HK; clear HB; clear HI0; have HO_3 := n0_; have BK185 := n1_; have HK := n2_; have HB := n3_; have HI0 := n4_; clear n0_ n1_ n2_ n3_ n4_; (try clear hb); (try clear hb2); (try clear hk); (try clear hi); have hcz175_0 : w174.cell? ⟨gb185, 0, none⟩ = some (.int .i64 ((rd_T41 x3_2 t181).f0)) := (blk_cell BK185.out 0).trans rfl; have hcz175_1 : w174.cell? ⟨gb185, 1, none⟩ = some (.int .i64 ((rd_T41 x3_2 t181).f1)) := (blk_cell BK185.out 1).trans rfl; have hcz175_2 : w174.cell? ⟨gb185, 2, none⟩ = some (.int .i64 ((rd_T41 x3_2 t181).f2)) := (blk_cell BK185.out 2).trans rfl; have hfz175_0 := blk_frozen BK185.out 0; have hfz175_1 := blk_frozen BK185.out 1; have hfz175_2 := blk_frozen BK185.out 2; have p168 : 0 ≤ (t181 : Int) := of_decide_eq_true zax; have q168 : (t181 : Int) < ((x3_2.length : Int) : Int) := of_decide_eq_true zax; obtain ⟨go168, co168, eo168, gb168, gl168, cl168, HG168⟩ := Kd.R_form HO_3.out (by omega); (first | cases eo168 | (injection eo168 with ea_ en_ ec_; (first | subst ea_ | (injection ea_ with ea_; subst ea_)); subst ec_; clear en_)); have GB168 := Aside0.mk gb168; have GG168 := Aside0.mk HG168; clear gb168 gl168 HG168; (first | simp only [add_plain] at hx184_0 | skip); (first | simp only [add_plain] at hx184_1 | skip); (first | simp only [add_plain] at hx184_2 | skip); obtain ⟨ce168, hcl168, hM168, hcc168, hfr168⟩ := Kd.R_elem HO_3.out z41 (t181 : Int) p168 q168; obtain rfl := k41_openM hM168; have hx168_0 : w174.cell? ⟨go168, (t181 : Int).toNat * 3, none⟩ = some (.int .i64 ((rd_T41 x3_2 t181).f0)) := hcc168 0 _ rfl; have hx168_1 : w174.cell? ⟨go168, (t181 : Int).toNat * 3 + 1, none⟩ = some (.int .i64 ((rd_T41 x3_2 t181).f1)) := hcc168 1 _ rfl; have hx168_2 : w174.cell? ⟨go168, (t181 : Int).toNat * 3 + 2, none⟩ = some (.int .i64 ((rd_T41 x3_2 t181).f2)) := hcc168 2 _ rfl; have hf168_0 : w174.frozen? ⟨go168, (t181 : Int).toNat * 3, none⟩ = false := hfr168 0; have hf168_1 : w174.frozen? ⟨go168, (t181 : Int).toNat * 3 + 1, none⟩ = false := hfr168 1; have hf168_2 : w174.frozen? ⟨go168, (t181 : Int).toNat * 3 + 2, none⟩ = false := hfr168 2; clear hcl168 hcc168 hfr168 hM168; replace p168 := eq_true p168; replace q168 := eq_true q168; have n_ := Aside0.mk (Kd.R_mono (ok' := (fun k_ => k_ ≠ gb185)) HO_3.out (fun k_ hk => hk.2)); clear HO_3; have HO_3 := n_; clear n_; have HX176 := Aside0.mk (show Kd.R k41 41 w174 w.heap.size (fun k_ => k_ ≠ gb185) (.slice (some ⟨go168, 0, none⟩) x3_2.length co169) x3_2 from (zRx HO_3.out)); obtain ⟨ce176, hcl176, hM176, hcc176, hfr176⟩ := Kd.R_elem HX176.out z41 (t181 : Int) (of_decide_eq_true zax) (by have h_ : (t181 : Int) < ((x3_2.length : Int) : Int) := of_decide_eq_true zax; first | exact h_ | (have e_ := (Kd.R_reads' HO_3.out).1; omega) | simpa using h_); obtain rfl := k41_openM hM176; have HP176 := Kd.R_seg HX176.out (t181 : Int) (of_decide_eq_true zax) (by have h_ : (t181 : Int) < ((x3_2.length : Int) : Int) := of_decide_eq_true zax; first | exact h_ | (have e_ := (Kd.R_reads' HO_3.out).1; omega) | simpa using h_) (seg := [.int .i64 ((rd_T41 x3_2 t181).f0), .int .i64 ((rd_T41 x3_2 t181).f1), .int .i64 ((rd_T41 x3_2 t181).f2)]) (j := 0) hcl176 hcc176 (show 3 ≤ 3 from by decide) (x' := (⟨(rd_T41 x3_2 t181).f0, (rd_T41 x3_2 t181).f1, (rd_T41 x3_2 t181).f2⟩ : S41)) (k41_mkM _ _ _ (⟨(rd_T41 x3_2 t181).f0, (rd_T41 x3_2 t181).f1, (rd_T41 x3_2 t181).f2⟩ : S41) ) (fun _ hk => hk); have hx176_0 := hcc176 0 _ rfl; (try simp only [show (k41).sz = 3 from rfl, Nat.mul_one, Nat.add_zero] at hx176_0); have hf176_0 := hfr176 0; (try simp only [show (k41).sz = 3 from rfl, Nat.mul_one, Nat.add_zero] at hf176_0); have hx176_1 := hcc176 1 _ rfl; (try simp only [show (k41).sz = 3 from rfl, Nat.mul_one, Nat.add_zero] at hx176_1); have hf176_1 := hfr176 1; (try simp only [show (k41).sz = 3 from rfl, Nat.mul_one, Nat.add_zero] at hf176_1); have hx176_2 := hcc176 2 _ rfl; (try simp only [show (k41).sz = 3 from rfl, Nat.mul_one, Nat.add_zero] at hx176_2); have hf176_2 := hfr176 2; (try simp only [show (k41).sz = 3 from rfl, Nat.mul_one, Nat.add_zero] at hf176_2); clear hcl176 hcc176 hfr176 hM176) | ((with_reducible refine gate_store (t := 41) (p := 115) rfl ?_); refine store_event (t := 41) (p := 115) (v := ?vo_w177) (w1 := (((w174.setCell ⟨go168, (t181 : Int).toNat * 3, none⟩ (.int .i64 ((rd_T41 x3_2 t181).f0))).setCell ⟨go168, (t181 : Int).toNat * 3 + 1, none⟩ (.int .i64 ((rd_T41 x3_2 t181).f1))).setCell ⟨go168, (t181 : Int).toNat * 3 + 2, none⟩ (.int .i64 ((rd_T41 x3_2 t181).f2)))) ?hg ?ho ?hn ?hr ?_; (case ho => rfl); (case hg => rfl); (case hn => rfl); (case hr => exact zsx); intro w177 hw; have hg : w174.grownBy w177 (some go168) := (by rw [hw]; exact HP176.2); have hp_ : Kd.R k41 41 w177 w.heap.size (fun k_ => k_ ≠ gb185) (.slice (some ⟨go168, 0, none⟩) x3_2.length co169) y210 := (by rw [hw, Ny210.out]; exact HP176.1); clear HP176; have n0_ := Aside0.mk (hp_); have n1_ := Aside0.mk (IsS78.grown (IsS78.zF HI0.out NB0_185.out) hg (IsS78.own_ne HI0.out HO_3.out (by decide))); have n2_ := Aside0.mk (blk_grown (g := gb185) (o := .cells #[.int .i64 ((rd_T41 x3_2 t181).f0), .int .i64 ((rd_T41 x3_2 t181).f1), .int .i64 ((rd_T41 x3_2 t181).f2)] 41 (0, 0)) (zbx BK185.out) hg (Kd.R_away HO_3.out (fun _ hk => hk))); have n3_ := Aside0.mk ((by rw [hw]; exact below_set (below_set (below_set (HB.out) (Nat.le_trans HL.out GB168.out)) (Nat.le_trans HL.out GB168.out)) (Nat.le_trans HL.out GB168.out) : Below w0.heap.size w0 w177)); have n4_ := Aside0.mk (KeepBut.trans (zKy HK.out GW185.out) (KeepBut.of_grown hg g) (Kd.R_base2 HO_3.out)); clear HO_3; clear HI0; clear BK185; clear HB; clear HK; have HO_3 := n0_; have HI0 := n1_; have BK185 := n2_; have HB := n3_; have HK := n4_; clear n0_ n1_ n2_ n3_ n4_; clear hg hw hp_))
             go_ret
             exact ⟨_, by first | rfl | (simp [errW_none, errW_some] <;> rfl) | (simp [*, errW_none, errW_some] <;> rfl), by (with_reducible repeat (first | apply Kd.R_alloc | apply Kd.R_drewN | apply Kd.R_drew)); exact Kd.R_mono HO_3.out (fun _ hk => trivial), by exact IsS78.zJ HI0.out NB0_185.out, by exact zBz HB.out (IsS78.ge HI0.out) GE185.out, by exact zKy HK.out GW185.out⟩
        ·rw [if_neg c110] at H
         exact absurd H (by simp)
       ·rw [if_neg c109] at H
        exact absurd H (by simp)

end Go.Proofs.Ytkegkbpadhddkaa.XFnTwoCourses
