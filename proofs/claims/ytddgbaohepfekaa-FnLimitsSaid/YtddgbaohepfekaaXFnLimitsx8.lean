-- written by wip/tools/xprint.py (a program of this project) out of the translation
import Derived.Test.YtddgbaohepfekaaXFnLimitsx0
import Derived.Test.YtddgbaohepfekaaXFnLimitsx6
import Derived.Test.YtddgbaohepfekaaXFnLimitsx7
namespace Go.Proofs.Ytddgbaohepfekaa.XFnLimits
open Go.RowKit Go.Proofs.YtddgbaohepfekaaW.PrintWords Go.Proofs.YtddgbaohepfekaaW.PrintLast Go.Proofs.YtddgbaohepfekaaW.PrintMore
attribute [local go_sem] max2_int min2_int max_two min_two max_three min_three max_four min_four   -- for this text's walks alone
set_option linter.unusedVariables false
set_option linter.unusedSimpArgs false

/-! ### spec_l1Cur_anyField: function 31 -/
def spec_l1Cur_anyField.f (k : Nat) (s0_0 : List Int) (s0_1 : Int) (s0_2 : Int) : Option (Int × Int × List Int × Int × Int) := (spec_l1Cur_field.f k s0_0 s0_1 s0_2).bind fun bt226 => ((spec_l1Cur_pick.f s0_0 bt226.2.2.2.1 bt226.2.2.2.2 24).bind fun bt234 => (if bt234.1 = 0 then ((spec_l1Cur_among.f s0_0 bt234.2.1 bt234.2.2 (([0, 9, 8, bt226.2.1] : List Int))).bind fun bt240 => (some (bt240.1, bt226.2.1, bt226.2.2.1, bt240.2.1, bt240.2.2))) else (if bt234.1 = 1 then ((spec_l1Cur_pick.f s0_0 bt234.2.1 bt234.2.2 (bt226.2.2.1.length : Int)).bind fun bt243 => ((spec_l1Cur_among.f s0_0 bt243.2.1 bt243.2.2 (([9001, (-9001), (-9998), (-9999)] : List Int))).bind fun bt249 => (if 0 ≤ bt243.1 then (if bt243.1 < (bt226.2.2.1.length : Int) then (some (bt226.1, bt226.2.1, (bt226.2.2.1.set (bt243.1 : Int).toNat bt249.1), bt249.2.1, bt249.2.2)) else (none)) else (none)))) else (if bt234.1 = 2 then (if 1 ≤ (bt226.2.2.1.length : Int) then (some (bt226.1, bt226.2.1, (bt226.2.2.1.drop (1 : Int).toNat), bt234.2.1, bt234.2.2)) else (none)) else (some (bt226.1, bt226.2.1, bt226.2.2.1, bt234.2.1, bt234.2.2))))))
theorem spec_l1Cur_anyField.mono : ∀ a0 a1 a2 k, LeO (spec_l1Cur_anyField.f k a0 a1 a2) (spec_l1Cur_anyField.f (k + 1) a0 a1 a2) := by
 intro a0 a1 a2 k
 unfold spec_l1Cur_anyField.f
 repeat' first
  | (with_reducible exact spec_l1Cur_field.mono _ _ _ _)
  | (with_reducible exact LeO.refl _)
  | (with_reducible exact LeO.none _)
  | (with_reducible refine LeO.ite ?_ ?_)
  | (with_reducible refine LeO.bind ?_ (fun _ => ?_))
  | exact spec_l1Cur_field.mono _ _ _ _
  | exact LeO.none _
  | refine LeO.ite ?_ ?_
  | refine LeO.bind ?_ (fun _ => ?_)
def spec_l1Cur_anyField.T6 : Bool × List (List Nat × List Nat) := (true, [([], []), ([0], [0]), ([], []), ([], []), ([3], [3]), ([4], [4]), ([2, 5], [2, 5]), ([], []), ([], []), ([7, 8, 6], [7, 8]), ([1, 6, 0, 1, 2, 3, 4, 5, 6, 7, 8, 9], [1, 6]), ([10, 9, 9, 0, 1, 2, 3, 4, 5, 6, 7, 8, 9], [9, 10])])
def spec_l1Cur_anyField.B6 : List Nat := [0, 1, 0, 0, 8, 24, 60, 0, 0, 508, 1023, 2047]
theorem spec_l1Cur_anyField.tab6 : rtab .any (opsOf Try.f31 6) = spec_l1Cur_anyField.T6 := by kernel_rfl
theorem spec_l1Cur_anyField.bits6 : waitsOk spec_l1Cur_anyField.T6.2 spec_l1Cur_anyField.B6 = true := by kernel_rfl
set_option maxHeartbeats 8000000 in
set_option maxRecDepth 100000 in
theorem spec_l1Cur_anyField.calls (k : Nat) (g : Nat) (s0_0 : List Int) (s0_1 : Int) (s0_2 : Int) (r1 : Int) (r2 : Int) (r3 : List Int) (r4 : Int) (r5 : Int) (w0 w : World) (hI : IsS51 w0 w g s0_0 s0_1 s0_2) (hB : Below w0.heap.size w0 w) (h : spec_l1Cur_anyField.f k s0_0 s0_1 s0_2 = some (r1, r2, r3, r4, r5)) :
 Calls Try.prog 31 #[.pointer (some ⟨g, 0, none⟩)] w fun e w' => ∃ v2_ : Value, e = .returned (.agg #[.int .i64 r1, .int .i64 r2, v2_]) ∧ Kd.Q (Kd.int .i64) 3 w' w.heap.size (fun _ => True) v2_ r3 ∧ IsS51 w0 w' g s0_0 r4 r5 ∧ Below w0.heap.size w0 w' ∧ KeepBut w w' g none := by
 have hu26 := Try.underlying26
 have HI0 := Aside0.mk hI
 have HK := Aside0.mk (KeepBut.refl w g none)
 have HL := Aside0.mk hB.size
 clear hI
 have HW0 := Aside0.mk hB.size
 have HB := Aside0.mk hB
 clear hB
 have H : ((spec_l1Cur_field.f k s0_0 s0_1 s0_2).bind fun bt226 => ((spec_l1Cur_pick.f s0_0 bt226.2.2.2.1 bt226.2.2.2.2 24).bind fun bt234 => (if bt234.1 = 0 then ((spec_l1Cur_among.f s0_0 bt234.2.1 bt234.2.2 (([0, 9, 8, bt226.2.1] : List Int))).bind fun bt240 => (some (bt240.1, bt226.2.1, bt226.2.2.1, bt240.2.1, bt240.2.2))) else (if bt234.1 = 1 then ((spec_l1Cur_pick.f s0_0 bt234.2.1 bt234.2.2 (bt226.2.2.1.length : Int)).bind fun bt243 => ((spec_l1Cur_among.f s0_0 bt243.2.1 bt243.2.2 (([9001, (-9001), (-9998), (-9999)] : List Int))).bind fun bt249 => (if 0 ≤ bt243.1 then (if bt243.1 < (bt226.2.2.1.length : Int) then (some (bt226.1, bt226.2.1, (bt226.2.2.1.set (bt243.1 : Int).toNat bt249.1), bt249.2.1, bt249.2.2)) else (none)) else (none)))) else (if bt234.1 = 2 then (if 1 ≤ (bt226.2.2.1.length : Int) then (some (bt226.1, bt226.2.1, (bt226.2.2.1.drop (1 : Int).toNat), bt234.2.1, bt234.2.2)) else (none)) else (some (bt226.1, bt226.2.1, bt226.2.2.1, bt234.2.1, bt234.2.2))))))) = some (r1, r2, r3, r4, r5) := h
 clear h
 replace H := Option.bind_eq_some_iff.mp H
 obtain ⟨⟨t226, t227, t228, t231, t232⟩, A20, H⟩ := H
 replace H : ((spec_l1Cur_pick.f s0_0 t231 t232 24).bind fun bt234 => (if bt234.1 = 0 then ((spec_l1Cur_among.f s0_0 bt234.2.1 bt234.2.2 (([0, 9, 8, t227] : List Int))).bind fun bt240 => (some (bt240.1, t227, t228, bt240.2.1, bt240.2.2))) else (if bt234.1 = 1 then ((spec_l1Cur_pick.f s0_0 bt234.2.1 bt234.2.2 (t228.length : Int)).bind fun bt243 => ((spec_l1Cur_among.f s0_0 bt243.2.1 bt243.2.2 (([9001, (-9001), (-9998), (-9999)] : List Int))).bind fun bt249 => (if 0 ≤ bt243.1 then (if bt243.1 < (t228.length : Int) then (some (t226, t227, (t228.set (bt243.1 : Int).toNat bt249.1), bt249.2.1, bt249.2.2)) else (none)) else (none)))) else (if bt234.1 = 2 then (if 1 ≤ (t228.length : Int) then (some (t226, t227, (t228.drop (1 : Int).toNat), bt234.2.1, bt234.2.2)) else (none)) else (some (t226, t227, t228, bt234.2.1, bt234.2.2)))))) = some (r1, r2, r3, r4, r5) := H
 have A2 := Aside0.mk A20
 clear A20
 replace H := Option.bind_eq_some_iff.mp H
 obtain ⟨⟨t234, t235, t236⟩, A30, H⟩ := H
 replace H : (if t234 = 0 then ((spec_l1Cur_among.f s0_0 t235 t236 (([0, 9, 8, t227] : List Int))).bind fun bt240 => (some (bt240.1, t227, t228, bt240.2.1, bt240.2.2))) else (if t234 = 1 then ((spec_l1Cur_pick.f s0_0 t235 t236 (t228.length : Int)).bind fun bt243 => ((spec_l1Cur_among.f s0_0 bt243.2.1 bt243.2.2 (([9001, (-9001), (-9998), (-9999)] : List Int))).bind fun bt249 => (if 0 ≤ bt243.1 then (if bt243.1 < (t228.length : Int) then (some (t226, t227, (t228.set (bt243.1 : Int).toNat bt249.1), bt249.2.1, bt249.2.2)) else (none)) else (none)))) else (if t234 = 2 then (if 1 ≤ (t228.length : Int) then (some (t226, t227, (t228.drop (1 : Int).toNat), t235, t236)) else (none)) else (some (t226, t227, t228, t235, t236))))) = some (r1, r2, r3, r4, r5) := H
 have A3 := Aside0.mk A30
 clear A30
 by_cases c4 : t234 = 0
 ·rw [if_pos c4] at H
  have c4b0 : (t234 == 0) = true := beq_iff_eq.mpr c4
  have c4b1 : (t234 != 0) = false := bne_eq_false_iff_eq.mpr c4
  clear c4
  obtain ⟨y237, hy237⟩ : ∃ y_ : List Int, y_ = (([0, 9, 8, t227] : List Int)) := ⟨_, rfl⟩
  replace H : ((spec_l1Cur_among.f s0_0 t235 t236 y237).bind fun bt240 => (some (bt240.1, t227, t228, bt240.2.1, bt240.2.2))) = some (r1, r2, r3, r4, r5) := by first | (rw [hy237]; with_reducible exact H) | (have H2_ := (Option.bind_some _ _).symm.trans H; rw [hy237]; with_reducible exact H2_) | (have H2_ := (Option.bind_some _ _).symm.trans H; with_reducible exact H2_) | with_reducible exact H | (rw [hy237]; exact H) | exact H
  have Ny237 := Aside0.mk hy237
  clear hy237
  replace H := Option.bind_eq_some_iff.mp H
  obtain ⟨⟨t240, t241, t242⟩, A50, H⟩ := H
  replace H : (some (t240, t227, t228, t241, t242)) = some (r1, r2, r3, r4, r5) := H
  have A5 := Aside0.mk A50
  clear A50
  focus
   simp only [Option.some.injEq, Prod.mk.injEq] at H
   obtain ⟨rfl, rfl, rfl, rfl, rfl⟩ := H
   go_enter Try.func31, Try.ntmps31
   go_wp2_with (first | ((with_reducible refine gate_dst (N := 2) rfl ?_); refine box_event ?hg (N := 2) ?hd (cs := #[.int .i64 0, .int .i64 0, .slice none 0 0]) (t := 26) ?hr ?_; (case hd => rfl); (case hg => rfl); (case hr => exact zsx); intro gb225 hg w6 hbox hb; replace HB := Aside0.mk (below_step (by first | exact zBy HB.out (IsS51.ge HI0.out) | exact zBx HB.out) hb); have BK225 := Aside0.mk (hbox); have GW225 := Aside0.mk ((by rw [hg]; exact (keep_size (w := w) (g := g) (row := none) (zKx HK.out)) : w.heap.size ≤ gb225)); have GE225 := Aside0.mk ((Nat.le_trans HW0.out (by rw [hg]; exact (keep_size (w := w) (g := g) (row := none) (zKx HK.out)) : w.heap.size ≤ gb225) : w0.heap.size ≤ gb225)); replace HK := Aside0.mk (KeepBut.trans (zKx HK.out) (KeepBut.of_below hb g none) (.inl rfl)); have NB0_225 := Aside0.mk ((by rw [hg]; exact Nat.ne_of_lt (IsS51.lt (show IsS51 w0 _ g s0_0 s0_1 s0_2 from IsS51.zI HI0.out)) : g ≠ gb225)); have NB225_0 := Aside0.mk ((by rw [hg]; exact Nat.ne_of_gt (IsS51.lt (show IsS51 w0 _ g s0_0 s0_1 s0_2 from IsS51.zI HI0.out)) : gb225 ≠ g)); replace HI0 := Aside0.mk (IsS51.below (IsS51.zI HI0.out) hb); clear hb hbox hg) | ((with_reducible refine gate_callee (f := 51) rfl ?_); refine goesL_ (some 5) rfl rfl Try.func51 (by kernel_rfl) rfl #[.pointer (some ⟨g, 0, none⟩)] rfl zlx ?_; (with_reducible refine (spec_l1Cur_field.calls k g s0_0 s0_1 s0_2 t226 t227 t228 t231 t232 w0 _ ?side1 ?side2 A2.out).mono ?_); (case side1 => exact IsS51.zJ HI0.out NB0_225.out); (case side2 => first | exact zBz HB.out (IsS51.ge HI0.out) GE225.out | exact zBy HB.out GE225.out); rintro e w7 ⟨v229, rfl, ho0, hi, hb, hk⟩; refine ⟨_, rfl, ?_⟩; replace BK225 := Aside0.mk (KeepBut.blk hk (g' := gb225) (o := .cells #[.int .i64 0, .int .i64 0, .slice none 0 0] 26 (0, 0)) (zbx BK225.out) NB225_0.out (by simp)); have HO230 := Aside0.mk (Kd.R_lower ho0 (keep_size (w := w) (g := g) (row := none) (zKy HK.out GW225.out))); replace HK := Aside0.mk (KeepBut.trans (zKy HK.out GW225.out) hk (.inl rfl)); replace HB := Aside0.mk (hb); replace HI0 := Aside0.mk (hi); (try clear hb); (try clear hk); (try clear hi); (try clear ho0)) | ((with_reducible refine gate_dst (N := 3) rfl ?_); refine box_event ?hg (N := 3) ?hd (cs := #[.int .i64 0, .int .i64 0, .slice none 0 0]) (t := 26) ?hr ?_; (case hd => rfl); (case hg => rfl); (case hr => exact zsx); intro gb233 hg w8 hbox hb; replace HO230 := Aside0.mk (Kd.R_below (zRx HO230.out) hb); replace HB := Aside0.mk (below_step (by first | exact zBz HB.out (IsS51.ge HI0.out) GE225.out | exact zBy HB.out GE225.out) hb); have BK233 := Aside0.mk (hbox); have GW233 := Aside0.mk ((by rw [hg]; exact (keep_size (w := w) (g := g) (row := none) (zKy HK.out GW225.out)) : w.heap.size ≤ gb233)); have GE233 := Aside0.mk ((Nat.le_trans HW0.out (by rw [hg]; exact (keep_size (w := w) (g := g) (row := none) (zKy HK.out GW225.out)) : w.heap.size ≤ gb233) : w0.heap.size ≤ gb233)); replace HK := Aside0.mk (KeepBut.trans (zKy HK.out GW225.out) (KeepBut.of_below hb g none) (.inl rfl)); have NB225_233 := znl hg BK225.out; have NB233_225 := zng hg BK225.out; replace BK225 := zbl BK225.out hb; have NB0_233 := Aside0.mk ((by rw [hg]; exact Nat.ne_of_lt (IsS51.lt (show IsS51 w0 _ g s0_0 t231 t232 from IsS51.zJ HI0.out NB0_225.out)) : g ≠ gb233)); have NB233_0 := Aside0.mk ((by rw [hg]; exact Nat.ne_of_gt (IsS51.lt (show IsS51 w0 _ g s0_0 t231 t232 from IsS51.zJ HI0.out NB0_225.out)) : gb233 ≠ g)); replace HI0 := Aside0.mk (IsS51.below (IsS51.zF HI0.out NB0_225.out) hb); clear hb hbox hg; have hnb9 := NB233_225.out; have hnc9 := NB225_233.out; have hnb10 := NB233_0.out; have hnc10 := NB0_233.out; have hcz11_0 : w8.cell? ⟨gb233, 0, none⟩ = some (.int .i64 0) := (blk_cell BK233.out 0).trans rfl; have hcz11_1 : w8.cell? ⟨gb233, 1, none⟩ = some (.int .i64 0) := (blk_cell BK233.out 1).trans rfl; have hcz11_2 : w8.cell? ⟨gb233, 2, none⟩ = some (.slice none 0 0) := (blk_cell BK233.out 2).trans rfl; have hfz11_0 := blk_frozen BK233.out 0; have hfz11_1 := blk_frozen BK233.out 1; have hfz11_2 := blk_frozen BK233.out 2; obtain ⟨Ao12, co12, eo12⟩ := Kd.R_slice HO230.out; subst eo12) | ((with_reducible refine gate_callee (f := 52) rfl ?_); refine goesL_ (some 7) rfl rfl Try.func52 (by kernel_rfl) rfl #[.pointer (some ⟨g, 0, none⟩), .int .i64 24] rfl zlx ?_; (with_reducible refine (spec_l1Cur_pick.calls g s0_0 t231 t232 24 t234 t235 t236 w0 _ ?side1 ?side2 A3.out).mono ?_); (case side1 => exact zhI51 HI0.out); (case side2 => exact zhB HB.out); rintro e w13 ⟨rfl, hi, hb, hk⟩; refine ⟨_, rfl, ?_⟩; replace BK225 := Aside0.mk (KeepBut.blk hk (g' := gb225) (o := .cells #[.int .i64 0, .int .i64 0, .slice none 0 0] 26 (0, 0)) (zbq BK225.out) NB225_0.out (by simp)); replace HO230 := Aside0.mk (Kd.R_mono (Kd.R_keep (IsS51.apart (show IsS51 w0 _ g s0_0 t231 t232 from zhI51 HI0.out) (by (with_reducible repeat (first | apply Kd.R_alloc | apply Kd.R_drewN | apply Kd.R_drew)); exact (Kd.R_mono (Kd.R_far (p := ⟨gb233, 2, none⟩) (Kd.R_far (p := ⟨gb233, 1, none⟩) (Kd.R_far (p := ⟨gb233, 0, none⟩) (Kd.R_types HO230.out BK233.out (by decide)) (fun _ hk => hk.2) (.int .i64 t226)) (fun _ hk => hk.2) (.int .i64 t227)) (fun _ hk => hk.2) (.slice Ao12 t228.length co12)) (fun _ h_ => h_.1))) (by decide)) hk (fun _ h => h.2)) (fun _ h => h.1)); replace BK233 := Aside0.mk (KeepBut.blk hk (g' := gb233) (o := .cells #[.int .i64 t226, .int .i64 t227, .slice Ao12 t228.length co12] 26 (0, 0)) (zbp BK233.out) NB233_0.out (by simp)); replace HK := Aside0.mk (KeepBut.trans (zhK HK.out) hk (.inl rfl)); replace HB := Aside0.mk (hb); replace HI0 := Aside0.mk (hi); (try clear hb); (try clear hk); (try clear hi); have hcz14_0 : w13.cell? ⟨gb233, 0, none⟩ = some (.int .i64 t226) := (blk_cell BK233.out 0).trans rfl; have hcz14_1 : w13.cell? ⟨gb233, 1, none⟩ = some (.int .i64 t227) := (blk_cell BK233.out 1).trans rfl; have hcz14_2 : w13.cell? ⟨gb233, 2, none⟩ = some (.slice Ao12 t228.length co12) := (blk_cell BK233.out 2).trans rfl; have hfz14_0 := blk_frozen BK233.out 0; have hfz14_1 := blk_frozen BK233.out 1; have hfz14_2 := blk_frozen BK233.out 2) | ((with_reducible refine gate_dst (N := 13) rfl ?_); refine Kd.R_lit (Kd.int .i64) _ 3 ?hg (N := 13) ?hd (xs := ([0, 9, 8, t227] : List Int)) (inner := [.int .i64 0, .int .i64 9, .int .i64 8, .int .i64 t227]) (ok := fun _ => True) (okp := fun _ => True) ?hr ?hp (fun _ hk => hk) trivial (Below.refl _ _) (Nat.le_refl _) (by simp) ?_; (case hd => rfl); (case hg => rfl); (case hr => exact zsx); (case hp => exact (Reps.one (show Kd.M (Kd.int .i64) _ _ _ 0 [.int .i64 0] from rfl) (Reps.one (show Kd.M (Kd.int .i64) _ _ _ 9 [.int .i64 9] from rfl) (Reps.one (show Kd.M (Kd.int .i64) _ _ _ 8 [.int .i64 8] from rfl) (Reps.one (show Kd.M (Kd.int .i64) _ _ _ t227 [.int .i64 t227] from rfl) (Reps.none _ _)))))); intro v238 w15 ho16 hb hg_ hnew_; clear hg_ hnew_; (first | rw [← Ny237.out] at ho16 | (simp only [Int.reduceToNat] at ho16; rw [← Ny237.out] at ho16)); have HO239 := Aside0.mk (Kd.R_lower (Kd.R_new' ho16 (Kd.R_lt (zRx HO230.out))) (keep_size (w := w) (g := g) (row := none) (zhK HK.out))); replace HO230 := Aside0.mk (Kd.R_elder' (zRx HO230.out) (Kd.R_base ho16) hb); replace HI0 := Aside0.mk (IsS51.below (zhI51 HI0.out) hb); replace BK225 := zbl BK225.out hb; replace BK233 := zbl BK233.out hb; replace HK := Aside0.mk (KeepBut.trans (zhK HK.out) (KeepBut.of_below hb g none) (.inl rfl)); replace HB := Aside0.mk (below_step (zhB HB.out) hb); clear hb ho16; obtain ⟨Ao17, co17, eo17⟩ := Kd.R_slice HO239.out; subst eo17) | ((with_reducible refine gate_callee (f := 33) rfl ?_); refine goesL_ (some 14) rfl rfl Try.func33 (by kernel_rfl) rfl #[.pointer (some ⟨g, 0, none⟩), .slice Ao17 y237.length co17] rfl zlx ?_; (with_reducible refine (spec_l1Cur_among.calls g s0_0 t235 t236 _ _ y237 t240 t241 t242 w0 _ ?side1 ?side2 ?side3 ?side4 ?side5 A5.out).mono ?_); (case side1 => exact zhI51 HI0.out); (case side2 => exact zhB HB.out); (case side3 => exact zCx (Kd.R_reads' HO239.out).2.2); (case side4 => exact (Kd.R_reads' HO239.out).2.1); (case side5 => exact far_slice (IsS51.own_ne HI0.out HO239.out (by decide))); rintro e w18 ⟨rfl, hi, hb, hk⟩; refine ⟨_, rfl, ?_⟩; replace BK225 := Aside0.mk (KeepBut.blk hk (g' := gb225) (o := .cells #[.int .i64 0, .int .i64 0, .slice none 0 0] 26 (0, 0)) (zbx BK225.out) NB225_0.out (by simp)); replace HO230 := Aside0.mk (Kd.R_mono (Kd.R_keep (IsS51.apart (show IsS51 w0 _ g s0_0 t235 t236 from zhI51 HI0.out) (zRx HO230.out) (by decide)) hk (fun _ h => h.2)) (fun _ h => h.1)); replace BK233 := Aside0.mk (KeepBut.blk hk (g' := gb233) (o := .cells #[.int .i64 t226, .int .i64 t227, .slice Ao12 t228.length co12] 26 (0, 0)) (zbx BK233.out) NB233_0.out (by simp)); replace HO239 := Aside0.mk (Kd.R_mono (Kd.R_keep (IsS51.apart (show IsS51 w0 _ g s0_0 t235 t236 from zhI51 HI0.out) (zRx HO239.out) (by decide)) hk (fun _ h => h.2)) (fun _ h => h.1)); replace HK := Aside0.mk (KeepBut.trans (zhK HK.out) hk (.inl rfl)); replace HB := Aside0.mk (hb); replace HI0 := Aside0.mk (hi); (try clear hb); (try clear hk); (try clear hi); have hcz19_0 : w18.cell? ⟨gb233, 0, none⟩ = some (.int .i64 t226) := (blk_cell BK233.out 0).trans rfl; have hcz19_1 : w18.cell? ⟨gb233, 1, none⟩ = some (.int .i64 t227) := (blk_cell BK233.out 1).trans rfl; have hcz19_2 : w18.cell? ⟨gb233, 2, none⟩ = some (.slice Ao12 t228.length co12) := (blk_cell BK233.out 2).trans rfl; have hfz19_0 := blk_frozen BK233.out 0; have hfz19_1 := blk_frozen BK233.out 1; have hfz19_2 := blk_frozen BK233.out 2; have hnb20 := NB225_0.out; have hnc20 := NB0_225.out; have hcz21_0 : w18.cell? ⟨gb225, 0, none⟩ = some (.int .i64 0) := (blk_cell BK225.out 0).trans rfl; have hcz21_1 : w18.cell? ⟨gb225, 1, none⟩ = some (.int .i64 0) := (blk_cell BK225.out 1).trans rfl; have hcz21_2 : w18.cell? ⟨gb225, 2, none⟩ = some (.slice none 0 0) := (blk_cell BK225.out 2).trans rfl; have hfz21_0 := blk_frozen BK225.out 0; have hfz21_1 := blk_frozen BK225.out 1; have hfz21_2 := blk_frozen BK225.out 2))
   refine bodyPost_ret (results_cell_row rfl _ _ gb225 26 #[.int .i64 t240, .int .i64 t227, .slice Ao12 t228.length co12] (0, 0) _ rfl (zbp BK225.out) Try.underlying26 rfl (by kernel_rfl)) rfl ?_
   exact ⟨_, by first | rfl | (simp [errW_none, errW_some] <;> rfl) | (simp [*, errW_none, errW_some] <;> rfl), Kd.Q_of_R (by refine zDR ?_; exact Kd.R_mono (Kd.R_far (p := ⟨gb225, 2, none⟩) (Kd.R_far (p := ⟨gb225, 1, none⟩) (Kd.R_far (p := ⟨gb225, 0, none⟩) (Kd.R_far (p := ⟨gb233, 0, none⟩) (Kd.R_types (Kd.R_types HO230.out BK233.out (by decide)) BK225.out (by decide)) (fun _ hk => hk.1.2) (.int .i64 t240)) (fun _ hk => hk.2) (.int .i64 t240)) (fun _ hk => hk.2) (.int .i64 t227)) (fun _ hk => hk.2) (.slice Ao12 t228.length co12)) (fun _ hk => trivial)), zhI51 HI0.out, zhB HB.out, zhK HK.out⟩
 ·rw [if_neg c4] at H
  have c4b0 : (t234 == 0) = false := beq_eq_false_iff_ne.mpr c4
  have c4b1 : (t234 != 0) = true := bne_iff_ne.mpr c4
  by_cases c22 : t234 = 1
  ·rw [if_pos c22] at H
   have c22b0 : (t234 == 1) = true := beq_iff_eq.mpr c22
   have c22b1 : (t234 != 1) = false := bne_eq_false_iff_eq.mpr c22
   clear c22
   replace H := Option.bind_eq_some_iff.mp H
   obtain ⟨⟨t243, t244, t245⟩, A230, H⟩ := H
   replace H : ((spec_l1Cur_among.f s0_0 t244 t245 (([9001, (-9001), (-9998), (-9999)] : List Int))).bind fun bt249 => (if 0 ≤ t243 then (if t243 < (t228.length : Int) then (some (t226, t227, (t228.set (t243 : Int).toNat bt249.1), bt249.2.1, bt249.2.2)) else (none)) else (none))) = some (r1, r2, r3, r4, r5) := H
   have A23 := Aside0.mk A230
   clear A230
   obtain ⟨y246, hy246⟩ : ∃ y_ : List Int, y_ = (([9001, (-9001), (-9998), (-9999)] : List Int)) := ⟨_, rfl⟩
   replace H : ((spec_l1Cur_among.f s0_0 t244 t245 y246).bind fun bt249 => (if 0 ≤ t243 then (if t243 < (t228.length : Int) then (some (t226, t227, (t228.set (t243 : Int).toNat bt249.1), bt249.2.1, bt249.2.2)) else (none)) else (none))) = some (r1, r2, r3, r4, r5) := by first | (rw [hy246]; with_reducible exact H) | (have H2_ := (Option.bind_some _ _).symm.trans H; rw [hy246]; with_reducible exact H2_) | (have H2_ := (Option.bind_some _ _).symm.trans H; with_reducible exact H2_) | with_reducible exact H | (rw [hy246]; exact H) | exact H
   have Ny246 := Aside0.mk hy246
   clear hy246
   replace H := Option.bind_eq_some_iff.mp H
   obtain ⟨⟨t249, t250, t251⟩, A240, H⟩ := H
   replace H : (if 0 ≤ t243 then (if t243 < (t228.length : Int) then (some (t226, t227, (t228.set (t243 : Int).toNat t249), t250, t251)) else (none)) else (none)) = some (r1, r2, r3, r4, r5) := H
   have A24 := Aside0.mk A240
   clear A240
   by_cases c25 : 0 ≤ t243
   ·rw [if_pos c25] at H
    have c25b0 : decide (0 ≤ t243) = true := decide_eq_true c25
    clear c25
    by_cases c26 : t243 < (t228.length : Int)
    ·rw [if_pos c26] at H
     have c26b0 : decide (t243 < (t228.length : Int)) = true := decide_eq_true c26
     clear c26
     obtain ⟨y252, hy252⟩ : ∃ y_ : List Int, y_ = (t228.set (t243 : Int).toNat t249) := ⟨_, rfl⟩
     replace H : (some (t226, t227, y252, t250, t251)) = some (r1, r2, r3, r4, r5) := by first | (rw [hy252]; with_reducible exact H) | (have H2_ := (Option.bind_some _ _).symm.trans H; rw [hy252]; with_reducible exact H2_) | (have H2_ := (Option.bind_some _ _).symm.trans H; with_reducible exact H2_) | with_reducible exact H | (rw [hy252]; exact H) | exact H
     have Ny252 := Aside0.mk hy252
     clear hy252
     focus
      simp only [Option.some.injEq, Prod.mk.injEq] at H
      obtain ⟨rfl, rfl, rfl, rfl, rfl⟩ := H
      go_enter Try.func31, Try.ntmps31
      try go_wp2_with (first | ((with_reducible refine gate_dst (N := 2) rfl ?_); refine box_event ?hg (N := 2) ?hd (cs := #[.int .i64 0, .int .i64 0, .slice none 0 0]) (t := 26) ?hr ?_; (case hd => rfl); (case hg => rfl); (case hr => exact zsx); intro gb225 hg w28 hbox hb; replace HB := Aside0.mk (below_step (by first | exact zBy HB.out (IsS51.ge HI0.out) | exact zBx HB.out) hb); have BK225 := Aside0.mk (hbox); have GW225 := Aside0.mk ((by rw [hg]; exact (keep_size (w := w) (g := g) (row := none) (zKx HK.out)) : w.heap.size ≤ gb225)); have GE225 := Aside0.mk ((Nat.le_trans HW0.out (by rw [hg]; exact (keep_size (w := w) (g := g) (row := none) (zKx HK.out)) : w.heap.size ≤ gb225) : w0.heap.size ≤ gb225)); replace HK := Aside0.mk (KeepBut.trans (zKx HK.out) (KeepBut.of_below hb g none) (.inl rfl)); have NB0_225 := Aside0.mk ((by rw [hg]; exact Nat.ne_of_lt (IsS51.lt (show IsS51 w0 _ g s0_0 s0_1 s0_2 from IsS51.zI HI0.out)) : g ≠ gb225)); have NB225_0 := Aside0.mk ((by rw [hg]; exact Nat.ne_of_gt (IsS51.lt (show IsS51 w0 _ g s0_0 s0_1 s0_2 from IsS51.zI HI0.out)) : gb225 ≠ g)); replace HI0 := Aside0.mk (IsS51.below (IsS51.zI HI0.out) hb); clear hb hbox hg) | ((with_reducible refine gate_callee (f := 51) rfl ?_); refine goesL_ (some 5) rfl rfl Try.func51 (by kernel_rfl) rfl #[.pointer (some ⟨g, 0, none⟩)] rfl zlx ?_; (with_reducible refine (spec_l1Cur_field.calls k g s0_0 s0_1 s0_2 t226 t227 t228 t231 t232 w0 _ ?side1 ?side2 A2.out).mono ?_); (case side1 => exact IsS51.zJ HI0.out NB0_225.out); (case side2 => first | exact zBz HB.out (IsS51.ge HI0.out) GE225.out | exact zBy HB.out GE225.out); rintro e w29 ⟨v229, rfl, ho0, hi, hb, hk⟩; refine ⟨_, rfl, ?_⟩; replace BK225 := Aside0.mk (KeepBut.blk hk (g' := gb225) (o := .cells #[.int .i64 0, .int .i64 0, .slice none 0 0] 26 (0, 0)) (zbx BK225.out) NB225_0.out (by simp)); have HO230 := Aside0.mk (Kd.R_lower ho0 (keep_size (w := w) (g := g) (row := none) (zKy HK.out GW225.out))); replace HK := Aside0.mk (KeepBut.trans (zKy HK.out GW225.out) hk (.inl rfl)); replace HB := Aside0.mk (hb); replace HI0 := Aside0.mk (hi); (try clear hb); (try clear hk); (try clear hi); (try clear ho0)) | ((with_reducible refine gate_dst (N := 3) rfl ?_); refine box_event ?hg (N := 3) ?hd (cs := #[.int .i64 0, .int .i64 0, .slice none 0 0]) (t := 26) ?hr ?_; (case hd => rfl); (case hg => rfl); (case hr => exact zsx); intro gb233 hg w30 hbox hb; replace HO230 := Aside0.mk (Kd.R_below (zRx HO230.out) hb); replace HB := Aside0.mk (below_step (by first | exact zBz HB.out (IsS51.ge HI0.out) GE225.out | exact zBy HB.out GE225.out) hb); have BK233 := Aside0.mk (hbox); have GW233 := Aside0.mk ((by rw [hg]; exact (keep_size (w := w) (g := g) (row := none) (zKy HK.out GW225.out)) : w.heap.size ≤ gb233)); have GE233 := Aside0.mk ((Nat.le_trans HW0.out (by rw [hg]; exact (keep_size (w := w) (g := g) (row := none) (zKy HK.out GW225.out)) : w.heap.size ≤ gb233) : w0.heap.size ≤ gb233)); replace HK := Aside0.mk (KeepBut.trans (zKy HK.out GW225.out) (KeepBut.of_below hb g none) (.inl rfl)); have NB225_233 := znl hg BK225.out; have NB233_225 := zng hg BK225.out; replace BK225 := zbl BK225.out hb; have NB0_233 := Aside0.mk ((by rw [hg]; exact Nat.ne_of_lt (IsS51.lt (show IsS51 w0 _ g s0_0 t231 t232 from IsS51.zJ HI0.out NB0_225.out)) : g ≠ gb233)); have NB233_0 := Aside0.mk ((by rw [hg]; exact Nat.ne_of_gt (IsS51.lt (show IsS51 w0 _ g s0_0 t231 t232 from IsS51.zJ HI0.out NB0_225.out)) : gb233 ≠ g)); replace HI0 := Aside0.mk (IsS51.below (IsS51.zF HI0.out NB0_225.out) hb); clear hb hbox hg; have hnb31 := NB233_225.out; have hnc31 := NB225_233.out; have hnb32 := NB233_0.out; have hnc32 := NB0_233.out; have hcz33_0 : w30.cell? ⟨gb233, 0, none⟩ = some (.int .i64 0) := (blk_cell BK233.out 0).trans rfl; have hcz33_1 : w30.cell? ⟨gb233, 1, none⟩ = some (.int .i64 0) := (blk_cell BK233.out 1).trans rfl; have hcz33_2 : w30.cell? ⟨gb233, 2, none⟩ = some (.slice none 0 0) := (blk_cell BK233.out 2).trans rfl; have hfz33_0 := blk_frozen BK233.out 0; have hfz33_1 := blk_frozen BK233.out 1; have hfz33_2 := blk_frozen BK233.out 2; obtain ⟨Ao34, co34, eo34⟩ := Kd.R_slice HO230.out; subst eo34) | ((with_reducible refine gate_callee (f := 52) rfl ?_); refine goesL_ (some 7) rfl rfl Try.func52 (by kernel_rfl) rfl #[.pointer (some ⟨g, 0, none⟩), .int .i64 24] rfl zlx ?_; (with_reducible refine (spec_l1Cur_pick.calls g s0_0 t231 t232 24 t234 t235 t236 w0 _ ?side1 ?side2 A3.out).mono ?_); (case side1 => exact zhI51 HI0.out); (case side2 => exact zhB HB.out); rintro e w35 ⟨rfl, hi, hb, hk⟩; refine ⟨_, rfl, ?_⟩; replace BK225 := Aside0.mk (KeepBut.blk hk (g' := gb225) (o := .cells #[.int .i64 0, .int .i64 0, .slice none 0 0] 26 (0, 0)) (zbq BK225.out) NB225_0.out (by simp)); replace HO230 := Aside0.mk (Kd.R_mono (Kd.R_keep (IsS51.apart (show IsS51 w0 _ g s0_0 t231 t232 from zhI51 HI0.out) (by (with_reducible repeat (first | apply Kd.R_alloc | apply Kd.R_drewN | apply Kd.R_drew)); exact (Kd.R_mono (Kd.R_far (p := ⟨gb233, 2, none⟩) (Kd.R_far (p := ⟨gb233, 1, none⟩) (Kd.R_far (p := ⟨gb233, 0, none⟩) (Kd.R_types HO230.out BK233.out (by decide)) (fun _ hk => hk.2) (.int .i64 t226)) (fun _ hk => hk.2) (.int .i64 t227)) (fun _ hk => hk.2) (.slice Ao34 t228.length co34)) (fun _ h_ => h_.1))) (by decide)) hk (fun _ h => h.2)) (fun _ h => h.1)); replace BK233 := Aside0.mk (KeepBut.blk hk (g' := gb233) (o := .cells #[.int .i64 t226, .int .i64 t227, .slice Ao34 t228.length co34] 26 (0, 0)) (zbp BK233.out) NB233_0.out (by simp)); replace HK := Aside0.mk (KeepBut.trans (zhK HK.out) hk (.inl rfl)); replace HB := Aside0.mk (hb); replace HI0 := Aside0.mk (hi); (try clear hb); (try clear hb2); (try clear hk); (try clear hi)))
      replace HO230 := Aside0.mk (Kd.R_drew HO230.out)
      replace BK225 := Aside0.mk (blk_drew BK225.out)
      replace BK233 := Aside0.mk (blk_drew BK233.out)
      replace HI0 := Aside0.mk (IsS51.drew HI0.out)
      replace HK := Aside0.mk (keep_drew HK.out)
      replace HB := Aside0.mk (below_drew1 HB.out)
      refine start_ (n := 12) (S := fun w' => w'.cell? ⟨gb233, 0, none⟩ = some (.int .i64 t226) ∧ w'.cell? ⟨gb233, 1, none⟩ = some (.int .i64 t227) ∧ w'.cell? ⟨gb233, 2, none⟩ = some (.slice Ao34 t228.length co34)) (ds := [11]) #[F,F,F,F,F,F,F,F,F,F,F,F] (by kernel_rfl) rfl rfl ⟨(blk_cell BK233.out 0).trans rfl, (blk_cell BK233.out 1).trans rfl, (blk_cell BK233.out 2).trans rfl⟩ (fun hHeld => ?_); refine with_tabW spec_l1Cur_anyField.tab6 spec_l1Cur_anyField.bits6 (fun HT_ HW_ => ?_)
      generalize w35.drew = w36 at HO230 BK225 BK233 HI0 HK HB hHeld ⊢
      refine pure_ (i := 0) (N := some 18) (v := ?_) (a' := ?_) #[T,F,F,F,F,F,F,F,F,F,F,F] rfl rfl (any_of HT_.out (by kernel_rfl)) (fun _ _ _ h => h) (Or.inl ⟨by rfl, ?_⟩) ?_ ?_
      rotate_left
      ·exact zwx
      rotate_left
      ·exact zpx
      refine pure_ (i := 2) (N := some 20) (v := ?_) (a' := ?_) #[T,F,T,F,F,F,F,F,F,F,F,F] rfl rfl (any_of HT_.out (by kernel_rfl)) (fun _ _ _ h => h) (Or.inl ⟨by rfl, ?_⟩) ?_ ?_
      rotate_left
      ·exact zwx
      rotate_left
      ·exact zpx
      refine pure_ (i := 3) (N := some 21) (v := ?_) (a' := ?_) #[T,F,T,T,F,F,F,F,F,F,F,F] rfl rfl (any_of HT_.out (by kernel_rfl)) (fun _ _ _ h => h) (Or.inl ⟨by rfl, ?_⟩) ?_ ?_
      rotate_left
      ·exact zwx
      rotate_left
      ·exact zpx
      refine pure_ (i := 7) (N := some 25) (v := ?_) (a' := ?_) #[T,F,T,T,F,F,F,T,F,F,F,F] rfl rfl (any_of HT_.out (by kernel_rfl)) (fun _ _ _ h => h) (Or.inl ⟨by rfl, ?_⟩) ?_ ?_
      rotate_left
      ·exact zwx
      rotate_left
      ·exact zpx
      refine take_ (i := 1) (N := some 19) (v := ?_) (a' := ?_) #[T,T,T,T,F,F,F,T,F,F,F,F] rfl rfl (take_ofW HT_.out HW_.out (by kernel_rfl)) (fun _ _ _ h => h) (Or.inl ⟨by rfl, ?_⟩) hHeld ?_ ?_
      rotate_left
      ·rintro w' ⟨s0, s1, s2⟩
       go_simp
       with_reducible rfl
      rotate_left
      ·exact zpx
      refine take_ (i := 4) (N := some 22) (v := ?_) (a' := ?_) #[T,T,T,T,T,F,F,T,F,F,F,F] rfl rfl (take_ofW HT_.out HW_.out (by kernel_rfl)) (fun _ _ _ h => h) (Or.inl ⟨by rfl, ?_⟩) hHeld ?_ ?_
      rotate_left
      ·rintro w' ⟨s0, s1, s2⟩
       go_simp
       with_reducible rfl
      rotate_left
      ·exact zpx
      refine pure_ (i := 5) (N := some 23) (v := ?_) (a' := ?_) #[T,T,T,T,T,T,F,T,F,F,F,F] rfl rfl (any_of HT_.out (by kernel_rfl)) (fun _ _ _ h => h) (Or.inl ⟨by rfl, ?_⟩) ?_ ?_
      rotate_left
      ·exact zwx
      rotate_left
      ·exact zpx
      refine join_ (σ := Value) 3 #[T,T,T,T,T,T,T,T,T,F,F,F] (fun s_ => [(24, .int .i64 t243), (26, s_)]) (fun s_ w' => (w'.cell? ⟨gb233, 0, none⟩ = some (.int .i64 t226) ∧ w'.cell? ⟨gb233, 1, none⟩ = some (.int .i64 t227) ∧ w'.cell? ⟨gb233, 2, none⟩ = some (.slice Ao34 t228.length co34)) ∧ (Kd.R (Kd.int .i64) 3 w' w.heap.size (fun k_ => some k_ ≠ (s_ : Value).ownBlock) (.slice Ao34 t228.length co34) t228) ∧ (Kd.R (Kd.int .i64) 3 w' w.heap.size (fun k_ => some k_ ≠ (.slice Ao34 t228.length co34 : Value).ownBlock) s_ y246) ∧ (w'.heap[gb225]? = some (.cells #[.int .i64 0, .int .i64 0, .slice none 0 0] 26 (0, 0))) ∧ (w'.heap[gb233]? = some (.cells #[.int .i64 t226, .int .i64 t227, .slice Ao34 t228.length co34] 26 (0, 0))) ∧ (IsS51 w0 w' g s0_0 t244 t245) ∧ (KeepBut w w' g none) ∧ (Below w0.heap.size w0 w')) ?_ ?_
      rotate_left
      ·intro hCont
       refine two_ (i := 6) (j := 8) (Ni := some 24) (Nj := some 26) #[T,T,T,T,T,T,T,T,F,F,F,F] #[T,T,T,T,T,T,F,T,T,F,F,F] rfl rfl rfl rfl (two_of HT_.out (by kernel_rfl)) (by decide) (by decide) (fun K hK => ?_) (fun K hK => ?_)
       ·skip
        refine goes_ Try.func52 (by kernel_rfl) rfl #[.pointer (some ⟨g, 0, none⟩), .int .i64 (t228.length : Int)] (by rfl) rfl rfl zlx ?_
        with_reducible refine (spec_l1Cur_pick.calls g s0_0 t235 t236 (t228.length : Int) t243 t244 t245 w0 _ ?side1 ?side2 A23.out).mono ?_
        (case side1 => exact zhI51 HI0.out)
        (case side2 => exact zhB HB.out)
        rintro e w37 ⟨rfl, hi, hb, hk⟩
        refine ⟨_, rfl, ?_⟩
        replace BK225 := Aside0.mk (KeepBut.blk hk (g' := gb225) (o := .cells #[.int .i64 0, .int .i64 0, .slice none 0 0] 26 (0, 0)) (zbx BK225.out) NB225_0.out (by simp))
        replace HO230 := Aside0.mk (Kd.R_mono (Kd.R_keep (IsS51.apart (show IsS51 w0 _ g s0_0 t235 t236 from zhI51 HI0.out) (zRx HO230.out) (by decide)) hk (fun _ h => h.2)) (fun _ h => h.1))
        replace BK233 := Aside0.mk (KeepBut.blk hk (g' := gb233) (o := .cells #[.int .i64 t226, .int .i64 t227, .slice Ao34 t228.length co34] 26 (0, 0)) (zbx BK233.out) NB233_0.out (by simp))
        replace HK := Aside0.mk (KeepBut.trans (zhK HK.out) hk (.inl rfl))
        replace HB := Aside0.mk (hb)
        replace HI0 := Aside0.mk (hi)
        (try clear hb)
        (try clear hb2)
        (try clear hk)
        (try clear hi)
        refine hK.out _ _ ⟨(blk_cell BK233.out 0).trans rfl, (blk_cell BK233.out 1).trans rfl, (blk_cell BK233.out 2).trans rfl⟩ (fun hHeld => ?_)
        clear hK K
        refine norm_ (a' := ?_) ?_ ?_
        rotate_left
        ·show Act.put _ (some 24) _ = _
         simp only [Act.put, List.setIfInBounds_toArray, List.set_cons_zero, List.set_cons_succ, i64_w, i32_w]
         rfl
        refine one_ (i := 8) (N := some 26) #[T,T,T,T,T,T,T,T,T,F,F,F] rfl rfl (one_of HT_.out (by kernel_rfl)) (by decide) (fun K hK => ?_)
        refine Kd.R_lit_step (Kd.int .i64) _ 3 ?hg (N := 26) ?hd (xs := ([9001, (-9001), (-9998), (-9999)] : List Int)) (inner := [.int .i64 9001, .int .i64 (-9001), .int .i64 (-9998), .int .i64 (-9999)]) (ok := fun _ => True) (okp := fun _ => True) ?hr ?hp (fun _ hk => hk) trivial (Below.refl _ _) (Nat.le_refl _) (by simp) ?_; (case hd => rfl); (case hg => rfl); (case hr => exact zsx); (case hp => exact (Reps.one (show Kd.M (Kd.int .i64) _ _ _ 9001 [.int .i64 9001] from rfl) (Reps.one (show Kd.M (Kd.int .i64) _ _ _ (-9001) [.int .i64 (-9001)] from rfl) (Reps.one (show Kd.M (Kd.int .i64) _ _ _ (-9998) [.int .i64 (-9998)] from rfl) (Reps.one (show Kd.M (Kd.int .i64) _ _ _ (-9999) [.int .i64 (-9999)] from rfl) (Reps.none _ _))))))
        intro v247 w38 ho39 hb hg_ hnew_
        clear hg_ hnew_
        (first | rw [← Ny246.out] at ho39 | (simp only [Int.reduceToNat] at ho39; rw [← Ny246.out] at ho39))
        have HO248 := Aside0.mk (Kd.R_lower (Kd.R_new' ho39 (Kd.R_lt (zRx HO230.out))) (keep_size (w := w) (g := g) (row := none) (zhK HK.out)))
        replace HO230 := Aside0.mk (Kd.R_elder' (zRx HO230.out) (Kd.R_base ho39) hb)
        replace HI0 := Aside0.mk (IsS51.below (zhI51 HI0.out) hb)
        replace BK225 := zbl BK225.out hb
        replace BK233 := zbl BK233.out hb
        replace HK := Aside0.mk (KeepBut.trans (zhK HK.out) (KeepBut.of_below hb g none) (.inl rfl))
        replace HB := Aside0.mk (below_step (zhB HB.out) hb)
        clear hb ho39
        refine hK.out _ _ ⟨(blk_cell BK233.out 0).trans rfl, (blk_cell BK233.out 1).trans rfl, (blk_cell BK233.out 2).trans rfl⟩ (fun hHeld => ?_)
        clear hK K
        refine norm_ (a' := ?_) ?_ ?_
        rotate_left
        ·show Act.put _ (some 26) _ = _
         simp only [Act.put, List.setIfInBounds_toArray, List.set_cons_zero, List.set_cons_succ, i64_w, i32_w]
         rfl
        exact norm_ (by simp only [putAll, Act.put, List.setIfInBounds_toArray, List.set_cons_zero, List.set_cons_succ]) (hCont (v247) _ ⟨hHeld, (by refine zDR ?_; exact Kd.R_mono HO230.out (fun _ hk => hk.2)), (by refine zDR ?_; exact Kd.R_mono HO248.out (fun _ hk => hk.2)), (zbx BK225.out), (zbx BK233.out), (zhI51 HI0.out), (zhK HK.out), (zhB HB.out)⟩)
       ·skip
        refine Kd.R_lit_step (Kd.int .i64) _ 3 ?hg (N := 26) ?hd (xs := ([9001, (-9001), (-9998), (-9999)] : List Int)) (inner := [.int .i64 9001, .int .i64 (-9001), .int .i64 (-9998), .int .i64 (-9999)]) (ok := fun _ => True) (okp := fun _ => True) ?hr ?hp (fun _ hk => hk) trivial (Below.refl _ _) (Nat.le_refl _) (by simp) ?_; (case hd => rfl); (case hg => rfl); (case hr => exact zsx); (case hp => exact (Reps.one (show Kd.M (Kd.int .i64) _ _ _ 9001 [.int .i64 9001] from rfl) (Reps.one (show Kd.M (Kd.int .i64) _ _ _ (-9001) [.int .i64 (-9001)] from rfl) (Reps.one (show Kd.M (Kd.int .i64) _ _ _ (-9998) [.int .i64 (-9998)] from rfl) (Reps.one (show Kd.M (Kd.int .i64) _ _ _ (-9999) [.int .i64 (-9999)] from rfl) (Reps.none _ _))))))
        intro v247 w37 ho38 hb hg_ hnew_
        clear hg_ hnew_
        (first | rw [← Ny246.out] at ho38 | (simp only [Int.reduceToNat] at ho38; rw [← Ny246.out] at ho38))
        have HO248 := Aside0.mk (Kd.R_lower (Kd.R_new' ho38 (Kd.R_lt (zRx HO230.out))) (keep_size (w := w) (g := g) (row := none) (zhK HK.out)))
        replace HO230 := Aside0.mk (Kd.R_elder' (zRx HO230.out) (Kd.R_base ho38) hb)
        replace HI0 := Aside0.mk (IsS51.below (zhI51 HI0.out) hb)
        replace BK225 := zbl BK225.out hb
        replace BK233 := zbl BK233.out hb
        replace HK := Aside0.mk (KeepBut.trans (zhK HK.out) (KeepBut.of_below hb g none) (.inl rfl))
        replace HB := Aside0.mk (below_step (zhB HB.out) hb)
        clear hb ho38
        refine hK.out _ _ ⟨(blk_cell BK233.out 0).trans rfl, (blk_cell BK233.out 1).trans rfl, (blk_cell BK233.out 2).trans rfl⟩ (fun hHeld => ?_)
        clear hK K
        refine norm_ (a' := ?_) ?_ ?_
        rotate_left
        ·show Act.put _ (some 26) _ = _
         simp only [Act.put, List.setIfInBounds_toArray, List.set_cons_zero, List.set_cons_succ, i64_w, i32_w]
         rfl
        refine one_ (i := 6) (N := some 24) #[T,T,T,T,T,T,T,T,T,F,F,F] rfl rfl (one_of HT_.out (by kernel_rfl)) (by decide) (fun K hK => ?_)
        refine goes_ Try.func52 (by kernel_rfl) rfl #[.pointer (some ⟨g, 0, none⟩), .int .i64 (t228.length : Int)] (by rfl) rfl rfl zlx ?_
        with_reducible refine (spec_l1Cur_pick.calls g s0_0 t235 t236 (t228.length : Int) t243 t244 t245 w0 _ ?side1 ?side2 A23.out).mono ?_
        (case side1 => exact zhI51 HI0.out)
        (case side2 => exact zhB HB.out)
        rintro e w39 ⟨rfl, hi, hb, hk⟩
        refine ⟨_, rfl, ?_⟩
        replace BK225 := Aside0.mk (KeepBut.blk hk (g' := gb225) (o := .cells #[.int .i64 0, .int .i64 0, .slice none 0 0] 26 (0, 0)) (zbx BK225.out) NB225_0.out (by simp))
        replace HO230 := Aside0.mk (Kd.R_mono (Kd.R_keep (IsS51.apart (show IsS51 w0 _ g s0_0 t235 t236 from zhI51 HI0.out) (zRx HO230.out) (by decide)) hk (fun _ h => h.2)) (fun _ h => h.1))
        replace BK233 := Aside0.mk (KeepBut.blk hk (g' := gb233) (o := .cells #[.int .i64 t226, .int .i64 t227, .slice Ao34 t228.length co34] 26 (0, 0)) (zbx BK233.out) NB233_0.out (by simp))
        replace HO248 := Aside0.mk (Kd.R_mono (Kd.R_keep (IsS51.apart (show IsS51 w0 _ g s0_0 t235 t236 from zhI51 HI0.out) (zRx HO248.out) (by decide)) hk (fun _ h => h.2)) (fun _ h => h.1))
        replace HK := Aside0.mk (KeepBut.trans (zhK HK.out) hk (.inl rfl))
        replace HB := Aside0.mk (hb)
        replace HI0 := Aside0.mk (hi)
        (try clear hb)
        (try clear hb2)
        (try clear hk)
        (try clear hi)
        refine hK.out _ _ ⟨(blk_cell BK233.out 0).trans rfl, (blk_cell BK233.out 1).trans rfl, (blk_cell BK233.out 2).trans rfl⟩ (fun hHeld => ?_)
        clear hK K
        refine norm_ (a' := ?_) ?_ ?_
        rotate_left
        ·show Act.put _ (some 24) _ = _
         simp only [Act.put, List.setIfInBounds_toArray, List.set_cons_zero, List.set_cons_succ, i64_w, i32_w]
         rfl
        exact norm_ (by simp only [putAll, Act.put, List.setIfInBounds_toArray, List.set_cons_zero, List.set_cons_succ]) (hCont (v247) _ ⟨hHeld, (by refine zDR ?_; exact Kd.R_mono HO230.out (fun _ hk => hk.2)), (by refine zDR ?_; exact Kd.R_mono HO248.out (fun _ hk => hk.2)), (zbx BK225.out), (zbx BK233.out), (zhI51 HI0.out), (zhK HK.out), (zhB HB.out)⟩)
      rintro v247 w40 ⟨hS_, h0_, h1_, h2_, h3_, h4_, h5_, h6_⟩
      replace HO230 : Aside0 (Kd.R (Kd.int .i64) 3 w40 w.heap.size (fun k_ => some k_ ≠ (v247 : Value).ownBlock) (.slice Ao34 t228.length co34) t228) := ⟨h0_⟩
      have HO248 : Aside0 (Kd.R (Kd.int .i64) 3 w40 w.heap.size (fun k_ => some k_ ≠ (.slice Ao34 t228.length co34 : Value).ownBlock) v247 y246) := ⟨h1_⟩
      replace BK225 : Aside0 (w40.heap[gb225]? = some (.cells #[.int .i64 0, .int .i64 0, .slice none 0 0] 26 (0, 0))) := ⟨h2_⟩
      replace BK233 : Aside0 (w40.heap[gb233]? = some (.cells #[.int .i64 t226, .int .i64 t227, .slice Ao34 t228.length co34] 26 (0, 0))) := ⟨h3_⟩
      replace HI0 : Aside0 (IsS51 w0 w40 g s0_0 t244 t245) := ⟨h4_⟩
      replace HK : Aside0 (KeepBut w w40 g none) := ⟨h5_⟩
      replace HB : Aside0 (Below w0.heap.size w0 w40) := ⟨h6_⟩
      clear h0_
      clear h1_
      clear h2_
      clear h3_
      clear h4_
      clear h5_
      clear h6_
      have hHeld : w40.cell? ⟨gb233, 0, none⟩ = some (.int .i64 t226) ∧ w40.cell? ⟨gb233, 1, none⟩ = some (.int .i64 t227) ∧ w40.cell? ⟨gb233, 2, none⟩ = some (.slice Ao34 t228.length co34) := hS_
      obtain ⟨Ao41, co41, eo41⟩ := Kd.R_slice HO248.out
      (first | subst eo41 | (injection eo41 with f1_ f2_ f3_; have f4_ := f1_.symm; have f5_ := f3_.symm; clear f1_ f2_ f3_; subst f4_; subst f5_))
      refine norm_ (a' := ?_) ?_ ?_
      rotate_left
      ·simp only [putAll, Act.put, List.setIfInBounds_toArray, List.set_cons_zero, List.set_cons_succ]
       rfl
      refine one_ (i := 9) (N := some 27) #[T,T,T,T,T,T,T,T,T,T,F,F] rfl rfl (one_of HT_.out (by kernel_rfl)) (by decide) (fun K hK => ?_)
      refine goes_ Try.func33 (by kernel_rfl) rfl #[.pointer (some ⟨g, 0, none⟩), .slice Ao41 y246.length co41] (by rfl) rfl rfl zlx ?_
      with_reducible refine (spec_l1Cur_among.calls g s0_0 t244 t245 _ _ y246 t249 t250 t251 w0 _ ?side1 ?side2 ?side3 ?side4 ?side5 A24.out).mono ?_
      (case side1 => exact zhI51 HI0.out)
      (case side2 => exact zhB HB.out)
      (case side3 => exact zCx (Kd.R_reads' HO248.out).2.2)
      (case side4 => exact (Kd.R_reads' HO248.out).2.1)
      (case side5 => exact far_slice (IsS51.own_ne HI0.out HO248.out (by decide)))
      rintro e w42 ⟨rfl, hi, hb, hk⟩
      refine ⟨_, rfl, ?_⟩
      replace BK225 := Aside0.mk (KeepBut.blk hk (g' := gb225) (o := .cells #[.int .i64 0, .int .i64 0, .slice none 0 0] 26 (0, 0)) (zbx BK225.out) NB225_0.out (by simp))
      replace HO230 := Aside0.mk (Kd.R_mono (Kd.R_keep (IsS51.apart (show IsS51 w0 _ g s0_0 t244 t245 from zhI51 HI0.out) (zRx HO230.out) (by decide)) hk (fun _ h => h.2)) (fun _ h => h.1))
      replace BK233 := Aside0.mk (KeepBut.blk hk (g' := gb233) (o := .cells #[.int .i64 t226, .int .i64 t227, .slice Ao34 t228.length co34] 26 (0, 0)) (zbx BK233.out) NB233_0.out (by simp))
      replace HO248 := Aside0.mk (Kd.R_mono (Kd.R_keep (IsS51.apart (show IsS51 w0 _ g s0_0 t244 t245 from zhI51 HI0.out) (zRx HO248.out) (by decide)) hk (fun _ h => h.2)) (fun _ h => h.1))
      replace HK := Aside0.mk (KeepBut.trans (zhK HK.out) hk (.inl rfl))
      replace HB := Aside0.mk (hb)
      replace HI0 := Aside0.mk (hi)
      (try clear hb)
      (try clear hb2)
      (try clear hk)
      (try clear hi)
      have p27 : 0 ≤ (t243 : Int) := of_decide_eq_true zax
      have q27 : (t243 : Int) < ((t228.length : Int) : Int) := of_decide_eq_true zax
      obtain ⟨go27, co27, eo27, gb27, gl27, cl27, HG27⟩ := Kd.R_form HO230.out (by omega)
      (first | cases eo27 | (injection eo27 with ea_ en_ ec_; (first | subst ea_ | (injection ea_ with ea_; subst ea_)); subst ec_; clear en_))
      have GB27 := Aside0.mk gb27
      have GG27 := Aside0.mk HG27
      clear gb27 gl27 HG27
      obtain ⟨hx27_0, hf27_0⟩ := Kd.R_celln 0 HO230.out (t243 : Int) p27 q27
      replace p27 := eq_true p27
      replace q27 := eq_true q27
      have HN0_go27 := Aside0.mk (show g ≠ go27 from by have h_ := IsS51.own_ne HI0.out HO230.out (by decide); intro e_; exact h_ (by rw [e_]; rfl))
      have HP43 := Kd.R_putn HO230.out (t243 : Int) t249
      rw [← Ny252.out] at HP43
      have HQ43 := Aside0.mk HP43
      clear HP43
      refine hK.out _ _ ⟨(blk_cell BK233.out 0).trans rfl, (blk_cell BK233.out 1).trans rfl, (blk_cell BK233.out 2).trans rfl⟩ (fun hHeld => ?_)
      clear hK K
      refine norm_ (a' := ?_) ?_ ?_
      rotate_left
      ·show Act.put _ (some 27) _ = _
       simp only [Act.put, List.setIfInBounds_toArray, List.set_cons_zero, List.set_cons_succ, i64_w, i32_w]
       rfl
      refine pure_ (i := 10) (N := some 28) (v := ?_) (a' := ?_) #[T,T,T,T,T,T,T,T,T,T,T,F] rfl rfl (any_of HT_.out (by kernel_rfl)) (fun _ _ _ h => h) (Or.inl ⟨by rfl, ?_⟩) ?_ ?_
      rotate_left
      ·exact zwx
      rotate_left
      ·exact zpx
      refine last_ (i := 11) (N := none) #[T,T,T,T,T,T,T,T,T,T,T,T] rfl rfl (one_of HT_.out (by kernel_rfl)) (by decide) (fun K hK => ?_)
      refine skip_ (w1 := ?_) (by rfl) rfl ?_ ?_
      rotate_left
      ·go_simp
       rfl
      refine hK.out _ _ ?_
      clear hK K
      refine done_ (done_of HT_.out (by kernel_rfl)) ?_
      have n0_ : Aside0 (Kd.R (Kd.int .i64) 3 (w42.setCell ⟨go27, (t243 : Int).toNat, none⟩ (.int .i64 t249)) w.heap.size (fun k_ => some k_ ≠ (.slice Ao41 y246.length co41 : Value).ownBlock) (.slice (some ⟨go27, 0, none⟩) t228.length co34) y252) := ⟨by (with_reducible repeat (first | apply Kd.R_alloc | apply Kd.R_drewN | apply Kd.R_drew)); exact HQ43.out⟩
      have n1_ : Aside0 (Kd.R (Kd.int .i64) 3 (w42.setCell ⟨go27, (t243 : Int).toNat, none⟩ (.int .i64 t249)) w.heap.size (fun k_ => some k_ ≠ (.slice (some ⟨go27, 0, none⟩) t228.length co34 : Value).ownBlock) (.slice Ao41 y246.length co41) y246) := ⟨by refine zDR ?_; exact Kd.R_mono (Kd.R_far (p := ⟨go27, (t243 : Int).toNat, none⟩) (Kd.R_mono HO248.out (fun k_ hk => (⟨hk, fun e_ => hk (by rw [e_]; rfl)⟩ : _ ∧ k_ ≠ go27))) (fun _ hk => hk.2) (.int .i64 t249)) (fun _ hk => hk.1)⟩
      have n2_ : Aside0 ((w42.setCell ⟨go27, (t243 : Int).toNat, none⟩ (.int .i64 t249)).heap[gb225]? = some (.cells #[.int .i64 0, .int .i64 0, .slice none 0 0] 26 (0, 0))) := ⟨by refine zbx ?_; refine blk_far ?_ (by have h_ := Kd.R_ne HO230.out BK225.out (by decide); intro e_; exact h_ (by rw [e_]; rfl)) _; refine zbx ?_; exact BK225.out⟩
      have n3_ : Aside0 ((w42.setCell ⟨go27, (t243 : Int).toNat, none⟩ (.int .i64 t249)).heap[gb233]? = some (.cells #[.int .i64 t226, .int .i64 t227, .slice (some ⟨go27, 0, none⟩) t228.length co34] 26 (0, 0))) := ⟨by refine zbx ?_; refine blk_far ?_ (by have h_ := Kd.R_ne HO230.out BK233.out (by decide); intro e_; exact h_ (by rw [e_]; rfl)) _; refine zbx ?_; exact BK233.out⟩
      have n4_ : Aside0 (IsS51 w0 (w42.setCell ⟨go27, (t243 : Int).toNat, none⟩ (.int .i64 t249)) g s0_0 t250 t251) := ⟨zhI51 HI0.out⟩
      have n5_ : Aside0 (KeepBut w (w42.setCell ⟨go27, (t243 : Int).toNat, none⟩ (.int .i64 t249)) g none) := ⟨zhK HK.out⟩
      have n6_ : Aside0 (Below w0.heap.size w0 (w42.setCell ⟨go27, (t243 : Int).toNat, none⟩ (.int .i64 t249))) := ⟨by repeat (first | (with_reducible first | exact HB.out | apply below_alloc | apply pw_below_drewN | apply below_drew1 | refine below_set ?_ (Nat.le_trans HL.out GB27.out) | refine below_set ?_ (IsS51.ge HI0.out) | refine below_set ?_ GE225.out | refine below_set ?_ GE233.out) | exact HB.out)⟩
      (try clear HO230)
      (try clear HO248)
      (try clear BK225)
      (try clear BK233)
      (try clear HI0)
      (try clear HK)
      (try clear HB)
      generalize (w42.setCell ⟨go27, (t243 : Int).toNat, none⟩ (.int .i64 t249)) = w44 at n0_ n1_ n2_ n3_ n4_ n5_ n6_ ⊢
      have HO230 := n0_
      have HO248 := n1_
      have BK225 := n2_
      have BK233 := n3_
      have HI0 := n4_
      have HK := n5_
      have HB := n6_
      clear n0_ n1_ n2_ n3_ n4_ n5_ n6_
      have hcz45_0 : w44.cell? ⟨gb233, 0, none⟩ = some (.int .i64 t226) := (blk_cell BK233.out 0).trans rfl
      have hcz45_1 : w44.cell? ⟨gb233, 1, none⟩ = some (.int .i64 t227) := (blk_cell BK233.out 1).trans rfl
      have hcz45_2 : w44.cell? ⟨gb233, 2, none⟩ = some (.slice (some ⟨go27, 0, none⟩) t228.length co34) := (blk_cell BK233.out 2).trans rfl
      have hfz45_0 := blk_frozen BK233.out 0
      have hfz45_1 := blk_frozen BK233.out 1
      have hfz45_2 := blk_frozen BK233.out 2
      have hnb46 := NB225_0.out
      have hnc46 := NB0_225.out
      have hcz47_0 : w44.cell? ⟨gb225, 0, none⟩ = some (.int .i64 0) := (blk_cell BK225.out 0).trans rfl
      have hcz47_1 : w44.cell? ⟨gb225, 1, none⟩ = some (.int .i64 0) := (blk_cell BK225.out 1).trans rfl
      have hcz47_2 : w44.cell? ⟨gb225, 2, none⟩ = some (.slice none 0 0) := (blk_cell BK225.out 2).trans rfl
      have hfz47_0 := blk_frozen BK225.out 0
      have hfz47_1 := blk_frozen BK225.out 1
      have hfz47_2 := blk_frozen BK225.out 2
      try go_wp2
      refine bodyPost_ret (results_cell_row rfl _ _ gb225 26 #[.int .i64 t226, .int .i64 t227, .slice (some ⟨go27, 0, none⟩) t228.length co34] (0, 0) _ rfl (zbp BK225.out) Try.underlying26 rfl (by kernel_rfl)) rfl ?_
      exact ⟨_, by first | rfl | (simp [errW_none, errW_some] <;> rfl) | (simp [*, errW_none, errW_some] <;> rfl), Kd.Q_of_R (by refine zDR ?_; exact Kd.R_mono (Kd.R_far (p := ⟨gb225, 2, none⟩) (Kd.R_far (p := ⟨gb225, 1, none⟩) (Kd.R_far (p := ⟨gb225, 0, none⟩) (Kd.R_types HO230.out BK225.out (by decide)) (fun _ hk => hk.2) (.int .i64 t226)) (fun _ hk => hk.2) (.int .i64 t227)) (fun _ hk => hk.2) (.slice (some ⟨go27, 0, none⟩) t228.length co34)) (fun _ hk => trivial)), zhI51 HI0.out, zhB HB.out, zhK HK.out⟩
    ·rw [if_neg c26] at H
     exact absurd H (by simp)
   ·rw [if_neg c25] at H
    exact absurd H (by simp)
  ·rw [if_neg c22] at H
   have c22b0 : (t234 == 1) = false := beq_eq_false_iff_ne.mpr c22
   have c22b1 : (t234 != 1) = true := bne_iff_ne.mpr c22
   by_cases c48 : t234 = 2
   ·rw [if_pos c48] at H
    have c48b0 : (t234 == 2) = true := beq_iff_eq.mpr c48
    have c48b1 : (t234 != 2) = false := bne_eq_false_iff_eq.mpr c48
    clear c48
    by_cases c49 : 1 ≤ (t228.length : Int)
    ·rw [if_pos c49] at H
     have c49b0 := eq_true c49
     have c49b1 : decide (1 ≤ (t228.length : Int)) = true := decide_eq_true c49
     clear c49
     obtain ⟨y253, hy253⟩ : ∃ y_ : List Int, y_ = (t228.drop (1 : Int).toNat) := ⟨_, rfl⟩
     replace H : (some (t226, t227, y253, t235, t236)) = some (r1, r2, r3, r4, r5) := by first | (rw [hy253]; with_reducible exact H) | (have H2_ := (Option.bind_some _ _).symm.trans H; rw [hy253]; with_reducible exact H2_) | (have H2_ := (Option.bind_some _ _).symm.trans H; with_reducible exact H2_) | with_reducible exact H | (rw [hy253]; exact H) | exact H
     have Ny253 := Aside0.mk hy253
     clear hy253
     focus
      simp only [Option.some.injEq, Prod.mk.injEq] at H
      obtain ⟨rfl, rfl, rfl, rfl, rfl⟩ := H
      go_enter Try.func31, Try.ntmps31
      go_wp2_with (first | ((with_reducible refine gate_dst (N := 2) rfl ?_); refine box_event ?hg (N := 2) ?hd (cs := #[.int .i64 0, .int .i64 0, .slice none 0 0]) (t := 26) ?hr ?_; (case hd => rfl); (case hg => rfl); (case hr => exact zsx); intro gb225 hg w50 hbox hb; replace HB := Aside0.mk (below_step (by first | exact zBy HB.out (IsS51.ge HI0.out) | exact zBx HB.out) hb); have BK225 := Aside0.mk (hbox); have GW225 := Aside0.mk ((by rw [hg]; exact (keep_size (w := w) (g := g) (row := none) (zKx HK.out)) : w.heap.size ≤ gb225)); have GE225 := Aside0.mk ((Nat.le_trans HW0.out (by rw [hg]; exact (keep_size (w := w) (g := g) (row := none) (zKx HK.out)) : w.heap.size ≤ gb225) : w0.heap.size ≤ gb225)); replace HK := Aside0.mk (KeepBut.trans (zKx HK.out) (KeepBut.of_below hb g none) (.inl rfl)); have NB0_225 := Aside0.mk ((by rw [hg]; exact Nat.ne_of_lt (IsS51.lt (show IsS51 w0 _ g s0_0 s0_1 s0_2 from IsS51.zI HI0.out)) : g ≠ gb225)); have NB225_0 := Aside0.mk ((by rw [hg]; exact Nat.ne_of_gt (IsS51.lt (show IsS51 w0 _ g s0_0 s0_1 s0_2 from IsS51.zI HI0.out)) : gb225 ≠ g)); replace HI0 := Aside0.mk (IsS51.below (IsS51.zI HI0.out) hb); clear hb hbox hg) | ((with_reducible refine gate_callee (f := 51) rfl ?_); refine goesL_ (some 5) rfl rfl Try.func51 (by kernel_rfl) rfl #[.pointer (some ⟨g, 0, none⟩)] rfl zlx ?_; (with_reducible refine (spec_l1Cur_field.calls k g s0_0 s0_1 s0_2 t226 t227 t228 t231 t232 w0 _ ?side1 ?side2 A2.out).mono ?_); (case side1 => exact IsS51.zJ HI0.out NB0_225.out); (case side2 => first | exact zBz HB.out (IsS51.ge HI0.out) GE225.out | exact zBy HB.out GE225.out); rintro e w51 ⟨v229, rfl, ho0, hi, hb, hk⟩; refine ⟨_, rfl, ?_⟩; replace BK225 := Aside0.mk (KeepBut.blk hk (g' := gb225) (o := .cells #[.int .i64 0, .int .i64 0, .slice none 0 0] 26 (0, 0)) (zbx BK225.out) NB225_0.out (by simp)); have HO230 := Aside0.mk (Kd.R_lower ho0 (keep_size (w := w) (g := g) (row := none) (zKy HK.out GW225.out))); replace HK := Aside0.mk (KeepBut.trans (zKy HK.out GW225.out) hk (.inl rfl)); replace HB := Aside0.mk (hb); replace HI0 := Aside0.mk (hi); (try clear hb); (try clear hk); (try clear hi); (try clear ho0)) | ((with_reducible refine gate_dst (N := 3) rfl ?_); refine box_event ?hg (N := 3) ?hd (cs := #[.int .i64 0, .int .i64 0, .slice none 0 0]) (t := 26) ?hr ?_; (case hd => rfl); (case hg => rfl); (case hr => exact zsx); intro gb233 hg w52 hbox hb; replace HO230 := Aside0.mk (Kd.R_below (zRx HO230.out) hb); replace HB := Aside0.mk (below_step (by first | exact zBz HB.out (IsS51.ge HI0.out) GE225.out | exact zBy HB.out GE225.out) hb); have BK233 := Aside0.mk (hbox); have GW233 := Aside0.mk ((by rw [hg]; exact (keep_size (w := w) (g := g) (row := none) (zKy HK.out GW225.out)) : w.heap.size ≤ gb233)); have GE233 := Aside0.mk ((Nat.le_trans HW0.out (by rw [hg]; exact (keep_size (w := w) (g := g) (row := none) (zKy HK.out GW225.out)) : w.heap.size ≤ gb233) : w0.heap.size ≤ gb233)); replace HK := Aside0.mk (KeepBut.trans (zKy HK.out GW225.out) (KeepBut.of_below hb g none) (.inl rfl)); have NB225_233 := znl hg BK225.out; have NB233_225 := zng hg BK225.out; replace BK225 := zbl BK225.out hb; have NB0_233 := Aside0.mk ((by rw [hg]; exact Nat.ne_of_lt (IsS51.lt (show IsS51 w0 _ g s0_0 t231 t232 from IsS51.zJ HI0.out NB0_225.out)) : g ≠ gb233)); have NB233_0 := Aside0.mk ((by rw [hg]; exact Nat.ne_of_gt (IsS51.lt (show IsS51 w0 _ g s0_0 t231 t232 from IsS51.zJ HI0.out NB0_225.out)) : gb233 ≠ g)); replace HI0 := Aside0.mk (IsS51.below (IsS51.zF HI0.out NB0_225.out) hb); clear hb hbox hg; have hnb53 := NB233_225.out; have hnc53 := NB225_233.out; have hnb54 := NB233_0.out; have hnc54 := NB0_233.out; have hcz55_0 : w52.cell? ⟨gb233, 0, none⟩ = some (.int .i64 0) := (blk_cell BK233.out 0).trans rfl; have hcz55_1 : w52.cell? ⟨gb233, 1, none⟩ = some (.int .i64 0) := (blk_cell BK233.out 1).trans rfl; have hcz55_2 : w52.cell? ⟨gb233, 2, none⟩ = some (.slice none 0 0) := (blk_cell BK233.out 2).trans rfl; have hfz55_0 := blk_frozen BK233.out 0; have hfz55_1 := blk_frozen BK233.out 1; have hfz55_2 := blk_frozen BK233.out 2; obtain ⟨Ao56, co56, eo56⟩ := Kd.R_slice HO230.out; subst eo56) | ((with_reducible refine gate_callee (f := 52) rfl ?_); refine goesL_ (some 7) rfl rfl Try.func52 (by kernel_rfl) rfl #[.pointer (some ⟨g, 0, none⟩), .int .i64 24] rfl zlx ?_; (with_reducible refine (spec_l1Cur_pick.calls g s0_0 t231 t232 24 t234 t235 t236 w0 _ ?side1 ?side2 A3.out).mono ?_); (case side1 => exact zhI51 HI0.out); (case side2 => exact zhB HB.out); rintro e w57 ⟨rfl, hi, hb, hk⟩; refine ⟨_, rfl, ?_⟩; replace BK225 := Aside0.mk (KeepBut.blk hk (g' := gb225) (o := .cells #[.int .i64 0, .int .i64 0, .slice none 0 0] 26 (0, 0)) (zbq BK225.out) NB225_0.out (by simp)); replace HO230 := Aside0.mk (Kd.R_mono (Kd.R_keep (IsS51.apart (show IsS51 w0 _ g s0_0 t231 t232 from zhI51 HI0.out) (by (with_reducible repeat (first | apply Kd.R_alloc | apply Kd.R_drewN | apply Kd.R_drew)); exact (Kd.R_mono (Kd.R_far (p := ⟨gb233, 2, none⟩) (Kd.R_far (p := ⟨gb233, 1, none⟩) (Kd.R_far (p := ⟨gb233, 0, none⟩) (Kd.R_types HO230.out BK233.out (by decide)) (fun _ hk => hk.2) (.int .i64 t226)) (fun _ hk => hk.2) (.int .i64 t227)) (fun _ hk => hk.2) (.slice Ao56 t228.length co56)) (fun _ h_ => h_.1))) (by decide)) hk (fun _ h => h.2)) (fun _ h => h.1)); replace BK233 := Aside0.mk (KeepBut.blk hk (g' := gb233) (o := .cells #[.int .i64 t226, .int .i64 t227, .slice Ao56 t228.length co56] 26 (0, 0)) (zbp BK233.out) NB233_0.out (by simp)); replace HK := Aside0.mk (KeepBut.trans (zhK HK.out) hk (.inl rfl)); replace HB := Aside0.mk (hb); replace HI0 := Aside0.mk (hi); (try clear hb); (try clear hk); (try clear hi); have hcz58_0 : w57.cell? ⟨gb233, 0, none⟩ = some (.int .i64 t226) := (blk_cell BK233.out 0).trans rfl; have hcz58_1 : w57.cell? ⟨gb233, 1, none⟩ = some (.int .i64 t227) := (blk_cell BK233.out 1).trans rfl; have hcz58_2 : w57.cell? ⟨gb233, 2, none⟩ = some (.slice Ao56 t228.length co56) := (blk_cell BK233.out 2).trans rfl; have hfz58_0 := blk_frozen BK233.out 0; have hfz58_1 := blk_frozen BK233.out 1; have hfz58_2 := blk_frozen BK233.out 2; have q59 : (1 : Int) ≤ ((t228.length : Int) : Int) := of_decide_eq_true zax; obtain ⟨i059, hi059, _, hsz59, _⟩ := info_parts info3; have hcut59 := cut_from (P := Try.prog) 24 3 .i64 Try.underlying24 hi059 1 hsz59 Ao56 t228.length co56 1 (by omega) q59; have hr59 := Kd.Q_drop (k := (1 : Int).toNat) (Kd.Q_of_R HO230.out) (by omega); obtain ⟨A59, hA59⟩ : ∃ A1, A1 = (if co56 = (1 : Int).toNat then Ao56 else (Ao56 : Option Addr).map (·.add ((1 : Int).toNat * 1))) := ⟨_, rfl⟩; obtain ⟨c59, hc59⟩ : ∃ c1, c1 = co56 - (1 : Int).toNat := ⟨_, rfl⟩; have hy59 : y253.length = t228.length - (1 : Int).toNat := (by rw [Ny253.out, List.length_drop]); rw [← Ny253.out] at hr59; rw [← hy59, ← hA59, ← hc59] at hcut59; replace hr59 : Kd.Q (Kd.int .i64) 3 w57 w.heap.size (fun _ => True) (.slice A59 y253.length c59) y253 := (by rw [hA59, hc59, hy59]; exact hr59); have HE59 : Aside0 ((Value.slice A59 y253.length c59).ownBlock = (.slice Ao56 t228.length co56 : Value).ownBlock) := ⟨by rw [hA59]; split <;> (cases (Ao56 : Option Addr) <;> rfl)⟩; clear hy59 hi059 hsz59 HO230 hA59 hc59; have HO255 := Aside0.mk hr59; clear hr59; replace q59 := eq_true q59; have hnb60 := NB225_0.out; have hnc60 := NB0_225.out; have hcz61_0 : w57.cell? ⟨gb225, 0, none⟩ = some (.int .i64 0) := (blk_cell BK225.out 0).trans rfl; have hcz61_1 : w57.cell? ⟨gb225, 1, none⟩ = some (.int .i64 0) := (blk_cell BK225.out 1).trans rfl; have hcz61_2 : w57.cell? ⟨gb225, 2, none⟩ = some (.slice none 0 0) := (blk_cell BK225.out 2).trans rfl; have hfz61_0 := blk_frozen BK225.out 0; have hfz61_1 := blk_frozen BK225.out 1; have hfz61_2 := blk_frozen BK225.out 2))
      refine bodyPost_ret (results_cell_row rfl _ _ gb225 26 #[.int .i64 t226, .int .i64 t227, .slice A59 y253.length c59] (0, 0) _ rfl (zbp BK225.out) Try.underlying26 rfl (by kernel_rfl)) rfl ?_
      exact ⟨_, by first | rfl | (simp [errW_none, errW_some] <;> rfl) | (simp [*, errW_none, errW_some] <;> rfl), by refine zDQ ?_; exact Kd.Q_mono (Kd.Q_far (p := ⟨gb225, 2, none⟩) (Kd.Q_far (p := ⟨gb225, 1, none⟩) (Kd.Q_far (p := ⟨gb225, 0, none⟩) (Kd.Q_far (p := ⟨gb233, 2, none⟩) (Kd.Q_types (Kd.Q_types HO255.out BK233.out (by decide)) BK225.out (by decide)) (fun _ hk => hk.1.2) (.slice A59 y253.length c59)) (fun _ hk => hk.2) (.int .i64 t226)) (fun _ hk => hk.2) (.int .i64 t227)) (fun _ hk => hk.2) (.slice A59 y253.length c59)) (fun _ hk => trivial), zhI51 HI0.out, zhB HB.out, zhK HK.out⟩
    ·rw [if_neg c49] at H
     exact absurd H (by simp)
   ·rw [if_neg c48] at H
    have c48b0 : (t234 == 2) = false := beq_eq_false_iff_ne.mpr c48
    have c48b1 : (t234 != 2) = true := bne_iff_ne.mpr c48
    focus
     simp only [Option.some.injEq, Prod.mk.injEq] at H
     obtain ⟨rfl, rfl, rfl, rfl, rfl⟩ := H
     go_enter Try.func31, Try.ntmps31
     go_wp2_with (first | ((with_reducible refine gate_dst (N := 2) rfl ?_); refine box_event ?hg (N := 2) ?hd (cs := #[.int .i64 0, .int .i64 0, .slice none 0 0]) (t := 26) ?hr ?_; (case hd => rfl); (case hg => rfl); (case hr => exact zsx); intro gb225 hg w62 hbox hb; replace HB := Aside0.mk (below_step (by first | exact zBy HB.out (IsS51.ge HI0.out) | exact zBx HB.out) hb); have BK225 := Aside0.mk (hbox); have GW225 := Aside0.mk ((by rw [hg]; exact (keep_size (w := w) (g := g) (row := none) (zKx HK.out)) : w.heap.size ≤ gb225)); have GE225 := Aside0.mk ((Nat.le_trans HW0.out (by rw [hg]; exact (keep_size (w := w) (g := g) (row := none) (zKx HK.out)) : w.heap.size ≤ gb225) : w0.heap.size ≤ gb225)); replace HK := Aside0.mk (KeepBut.trans (zKx HK.out) (KeepBut.of_below hb g none) (.inl rfl)); have NB0_225 := Aside0.mk ((by rw [hg]; exact Nat.ne_of_lt (IsS51.lt (show IsS51 w0 _ g s0_0 s0_1 s0_2 from IsS51.zI HI0.out)) : g ≠ gb225)); have NB225_0 := Aside0.mk ((by rw [hg]; exact Nat.ne_of_gt (IsS51.lt (show IsS51 w0 _ g s0_0 s0_1 s0_2 from IsS51.zI HI0.out)) : gb225 ≠ g)); replace HI0 := Aside0.mk (IsS51.below (IsS51.zI HI0.out) hb); clear hb hbox hg) | ((with_reducible refine gate_callee (f := 51) rfl ?_); refine goesL_ (some 5) rfl rfl Try.func51 (by kernel_rfl) rfl #[.pointer (some ⟨g, 0, none⟩)] rfl zlx ?_; (with_reducible refine (spec_l1Cur_field.calls k g s0_0 s0_1 s0_2 t226 t227 t228 t231 t232 w0 _ ?side1 ?side2 A2.out).mono ?_); (case side1 => exact IsS51.zJ HI0.out NB0_225.out); (case side2 => first | exact zBz HB.out (IsS51.ge HI0.out) GE225.out | exact zBy HB.out GE225.out); rintro e w63 ⟨v229, rfl, ho0, hi, hb, hk⟩; refine ⟨_, rfl, ?_⟩; replace BK225 := Aside0.mk (KeepBut.blk hk (g' := gb225) (o := .cells #[.int .i64 0, .int .i64 0, .slice none 0 0] 26 (0, 0)) (zbx BK225.out) NB225_0.out (by simp)); have HO230 := Aside0.mk (Kd.R_lower ho0 (keep_size (w := w) (g := g) (row := none) (zKy HK.out GW225.out))); replace HK := Aside0.mk (KeepBut.trans (zKy HK.out GW225.out) hk (.inl rfl)); replace HB := Aside0.mk (hb); replace HI0 := Aside0.mk (hi); (try clear hb); (try clear hk); (try clear hi); (try clear ho0)) | ((with_reducible refine gate_dst (N := 3) rfl ?_); refine box_event ?hg (N := 3) ?hd (cs := #[.int .i64 0, .int .i64 0, .slice none 0 0]) (t := 26) ?hr ?_; (case hd => rfl); (case hg => rfl); (case hr => exact zsx); intro gb233 hg w64 hbox hb; replace HO230 := Aside0.mk (Kd.R_below (zRx HO230.out) hb); replace HB := Aside0.mk (below_step (by first | exact zBz HB.out (IsS51.ge HI0.out) GE225.out | exact zBy HB.out GE225.out) hb); have BK233 := Aside0.mk (hbox); have GW233 := Aside0.mk ((by rw [hg]; exact (keep_size (w := w) (g := g) (row := none) (zKy HK.out GW225.out)) : w.heap.size ≤ gb233)); have GE233 := Aside0.mk ((Nat.le_trans HW0.out (by rw [hg]; exact (keep_size (w := w) (g := g) (row := none) (zKy HK.out GW225.out)) : w.heap.size ≤ gb233) : w0.heap.size ≤ gb233)); replace HK := Aside0.mk (KeepBut.trans (zKy HK.out GW225.out) (KeepBut.of_below hb g none) (.inl rfl)); have NB225_233 := znl hg BK225.out; have NB233_225 := zng hg BK225.out; replace BK225 := zbl BK225.out hb; have NB0_233 := Aside0.mk ((by rw [hg]; exact Nat.ne_of_lt (IsS51.lt (show IsS51 w0 _ g s0_0 t231 t232 from IsS51.zJ HI0.out NB0_225.out)) : g ≠ gb233)); have NB233_0 := Aside0.mk ((by rw [hg]; exact Nat.ne_of_gt (IsS51.lt (show IsS51 w0 _ g s0_0 t231 t232 from IsS51.zJ HI0.out NB0_225.out)) : gb233 ≠ g)); replace HI0 := Aside0.mk (IsS51.below (IsS51.zF HI0.out NB0_225.out) hb); clear hb hbox hg; have hnb65 := NB233_225.out; have hnc65 := NB225_233.out; have hnb66 := NB233_0.out; have hnc66 := NB0_233.out; have hcz67_0 : w64.cell? ⟨gb233, 0, none⟩ = some (.int .i64 0) := (blk_cell BK233.out 0).trans rfl; have hcz67_1 : w64.cell? ⟨gb233, 1, none⟩ = some (.int .i64 0) := (blk_cell BK233.out 1).trans rfl; have hcz67_2 : w64.cell? ⟨gb233, 2, none⟩ = some (.slice none 0 0) := (blk_cell BK233.out 2).trans rfl; have hfz67_0 := blk_frozen BK233.out 0; have hfz67_1 := blk_frozen BK233.out 1; have hfz67_2 := blk_frozen BK233.out 2; obtain ⟨Ao68, co68, eo68⟩ := Kd.R_slice HO230.out; subst eo68) | ((with_reducible refine gate_callee (f := 52) rfl ?_); refine goesL_ (some 7) rfl rfl Try.func52 (by kernel_rfl) rfl #[.pointer (some ⟨g, 0, none⟩), .int .i64 24] rfl zlx ?_; (with_reducible refine (spec_l1Cur_pick.calls g s0_0 t231 t232 24 t234 t235 t236 w0 _ ?side1 ?side2 A3.out).mono ?_); (case side1 => exact zhI51 HI0.out); (case side2 => exact zhB HB.out); rintro e w69 ⟨rfl, hi, hb, hk⟩; refine ⟨_, rfl, ?_⟩; replace BK225 := Aside0.mk (KeepBut.blk hk (g' := gb225) (o := .cells #[.int .i64 0, .int .i64 0, .slice none 0 0] 26 (0, 0)) (zbq BK225.out) NB225_0.out (by simp)); replace HO230 := Aside0.mk (Kd.R_mono (Kd.R_keep (IsS51.apart (show IsS51 w0 _ g s0_0 t231 t232 from zhI51 HI0.out) (by (with_reducible repeat (first | apply Kd.R_alloc | apply Kd.R_drewN | apply Kd.R_drew)); exact (Kd.R_mono (Kd.R_far (p := ⟨gb233, 2, none⟩) (Kd.R_far (p := ⟨gb233, 1, none⟩) (Kd.R_far (p := ⟨gb233, 0, none⟩) (Kd.R_types HO230.out BK233.out (by decide)) (fun _ hk => hk.2) (.int .i64 t226)) (fun _ hk => hk.2) (.int .i64 t227)) (fun _ hk => hk.2) (.slice Ao68 t228.length co68)) (fun _ h_ => h_.1))) (by decide)) hk (fun _ h => h.2)) (fun _ h => h.1)); replace BK233 := Aside0.mk (KeepBut.blk hk (g' := gb233) (o := .cells #[.int .i64 t226, .int .i64 t227, .slice Ao68 t228.length co68] 26 (0, 0)) (zbp BK233.out) NB233_0.out (by simp)); replace HK := Aside0.mk (KeepBut.trans (zhK HK.out) hk (.inl rfl)); replace HB := Aside0.mk (hb); replace HI0 := Aside0.mk (hi); (try clear hb); (try clear hk); (try clear hi); have hcz70_0 : w69.cell? ⟨gb233, 0, none⟩ = some (.int .i64 t226) := (blk_cell BK233.out 0).trans rfl; have hcz70_1 : w69.cell? ⟨gb233, 1, none⟩ = some (.int .i64 t227) := (blk_cell BK233.out 1).trans rfl; have hcz70_2 : w69.cell? ⟨gb233, 2, none⟩ = some (.slice Ao68 t228.length co68) := (blk_cell BK233.out 2).trans rfl; have hfz70_0 := blk_frozen BK233.out 0; have hfz70_1 := blk_frozen BK233.out 1; have hfz70_2 := blk_frozen BK233.out 2; have hnb71 := NB225_0.out; have hnc71 := NB0_225.out; have hcz72_0 : w69.cell? ⟨gb225, 0, none⟩ = some (.int .i64 0) := (blk_cell BK225.out 0).trans rfl; have hcz72_1 : w69.cell? ⟨gb225, 1, none⟩ = some (.int .i64 0) := (blk_cell BK225.out 1).trans rfl; have hcz72_2 : w69.cell? ⟨gb225, 2, none⟩ = some (.slice none 0 0) := (blk_cell BK225.out 2).trans rfl; have hfz72_0 := blk_frozen BK225.out 0; have hfz72_1 := blk_frozen BK225.out 1; have hfz72_2 := blk_frozen BK225.out 2))
     refine bodyPost_ret (results_cell_row rfl _ _ gb225 26 #[.int .i64 t226, .int .i64 t227, .slice Ao68 t228.length co68] (0, 0) _ rfl (zbp BK225.out) Try.underlying26 rfl (by kernel_rfl)) rfl ?_
     exact ⟨_, by first | rfl | (simp [errW_none, errW_some] <;> rfl) | (simp [*, errW_none, errW_some] <;> rfl), Kd.Q_of_R (by refine zDR ?_; exact Kd.R_mono (Kd.R_far (p := ⟨gb225, 2, none⟩) (Kd.R_far (p := ⟨gb225, 1, none⟩) (Kd.R_far (p := ⟨gb225, 0, none⟩) (Kd.R_types HO230.out BK225.out (by decide)) (fun _ hk => hk.2) (.int .i64 t226)) (fun _ hk => hk.2) (.int .i64 t227)) (fun _ hk => hk.2) (.slice Ao68 t228.length co68)) (fun _ hk => trivial)), zhI51 HI0.out, zhB HB.out, zhK HK.out⟩

/-! ### spec_l1Own: function 72 -/
def spec_l1Own.f (l0 : List Int) : Option (List Int) := (some (([] : List Int) : List Int)).bind fun y256 => (if y256.length + l0.length < 17592186044416 then (some (y256 ++ l0)) else (none))
set_option maxHeartbeats 8000000 in
set_option maxRecDepth 100000 in
theorem spec_l1Own.calls (A0 : Option Addr) (c0 : Nat) (l0 : List Int) (r : List Int) (w : World) (hr0 : Kd.C (Kd.int .i64) w A0 l0.length l0) (hc0 : l0.length ≤ c0) (h : spec_l1Own.f l0 = some r) :
 Calls Try.prog 72 #[.slice A0 l0.length c0] w fun e w' => ∃ v0_ : Value, e = .returned (v0_) ∧ Kd.R (Kd.int .i64) 3 w' w.heap.size (fun _ => True) v0_ r ∧ Below w.heap.size w w' := by
 have HR0 := Aside0.mk hr0
 have HC0 := Aside0.mk hc0
 clear hr0 hc0
 have HB := Aside0.mk (Below.refl w.heap.size w)
 have H : ((some (([] : List Int) : List Int)).bind fun y256 => (if y256.length + l0.length < 17592186044416 then (some (y256 ++ l0)) else (none))) = some r := h
 clear h
 obtain ⟨y256, hy256⟩ : ∃ y_ : List Int, y_ = (([] : List Int)) := ⟨_, rfl⟩
 replace H : (if y256.length + l0.length < 17592186044416 then (some (y256 ++ l0)) else (none)) = some r := by first | (rw [hy256]; with_reducible exact H) | (have H2_ := (Option.bind_some _ _).symm.trans H; rw [hy256]; with_reducible exact H2_) | (have H2_ := (Option.bind_some _ _).symm.trans H; with_reducible exact H2_) | with_reducible exact H | (rw [hy256]; exact H) | exact H
 have Ny256 := Aside0.mk hy256
 clear hy256
 by_cases c2 : y256.length + l0.length < 17592186044416
 ·rw [if_pos c2] at H
  have LMc2 := Aside0.mk c2
  clear c2
  obtain ⟨y259, hy259⟩ : ∃ y_ : List Int, y_ = (y256 ++ l0) := ⟨_, rfl⟩
  replace H : (some y259) = some r := by first | (rw [hy259]; with_reducible exact H) | (have H2_ := (Option.bind_some _ _).symm.trans H; rw [hy259]; with_reducible exact H2_) | (have H2_ := (Option.bind_some _ _).symm.trans H; with_reducible exact H2_) | with_reducible exact H | (rw [hy259]; exact H) | exact H
  have Ny259 := Aside0.mk hy259
  clear hy259
  focus
   obtain rfl := Option.some.inj H
   go_enter Try.func72, Try.ntmps72
   go_wp2_with (first | ((with_reducible refine gate_dst (N := 3) rfl ?_); refine Kd.R_lit (Kd.int .i64) _ 3 ?hg (N := 3) ?hd (xs := ([] : List Int)) (inner := []) (ok := fun _ => True) (okp := fun _ => True) ?hr ?hp (fun _ hk => hk) trivial (Below.refl _ _) (Nat.le_refl _) (by simp) ?_; (case hd => rfl); (case hg => rfl); (case hr => exact zsx); (case hp => exact (Reps.none _ _)); intro v257 w3 ho4 hb hg_ hnew_; clear hg_ hnew_; (first | rw [← Ny256.out] at ho4 | (simp only [Int.reduceToNat] at ho4; rw [← Ny256.out] at ho4)); have HO258 := Aside0.mk (Kd.R_lower ho4 (below_size (zBx HB.out))); replace HB := Aside0.mk (below_step (zBx HB.out) hb); clear hb ho4) | ((with_reducible refine gate_builtin (b := .append) (xs := #[.tmp 3, .tmp 4]) rfl ?_); at_builtin; refine Kd.R_append_rows (Kd.int .i64) (w0 := w) w.heap.size rfl (.tmp 3) (.tmp 4) 24 3 (.int .i64 0) 8 rfl Try.underlying24 info3 rfl (by decide) (by omega) v257 y256 l0 _ _ _ (fun _ => True) (fun _ => False) rfl rfl ?aO ?aR (fun _ _ h => h) (fun _ h => h.elim) ?aF ?aB ?aS ?aL ?_; (case aR => repeat (first | exact (Kd.C_below HR0.out HB.out) | (with_reducible refine Kd.C_alloc ?_ _) | (with_reducible refine Kd.C_drewN ?_ _) | (with_reducible refine Kd.C_drew ?_))); (case aB => exact (zBx HB.out)); (case aF => exact (fun _ _ => trivial)); (case aO => exact (zRx HO258.out)); (case aS => exact (below_size (zBx HB.out))); (case aL => have := LMc2.out; omega); intro v260 w5 ho hb hg hat; rw [← Ny259.out] at ho; replace HB := Aside0.mk (hb); have HO261 := Aside0.mk (ho); clear HO258; clear ho hb hg hat))
   go_ret
   exact ⟨_, by first | rfl | (simp [errW_none, errW_some] <;> rfl) | (simp [*, errW_none, errW_some] <;> rfl), by refine zDR ?_; exact HO261.out, by exact zBx HB.out⟩
 ·rw [if_neg c2] at H
  exact absurd H (by simp)

/-! ### spec_l2Own: function 53 -/
def spec_l2Own.f (a0_0 : Int) (a0_1 : Int) (l0_2 : List Int) : Option (Int × Int × List Int) := (spec_l1Own.f l0_2).bind fun t264 => (some (a0_0, a0_1, t264))
def spec_l2Own.T1 : Bool × List (List Nat × List Nat) := (true, [([], []), ([0], [0]), ([], []), ([2], [2]), ([], []), ([4], [4]), ([5], [5]), ([1, 3, 6], [1, 3, 6]), ([7, 6, 0, 1, 2, 3, 4, 5, 6, 7], [7])])
def spec_l2Own.B1 : List Nat := [0, 1, 0, 4, 0, 16, 48, 127, 255]
theorem spec_l2Own.tab1 : rtab .any (opsOf Try.f53 1) = spec_l2Own.T1 := by kernel_rfl
theorem spec_l2Own.bits1 : waitsOk spec_l2Own.T1.2 spec_l2Own.B1 = true := by kernel_rfl
set_option maxHeartbeats 8000000 in
set_option maxRecDepth 100000 in
theorem spec_l2Own.calls (a0_0 : Int) (a0_1 : Int) (A0_2 : Option Addr) (c0_2 : Nat) (l0_2 : List Int) (r1 : Int) (r2 : Int) (r3 : List Int) (w : World) (hr0_2 : Kd.C (Kd.int .i64) w A0_2 l0_2.length l0_2) (hc0_2 : l0_2.length ≤ c0_2) (h : spec_l2Own.f a0_0 a0_1 l0_2 = some (r1, r2, r3)) :
 Calls Try.prog 53 #[.agg #[.int .i64 a0_0, .int .i64 a0_1, .slice A0_2 l0_2.length c0_2]] w fun e w' => ∃ v2_ : Value, e = .returned (.agg #[.int .i64 r1, .int .i64 r2, v2_]) ∧ Kd.R (Kd.int .i64) 3 w' w.heap.size (fun _ => True) v2_ r3 ∧ Below w.heap.size w w' := by
 have hu26 := Try.underlying26
 have HR0_2 := Aside0.mk hr0_2
 have HC0_2 := Aside0.mk hc0_2
 clear hr0_2 hc0_2
 have HB := Aside0.mk (Below.refl w.heap.size w)
 have H : ((spec_l1Own.f l0_2).bind fun t264 => (some (a0_0, a0_1, t264))) = some (r1, r2, r3) := h
 clear h
 replace H := Option.bind_eq_some_iff.mp H
 obtain ⟨t264, A20, H⟩ := H
 replace H : (some (a0_0, a0_1, t264)) = some (r1, r2, r3) := H
 have A2 := Aside0.mk A20
 clear A20
 focus
  simp only [Option.some.injEq, Prod.mk.injEq] at H
  obtain ⟨rfl, rfl, rfl⟩ := H
  go_enter Try.func53, Try.ntmps53
  try go_wp2_with (first | ((with_reducible refine gate_dst (N := 1) rfl ?_); refine box_event ?hg (N := 1) ?hd (cs := #[.int .i64 a0_0, .int .i64 a0_1, .slice A0_2 l0_2.length c0_2]) (t := 26) ?hr ?_; (case hd => rfl); (case hg => rfl); (case hr => exact zsx); intro gb262 hg w3 hbox hb; have BK262 := Aside0.mk (hbox); have GW262 := zns hg HB.out; have GE262 := zns hg HB.out; replace HB := Aside0.mk (below_step (zBx HB.out) hb); clear hb hbox hg) | ((with_reducible refine gate_dst (N := 2) rfl ?_); refine box_event ?hg (N := 2) ?hd (cs := #[.int .i64 0, .int .i64 0, .slice none 0 0]) (t := 26) ?hr ?_; (case hd => rfl); (case hg => rfl); (case hr => exact zsx); intro gb263 hg w4 hbox hb; have BK263 := Aside0.mk (hbox); have GW263 := zns hg HB.out; have GE263 := zns hg HB.out; replace HB := Aside0.mk (below_step (zBy HB.out GE262.out) hb); have NB262_263 := znl hg BK262.out; have NB263_262 := zng hg BK262.out; replace BK262 := zbl BK262.out hb; clear hb hbox hg))
  replace BK262 := Aside0.mk (blk_drew BK262.out)
  replace BK263 := Aside0.mk (blk_drew BK263.out)
  replace HB := Aside0.mk (below_drew1 HB.out)
  refine start_ (n := 9) (S := fun w' => w'.cell? ⟨gb262, 0, none⟩ = some (.int .i64 a0_0) ∧ w'.cell? ⟨gb262, 1, none⟩ = some (.int .i64 a0_1) ∧ w'.cell? ⟨gb262, 2, none⟩ = some (.slice A0_2 l0_2.length c0_2)) (ds := []) #[F,F,F,F,F,F,F,F,F] (by kernel_rfl) rfl rfl ⟨(blk_cell BK262.out 0).trans rfl, (blk_cell BK262.out 1).trans rfl, (blk_cell BK262.out 2).trans rfl⟩ (fun hHeld => ?_); refine with_tabW spec_l2Own.tab1 spec_l2Own.bits1 (fun HT_ HW_ => ?_)
  generalize w4.drew = w5 at BK262 BK263 HB hHeld ⊢
  refine pure_ (i := 0) (N := some 3) (v := ?_) (a' := ?_) #[T,F,F,F,F,F,F,F,F] rfl rfl (any_of HT_.out (by kernel_rfl)) (fun _ _ _ h => h) (Or.inl ⟨by rfl, ?_⟩) ?_ ?_
  rotate_left
  ·exact zwx
  rotate_left
  ·exact zpx
  refine pure_ (i := 2) (N := some 5) (v := ?_) (a' := ?_) #[T,F,T,F,F,F,F,F,F] rfl rfl (any_of HT_.out (by kernel_rfl)) (fun _ _ _ h => h) (Or.inl ⟨by rfl, ?_⟩) ?_ ?_
  rotate_left
  ·exact zwx
  rotate_left
  ·exact zpx
  refine pure_ (i := 4) (N := some 7) (v := ?_) (a' := ?_) #[T,F,T,F,T,F,F,F,F] rfl rfl (any_of HT_.out (by kernel_rfl)) (fun _ _ _ h => h) (Or.inl ⟨by rfl, ?_⟩) ?_ ?_
  rotate_left
  ·exact zwx
  rotate_left
  ·exact zpx
  refine take_ (i := 1) (N := some 4) (v := ?_) (a' := ?_) #[T,T,T,F,T,F,F,F,F] rfl rfl (take_ofW HT_.out HW_.out (by kernel_rfl)) (fun _ _ _ h => h) (Or.inl ⟨by rfl, ?_⟩) hHeld ?_ ?_
  rotate_left
  ·rintro w' ⟨s0, s1, s2⟩
   go_simp
   with_reducible rfl
  rotate_left
  ·exact zpx
  refine take_ (i := 3) (N := some 6) (v := ?_) (a' := ?_) #[T,T,T,T,T,F,F,F,F] rfl rfl (take_ofW HT_.out HW_.out (by kernel_rfl)) (fun _ _ _ h => h) (Or.inl ⟨by rfl, ?_⟩) hHeld ?_ ?_
  rotate_left
  ·rintro w' ⟨s0, s1, s2⟩
   go_simp
   with_reducible rfl
  rotate_left
  ·exact zpx
  refine take_ (i := 5) (N := some 8) (v := ?_) (a' := ?_) #[T,T,T,T,T,T,F,F,F] rfl rfl (take_ofW HT_.out HW_.out (by kernel_rfl)) (fun _ _ _ h => h) (Or.inl ⟨by rfl, ?_⟩) hHeld ?_ ?_
  rotate_left
  ·rintro w' ⟨s0, s1, s2⟩
   go_simp
   with_reducible rfl
  rotate_left
  ·exact zpx
  refine one_ (i := 6) (N := some 9) #[T,T,T,T,T,T,T,F,F] rfl rfl (one_of HT_.out (by kernel_rfl)) (by decide) (fun K hK => ?_)
  refine goes_ Try.func72 (by kernel_rfl) rfl #[.slice A0_2 l0_2.length c0_2] (by rfl) rfl rfl zlx ?_
  with_reducible refine (spec_l1Own.calls _ _ l0_2 t264 _ ?side1 ?side2 A2.out).mono ?_
  (case side1 => exact zCx (Kd.C_below HR0_2.out HB.out))
  (case side2 => exact HC0_2.out)
  rintro e w6 ⟨v265, rfl, ho0, hb⟩
  refine ⟨_, rfl, ?_⟩
  have HO266 := Aside0.mk (Kd.R_lower ho0 (below_size (zBz HB.out GE262.out GE263.out)))
  replace BK262 := zbl BK262.out hb
  replace BK263 := zbl BK263.out hb
  replace HB := Aside0.mk (below_step (zBz HB.out GE262.out GE263.out) hb)
  (try clear hb)
  (try clear hb2)
  (try clear hk)
  (try clear hi)
  (try clear ho0)
  obtain ⟨Ao7, co7, eo7⟩ := Kd.R_slice HO266.out
  (first | subst eo7 | (injection eo7 with f1_ f2_ f3_; have f4_ := f1_.symm; have f5_ := f3_.symm; clear f1_ f2_ f3_; subst f4_; subst f5_))
  refine hK.out _ _ ⟨(blk_cell BK262.out 0).trans rfl, (blk_cell BK262.out 1).trans rfl, (blk_cell BK262.out 2).trans rfl⟩ (fun hHeld => ?_)
  clear hK K
  refine norm_ (a' := ?_) ?_ ?_
  rotate_left
  ·show Act.put _ (some 9) _ = _
   simp only [Act.put, List.setIfInBounds_toArray, List.set_cons_zero, List.set_cons_succ, i64_w, i32_w]
   rfl
  refine pure_ (i := 7) (N := some 10) (v := ?_) (a' := ?_) #[T,T,T,T,T,T,T,T,F] rfl rfl (any_of HT_.out (by kernel_rfl)) (fun _ _ _ h => h) (Or.inl ⟨by rfl, ?_⟩) ?_ ?_
  rotate_left
  ·exact zwx
  rotate_left
  ·exact zpx
  refine one_ (i := 8) (N := none) #[T,T,T,T,T,T,T,T,T] rfl rfl (one_of HT_.out (by kernel_rfl)) (by decide) (fun K hK => ?_)
  have hs8 : w6.cell? ⟨gb263, 0, none⟩ = some (.int .i64 0) := (blk_cell BK263.out 0).trans rfl
  have hfs8 := blk_frozen BK263.out 0
  have hns8_0 := NB262_263.out
  have hms8_0 := NB263_262.out
  have hs9 : w6.cell? ⟨gb263, 1, none⟩ = some (.int .i64 0) := (blk_cell BK263.out 1).trans rfl
  have hfs9 := blk_frozen BK263.out 1
  have hns9_0 := NB262_263.out
  have hms9_0 := NB263_262.out
  have hs10 : w6.cell? ⟨gb263, 2, none⟩ = some (.slice none 0 0) := (blk_cell BK263.out 2).trans rfl
  have hfs10 := blk_frozen BK263.out 2
  have hns10_0 := NB262_263.out
  have hms10_0 := NB263_262.out
  refine skip_ (w1 := ?_) (by rfl) rfl ?_ ?_
  rotate_left
  ·go_simp
   rfl
  refine hK.out _ _ ⟨((cell_far (p := ⟨gb263, _, none⟩) NB262_263.out _).trans (((cell_far (p := ⟨gb263, _, none⟩) NB262_263.out _).trans (((cell_far (p := ⟨gb263, _, none⟩) NB262_263.out _).trans (hHeld.1)))))), ((cell_far (p := ⟨gb263, _, none⟩) NB262_263.out _).trans (((cell_far (p := ⟨gb263, _, none⟩) NB262_263.out _).trans (((cell_far (p := ⟨gb263, _, none⟩) NB262_263.out _).trans (hHeld.2.1)))))), ((cell_far (p := ⟨gb263, _, none⟩) NB262_263.out _).trans (((cell_far (p := ⟨gb263, _, none⟩) NB262_263.out _).trans (((cell_far (p := ⟨gb263, _, none⟩) NB262_263.out _).trans (hHeld.2.2))))))⟩ (fun hHeld => ?_)
  clear hK K
  refine done_ (done_of HT_.out (by kernel_rfl)) ?_
  try go_wp2
  refine bodyPost_ret (results_cell_row rfl _ _ gb263 26 #[.int .i64 a0_0, .int .i64 a0_1, .slice Ao7 t264.length co7] (0, 0) _ rfl (zbp BK263.out) Try.underlying26 rfl (by kernel_rfl)) rfl ?_
  exact ⟨_, by first | rfl | (simp [errW_none, errW_some] <;> rfl) | (simp [*, errW_none, errW_some] <;> rfl), by refine zDR ?_; exact Kd.R_mono (Kd.R_far (p := ⟨gb263, 2, none⟩) (Kd.R_far (p := ⟨gb263, 1, none⟩) (Kd.R_far (p := ⟨gb263, 0, none⟩) (Kd.R_types HO266.out BK263.out (by decide)) (fun _ hk => hk.2) (.int .i64 a0_0)) (fun _ hk => hk.2) (.int .i64 a0_1)) (fun _ hk => hk.2) (.slice Ao7 t264.length co7)) (fun _ hk => trivial), by exact zBz HB.out GE262.out GE263.out⟩

end Go.Proofs.Ytddgbaohepfekaa.XFnLimits
