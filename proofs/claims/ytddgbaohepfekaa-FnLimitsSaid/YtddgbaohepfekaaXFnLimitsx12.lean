-- written by wip/tools/xprint.py (a program of this project) out of the translation
import Derived.Test.YtddgbaohepfekaaXFnLimitsx0
import Derived.Test.YtddgbaohepfekaaXFnLimitsx11
namespace Go.Proofs.Ytddgbaohepfekaa.XFnLimits
open Go.RowKit Go.Proofs.YtddgbaohepfekaaW.PrintWords Go.Proofs.YtddgbaohepfekaaW.PrintLast Go.Proofs.YtddgbaohepfekaaW.PrintMore
attribute [local go_sem] max2_int min2_int max_two min_two max_three min_three max_four min_four   -- for this text's walks alone
set_option linter.unusedVariables false
set_option linter.unusedSimpArgs false

/-! ### spec_l1Most: function 80 -/
def spec_l1Most.f (a0 : Int) (a1 : Int) : Option (Int) := if a0 > a1 then (some a0) else (some a1)
set_option maxHeartbeats 8000000 in
set_option maxRecDepth 100000 in
theorem spec_l1Most.calls (a0 : Int) (a1 : Int) (r : Int) (w : World) (h : spec_l1Most.f a0 a1 = some r) :
 Calls Try.prog 80 #[.int .i64 a0, .int .i64 a1] w fun e w' => e = .returned (.int .i64 r) ∧ Drawn0 w w' := by
 have H : (if a0 > a1 then (some a0) else (some a1)) = some r := h
 clear h
 by_cases c3 : a0 > a1
 ·rw [if_pos c3] at H
  have c3b0 : decide (a1 < a0) = true := decide_eq_true c3
  clear c3
  focus
   obtain rfl := Option.some.inj H
   go_enter Try.func80, Try.ntmps80
   go_wp2
   go_ret
   exact ⟨by first | rfl | (simp; done) | (simp [*]; done), by repeat (first | exact Drawn0.refl _ | apply Drawn0.step)⟩
 ·rw [if_neg c3] at H
  have c3b0 : decide (a1 < a0) = false := decide_eq_false c3
  clear c3
  focus
   obtain rfl := Option.some.inj H
   go_enter Try.func80, Try.ntmps80
   go_wp2
   go_ret
   exact ⟨by first | rfl | (simp; done) | (simp [*]; done), by repeat (first | exact Drawn0.refl _ | apply Drawn0.step)⟩

/-! ### spec_l11Abs: function 62 -/
def spec_l11Abs.f (a0 : Int) : Option (Int) := (spec_l1Most.f a0 (wrap64 (-a0))).bind fun t393 => (some t393)
set_option maxHeartbeats 8000000 in
set_option maxRecDepth 100000 in
theorem spec_l11Abs.calls (a0 : Int) (r : Int) (w : World) (h : spec_l11Abs.f a0 = some r) :
 Calls Try.prog 62 #[.int .i64 a0] w fun e w' => e = .returned (.int .i64 r) ∧ Drawn0 w w' := by
 have H : ((spec_l1Most.f a0 (wrap64 (-a0))).bind fun t393 => (some t393)) = some r := h
 clear h
 replace H := Option.bind_eq_some_iff.mp H
 obtain ⟨t393, A20, H⟩ := H
 replace H : (some t393) = some r := H
 have A2 := Aside0.mk A20
 clear A20
 focus
  obtain rfl := Option.some.inj H
  go_enter Try.func62, Try.ntmps62
  go_wp2_with (first | ((with_reducible refine gate_callee (f := 80) rfl ?_); refine goesL_ (some 6) rfl rfl Try.func80 (by kernel_rfl) rfl #[.int .i64 a0, .int .i64 (wrap64 (-a0))] rfl zlx ?_; (with_reducible refine (spec_l1Most.calls a0 (wrap64 (-a0)) t393 _ A2.out).mono ?_); rintro e w' ⟨rfl, ⟨nd, rfl⟩⟩; refine ⟨_, rfl, ?_⟩))
  go_ret
  exact ⟨by first | rfl | (simp; done) | (simp [*]; done), by repeat (first | exact Drawn0.refl _ | apply Drawn0.step)⟩

/-! ### spec_l20Ratio: function 43 -/
def spec_l20Ratio.f (k : Nat) (a0 : Int) (a1 : Int) : Option (Int × Int × Bool) := if a1 = 0 then (some (0, 0, false)) else ((spec_l11Abs.f a0).bind fun t395 => ((spec_l10Common.f k t395 a1).bind fun t396 => (if t396 = 0 then (none) else (some (wrap64 (Int.tdiv a0 t396), wrap64 (Int.tdiv a1 t396), true)))))
theorem spec_l20Ratio.mono : ∀ a0 a1 k, LeO (spec_l20Ratio.f k a0 a1) (spec_l20Ratio.f (k + 1) a0 a1) := by
 intro a0 a1 k
 unfold spec_l20Ratio.f
 repeat' first
  | (with_reducible exact spec_l10Common.mono _ _ _)
  | (with_reducible exact LeO.refl _)
  | (with_reducible exact LeO.none _)
  | (with_reducible refine LeO.ite ?_ ?_)
  | (with_reducible refine LeO.bind ?_ (fun _ => ?_))
  | exact spec_l10Common.mono _ _ _
  | exact LeO.none _
  | refine LeO.ite ?_ ?_
  | refine LeO.bind ?_ (fun _ => ?_)
def spec_l20Ratio.T4 : Bool × List (List Nat × List Nat) := (true, [([], []), ([], []), ([0, 1], [0, 1]), ([], []), ([], []), ([3, 4], [3, 4]), ([2, 5], [2, 5]), ([6, 0, 1, 2, 3, 4, 5, 6], [6]), ([7, 0, 1, 2, 3, 4, 5, 6, 7], [])])
def spec_l20Ratio.B4 : List Nat := [0, 0, 3, 0, 0, 24, 63, 127, 255]
theorem spec_l20Ratio.tab4 : rtab .any (opsOf Try.f43 4) = spec_l20Ratio.T4 := by kernel_rfl
theorem spec_l20Ratio.bits4 : waitsOk spec_l20Ratio.T4.2 spec_l20Ratio.B4 = true := by kernel_rfl
set_option maxHeartbeats 8000000 in
set_option maxRecDepth 100000 in
theorem spec_l20Ratio.calls (k : Nat) (a0 : Int) (a1 : Int) (r1 : Int) (r2 : Int) (r3 : Bool) (w : World) (h : spec_l20Ratio.f k a0 a1 = some (r1, r2, r3)) :
 Calls Try.prog 43 #[.int .i64 a0, .int .i64 a1] w fun e w' => e = .returned (.tuple #[.agg #[.int .i64 r1, .int .i64 r2], .bool r3]) ∧ Below w.heap.size w w' := by
 have hu37 := Try.underlying37
 have HB := Aside0.mk (Below.refl w.heap.size w)
 have H : (if a1 = 0 then (some (0, 0, false)) else ((spec_l11Abs.f a0).bind fun t395 => ((spec_l10Common.f k t395 a1).bind fun t396 => (if t396 = 0 then (none) else (some (wrap64 (Int.tdiv a0 t396), wrap64 (Int.tdiv a1 t396), true)))))) = some (r1, r2, r3) := h
 clear h
 by_cases c3 : a1 = 0
 ·rw [if_pos c3] at H
  have c3b0 : (a1 == 0) = true := beq_iff_eq.mpr c3
  have c3b1 : (a1 != 0) = false := bne_eq_false_iff_eq.mpr c3
  clear c3
  focus
   simp only [Option.some.injEq, Prod.mk.injEq] at H
   obtain ⟨rfl, rfl, rfl⟩ := H
   go_enter Try.func43, Try.ntmps43
   go_wp2_with (first | ((with_reducible refine gate_dst (N := 4) rfl ?_); refine box_event ?hg (N := 4) ?hd (cs := #[.int .i64 0, .int .i64 0]) (t := 37) ?hr ?_; (case hd => rfl); (case hg => rfl); (case hr => exact zsx); intro gb394 hg w4 hbox hb; have BK394 := Aside0.mk (hbox); have GW394 := zns hg HB.out; have GE394 := zns hg HB.out; replace HB := Aside0.mk (below_step (zBx HB.out) hb); clear hb hbox hg; have hcz5_0 : w4.cell? ⟨gb394, 0, none⟩ = some (.int .i64 0) := (blk_cell BK394.out 0).trans rfl; have hcz5_1 : w4.cell? ⟨gb394, 1, none⟩ = some (.int .i64 0) := (blk_cell BK394.out 1).trans rfl; have hfz5_0 := blk_frozen BK394.out 0; have hfz5_1 := blk_frozen BK394.out 1))
   refine bodyPost_ret (results_ct rfl _ _ gb394 37 #[.int .i64 0, .int .i64 0] (0, 0) _ rfl (zbp BK394.out) Try.underlying37 rfl (by kernel_rfl)) rfl ?_
   exact ⟨by first | rfl | (simp [errW_none, errW_some] <;> rfl) | (simp [*, errW_none, errW_some] <;> rfl), by exact zBy HB.out GE394.out⟩
 ·rw [if_neg c3] at H
  have c3b0 : (a1 == 0) = false := beq_eq_false_iff_ne.mpr c3
  have c3b1 : (a1 != 0) = true := bne_iff_ne.mpr c3
  replace H := Option.bind_eq_some_iff.mp H
  obtain ⟨t395, A60, H⟩ := H
  replace H : ((spec_l10Common.f k t395 a1).bind fun t396 => (if t396 = 0 then (none) else (some (wrap64 (Int.tdiv a0 t396), wrap64 (Int.tdiv a1 t396), true)))) = some (r1, r2, r3) := H
  have A6 := Aside0.mk A60
  clear A60
  replace H := Option.bind_eq_some_iff.mp H
  obtain ⟨t396, A70, H⟩ := H
  replace H : (if t396 = 0 then (none) else (some (wrap64 (Int.tdiv a0 t396), wrap64 (Int.tdiv a1 t396), true))) = some (r1, r2, r3) := H
  have A7 := Aside0.mk A70
  clear A70
  by_cases c8 : t396 = 0
  ·rw [if_pos c8] at H
   exact absurd H (by simp)
  ·rw [if_neg c8] at H
   have c8b0 : (t396 == 0) = false := beq_eq_false_iff_ne.mpr c8
   have c8b1 : (t396 != 0) = true := bne_iff_ne.mpr c8
   focus
    simp only [Option.some.injEq, Prod.mk.injEq] at H
    obtain ⟨rfl, rfl, rfl⟩ := H
    go_enter Try.func43, Try.ntmps43
    try go_wp2_with (first | ((with_reducible refine gate_dst (N := 4) rfl ?_); refine box_event ?hg (N := 4) ?hd (cs := #[.int .i64 0, .int .i64 0]) (t := 37) ?hr ?_; (case hd => rfl); (case hg => rfl); (case hr => exact zsx); intro gb394 hg w9 hbox hb; have BK394 := Aside0.mk (hbox); have GW394 := zns hg HB.out; have GE394 := zns hg HB.out; replace HB := Aside0.mk (below_step (zBx HB.out) hb); clear hb hbox hg) | ((with_reducible refine gate_callee (f := 62) rfl ?_); refine goesL_ (some 11) rfl rfl Try.func62 (by kernel_rfl) rfl #[.int .i64 a0] rfl zlx ?_; (with_reducible refine (spec_l11Abs.calls a0 t395 _ A6.out).mono ?_); rintro e w' ⟨rfl, ⟨nd, rfl⟩⟩; refine ⟨_, rfl, ?_⟩; (try (rw [drewN_self w9]; generalize hq_ : World.drewN w9 _ = w9; replace BK394 : Aside0 (w9.heap[gb394]? = some (.cells #[.int .i64 0, .int .i64 0] 37 (0, 0))) := ⟨by rw [← hq_]; exact (zbx BK394.out)⟩; replace HB : Aside0 (Below w.heap.size w w9) := ⟨by rw [← hq_]; exact (zBy HB.out GE394.out)⟩; clear hq_))) | ((with_reducible refine gate_callee (f := 61) rfl ?_); refine goesL_ (some 13) rfl rfl Try.func61 (by kernel_rfl) rfl #[.int .i64 t395, .int .i64 a1] rfl zlx ?_; (with_reducible refine (spec_l10Common.calls k t395 a1 t396 _ A7.out).mono ?_); rintro e w' ⟨rfl, ⟨nd, rfl⟩⟩; refine ⟨_, rfl, ?_⟩; (try (rw [drewN_self w9]; generalize hq_ : World.drewN w9 _ = w9; replace BK394 : Aside0 (w9.heap[gb394]? = some (.cells #[.int .i64 0, .int .i64 0] 37 (0, 0))) := ⟨by rw [← hq_]; exact (zbx BK394.out)⟩; replace HB : Aside0 (Below w.heap.size w w9) := ⟨by rw [← hq_]; exact (zBy HB.out GE394.out)⟩; clear hq_))))
    replace BK394 := Aside0.mk (blk_drew BK394.out)
    replace HB := Aside0.mk (below_drew1 HB.out)
    refine start_ (n := 9) (S := fun w' => True) (ds := []) #[F,F,F,F,F,F,F,F,F] (by kernel_rfl) rfl rfl trivial (fun hHeld => ?_); refine with_tabW spec_l20Ratio.tab4 spec_l20Ratio.bits4 (fun HT_ HW_ => ?_)
    generalize w9.drew = w10 at BK394 HB hHeld ⊢
    refine pure_ (i := 0) (N := some 14) (v := ?_) (a' := ?_) #[T,F,F,F,F,F,F,F,F] rfl rfl (any_of HT_.out (by kernel_rfl)) (fun _ _ _ h => h) (Or.inl ⟨by rfl, ?_⟩) ?_ ?_
    rotate_left
    ·exact zwx
    rotate_left
    ·exact zpx
    refine pure_ (i := 1) (N := some 15) (v := ?_) (a' := ?_) #[T,T,F,F,F,F,F,F,F] rfl rfl (any_of HT_.out (by kernel_rfl)) (fun _ _ _ h => h) (Or.inl ⟨by rfl, ?_⟩) ?_ ?_
    rotate_left
    ·exact zwx
    rotate_left
    ·exact zpx
    refine pure_ (i := 2) (N := some 16) (v := ?_) (a' := ?_) #[T,T,T,F,F,F,F,F,F] rfl rfl (any_of HT_.out (by kernel_rfl)) (fun _ _ _ h => h) (Or.inl ⟨by rfl, ?_⟩) ?_ ?_
    rotate_left
    ·exact zwx
    rotate_left
    ·exact zpx
    refine pure_ (i := 3) (N := some 17) (v := ?_) (a' := ?_) #[T,T,T,T,F,F,F,F,F] rfl rfl (any_of HT_.out (by kernel_rfl)) (fun _ _ _ h => h) (Or.inl ⟨by rfl, ?_⟩) ?_ ?_
    rotate_left
    ·exact zwx
    rotate_left
    ·exact zpx
    refine pure_ (i := 4) (N := some 18) (v := ?_) (a' := ?_) #[T,T,T,T,T,F,F,F,F] rfl rfl (any_of HT_.out (by kernel_rfl)) (fun _ _ _ h => h) (Or.inl ⟨by rfl, ?_⟩) ?_ ?_
    rotate_left
    ·exact zwx
    rotate_left
    ·exact zpx
    refine pure_ (i := 5) (N := some 19) (v := ?_) (a' := ?_) #[T,T,T,T,T,T,F,F,F] rfl rfl (any_of HT_.out (by kernel_rfl)) (fun _ _ _ h => h) (Or.inl ⟨by rfl, ?_⟩) ?_ ?_
    rotate_left
    ·exact zwx
    rotate_left
    ·exact zpx
    refine pure_ (i := 6) (N := some 20) (v := ?_) (a' := ?_) #[T,T,T,T,T,T,T,F,F] rfl rfl (any_of HT_.out (by kernel_rfl)) (fun _ _ _ h => h) (Or.inl ⟨by rfl, ?_⟩) ?_ ?_
    rotate_left
    ·exact zwx
    rotate_left
    ·exact zpx
    refine one_ (i := 7) (N := none) #[T,T,T,T,T,T,T,T,F] rfl rfl (one_of HT_.out (by kernel_rfl)) (by decide) (fun K hK => ?_)
    have hs11 : w10.cell? ⟨gb394, 0, none⟩ = some (.int .i64 0) := (blk_cell BK394.out 0).trans rfl
    have hfs11 := blk_frozen BK394.out 0
    have hs12 : w10.cell? ⟨gb394, 1, none⟩ = some (.int .i64 0) := (blk_cell BK394.out 1).trans rfl
    have hfs12 := blk_frozen BK394.out 1
    refine skip_ (w1 := ?_) (by rfl) rfl ?_ ?_
    rotate_left
    ·go_simp
     rfl
    refine hK.out _ _ trivial (fun hHeld => ?_)
    clear hK K
    refine pure_ (i := 8) (N := some 5) (v := ?_) (a' := ?_) #[T,T,T,T,T,T,T,T,T] rfl rfl (any_of HT_.out (by kernel_rfl)) (fun _ _ _ h => h) (Or.inl ⟨by rfl, ?_⟩) ?_ ?_
    rotate_left
    ·exact zwx
    rotate_left
    ·exact zpx
    refine done_ (done_of HT_.out (by kernel_rfl)) ?_
    try go_wp2
    refine bodyPost_ret (results_ct rfl _ _ gb394 37 #[.int .i64 (wrap64 (Int.tdiv a0 t396)), .int .i64 (wrap64 (Int.tdiv a1 t396))] (0, 0) _ rfl (zbp BK394.out) Try.underlying37 rfl (by kernel_rfl)) rfl ?_
    exact ⟨by first | rfl | (simp [errW_none, errW_some] <;> rfl) | (simp [*, errW_none, errW_some] <;> rfl), by exact zBy HB.out GE394.out⟩

/-! ### spec_l20Valid: function 41 -/
def spec_l20Valid.f (k : Nat) (a0_0 : Int) (a0_1 : Int) (a0_2 : Int) (a0_3 : Int) (a1 : Int) (a2 : Int) : Option (Int × Int × Bool) := (spec_l20Good.f a0_0 a0_1 a0_2 a0_3).bind fun t399 => (if t399 = true then ((spec_l20Ratio.f k a1 a2).bind fun bt400 => (some (bt400.1, bt400.2.1, bt400.2.2))) else (some (0, 0, false)))
theorem spec_l20Valid.mono : ∀ a0 a1 a2 a3 a4 a5 k, LeO (spec_l20Valid.f k a0 a1 a2 a3 a4 a5) (spec_l20Valid.f (k + 1) a0 a1 a2 a3 a4 a5) := by
 intro a0 a1 a2 a3 a4 a5 k
 unfold spec_l20Valid.f
 repeat' first
  | (with_reducible exact spec_l20Ratio.mono _ _ _)
  | (with_reducible exact LeO.refl _)
  | (with_reducible exact LeO.none _)
  | (with_reducible refine LeO.ite ?_ ?_)
  | (with_reducible refine LeO.bind ?_ (fun _ => ?_))
  | exact spec_l20Ratio.mono _ _ _
  | exact LeO.none _
  | refine LeO.ite ?_ ?_
  | refine LeO.bind ?_ (fun _ => ?_)
set_option maxHeartbeats 8000000 in
set_option maxRecDepth 100000 in
theorem spec_l20Valid.calls (k : Nat) (a0_0 : Int) (a0_1 : Int) (a0_2 : Int) (a0_3 : Int) (a1 : Int) (a2 : Int) (r1 : Int) (r2 : Int) (r3 : Bool) (w : World) (h : spec_l20Valid.f k a0_0 a0_1 a0_2 a0_3 a1 a2 = some (r1, r2, r3)) :
 Calls Try.prog 41 #[.agg #[.int .i64 a0_0, .int .i64 a0_1, .int .i64 a0_2, .int .i64 a0_3], .int .i64 a1, .int .i64 a2] w fun e w' => e = .returned (.tuple #[.agg #[.int .i64 r1, .int .i64 r2], .bool r3]) ∧ Below w.heap.size w w' := by
 have hu30 := Try.underlying30
 have hu37 := Try.underlying37
 have HB := Aside0.mk (Below.refl w.heap.size w)
 have H : ((spec_l20Good.f a0_0 a0_1 a0_2 a0_3).bind fun t399 => (if t399 = true then ((spec_l20Ratio.f k a1 a2).bind fun bt400 => (some (bt400.1, bt400.2.1, bt400.2.2))) else (some (0, 0, false)))) = some (r1, r2, r3) := h
 clear h
 replace H := Option.bind_eq_some_iff.mp H
 obtain ⟨t399, A40, H⟩ := H
 replace H : (if t399 = true then ((spec_l20Ratio.f k a1 a2).bind fun bt400 => (some (bt400.1, bt400.2.1, bt400.2.2))) else (some (0, 0, false))) = some (r1, r2, r3) := H
 have A4 := Aside0.mk A40
 clear A40
 by_cases c5 : t399 = true
 ·subst c5
  rw [if_pos rfl] at H
  replace H := Option.bind_eq_some_iff.mp H
  obtain ⟨⟨t400, t401, t402⟩, A60, H⟩ := H
  replace H : (some (t400, t401, t402)) = some (r1, r2, r3) := H
  have A6 := Aside0.mk A60
  clear A60
  focus
   simp only [Option.some.injEq, Prod.mk.injEq] at H
   obtain ⟨rfl, rfl, rfl⟩ := H
   go_enter Try.func41, Try.ntmps41
   go_wp2_with (first | ((with_reducible refine gate_dst (N := 3) rfl ?_); refine box_event ?hg (N := 3) ?hd (cs := #[.int .i64 a0_0, .int .i64 a0_1, .int .i64 a0_2, .int .i64 a0_3]) (t := 30) ?hr ?_; (case hd => rfl); (case hg => rfl); (case hr => exact zsx); intro gb397 hg w7 hbox hb; have BK397 := Aside0.mk (hbox); have GW397 := zns hg HB.out; have GE397 := zns hg HB.out; replace HB := Aside0.mk (below_step (zBx HB.out) hb); clear hb hbox hg) | ((with_reducible refine gate_dst (N := 6) rfl ?_); refine box_event ?hg (N := 6) ?hd (cs := #[.int .i64 0, .int .i64 0]) (t := 37) ?hr ?_; (case hd => rfl); (case hg => rfl); (case hr => exact zsx); intro gb398 hg w8 hbox hb; have BK398 := Aside0.mk (hbox); have GW398 := zns hg HB.out; have GE398 := zns hg HB.out; replace HB := Aside0.mk (below_step (zBy HB.out GE397.out) hb); have NB397_398 := znl hg BK397.out; have NB398_397 := zng hg BK397.out; replace BK397 := zbl BK397.out hb; clear hb hbox hg; have hnb9 := NB397_398.out; have hnc9 := NB398_397.out; have hcz10_0 : w8.cell? ⟨gb397, 0, none⟩ = some (.int .i64 a0_0) := (blk_cell BK397.out 0).trans rfl; have hcz10_1 : w8.cell? ⟨gb397, 1, none⟩ = some (.int .i64 a0_1) := (blk_cell BK397.out 1).trans rfl; have hcz10_2 : w8.cell? ⟨gb397, 2, none⟩ = some (.int .i64 a0_2) := (blk_cell BK397.out 2).trans rfl; have hcz10_3 : w8.cell? ⟨gb397, 3, none⟩ = some (.int .i64 a0_3) := (blk_cell BK397.out 3).trans rfl; have hfz10_0 := blk_frozen BK397.out 0; have hfz10_1 := blk_frozen BK397.out 1; have hfz10_2 := blk_frozen BK397.out 2; have hfz10_3 := blk_frozen BK397.out 3) | ((with_reducible refine gate_callee (f := 42) rfl ?_); refine goesL_ (some 9) rfl rfl Try.func42 (by kernel_rfl) rfl #[.agg #[.int .i64 a0_0, .int .i64 a0_1, .int .i64 a0_2, .int .i64 a0_3]] rfl zlx ?_; (with_reducible refine (spec_l20Good.calls a0_0 a0_1 a0_2 a0_3 true _ A4.out).mono ?_); rintro e w11 ⟨rfl, hb⟩; refine ⟨_, rfl, ?_⟩; replace BK397 := zbl BK397.out hb; replace BK398 := zbl BK398.out hb; replace HB := Aside0.mk (below_step (zBz HB.out GE397.out GE398.out) hb); (try clear hb)) | ((with_reducible refine gate_callee (f := 43) rfl ?_); refine goesL_ (some 14) rfl rfl Try.func43 (by kernel_rfl) rfl #[.int .i64 a1, .int .i64 a2] rfl zlx ?_; (with_reducible refine (spec_l20Ratio.calls k a1 a2 t400 t401 t402 _ A6.out).mono ?_); rintro e w12 ⟨rfl, hb⟩; refine ⟨_, rfl, ?_⟩; replace BK397 := zbl BK397.out hb; replace BK398 := zbl BK398.out hb; replace HB := Aside0.mk (below_step (zBz HB.out GE397.out GE398.out) hb); (try clear hb); have hcz13_0 : w12.cell? ⟨gb398, 0, none⟩ = some (.int .i64 0) := (blk_cell BK398.out 0).trans rfl; have hcz13_1 : w12.cell? ⟨gb398, 1, none⟩ = some (.int .i64 0) := (blk_cell BK398.out 1).trans rfl; have hfz13_0 := blk_frozen BK398.out 0; have hfz13_1 := blk_frozen BK398.out 1))
   refine bodyPost_ret (results_ct rfl _ _ gb398 37 #[.int .i64 t400, .int .i64 t401] (0, 0) _ rfl (zbp BK398.out) Try.underlying37 rfl (by kernel_rfl)) rfl ?_
   exact ⟨by first | rfl | (simp [errW_none, errW_some] <;> rfl) | (simp [*, errW_none, errW_some] <;> rfl), by exact zBz HB.out GE397.out GE398.out⟩
 ·replace c5 := Bool.eq_false_iff.mpr c5
  subst c5
  rw [if_neg (show ¬ (false = true) by decide)] at H
  focus
   simp only [Option.some.injEq, Prod.mk.injEq] at H
   obtain ⟨rfl, rfl, rfl⟩ := H
   go_enter Try.func41, Try.ntmps41
   go_wp2_with (first | ((with_reducible refine gate_dst (N := 3) rfl ?_); refine box_event ?hg (N := 3) ?hd (cs := #[.int .i64 a0_0, .int .i64 a0_1, .int .i64 a0_2, .int .i64 a0_3]) (t := 30) ?hr ?_; (case hd => rfl); (case hg => rfl); (case hr => exact zsx); intro gb397 hg w14 hbox hb; have BK397 := Aside0.mk (hbox); have GW397 := zns hg HB.out; have GE397 := zns hg HB.out; replace HB := Aside0.mk (below_step (zBx HB.out) hb); clear hb hbox hg) | ((with_reducible refine gate_dst (N := 6) rfl ?_); refine box_event ?hg (N := 6) ?hd (cs := #[.int .i64 0, .int .i64 0]) (t := 37) ?hr ?_; (case hd => rfl); (case hg => rfl); (case hr => exact zsx); intro gb398 hg w15 hbox hb; have BK398 := Aside0.mk (hbox); have GW398 := zns hg HB.out; have GE398 := zns hg HB.out; replace HB := Aside0.mk (below_step (zBy HB.out GE397.out) hb); have NB397_398 := znl hg BK397.out; have NB398_397 := zng hg BK397.out; replace BK397 := zbl BK397.out hb; clear hb hbox hg; have hnb16 := NB397_398.out; have hnc16 := NB398_397.out; have hcz17_0 : w15.cell? ⟨gb397, 0, none⟩ = some (.int .i64 a0_0) := (blk_cell BK397.out 0).trans rfl; have hcz17_1 : w15.cell? ⟨gb397, 1, none⟩ = some (.int .i64 a0_1) := (blk_cell BK397.out 1).trans rfl; have hcz17_2 : w15.cell? ⟨gb397, 2, none⟩ = some (.int .i64 a0_2) := (blk_cell BK397.out 2).trans rfl; have hcz17_3 : w15.cell? ⟨gb397, 3, none⟩ = some (.int .i64 a0_3) := (blk_cell BK397.out 3).trans rfl; have hfz17_0 := blk_frozen BK397.out 0; have hfz17_1 := blk_frozen BK397.out 1; have hfz17_2 := blk_frozen BK397.out 2; have hfz17_3 := blk_frozen BK397.out 3) | ((with_reducible refine gate_callee (f := 42) rfl ?_); refine goesL_ (some 9) rfl rfl Try.func42 (by kernel_rfl) rfl #[.agg #[.int .i64 a0_0, .int .i64 a0_1, .int .i64 a0_2, .int .i64 a0_3]] rfl zlx ?_; (with_reducible refine (spec_l20Good.calls a0_0 a0_1 a0_2 a0_3 false _ A4.out).mono ?_); rintro e w18 ⟨rfl, hb⟩; refine ⟨_, rfl, ?_⟩; replace BK397 := zbl BK397.out hb; replace BK398 := zbl BK398.out hb; replace HB := Aside0.mk (below_step (zBz HB.out GE397.out GE398.out) hb); (try clear hb); have hcz19_0 : w18.cell? ⟨gb398, 0, none⟩ = some (.int .i64 0) := (blk_cell BK398.out 0).trans rfl; have hcz19_1 : w18.cell? ⟨gb398, 1, none⟩ = some (.int .i64 0) := (blk_cell BK398.out 1).trans rfl; have hfz19_0 := blk_frozen BK398.out 0; have hfz19_1 := blk_frozen BK398.out 1))
   refine bodyPost_ret (results_ct rfl _ _ gb398 37 #[.int .i64 0, .int .i64 0] (0, 0) _ rfl (zbp BK398.out) Try.underlying37 rfl (by kernel_rfl)) rfl ?_
   exact ⟨by first | rfl | (simp [errW_none, errW_some] <;> rfl) | (simp [*, errW_none, errW_some] <;> rfl), by exact zBz HB.out GE397.out GE398.out⟩

/-! ### spec_ThreatScore: function 16 -/
def spec_ThreatScore.f (k : Nat) (a0_0 : Int) (a0_1 : Int) (a0_2 : Int) (a0_3 : Int) : Option (Int × Int × Bool) := (spec_l20Valid.f k a0_0 a0_1 a0_2 a0_3 a0_0 (wrap64 ((wrap64 (a0_0 + a0_1)) + a0_2))).bind fun bt405 => (some (bt405.1, bt405.2.1, bt405.2.2))
theorem spec_ThreatScore.mono : ∀ a0 a1 a2 a3 k, LeO (spec_ThreatScore.f k a0 a1 a2 a3) (spec_ThreatScore.f (k + 1) a0 a1 a2 a3) := by
 intro a0 a1 a2 a3 k
 unfold spec_ThreatScore.f
 repeat' first
  | (with_reducible exact spec_l20Valid.mono _ _ _ _ _ _ _)
  | (with_reducible exact LeO.refl _)
  | (with_reducible exact LeO.none _)
  | (with_reducible refine LeO.ite ?_ ?_)
  | (with_reducible refine LeO.bind ?_ (fun _ => ?_))
  | exact spec_l20Valid.mono _ _ _ _ _ _ _
  | exact LeO.none _
  | refine LeO.ite ?_ ?_
  | refine LeO.bind ?_ (fun _ => ?_)
set_option maxHeartbeats 8000000 in
set_option maxRecDepth 100000 in
theorem spec_ThreatScore.calls (k : Nat) (a0_0 : Int) (a0_1 : Int) (a0_2 : Int) (a0_3 : Int) (r1 : Int) (r2 : Int) (r3 : Bool) (w : World) (h : spec_ThreatScore.f k a0_0 a0_1 a0_2 a0_3 = some (r1, r2, r3)) :
 Calls Try.prog 16 #[.agg #[.int .i64 a0_0, .int .i64 a0_1, .int .i64 a0_2, .int .i64 a0_3]] w fun e w' => e = .returned (.tuple #[.agg #[.int .i64 r1, .int .i64 r2], .bool r3]) ∧ Below w.heap.size w w' := by
 have hu30 := Try.underlying30
 have hu37 := Try.underlying37
 have HB := Aside0.mk (Below.refl w.heap.size w)
 have H : ((spec_l20Valid.f k a0_0 a0_1 a0_2 a0_3 a0_0 (wrap64 ((wrap64 (a0_0 + a0_1)) + a0_2))).bind fun bt405 => (some (bt405.1, bt405.2.1, bt405.2.2))) = some (r1, r2, r3) := h
 clear h
 replace H := Option.bind_eq_some_iff.mp H
 obtain ⟨⟨t405, t406, t407⟩, A20, H⟩ := H
 replace H : (some (t405, t406, t407)) = some (r1, r2, r3) := H
 have A2 := Aside0.mk A20
 clear A20
 focus
  simp only [Option.some.injEq, Prod.mk.injEq] at H
  obtain ⟨rfl, rfl, rfl⟩ := H
  go_enter Try.func16, Try.ntmps16
  go_wp2_with (first | ((with_reducible refine gate_dst (N := 1) rfl ?_); refine box_event ?hg (N := 1) ?hd (cs := #[.int .i64 a0_0, .int .i64 a0_1, .int .i64 a0_2, .int .i64 a0_3]) (t := 30) ?hr ?_; (case hd => rfl); (case hg => rfl); (case hr => exact zsx); intro gb403 hg w3 hbox hb; have BK403 := Aside0.mk (hbox); have GW403 := zns hg HB.out; have GE403 := zns hg HB.out; replace HB := Aside0.mk (below_step (zBx HB.out) hb); clear hb hbox hg) | ((with_reducible refine gate_dst (N := 2) rfl ?_); refine box_event ?hg (N := 2) ?hd (cs := #[.int .i64 0, .int .i64 0]) (t := 37) ?hr ?_; (case hd => rfl); (case hg => rfl); (case hr => exact zsx); intro gb404 hg w4 hbox hb; have BK404 := Aside0.mk (hbox); have GW404 := zns hg HB.out; have GE404 := zns hg HB.out; replace HB := Aside0.mk (below_step (zBy HB.out GE403.out) hb); have NB403_404 := znl hg BK403.out; have NB404_403 := zng hg BK403.out; replace BK403 := zbl BK403.out hb; clear hb hbox hg; have hnb5 := NB403_404.out; have hnc5 := NB404_403.out; have hcz6_0 : w4.cell? ⟨gb403, 0, none⟩ = some (.int .i64 a0_0) := (blk_cell BK403.out 0).trans rfl; have hcz6_1 : w4.cell? ⟨gb403, 1, none⟩ = some (.int .i64 a0_1) := (blk_cell BK403.out 1).trans rfl; have hcz6_2 : w4.cell? ⟨gb403, 2, none⟩ = some (.int .i64 a0_2) := (blk_cell BK403.out 2).trans rfl; have hcz6_3 : w4.cell? ⟨gb403, 3, none⟩ = some (.int .i64 a0_3) := (blk_cell BK403.out 3).trans rfl; have hfz6_0 := blk_frozen BK403.out 0; have hfz6_1 := blk_frozen BK403.out 1; have hfz6_2 := blk_frozen BK403.out 2; have hfz6_3 := blk_frozen BK403.out 3) | ((with_reducible refine gate_callee (f := 41) rfl ?_); refine goesL_ (some 15) rfl rfl Try.func41 (by kernel_rfl) rfl #[.agg #[.int .i64 a0_0, .int .i64 a0_1, .int .i64 a0_2, .int .i64 a0_3], .int .i64 a0_0, .int .i64 (wrap64 ((wrap64 (a0_0 + a0_1)) + a0_2))] rfl zlx ?_; (with_reducible refine (spec_l20Valid.calls k a0_0 a0_1 a0_2 a0_3 a0_0 (wrap64 ((wrap64 (a0_0 + a0_1)) + a0_2)) t405 t406 t407 _ A2.out).mono ?_); rintro e w7 ⟨rfl, hb⟩; refine ⟨_, rfl, ?_⟩; replace BK403 := zbl BK403.out hb; replace BK404 := zbl BK404.out hb; replace HB := Aside0.mk (below_step (zBz HB.out GE403.out GE404.out) hb); (try clear hb); have hcz8_0 : w7.cell? ⟨gb404, 0, none⟩ = some (.int .i64 0) := (blk_cell BK404.out 0).trans rfl; have hcz8_1 : w7.cell? ⟨gb404, 1, none⟩ = some (.int .i64 0) := (blk_cell BK404.out 1).trans rfl; have hfz8_0 := blk_frozen BK404.out 0; have hfz8_1 := blk_frozen BK404.out 1))
  refine bodyPost_ret (results_ct rfl _ _ gb404 37 #[.int .i64 t405, .int .i64 t406] (0, 0) _ rfl (zbp BK404.out) Try.underlying37 rfl (by kernel_rfl)) rfl ?_
  exact ⟨by first | rfl | (simp [errW_none, errW_some] <;> rfl) | (simp [*, errW_none, errW_some] <;> rfl), by exact zBz HB.out GE403.out GE404.out⟩

/-! ### spec_l2Shape: function 77 -/
def spec_l2Shape.f (a0 : Int) (a1 : Int) : Option (Bool) := (spec_l1In.f a0 1 8).bind fun t408 => (if t408 = true then ((spec_l1In.f a1 1 8).bind fun t409 => (some t409)) else (some false))
set_option maxHeartbeats 8000000 in
set_option maxRecDepth 100000 in
theorem spec_l2Shape.calls (a0 : Int) (a1 : Int) (r : Bool) (w : World) (h : spec_l2Shape.f a0 a1 = some r) :
 Calls Try.prog 77 #[.int .i64 a0, .int .i64 a1] w fun e w' => e = .returned (.bool r) ∧ Drawn0 w w' := by
 have H : ((spec_l1In.f a0 1 8).bind fun t408 => (if t408 = true then ((spec_l1In.f a1 1 8).bind fun t409 => (some t409)) else (some false))) = some r := h
 clear h
 replace H := Option.bind_eq_some_iff.mp H
 obtain ⟨t408, A30, H⟩ := H
 replace H : (if t408 = true then ((spec_l1In.f a1 1 8).bind fun t409 => (some t409)) else (some false)) = some r := H
 have A3 := Aside0.mk A30
 clear A30
 by_cases c4 : t408 = true
 ·subst c4
  rw [if_pos rfl] at H
  replace H := Option.bind_eq_some_iff.mp H
  obtain ⟨t409, A50, H⟩ := H
  replace H : (some t409) = some r := H
  have A5 := Aside0.mk A50
  clear A50
  focus
   obtain rfl := Option.some.inj H
   go_enter Try.func77, Try.ntmps77
   go_wp2_with (first | ((with_reducible refine gate_callee (f := 60) rfl ?_); refine goesL_ (some 6) rfl rfl Try.func60 (by kernel_rfl) rfl #[.int .i64 a0, .int .i64 1, .int .i64 8] rfl zlx ?_; (with_reducible refine (spec_l1In.calls a0 1 8 true _ A3.out).mono ?_); rintro e w' ⟨rfl, ⟨nd, rfl⟩⟩; refine ⟨_, rfl, ?_⟩) | (go_at_call 60; (with_reducible refine (spec_l1In.calls a1 1 8 t409 _ A5.out).mono ?_); rintro e w' ⟨rfl, ⟨nd, rfl⟩⟩))
   go_ret
   exact ⟨by first | rfl | (simp; done) | (simp [*]; done), by repeat (first | exact Drawn0.refl _ | apply Drawn0.step)⟩
 ·replace c4 := Bool.eq_false_iff.mpr c4
  subst c4
  rw [if_neg (show ¬ (false = true) by decide)] at H
  focus
   obtain rfl := Option.some.inj H
   go_enter Try.func77, Try.ntmps77
   go_wp2_with (first | ((with_reducible refine gate_callee (f := 60) rfl ?_); refine goesL_ (some 6) rfl rfl Try.func60 (by kernel_rfl) rfl #[.int .i64 a0, .int .i64 1, .int .i64 8] rfl zlx ?_; (with_reducible refine (spec_l1In.calls a0 1 8 false _ A3.out).mono ?_); rintro e w' ⟨rfl, ⟨nd, rfl⟩⟩; refine ⟨_, rfl, ?_⟩))
   go_ret
   exact ⟨by first | rfl | (simp; done) | (simp [*]; done), by repeat (first | exact Drawn0.refl _ | apply Drawn0.step)⟩

/-! ### spec_l2Value: function 78 -/
def spec_l2Value.f (a0 : Int) : Option (Bool) := if a0 = (-9999) then (some true) else ((spec_l1In.f a0 (-9000) 9000).bind fun t410 => (some t410))
set_option maxHeartbeats 8000000 in
set_option maxRecDepth 100000 in
theorem spec_l2Value.calls (a0 : Int) (r : Bool) (w : World) (h : spec_l2Value.f a0 = some r) :
 Calls Try.prog 78 #[.int .i64 a0] w fun e w' => e = .returned (.bool r) ∧ Drawn0 w w' := by
 have H : (if a0 = (-9999) then (some true) else ((spec_l1In.f a0 (-9000) 9000).bind fun t410 => (some t410))) = some r := h
 clear h
 by_cases c2 : a0 = (-9999)
 ·rw [if_pos c2] at H
  have c2b0 : (a0 == (-9999)) = true := beq_iff_eq.mpr c2
  have c2b1 : (a0 != (-9999)) = false := bne_eq_false_iff_eq.mpr c2
  clear c2
  focus
   obtain rfl := Option.some.inj H
   go_enter Try.func78, Try.ntmps78
   go_wp2
   go_ret
   exact ⟨by first | rfl | (simp; done) | (simp [*]; done), by repeat (first | exact Drawn0.refl _ | apply Drawn0.step)⟩
 ·rw [if_neg c2] at H
  have c2b0 : (a0 == (-9999)) = false := beq_eq_false_iff_ne.mpr c2
  have c2b1 : (a0 != (-9999)) = true := bne_iff_ne.mpr c2
  replace H := Option.bind_eq_some_iff.mp H
  obtain ⟨t410, A30, H⟩ := H
  replace H : (some t410) = some r := H
  have A3 := Aside0.mk A30
  clear A30
  focus
   obtain rfl := Option.some.inj H
   go_enter Try.func78, Try.ntmps78
   go_wp2_with (first | (go_at_call 60; (with_reducible refine (spec_l1In.calls a0 (-9000) 9000 t410 _ A3.out).mono ?_); rintro e w' ⟨rfl, ⟨nd, rfl⟩⟩))
   go_ret
   exact ⟨by first | rfl | (simp; done) | (simp [*]; done), by repeat (first | exact Drawn0.refl _ | apply Drawn0.step)⟩

/-! ### spec_l2Good: function 57 -/
mutual
def spec_l2Good.j0 : Nat → Bool → Int → Int → List Int → Option (Bool)
 | 0, _, _, _, _ => none
 | k + 1, x20, x412000, x412001, x412002 => if x20 = true then (some false) else (spec_l2Good.l0 k 0 x412000 x412001 x412002)
def spec_l2Good.l0 : Nat → Int → Int → Int → List Int → Option (Bool)
 | 0, _, _, _, _ => none
 | k + 1, x3, x412000, x412001, x412002 => if x3 < (x412002.length : Int) then (if 0 ≤ x3 then ((spec_l2Value.f (rd x412002 x3)).bind fun t414 => (if t414 = true then (spec_l2Good.l0 k (wrap64 (x3 + 1)) x412000 x412001 x412002) else (some false))) else (none)) else (some true)
end
def spec_l2Good.f (k : Nat) (a0_0 : Int) (a0_1 : Int) (l0_2 : List Int) : Option (Bool) := (spec_l2Shape.f a0_0 a0_1).bind fun t412 => (if t412 = true then (spec_l2Good.j0 k ((l0_2.length : Int) != (wrap64 (a0_0 * a0_1))) a0_0 a0_1 l0_2) else (spec_l2Good.j0 k true a0_0 a0_1 l0_2))
theorem spec_l2Good.mono_l : ∀ k, (∀ y0 y1 y2 y3, LeO (spec_l2Good.j0 k y0 y1 y2 y3) (spec_l2Good.j0 (k + 1) y0 y1 y2 y3)) ∧ (∀ y0 y1 y2 y3, LeO (spec_l2Good.l0 k y0 y1 y2 y3) (spec_l2Good.l0 (k + 1) y0 y1 y2 y3))
 | 0 => ⟨fun _ _ _ _ r h => by simp [spec_l2Good.j0] at h, fun _ _ _ _ r h => by simp [spec_l2Good.l0] at h⟩
 | k + 1 => by
  obtain ⟨ih0, ih1⟩ := spec_l2Good.mono_l k
  refine ⟨?_, ?_⟩
  ·intro y0 y1 y2 y3
   unfold spec_l2Good.j0
   repeat' first
   | (with_reducible exact ih0 _ _ _ _)
   | (with_reducible exact ih1 _ _ _ _)
   | (with_reducible exact LeO.refl _)
   | (with_reducible exact LeO.none _)
   | (with_reducible refine LeO.ite ?_ ?_)
   | (with_reducible refine LeO.bind ?_ (fun _ => ?_))
   | exact ih0 _ _ _ _
   | exact ih1 _ _ _ _
   | exact LeO.none _
   | refine LeO.ite ?_ ?_
   | refine LeO.bind ?_ (fun _ => ?_)
  ·intro y0 y1 y2 y3
   unfold spec_l2Good.l0
   repeat' first
   | (with_reducible exact ih0 _ _ _ _)
   | (with_reducible exact ih1 _ _ _ _)
   | (with_reducible exact LeO.refl _)
   | (with_reducible exact LeO.none _)
   | (with_reducible refine LeO.ite ?_ ?_)
   | (with_reducible refine LeO.bind ?_ (fun _ => ?_))
   | exact ih0 _ _ _ _
   | exact ih1 _ _ _ _
   | exact LeO.none _
   | refine LeO.ite ?_ ?_
   | refine LeO.bind ?_ (fun _ => ?_)
theorem spec_l2Good.mono : ∀ a0 a1 a2 k, LeO (spec_l2Good.f k a0 a1 a2) (spec_l2Good.f (k + 1) a0 a1 a2) := by
 intro a0 a1 a2 k
 obtain ⟨ih0, ih1⟩ := spec_l2Good.mono_l k
 unfold spec_l2Good.f
 repeat' first
  | (with_reducible exact ih0 _ _ _ _)
  | (with_reducible exact ih1 _ _ _ _)
  | (with_reducible exact LeO.refl _)
  | (with_reducible exact LeO.none _)
  | (with_reducible refine LeO.ite ?_ ?_)
  | (with_reducible refine LeO.bind ?_ (fun _ => ?_))
  | exact ih0 _ _ _ _
  | exact ih1 _ _ _ _
  | exact LeO.none _
  | refine LeO.ite ?_ ?_
  | refine LeO.bind ?_ (fun _ => ?_)
set_option maxHeartbeats 8000000 in
set_option maxRecDepth 100000 in
theorem spec_l2Good.calls (k : Nat) (a0_0 : Int) (a0_1 : Int) (A0_2 : Option Addr) (c0_2 : Nat) (l0_2 : List Int) (r : Bool) (w : World) (hr0_2 : Kd.C (Kd.int .i64) w A0_2 l0_2.length l0_2) (hc0_2 : l0_2.length ≤ c0_2) (h : spec_l2Good.f k a0_0 a0_1 l0_2 = some r) :
 Calls Try.prog 57 #[.agg #[.int .i64 a0_0, .int .i64 a0_1, .slice A0_2 l0_2.length c0_2]] w fun e w' => e = .returned (.bool r) ∧ Below w.heap.size w w' := by
 have hu26 := Try.underlying26
 have HR0_2 := Aside0.mk hr0_2
 have HC0_2 := Aside0.mk hc0_2
 clear hr0_2 hc0_2
 have HB := Aside0.mk (Below.refl w.heap.size w)
 have H : ((spec_l2Shape.f a0_0 a0_1).bind fun t412 => (if t412 = true then (spec_l2Good.j0 k ((l0_2.length : Int) != (wrap64 (a0_0 * a0_1))) a0_0 a0_1 l0_2) else (spec_l2Good.j0 k true a0_0 a0_1 l0_2))) = some r := h
 clear h
 have HC2 := Aside0.mk H
 clear H
 go_enter Try.func57, Try.ntmps57
 go_upto_region 1 with (first | ((with_reducible refine gate_dst (N := 1) rfl ?_); (try (refine gate_guard (by rfl) ?_; dsimp only)); refine box_event ?hg (N := 1) ?hd (cs := #[.int .i64 a0_0, .int .i64 a0_1, .slice A0_2 l0_2.length c0_2]) (t := 26) ?hr ?_; (case hd => rfl); (case hg => rfl); (case hr => exact zsx); intro gb411 hg w3 hbox hb; have BK411 := Aside0.mk (hbox); have GW411 := zns hg HB.out; have GE411 := zns hg HB.out; replace HB := Aside0.mk (below_step (zBx HB.out) hb); clear hb hbox hg))
 (try simp only [Act.put, List.setIfInBounds_toArray, List.set_cons_zero, List.set_cons_succ])
 go_cut [20] (fun v20 wc => ∃ (kq : Nat) (x20_1 : Bool), v20 = .bool x20_1 ∧ Aside0 (spec_l2Good.j0 kq x20_1 a0_0 a0_1 l0_2 = some r) ∧ Aside0 (kq ≤ k) ∧ Aside0 (wc.heap[gb411]? = some (.cells #[.int .i64 a0_0, .int .i64 a0_1, (.slice A0_2 l0_2.length c0_2)] 26 (0, 0))) ∧ Aside0 (Below w.heap.size w wc))
 case first =>
  have H := HC2.out
  clear HC2
  replace H := Option.bind_eq_some_iff.mp H
  obtain ⟨t412, A40, H⟩ := H
  replace H : (if t412 = true then (spec_l2Good.j0 k ((l0_2.length : Int) != (wrap64 (a0_0 * a0_1))) a0_0 a0_1 l0_2) else (spec_l2Good.j0 k true a0_0 a0_1 l0_2)) = some r := H
  have A4 := Aside0.mk A40
  clear A40
  by_cases c5 : t412 = true
  ·subst c5
   rw [if_pos rfl] at H
   focus
    have H' := Aside0.mk H
    clear H
    have hcz6_0 : w3.cell? ⟨gb411, 0, none⟩ = some (.int .i64 a0_0) := (blk_cell BK411.out 0).trans rfl
    have hcz6_1 : w3.cell? ⟨gb411, 1, none⟩ = some (.int .i64 a0_1) := (blk_cell BK411.out 1).trans rfl
    have hcz6_2 : w3.cell? ⟨gb411, 2, none⟩ = some (.slice A0_2 l0_2.length c0_2) := (blk_cell BK411.out 2).trans rfl
    have hfz6_0 := blk_frozen BK411.out 0
    have hfz6_1 := blk_frozen BK411.out 1
    have hfz6_2 := blk_frozen BK411.out 2
    go_wp2_with (first | ((with_reducible refine gate_callee (f := 77) rfl ?_); refine goesL_ (some 8) rfl rfl Try.func77 (by kernel_rfl) rfl #[.int .i64 a0_0, .int .i64 a0_1] rfl zlx ?_; (with_reducible refine (spec_l2Shape.calls a0_0 a0_1 true _ A4.out).mono ?_); rintro e w' ⟨rfl, ⟨nd, rfl⟩⟩; refine ⟨_, rfl, ?_⟩))
    go_meet
    case rel => exact ⟨_, (((l0_2.length : Int) != (wrap64 (a0_0 * a0_1)))), zrx, H', ⟨by first | omega | exact Nat.le_refl _⟩, ⟨by refine zbx ?_; exact BK411.out⟩, ⟨by exact zBy HB.out GE411.out⟩⟩
  ·replace c5 := Bool.eq_false_iff.mpr c5
   subst c5
   rw [if_neg (show ¬ (false = true) by decide)] at H
   focus
    have H' := Aside0.mk H
    clear H
    have hcz7_0 : w3.cell? ⟨gb411, 0, none⟩ = some (.int .i64 a0_0) := (blk_cell BK411.out 0).trans rfl
    have hcz7_1 : w3.cell? ⟨gb411, 1, none⟩ = some (.int .i64 a0_1) := (blk_cell BK411.out 1).trans rfl
    have hcz7_2 : w3.cell? ⟨gb411, 2, none⟩ = some (.slice A0_2 l0_2.length c0_2) := (blk_cell BK411.out 2).trans rfl
    have hfz7_0 := blk_frozen BK411.out 0
    have hfz7_1 := blk_frozen BK411.out 1
    have hfz7_2 := blk_frozen BK411.out 2
    go_wp2_with (first | ((with_reducible refine gate_callee (f := 77) rfl ?_); refine goesL_ (some 8) rfl rfl Try.func77 (by kernel_rfl) rfl #[.int .i64 a0_0, .int .i64 a0_1] rfl zlx ?_; (with_reducible refine (spec_l2Shape.calls a0_0 a0_1 false _ A4.out).mono ?_); rintro e w' ⟨rfl, ⟨nd, rfl⟩⟩; refine ⟨_, rfl, ?_⟩))
    go_meet
    case rel => exact ⟨_, (true), zrx, H', ⟨by first | omega | exact Nat.le_refl _⟩, ⟨by refine zbx ?_; exact BK411.out⟩, ⟨by exact zBy HB.out GE411.out⟩⟩
 case rest =>
  clear HC2
  try clear p2
  try clear c5
  try clear p6
  try clear c7
  try clear hcz6_0
  try clear hcz6_1
  try clear hcz6_2
  try clear hcz7_0
  try clear hcz7_1
  try clear hcz7_2
  try clear hfz6_0
  try clear hfz6_1
  try clear hfz6_2
  try clear hfz7_0
  try clear hfz7_1
  try clear hfz7_2
  obtain ⟨kq, x20_1, rfl, HA, HJ1, BK411, HB⟩ := hcut
  cases kq with
  | zero => exact absurd HA.out (by simp [spec_l2Good.j0])
  | succ kj1 =>
   have H := HA.out
   clear HA
   simp only [spec_l2Good.j0] at H
   by_cases c8 : x20_1 = true
   ·subst c8
    rw [if_pos rfl] at H
    focus
     obtain rfl := Option.some.inj H
     go_wp2
     go_ret
     exact ⟨by first | rfl | (simp [errW_none, errW_some] <;> rfl) | (simp [*, errW_none, errW_some] <;> rfl), by exact zBy HB.out GE411.out⟩
   ·replace c8 := Bool.eq_false_iff.mpr c8
    subst c8
    rw [if_neg (show ¬ (false = true) by decide)] at H
    have H' := Aside0.mk H
    clear H
    go_wp2
    go_loopg [3] kj1 (fun kq v3 w' => ∃ (x3_2 : Int), v3 = .int .i64 x3_2 ∧ Aside0 (spec_l2Good.l0 kq x3_2 a0_0 a0_1 l0_2 = some r) ∧ Aside0 (kq ≤ kj1) ∧ Aside0 (w'.heap[gb411]? = some (.cells #[.int .i64 a0_0, .int .i64 a0_1, (.slice A0_2 l0_2.length c0_2)] 26 (0, 0))) ∧ Aside0 (Below w.heap.size w w'))
    case atStart => exact ⟨(0), zrx, H', ⟨Nat.le_refl _⟩, ⟨by refine zbx ?_; exact BK411.out⟩, ⟨by exact zBy HB.out GE411.out⟩⟩
    case round =>
     clear H'
     try clear p2
     try clear c5
     try clear p6
     try clear c7
     try clear c8
     try clear hcz6_0
     try clear hcz6_1
     try clear hcz6_2
     try clear hcz7_0
     try clear hcz7_1
     try clear hcz7_2
     try clear hfz6_0
     try clear hfz6_1
     try clear hfz6_2
     try clear hfz7_0
     try clear hfz7_1
     try clear hfz7_2
     try clear p2
     try clear p6
     obtain ⟨x3_2, rfl, HA, HK2, BK411, HB⟩ := hrel
     cases gk with
     | zero => exact absurd HA.out (by simp [spec_l2Good.l0])
     | succ k2 =>
      have H := HA.out
      clear HA
      simp only [spec_l2Good.l0] at H
      by_cases c9 : x3_2 < (l0_2.length : Int)
      ·rw [if_pos c9] at H
       have c9b0 : decide (x3_2 < (l0_2.length : Int)) = true := decide_eq_true c9
       clear c9
       by_cases c10 : 0 ≤ x3_2
       ·rw [if_pos c10] at H
        have c10b0 : decide (0 ≤ x3_2) = true := decide_eq_true c10
        clear c10
        replace H := Option.bind_eq_some_iff.mp H
        obtain ⟨t414, A110, H⟩ := H
        replace H : (if t414 = true then (spec_l2Good.l0 k2 (wrap64 (x3_2 + 1)) a0_0 a0_1 l0_2) else (some false)) = some r := H
        have A11 := Aside0.mk A110
        clear A110
        by_cases c12 : t414 = true
        ·subst c12
         rw [if_pos rfl] at H
         focus
          have H' := Aside0.mk H
          clear H
          have hcz13_0 : wr.cell? ⟨gb411, 0, none⟩ = some (.int .i64 a0_0) := (blk_cell BK411.out 0).trans rfl
          have hcz13_1 : wr.cell? ⟨gb411, 1, none⟩ = some (.int .i64 a0_1) := (blk_cell BK411.out 1).trans rfl
          have hcz13_2 : wr.cell? ⟨gb411, 2, none⟩ = some (.slice A0_2 l0_2.length c0_2) := (blk_cell BK411.out 2).trans rfl
          have hfz13_0 := blk_frozen BK411.out 0
          have hfz13_1 := blk_frozen BK411.out 1
          have hfz13_2 := blk_frozen BK411.out 2
          have p413 : 0 ≤ (x3_2 : Int) := of_decide_eq_true zax
          have q413 : x3_2 < (l0_2.length : Int) := of_decide_eq_true zax
          obtain ⟨ad413, e413, hx413_0⟩ := Kd.at_int HR0_2.out x3_2 p413 q413
          cases e413
          replace hx413_0 := (HB.out.cell (World.block_lt_of_cell? w _ hx413_0)).trans hx413_0
          replace p413 := eq_true p413
          replace q413 := eq_true q413
          go_wp2_with (first | ((with_reducible refine gate_callee (f := 78) rfl ?_); refine goesL_ (some 33) rfl rfl Try.func78 (by kernel_rfl) rfl #[.int .i64 (rd l0_2 x3_2)] rfl zlx ?_; (with_reducible refine (spec_l2Value.calls (rd l0_2 x3_2) true _ A11.out).mono ?_); rintro e w' ⟨rfl, ⟨nd, rfl⟩⟩; refine ⟨_, rfl, ?_⟩))
          go_roundg k2
          case measure => have := HJ1.out; have := HK2.out; omega
          case rel => exact ⟨(wrap64 (x3_2 + 1)), zrx, H', ⟨by have := HJ1.out; have := HK2.out; omega⟩, ⟨by refine zbx ?_; exact BK411.out⟩, ⟨by exact zBy HB.out GE411.out⟩⟩
        ·replace c12 := Bool.eq_false_iff.mpr c12
         subst c12
         rw [if_neg (show ¬ (false = true) by decide)] at H
         focus
          obtain rfl := Option.some.inj H
          have hcz14_0 : wr.cell? ⟨gb411, 0, none⟩ = some (.int .i64 a0_0) := (blk_cell BK411.out 0).trans rfl
          have hcz14_1 : wr.cell? ⟨gb411, 1, none⟩ = some (.int .i64 a0_1) := (blk_cell BK411.out 1).trans rfl
          have hcz14_2 : wr.cell? ⟨gb411, 2, none⟩ = some (.slice A0_2 l0_2.length c0_2) := (blk_cell BK411.out 2).trans rfl
          have hfz14_0 := blk_frozen BK411.out 0
          have hfz14_1 := blk_frozen BK411.out 1
          have hfz14_2 := blk_frozen BK411.out 2
          have p413 : 0 ≤ (x3_2 : Int) := of_decide_eq_true zax
          have q413 : x3_2 < (l0_2.length : Int) := of_decide_eq_true zax
          obtain ⟨ad413, e413, hx413_0⟩ := Kd.at_int HR0_2.out x3_2 p413 q413
          cases e413
          replace hx413_0 := (HB.out.cell (World.block_lt_of_cell? w _ hx413_0)).trans hx413_0
          replace p413 := eq_true p413
          replace q413 := eq_true q413
          go_wp2_with (first | ((with_reducible refine gate_callee (f := 78) rfl ?_); refine goesL_ (some 33) rfl rfl Try.func78 (by kernel_rfl) rfl #[.int .i64 (rd l0_2 x3_2)] rfl zlx ?_; (with_reducible refine (spec_l2Value.calls (rd l0_2 x3_2) false _ A11.out).mono ?_); rintro e w' ⟨rfl, ⟨nd, rfl⟩⟩; refine ⟨_, rfl, ?_⟩))
          go_ret
          exact ⟨by first | rfl | (simp [errW_none, errW_some] <;> rfl) | (simp [*, errW_none, errW_some] <;> rfl), by exact zBy HB.out GE411.out⟩
       ·rw [if_neg c10] at H
        exact absurd H (by simp)
      ·rw [if_neg c9] at H
       have c9b0 : decide (x3_2 < (l0_2.length : Int)) = false := decide_eq_false c9
       clear c9
       focus
        obtain rfl := Option.some.inj H
        have hcz15_0 : wr.cell? ⟨gb411, 0, none⟩ = some (.int .i64 a0_0) := (blk_cell BK411.out 0).trans rfl
        have hcz15_1 : wr.cell? ⟨gb411, 1, none⟩ = some (.int .i64 a0_1) := (blk_cell BK411.out 1).trans rfl
        have hcz15_2 : wr.cell? ⟨gb411, 2, none⟩ = some (.slice A0_2 l0_2.length c0_2) := (blk_cell BK411.out 2).trans rfl
        have hfz15_0 := blk_frozen BK411.out 0
        have hfz15_1 := blk_frozen BK411.out 1
        have hfz15_2 := blk_frozen BK411.out 2
        go_wp2
        go_ret
        exact ⟨by first | rfl | (simp [errW_none, errW_some] <;> rfl) | (simp [*, errW_none, errW_some] <;> rfl), by exact zBy HB.out GE411.out⟩

/-! ### spec_l2Same: function 36 -/
def spec_l2Same.f (k : Nat) (a0_0 : Int) (a0_1 : Int) (l0_2 : List Int) (a1_0 : Int) (a1_1 : Int) (l1_2 : List Int) : Option (Bool) := (spec_l2Good.f k a0_0 a0_1 l0_2).bind fun t417 => (if t417 = true then ((spec_l2Good.f k a1_0 a1_1 l1_2).bind fun t418 => (if t418 = true then (if a0_0 = a1_0 then (some (a0_1 == a1_1)) else (some false)) else (some false))) else (some false))
theorem spec_l2Same.mono : ∀ a0 a1 a2 a3 a4 a5 k, LeO (spec_l2Same.f k a0 a1 a2 a3 a4 a5) (spec_l2Same.f (k + 1) a0 a1 a2 a3 a4 a5) := by
 intro a0 a1 a2 a3 a4 a5 k
 unfold spec_l2Same.f
 repeat' first
  | (with_reducible exact spec_l2Good.mono _ _ _ _)
  | (with_reducible exact LeO.refl _)
  | (with_reducible exact LeO.none _)
  | (with_reducible refine LeO.ite ?_ ?_)
  | (with_reducible refine LeO.bind ?_ (fun _ => ?_))
  | exact spec_l2Good.mono _ _ _ _
  | exact LeO.none _
  | refine LeO.ite ?_ ?_
  | refine LeO.bind ?_ (fun _ => ?_)
theorem zendXFnLimitsx12_0 {P_ : Prop} (h_ : P_ := by
  obtain rfl := Option.some.inj H
  go_enter Try.func36, Try.ntmps36
  go_wp2_with (first | ((with_reducible refine gate_dst (N := 2) rfl ?_); refine box_event ?hg (N := 2) ?hd (cs := #[.int .i64 a0_0, .int .i64 a0_1, .slice A0_2 l0_2.length c0_2]) (t := 26) ?hr ?_; (case hd => rfl); (case hg => rfl); (case hr => exact zsx); intro gb415 hg w8 hbox hb; have BK415 := Aside0.mk (hbox); have GW415 := zns hg HB.out; have GE415 := zns hg HB.out; replace HB := Aside0.mk (below_step (zBx HB.out) hb); clear hb hbox hg) | ((with_reducible refine gate_dst (N := 3) rfl ?_); refine box_event ?hg (N := 3) ?hd (cs := #[.int .i64 a1_0, .int .i64 a1_1, .slice A1_2 l1_2.length c1_2]) (t := 26) ?hr ?_; (case hd => rfl); (case hg => rfl); (case hr => exact zsx); intro gb416 hg w9 hbox hb; have BK416 := Aside0.mk (hbox); have GW416 := zns hg HB.out; have GE416 := zns hg HB.out; replace HB := Aside0.mk (below_step (zBy HB.out GE415.out) hb); have NB415_416 := znl hg BK415.out; have NB416_415 := zng hg BK415.out; replace BK415 := zbl BK415.out hb; clear hb hbox hg; have hnb10 := NB415_416.out; have hnc10 := NB416_415.out; have hcz11_0 : w9.cell? ⟨gb415, 0, none⟩ = some (.int .i64 a0_0) := (blk_cell BK415.out 0).trans rfl; have hcz11_1 : w9.cell? ⟨gb415, 1, none⟩ = some (.int .i64 a0_1) := (blk_cell BK415.out 1).trans rfl; have hcz11_2 : w9.cell? ⟨gb415, 2, none⟩ = some (.slice A0_2 l0_2.length c0_2) := (blk_cell BK415.out 2).trans rfl; have hfz11_0 := blk_frozen BK415.out 0; have hfz11_1 := blk_frozen BK415.out 1; have hfz11_2 := blk_frozen BK415.out 2) | ((with_reducible refine gate_callee (f := 57) rfl ?_); refine goesL_ (some 6) rfl rfl Try.func57 (by kernel_rfl) rfl #[.agg #[.int .i64 a0_0, .int .i64 a0_1, .slice A0_2 l0_2.length c0_2]] rfl zlx ?_; (with_reducible refine (spec_l2Good.calls k a0_0 a0_1 _ _ l0_2 true _ ?side1 ?side2 A3.out).mono ?_); (case side1 => exact zCx (Kd.C_below HR0_2.out HB.out)); (case side2 => exact HC0_2.out); rintro e w12 ⟨rfl, hb⟩; refine ⟨_, rfl, ?_⟩; replace BK415 := zbl BK415.out hb; replace BK416 := zbl BK416.out hb; replace HB := Aside0.mk (below_step (zBz HB.out GE415.out GE416.out) hb); (try clear hb); (try clear hb2); (try clear hk); (try clear hi); have hcz13_0 : w12.cell? ⟨gb416, 0, none⟩ = some (.int .i64 a1_0) := (blk_cell BK416.out 0).trans rfl; have hcz13_1 : w12.cell? ⟨gb416, 1, none⟩ = some (.int .i64 a1_1) := (blk_cell BK416.out 1).trans rfl; have hcz13_2 : w12.cell? ⟨gb416, 2, none⟩ = some (.slice A1_2 l1_2.length c1_2) := (blk_cell BK416.out 2).trans rfl; have hfz13_0 := blk_frozen BK416.out 0; have hfz13_1 := blk_frozen BK416.out 1; have hfz13_2 := blk_frozen BK416.out 2) | (go_at_call 57; (with_reducible refine (spec_l2Good.calls k a1_0 a1_1 _ _ l1_2 true _ ?side1 ?side2 A5.out).mono ?_); (case side1 => exact zCx (Kd.C_below HR1_2.out HB.out)); (case side2 => exact HC1_2.out); rintro e w14 ⟨rfl, hb⟩; replace BK415 := zbl BK415.out hb; replace BK416 := zbl BK416.out hb; replace HB := Aside0.mk (below_step (zBz HB.out GE415.out GE416.out) hb); (try clear hb); (try clear hb2); (try clear hk); (try clear hi); have hcz15_0 : w14.cell? ⟨gb415, 0, none⟩ = some (.int .i64 a0_0) := (blk_cell BK415.out 0).trans rfl; have hcz15_1 : w14.cell? ⟨gb415, 1, none⟩ = some (.int .i64 a0_1) := (blk_cell BK415.out 1).trans rfl; have hcz15_2 : w14.cell? ⟨gb415, 2, none⟩ = some (.slice A0_2 l0_2.length c0_2) := (blk_cell BK415.out 2).trans rfl; have hfz15_0 := blk_frozen BK415.out 0; have hfz15_1 := blk_frozen BK415.out 1; have hfz15_2 := blk_frozen BK415.out 2; have hcz16_0 : w14.cell? ⟨gb416, 0, none⟩ = some (.int .i64 a1_0) := (blk_cell BK416.out 0).trans rfl; have hcz16_1 : w14.cell? ⟨gb416, 1, none⟩ = some (.int .i64 a1_1) := (blk_cell BK416.out 1).trans rfl; have hcz16_2 : w14.cell? ⟨gb416, 2, none⟩ = some (.slice A1_2 l1_2.length c1_2) := (blk_cell BK416.out 2).trans rfl; have hfz16_0 := blk_frozen BK416.out 0; have hfz16_1 := blk_frozen BK416.out 1; have hfz16_2 := blk_frozen BK416.out 2))
  go_ret
  exact ⟨by first | rfl | (simp [errW_none, errW_some] <;> rfl) | (simp [*, errW_none, errW_some] <;> rfl), by exact zBz HB.out GE415.out GE416.out⟩) : P_ := h_
set_option maxHeartbeats 8000000 in
set_option maxRecDepth 100000 in
theorem spec_l2Same.calls (k : Nat) (a0_0 : Int) (a0_1 : Int) (A0_2 : Option Addr) (c0_2 : Nat) (l0_2 : List Int) (a1_0 : Int) (a1_1 : Int) (A1_2 : Option Addr) (c1_2 : Nat) (l1_2 : List Int) (r : Bool) (w : World) (hr0_2 : Kd.C (Kd.int .i64) w A0_2 l0_2.length l0_2) (hc0_2 : l0_2.length ≤ c0_2) (hr1_2 : Kd.C (Kd.int .i64) w A1_2 l1_2.length l1_2) (hc1_2 : l1_2.length ≤ c1_2) (h : spec_l2Same.f k a0_0 a0_1 l0_2 a1_0 a1_1 l1_2 = some r) :
 Calls Try.prog 36 #[.agg #[.int .i64 a0_0, .int .i64 a0_1, .slice A0_2 l0_2.length c0_2], .agg #[.int .i64 a1_0, .int .i64 a1_1, .slice A1_2 l1_2.length c1_2]] w fun e w' => e = .returned (.bool r) ∧ Below w.heap.size w w' := by
 have hu26 := Try.underlying26
 have HR0_2 := Aside0.mk hr0_2
 have HC0_2 := Aside0.mk hc0_2
 clear hr0_2 hc0_2
 have HR1_2 := Aside0.mk hr1_2
 have HC1_2 := Aside0.mk hc1_2
 clear hr1_2 hc1_2
 have HB := Aside0.mk (Below.refl w.heap.size w)
 have H : ((spec_l2Good.f k a0_0 a0_1 l0_2).bind fun t417 => (if t417 = true then ((spec_l2Good.f k a1_0 a1_1 l1_2).bind fun t418 => (if t418 = true then (if a0_0 = a1_0 then (some (a0_1 == a1_1)) else (some false)) else (some false))) else (some false))) = some r := h
 clear h
 replace H := Option.bind_eq_some_iff.mp H
 obtain ⟨t417, A30, H⟩ := H
 replace H : (if t417 = true then ((spec_l2Good.f k a1_0 a1_1 l1_2).bind fun t418 => (if t418 = true then (if a0_0 = a1_0 then (some (a0_1 == a1_1)) else (some false)) else (some false))) else (some false)) = some r := H
 have A3 := Aside0.mk A30
 clear A30
 by_cases c4 : t417 = true
 ·subst c4
  rw [if_pos rfl] at H
  replace H := Option.bind_eq_some_iff.mp H
  obtain ⟨t418, A50, H⟩ := H
  replace H : (if t418 = true then (if a0_0 = a1_0 then (some (a0_1 == a1_1)) else (some false)) else (some false)) = some r := H
  have A5 := Aside0.mk A50
  clear A50
  by_cases c6 : t418 = true
  ·subst c6
   rw [if_pos rfl] at H
   by_cases c7 : a0_0 = a1_0
   ·rw [if_pos c7] at H
    have c7b0 : (a0_0 == a1_0) = true := beq_iff_eq.mpr c7
    have c7b1 : (a0_0 != a1_0) = false := bne_eq_false_iff_eq.mpr c7
    clear c7
    focus
     exact zendXFnLimitsx12_0
   ·rw [if_neg c7] at H
    have c7b0 : (a0_0 == a1_0) = false := beq_eq_false_iff_ne.mpr c7
    have c7b1 : (a0_0 != a1_0) = true := bne_iff_ne.mpr c7
    focus
     exact zendXFnLimitsx12_0
  ·replace c6 := Bool.eq_false_iff.mpr c6
   subst c6
   rw [if_neg (show ¬ (false = true) by decide)] at H
   focus
    obtain rfl := Option.some.inj H
    go_enter Try.func36, Try.ntmps36
    go_wp2_with (first | ((with_reducible refine gate_dst (N := 2) rfl ?_); refine box_event ?hg (N := 2) ?hd (cs := #[.int .i64 a0_0, .int .i64 a0_1, .slice A0_2 l0_2.length c0_2]) (t := 26) ?hr ?_; (case hd => rfl); (case hg => rfl); (case hr => exact zsx); intro gb415 hg w26 hbox hb; have BK415 := Aside0.mk (hbox); have GW415 := zns hg HB.out; have GE415 := zns hg HB.out; replace HB := Aside0.mk (below_step (zBx HB.out) hb); clear hb hbox hg) | ((with_reducible refine gate_dst (N := 3) rfl ?_); refine box_event ?hg (N := 3) ?hd (cs := #[.int .i64 a1_0, .int .i64 a1_1, .slice A1_2 l1_2.length c1_2]) (t := 26) ?hr ?_; (case hd => rfl); (case hg => rfl); (case hr => exact zsx); intro gb416 hg w27 hbox hb; have BK416 := Aside0.mk (hbox); have GW416 := zns hg HB.out; have GE416 := zns hg HB.out; replace HB := Aside0.mk (below_step (zBy HB.out GE415.out) hb); have NB415_416 := znl hg BK415.out; have NB416_415 := zng hg BK415.out; replace BK415 := zbl BK415.out hb; clear hb hbox hg; have hnb28 := NB415_416.out; have hnc28 := NB416_415.out; have hcz29_0 : w27.cell? ⟨gb415, 0, none⟩ = some (.int .i64 a0_0) := (blk_cell BK415.out 0).trans rfl; have hcz29_1 : w27.cell? ⟨gb415, 1, none⟩ = some (.int .i64 a0_1) := (blk_cell BK415.out 1).trans rfl; have hcz29_2 : w27.cell? ⟨gb415, 2, none⟩ = some (.slice A0_2 l0_2.length c0_2) := (blk_cell BK415.out 2).trans rfl; have hfz29_0 := blk_frozen BK415.out 0; have hfz29_1 := blk_frozen BK415.out 1; have hfz29_2 := blk_frozen BK415.out 2) | ((with_reducible refine gate_callee (f := 57) rfl ?_); refine goesL_ (some 6) rfl rfl Try.func57 (by kernel_rfl) rfl #[.agg #[.int .i64 a0_0, .int .i64 a0_1, .slice A0_2 l0_2.length c0_2]] rfl zlx ?_; (with_reducible refine (spec_l2Good.calls k a0_0 a0_1 _ _ l0_2 true _ ?side1 ?side2 A3.out).mono ?_); (case side1 => exact zCx (Kd.C_below HR0_2.out HB.out)); (case side2 => exact HC0_2.out); rintro e w30 ⟨rfl, hb⟩; refine ⟨_, rfl, ?_⟩; replace BK415 := zbl BK415.out hb; replace BK416 := zbl BK416.out hb; replace HB := Aside0.mk (below_step (zBz HB.out GE415.out GE416.out) hb); (try clear hb); (try clear hb2); (try clear hk); (try clear hi); have hcz31_0 : w30.cell? ⟨gb416, 0, none⟩ = some (.int .i64 a1_0) := (blk_cell BK416.out 0).trans rfl; have hcz31_1 : w30.cell? ⟨gb416, 1, none⟩ = some (.int .i64 a1_1) := (blk_cell BK416.out 1).trans rfl; have hcz31_2 : w30.cell? ⟨gb416, 2, none⟩ = some (.slice A1_2 l1_2.length c1_2) := (blk_cell BK416.out 2).trans rfl; have hfz31_0 := blk_frozen BK416.out 0; have hfz31_1 := blk_frozen BK416.out 1; have hfz31_2 := blk_frozen BK416.out 2) | (go_at_call 57; (with_reducible refine (spec_l2Good.calls k a1_0 a1_1 _ _ l1_2 false _ ?side1 ?side2 A5.out).mono ?_); (case side1 => exact zCx (Kd.C_below HR1_2.out HB.out)); (case side2 => exact HC1_2.out); rintro e w32 ⟨rfl, hb⟩; replace BK415 := zbl BK415.out hb; replace BK416 := zbl BK416.out hb; replace HB := Aside0.mk (below_step (zBz HB.out GE415.out GE416.out) hb); (try clear hb); (try clear hb2); (try clear hk); (try clear hi)))
    go_ret
    exact ⟨by first | rfl | (simp [errW_none, errW_some] <;> rfl) | (simp [*, errW_none, errW_some] <;> rfl), by exact zBz HB.out GE415.out GE416.out⟩
 ·replace c4 := Bool.eq_false_iff.mpr c4
  subst c4
  rw [if_neg (show ¬ (false = true) by decide)] at H
  focus
   obtain rfl := Option.some.inj H
   go_enter Try.func36, Try.ntmps36
   go_wp2_with (first | ((with_reducible refine gate_dst (N := 2) rfl ?_); refine box_event ?hg (N := 2) ?hd (cs := #[.int .i64 a0_0, .int .i64 a0_1, .slice A0_2 l0_2.length c0_2]) (t := 26) ?hr ?_; (case hd => rfl); (case hg => rfl); (case hr => exact zsx); intro gb415 hg w33 hbox hb; have BK415 := Aside0.mk (hbox); have GW415 := zns hg HB.out; have GE415 := zns hg HB.out; replace HB := Aside0.mk (below_step (zBx HB.out) hb); clear hb hbox hg) | ((with_reducible refine gate_dst (N := 3) rfl ?_); refine box_event ?hg (N := 3) ?hd (cs := #[.int .i64 a1_0, .int .i64 a1_1, .slice A1_2 l1_2.length c1_2]) (t := 26) ?hr ?_; (case hd => rfl); (case hg => rfl); (case hr => exact zsx); intro gb416 hg w34 hbox hb; have BK416 := Aside0.mk (hbox); have GW416 := zns hg HB.out; have GE416 := zns hg HB.out; replace HB := Aside0.mk (below_step (zBy HB.out GE415.out) hb); have NB415_416 := znl hg BK415.out; have NB416_415 := zng hg BK415.out; replace BK415 := zbl BK415.out hb; clear hb hbox hg; have hnb35 := NB415_416.out; have hnc35 := NB416_415.out; have hcz36_0 : w34.cell? ⟨gb415, 0, none⟩ = some (.int .i64 a0_0) := (blk_cell BK415.out 0).trans rfl; have hcz36_1 : w34.cell? ⟨gb415, 1, none⟩ = some (.int .i64 a0_1) := (blk_cell BK415.out 1).trans rfl; have hcz36_2 : w34.cell? ⟨gb415, 2, none⟩ = some (.slice A0_2 l0_2.length c0_2) := (blk_cell BK415.out 2).trans rfl; have hfz36_0 := blk_frozen BK415.out 0; have hfz36_1 := blk_frozen BK415.out 1; have hfz36_2 := blk_frozen BK415.out 2) | ((with_reducible refine gate_callee (f := 57) rfl ?_); refine goesL_ (some 6) rfl rfl Try.func57 (by kernel_rfl) rfl #[.agg #[.int .i64 a0_0, .int .i64 a0_1, .slice A0_2 l0_2.length c0_2]] rfl zlx ?_; (with_reducible refine (spec_l2Good.calls k a0_0 a0_1 _ _ l0_2 false _ ?side1 ?side2 A3.out).mono ?_); (case side1 => exact zCx (Kd.C_below HR0_2.out HB.out)); (case side2 => exact HC0_2.out); rintro e w37 ⟨rfl, hb⟩; refine ⟨_, rfl, ?_⟩; replace BK415 := zbl BK415.out hb; replace BK416 := zbl BK416.out hb; replace HB := Aside0.mk (below_step (zBz HB.out GE415.out GE416.out) hb); (try clear hb)))
   go_ret
   exact ⟨by first | rfl | (simp [errW_none, errW_some] <;> rfl) | (simp [*, errW_none, errW_some] <;> rfl), by exact zBz HB.out GE415.out GE416.out⟩

end Go.Proofs.Ytddgbaohepfekaa.XFnLimits
