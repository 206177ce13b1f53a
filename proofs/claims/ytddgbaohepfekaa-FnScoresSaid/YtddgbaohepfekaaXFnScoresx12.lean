-- written by wip/tools/xprint.py (a program of this project) out of the translation
import Derived.Test.YtddgbaohepfekaaXFnScoresx0
import Derived.Test.YtddgbaohepfekaaXFnScoresx3
import Derived.Test.YtddgbaohepfekaaXFnScoresx6
import Derived.Test.YtddgbaohepfekaaXFnScoresx8
import Derived.Test.YtddgbaohepfekaaXFnScoresx11
namespace Go.Proofs.Ytddgbaohepfekaa.XFnScores
open Go.RowKit Go.Proofs.YtddgbaohepfekaaW.PrintWords Go.Proofs.YtddgbaohepfekaaW.PrintLast Go.Proofs.YtddgbaohepfekaaW.PrintMore
attribute [local go_sem] max2_int min2_int max_two min_two max_three min_three max_four min_four   -- for this text's walks alone
set_option linter.unusedVariables false
set_option linter.unusedSimpArgs false

/-! ### impl_MotionError: function 9 -/
def impl_MotionError.f (k : Nat) (a0_0 : Int) (a0_1 : Int) (l0_2 : List Int) (a1_0 : Int) (a1_1 : Int) (l1_2 : List Int) : Option (Int × Int × Bool) := (impl_areAlike.f k (([(⟨a0_0, a0_1, l0_2⟩ : S26), (⟨a1_0, a1_1, l1_2⟩ : S26)] : List (S26)))).bind fun t330 => (if t330 = true then ((impl_differences.f k a0_0 a0_1 l0_2 a1_0 a1_1 l1_2).bind fun bt331 => (some (bt331.1, bt331.2, true))) else (some (0, 0, false)))
theorem impl_MotionError.mono : ∀ a0 a1 a2 a3 a4 a5 k, LeO (impl_MotionError.f k a0 a1 a2 a3 a4 a5) (impl_MotionError.f (k + 1) a0 a1 a2 a3 a4 a5) := by
 intro a0 a1 a2 a3 a4 a5 k
 unfold impl_MotionError.f
 repeat' first
  | (with_reducible exact impl_areAlike.mono _ _)
  | (with_reducible exact impl_differences.mono _ _ _ _ _ _ _)
  | (with_reducible exact LeO.refl _)
  | (with_reducible exact LeO.none _)
  | (with_reducible refine LeO.ite ?_ ?_)
  | (with_reducible refine LeO.bind ?_ (fun _ => ?_))
  | exact impl_areAlike.mono _ _
  | exact impl_differences.mono _ _ _ _ _ _ _
  | exact LeO.none _
  | refine LeO.ite ?_ ?_
  | refine LeO.bind ?_ (fun _ => ?_)
set_option maxHeartbeats 8000000 in
set_option maxRecDepth 100000 in
theorem impl_MotionError.calls (k : Nat) (a0_0 : Int) (a0_1 : Int) (P0_2_ : Nat → Prop) (A0_2 : Option Addr) (c0_2 : Nat) (l0_2 : List Int) (a1_0 : Int) (a1_1 : Int) (P1_2_ : Nat → Prop) (A1_2 : Option Addr) (c1_2 : Nat) (l1_2 : List Int) (r1 : Int) (r2 : Int) (r3 : Bool) (w : World) (hs0_2 : Kd.V (Kd.int .i64) 3 w w.heap.size (fun k_ => P0_2_ k_) (.slice A0_2 l0_2.length c0_2) l0_2) (hs1_2 : Kd.V (Kd.int .i64) 3 w w.heap.size (fun k_ => P1_2_ k_) (.slice A1_2 l1_2.length c1_2) l1_2) (h : impl_MotionError.f k a0_0 a0_1 l0_2 a1_0 a1_1 l1_2 = some (r1, r2, r3)) :
 Calls Try.prog 9 #[.agg #[.int .i64 a0_0, .int .i64 a0_1, .slice A0_2 l0_2.length c0_2], .agg #[.int .i64 a1_0, .int .i64 a1_1, .slice A1_2 l1_2.length c1_2]] w fun e w' => e = .returned (.tuple #[.int .i64 r1, .int .i64 r2, .bool r3]) ∧ Below w.heap.size w w' := by
 have hu26 := Try.underlying26
 have HO0_2 := Aside0.mk (show Kd.V (Kd.int .i64) 3 w w.heap.size (fun k_ => ((P0_2_ k_ ∨ P1_2_ k_) ∨ w.heap.size ≤ k_)) (.slice A0_2 l0_2.length c0_2) l0_2 from Kd.V_mono hs0_2 (fun k_ hk => .inl (.inl hk)))
 have HO1_2 := Aside0.mk (show Kd.V (Kd.int .i64) 3 w w.heap.size (fun k_ => ((P0_2_ k_ ∨ P1_2_ k_) ∨ w.heap.size ≤ k_)) (.slice A1_2 l1_2.length c1_2) l1_2 from Kd.V_mono hs1_2 (fun k_ hk => .inl (.inr hk)))
 have HB := Aside0.mk (Below.refl w.heap.size w)
 have H : ((impl_areAlike.f k (([(⟨a0_0, a0_1, l0_2⟩ : S26), (⟨a1_0, a1_1, l1_2⟩ : S26)] : List (S26)))).bind fun t330 => (if t330 = true then ((impl_differences.f k a0_0 a0_1 l0_2 a1_0 a1_1 l1_2).bind fun bt331 => (some (bt331.1, bt331.2, true))) else (some (0, 0, false)))) = some (r1, r2, r3) := h
 clear h
 obtain ⟨y327, hy327⟩ : ∃ y_ : List (S26), y_ = (([(⟨a0_0, a0_1, l0_2⟩ : S26), (⟨a1_0, a1_1, l1_2⟩ : S26)] : List (S26))) := ⟨_, rfl⟩
 replace H : ((impl_areAlike.f k y327).bind fun t330 => (if t330 = true then ((impl_differences.f k a0_0 a0_1 l0_2 a1_0 a1_1 l1_2).bind fun bt331 => (some (bt331.1, bt331.2, true))) else (some (0, 0, false)))) = some (r1, r2, r3) := by first | (rw [hy327]; with_reducible exact H) | (have H2_ := (Option.bind_some _ _).symm.trans H; rw [hy327]; with_reducible exact H2_) | (have H2_ := (Option.bind_some _ _).symm.trans H; with_reducible exact H2_) | with_reducible exact H | (rw [hy327]; exact H) | exact H
 have Ny327 := Aside0.mk hy327
 clear hy327
 replace H := Option.bind_eq_some_iff.mp H
 obtain ⟨t330, A30, H⟩ := H
 replace H : (if t330 = true then ((impl_differences.f k a0_0 a0_1 l0_2 a1_0 a1_1 l1_2).bind fun bt331 => (some (bt331.1, bt331.2, true))) else (some (0, 0, false))) = some (r1, r2, r3) := H
 have A3 := Aside0.mk A30
 clear A30
 by_cases c4 : t330 = true
 ·subst c4
  have H1 : ((impl_differences.f k a0_0 a0_1 l0_2 a1_0 a1_1 l1_2).bind fun bt331 => (some (bt331.1, bt331.2, true))) = some (r1, r2, r3) := by rw [if_pos rfl] at H; exact H
  clear H
  have H := H1
  clear H1
  replace H := Option.bind_eq_some_iff.mp H
  obtain ⟨⟨t331, t332⟩, A50, H⟩ := H
  replace H : (some (t331, t332, true)) = some (r1, r2, r3) := H
  have A5 := Aside0.mk A50
  clear A50
  focus
   simp only [Option.some.injEq, Prod.mk.injEq] at H
   obtain ⟨rfl, rfl, rfl⟩ := H
   go_enter Try.func9, Try.ntmps9
   go_wp2_with (first | ((with_reducible refine gate_dst (N := 2) rfl ?_); refine box_event ?hg (N := 2) ?hd (cs := #[.int .i64 a0_0, .int .i64 a0_1, .slice A0_2 l0_2.length c0_2]) (t := 26) ?hr ?_; (case hd => rfl); (case hg => rfl); (case hr => exact zsx); intro gb325 hg w6 hbox hb; replace HO0_2 := Aside0.mk (Kd.V_below (Kd.V_elderB (by refine zDV ?_; exact HO0_2.out) gb325 (Nat.le_of_eq hg.symm)) hb); replace HO1_2 := Aside0.mk (Kd.V_below (Kd.V_elderB (by refine zDV ?_; exact HO1_2.out) gb325 (Nat.le_of_eq hg.symm)) hb); have BK325 := Aside0.mk (hbox); have GW325 := zns hg HB.out; have GE325 := zns hg HB.out; replace HB := Aside0.mk (below_step (zBx HB.out) hb); clear hb hbox hg) | ((with_reducible refine gate_dst (N := 3) rfl ?_); refine box_event ?hg (N := 3) ?hd (cs := #[.int .i64 a1_0, .int .i64 a1_1, .slice A1_2 l1_2.length c1_2]) (t := 26) ?hr ?_; (case hd => rfl); (case hg => rfl); (case hr => exact zsx); intro gb326 hg w7 hbox hb; replace HO0_2 := Aside0.mk (Kd.V_below (Kd.V_elderB (by refine zDV ?_; exact HO0_2.out) gb326 (Nat.le_of_eq hg.symm)) hb); replace HO1_2 := Aside0.mk (Kd.V_below (Kd.V_elderB (by refine zDV ?_; exact HO1_2.out) gb326 (Nat.le_of_eq hg.symm)) hb); have BK326 := Aside0.mk (hbox); have GW326 := zns hg HB.out; have GE326 := zns hg HB.out; replace HB := Aside0.mk (below_step (zBy HB.out GE325.out) hb); have NB325_326 := znl hg BK325.out; have NB326_325 := zng hg BK325.out; replace BK325 := zbl BK325.out hb; clear hb hbox hg; have hnb8 := NB325_326.out; have hnc8 := NB326_325.out; have hcz9_0 : w7.cell? ⟨gb325, 0, none⟩ = some (.int .i64 a0_0) := (blk_cell BK325.out 0).trans rfl; have hcz9_1 : w7.cell? ⟨gb325, 1, none⟩ = some (.int .i64 a0_1) := (blk_cell BK325.out 1).trans rfl; have hcz9_2 : w7.cell? ⟨gb325, 2, none⟩ = some (.slice A0_2 l0_2.length c0_2) := (blk_cell BK325.out 2).trans rfl; have hfz9_0 := blk_frozen BK325.out 0; have hfz9_1 := blk_frozen BK325.out 1; have hfz9_2 := blk_frozen BK325.out 2; have hcz10_0 : w7.cell? ⟨gb326, 0, none⟩ = some (.int .i64 a1_0) := (blk_cell BK326.out 0).trans rfl; have hcz10_1 : w7.cell? ⟨gb326, 1, none⟩ = some (.int .i64 a1_1) := (blk_cell BK326.out 1).trans rfl; have hcz10_2 : w7.cell? ⟨gb326, 2, none⟩ = some (.slice A1_2 l1_2.length c1_2) := (blk_cell BK326.out 2).trans rfl; have hfz10_0 := blk_frozen BK326.out 0; have hfz10_1 := blk_frozen BK326.out 1; have hfz10_2 := blk_frozen BK326.out 2) | ((with_reducible refine gate_dst (N := 11) rfl ?_); refine Kd.N_lit k26 _ 26 ?hg (N' := 11) ?hd (xs := ([(⟨a0_0, a0_1, l0_2⟩ : S26), (⟨a1_0, a1_1, l1_2⟩ : S26)] : List (S26))) (inner := [.int .i64 a0_0, .int .i64 a0_1, .slice A0_2 l0_2.length c0_2, .int .i64 a1_0, .int .i64 a1_1, .slice A1_2 l1_2.length c1_2]) (ok := (fun k_ => ((P0_2_ k_ ∨ P1_2_ k_) ∨ w.heap.size ≤ k_) ∧ k_ ≠ gb325 ∧ k_ ≠ gb326)) (okp := (fun k_ => ((P0_2_ k_ ∨ P1_2_ k_) ∨ w.heap.size ≤ k_) ∧ k_ ≠ gb325 ∧ k_ ≠ gb326)) ?hr ?hp (fun _ hk => hk) ((show ∀ k_, w7.heap.size ≤ k_ → (fun k_ => ((P0_2_ k_ ∨ P1_2_ k_) ∨ w.heap.size ≤ k_) ∧ k_ ≠ gb325 ∧ k_ ≠ gb326) k_ from fun k_ hk => ⟨(.inr (Nat.le_trans (below_size (zBz HB.out GE325.out GE326.out)) hk)), Kd.freshB (g := gb325) (o := .cells #[.int .i64 a0_0, .int .i64 a0_1, .slice A0_2 l0_2.length c0_2] 26 (0, 0)) (zbx BK325.out) k_ hk, Kd.freshB (g := gb326) (o := .cells #[.int .i64 a1_0, .int .i64 a1_1, .slice A1_2 l1_2.length c1_2] 26 (0, 0)) (zbx BK326.out) k_ hk⟩) _ (Nat.le_refl _)) (Below.refl _ _) (Nat.le_refl _) (by simp) ?_; (case hd => rfl); (case hg => rfl); (case hr => exact zsx); (case hp => exact (Reps.c3 (show Kd.FK k26 _ _ (⟨a0_0, a0_1, l0_2⟩ : S26) [.int .i64 a0_0, .int .i64 a0_1, .slice A0_2 l0_2.length c0_2] from (k26_mkF _ _ (⟨a0_0, a0_1, l0_2⟩ : S26) (Kd.V_reads' (Kd.V_mono (ok' := (fun k_ => ((P0_2_ k_ ∨ P1_2_ k_) ∨ w.heap.size ≤ k_) ∧ k_ ≠ gb325 ∧ k_ ≠ gb326)) (HO0_2.out) (fun k_ hk => ⟨hk.1.1, ⟨hk.1.2, hk.2⟩⟩))).2.1 (Kd.V_F (Kd.V_mono (ok' := (fun k_ => ((P0_2_ k_ ∨ P1_2_ k_) ∨ w.heap.size ≤ k_) ∧ k_ ≠ gb325 ∧ k_ ≠ gb326)) (HO0_2.out) (fun k_ hk => ⟨hk.1.1, ⟨hk.1.2, hk.2⟩⟩))))) (Reps.c3 (show Kd.FK k26 _ _ (⟨a1_0, a1_1, l1_2⟩ : S26) [.int .i64 a1_0, .int .i64 a1_1, .slice A1_2 l1_2.length c1_2] from (k26_mkF _ _ (⟨a1_0, a1_1, l1_2⟩ : S26) (Kd.V_reads' (Kd.V_mono (ok' := (fun k_ => ((P0_2_ k_ ∨ P1_2_ k_) ∨ w.heap.size ≤ k_) ∧ k_ ≠ gb325 ∧ k_ ≠ gb326)) (HO1_2.out) (fun k_ hk => ⟨hk.1.1, ⟨hk.1.2, hk.2⟩⟩))).2.1 (Kd.V_F (Kd.V_mono (ok' := (fun k_ => ((P0_2_ k_ ∨ P1_2_ k_) ∨ w.heap.size ≤ k_) ∧ k_ ≠ gb325 ∧ k_ ≠ gb326)) (HO1_2.out) (fun k_ hk => ⟨hk.1.1, ⟨hk.1.2, hk.2⟩⟩))))) (Reps.none _ _)))); intro v328 w11 ho12 hb hg_ hnew_; clear hg_ hnew_; (first | rw [← Ny327.out] at ho12 | (simp only [Int.reduceToNat] at ho12; rw [← Ny327.out] at ho12)); replace HO0_2 := Aside0.mk (Kd.V_elder' (by refine zDV ?_; exact HO0_2.out) (Kd.N_base ho12) hb); replace HO1_2 := Aside0.mk (Kd.V_elder' (by refine zDV ?_; exact HO1_2.out) (Kd.N_base ho12) hb); have HO329 := Aside0.mk (Kd.N_lower ho12 (below_size (zBz HB.out GE325.out GE326.out))); replace BK325 := zbl BK325.out hb; replace BK326 := zbl BK326.out hb; replace HB := Aside0.mk (below_step (zBz HB.out GE325.out GE326.out) hb); clear hb ho12; obtain ⟨Ao13, co13, eo13⟩ := Kd.N_slice HO329.out; subst eo13) | ((with_reducible refine gate_callee (f := 34) rfl ?_); refine goesL_ (some 12) rfl rfl Try.func34 (by kernel_rfl) rfl #[.slice Ao13 y327.length co13] rfl zlx ?_; (with_reducible refine (impl_areAlike.calls k _ _ y327 true _ ?side1 ?side2 A3.out).mono ?_); (case side1 => repeat (first | exact (Kd.N_reads' HO329.out).2.2 | (with_reducible refine Kd.C_alloc ?_ _) | (with_reducible refine Kd.C_drewN ?_ _) | (with_reducible refine Kd.C_drew ?_))); (case side2 => exact (Kd.N_reads' HO329.out).2.1); rintro e w14 ⟨rfl, hb⟩; refine ⟨_, rfl, ?_⟩; replace HO0_2 := Aside0.mk (Kd.V_below (by refine zDV ?_; exact HO0_2.out) hb); replace HO1_2 := Aside0.mk (Kd.V_below (by refine zDV ?_; exact HO1_2.out) hb); replace HO329 := Aside0.mk (Kd.N_below (by (with_reducible repeat (first | apply Kd.N_alloc | apply Kd.N_drewN | apply Kd.N_drew)); exact HO329.out) hb); replace BK325 := zbl BK325.out hb; replace BK326 := zbl BK326.out hb; replace HB := Aside0.mk (below_step (zBz HB.out GE325.out GE326.out) hb); (try clear hb); (try clear hb2); (try clear hk); (try clear hi); have hcz15_0 : w14.cell? ⟨gb325, 0, none⟩ = some (.int .i64 a0_0) := (blk_cell BK325.out 0).trans rfl; have hcz15_1 : w14.cell? ⟨gb325, 1, none⟩ = some (.int .i64 a0_1) := (blk_cell BK325.out 1).trans rfl; have hcz15_2 : w14.cell? ⟨gb325, 2, none⟩ = some (.slice A0_2 l0_2.length c0_2) := (blk_cell BK325.out 2).trans rfl; have hfz15_0 := blk_frozen BK325.out 0; have hfz15_1 := blk_frozen BK325.out 1; have hfz15_2 := blk_frozen BK325.out 2; have hcz16_0 : w14.cell? ⟨gb326, 0, none⟩ = some (.int .i64 a1_0) := (blk_cell BK326.out 0).trans rfl; have hcz16_1 : w14.cell? ⟨gb326, 1, none⟩ = some (.int .i64 a1_1) := (blk_cell BK326.out 1).trans rfl; have hcz16_2 : w14.cell? ⟨gb326, 2, none⟩ = some (.slice A1_2 l1_2.length c1_2) := (blk_cell BK326.out 2).trans rfl; have hfz16_0 := blk_frozen BK326.out 0; have hfz16_1 := blk_frozen BK326.out 1; have hfz16_2 := blk_frozen BK326.out 2) | ((with_reducible refine gate_callee (f := 38) rfl ?_); refine goesL_ (some 17) rfl rfl Try.func38 (by kernel_rfl) rfl #[.agg #[.int .i64 a0_0, .int .i64 a0_1, .slice A0_2 l0_2.length c0_2], .agg #[.int .i64 a1_0, .int .i64 a1_1, .slice A1_2 l1_2.length c1_2]] rfl zlx ?_; (with_reducible refine (impl_differences.calls k a0_0 a0_1 _ _ l0_2 a1_0 a1_1 _ _ l1_2 t331 t332 _ ?side1 ?side2 ?side3 ?side4 A5.out).mono ?_); (case side1 => repeat (first | exact (Kd.V_reads' HO0_2.out).2.2 | (with_reducible refine Kd.C_alloc ?_ _) | (with_reducible refine Kd.C_drewN ?_ _) | (with_reducible refine Kd.C_drew ?_))); (case side2 => exact (Kd.V_reads' HO0_2.out).2.1); (case side3 => repeat (first | exact (Kd.V_reads' HO1_2.out).2.2 | (with_reducible refine Kd.C_alloc ?_ _) | (with_reducible refine Kd.C_drewN ?_ _) | (with_reducible refine Kd.C_drew ?_))); (case side4 => exact (Kd.V_reads' HO1_2.out).2.1); rintro e w17 ⟨rfl, hb⟩; refine ⟨_, rfl, ?_⟩; replace HO0_2 := Aside0.mk (Kd.V_below (by refine zDV ?_; exact HO0_2.out) hb); replace HO1_2 := Aside0.mk (Kd.V_below (by refine zDV ?_; exact HO1_2.out) hb); replace HO329 := Aside0.mk (Kd.N_below (by (with_reducible repeat (first | apply Kd.N_alloc | apply Kd.N_drewN | apply Kd.N_drew)); exact HO329.out) hb); replace BK325 := zbl BK325.out hb; replace BK326 := zbl BK326.out hb; replace HB := Aside0.mk (below_step (zBz HB.out GE325.out GE326.out) hb); (try clear hb); (try clear hb2); (try clear hk); (try clear hi)))
   go_ret3
   exact ⟨by first | rfl | (simp [errW_none, errW_some] <;> rfl) | (simp [*, errW_none, errW_some] <;> rfl), by exact zBz HB.out GE325.out GE326.out⟩
 ·replace c4 := Bool.eq_false_iff.mpr c4
  subst c4
  have H1 : (some (0, 0, false)) = some (r1, r2, r3) := by rw [if_neg (show ¬ (false = true) by decide)] at H; exact H
  clear H
  have H := H1
  clear H1
  focus
   simp only [Option.some.injEq, Prod.mk.injEq] at H
   obtain ⟨rfl, rfl, rfl⟩ := H
   go_enter Try.func9, Try.ntmps9
   go_wp2_with (first | ((with_reducible refine gate_dst (N := 2) rfl ?_); refine box_event ?hg (N := 2) ?hd (cs := #[.int .i64 a0_0, .int .i64 a0_1, .slice A0_2 l0_2.length c0_2]) (t := 26) ?hr ?_; (case hd => rfl); (case hg => rfl); (case hr => exact zsx); intro gb325 hg w18 hbox hb; replace HO0_2 := Aside0.mk (Kd.V_below (Kd.V_elderB (by refine zDV ?_; exact HO0_2.out) gb325 (Nat.le_of_eq hg.symm)) hb); replace HO1_2 := Aside0.mk (Kd.V_below (Kd.V_elderB (by refine zDV ?_; exact HO1_2.out) gb325 (Nat.le_of_eq hg.symm)) hb); have BK325 := Aside0.mk (hbox); have GW325 := zns hg HB.out; have GE325 := zns hg HB.out; replace HB := Aside0.mk (below_step (zBx HB.out) hb); clear hb hbox hg) | ((with_reducible refine gate_dst (N := 3) rfl ?_); refine box_event ?hg (N := 3) ?hd (cs := #[.int .i64 a1_0, .int .i64 a1_1, .slice A1_2 l1_2.length c1_2]) (t := 26) ?hr ?_; (case hd => rfl); (case hg => rfl); (case hr => exact zsx); intro gb326 hg w19 hbox hb; replace HO0_2 := Aside0.mk (Kd.V_below (Kd.V_elderB (by refine zDV ?_; exact HO0_2.out) gb326 (Nat.le_of_eq hg.symm)) hb); replace HO1_2 := Aside0.mk (Kd.V_below (Kd.V_elderB (by refine zDV ?_; exact HO1_2.out) gb326 (Nat.le_of_eq hg.symm)) hb); have BK326 := Aside0.mk (hbox); have GW326 := zns hg HB.out; have GE326 := zns hg HB.out; replace HB := Aside0.mk (below_step (zBy HB.out GE325.out) hb); have NB325_326 := znl hg BK325.out; have NB326_325 := zng hg BK325.out; replace BK325 := zbl BK325.out hb; clear hb hbox hg; have hnb20 := NB325_326.out; have hnc20 := NB326_325.out; have hcz21_0 : w19.cell? ⟨gb325, 0, none⟩ = some (.int .i64 a0_0) := (blk_cell BK325.out 0).trans rfl; have hcz21_1 : w19.cell? ⟨gb325, 1, none⟩ = some (.int .i64 a0_1) := (blk_cell BK325.out 1).trans rfl; have hcz21_2 : w19.cell? ⟨gb325, 2, none⟩ = some (.slice A0_2 l0_2.length c0_2) := (blk_cell BK325.out 2).trans rfl; have hfz21_0 := blk_frozen BK325.out 0; have hfz21_1 := blk_frozen BK325.out 1; have hfz21_2 := blk_frozen BK325.out 2; have hcz22_0 : w19.cell? ⟨gb326, 0, none⟩ = some (.int .i64 a1_0) := (blk_cell BK326.out 0).trans rfl; have hcz22_1 : w19.cell? ⟨gb326, 1, none⟩ = some (.int .i64 a1_1) := (blk_cell BK326.out 1).trans rfl; have hcz22_2 : w19.cell? ⟨gb326, 2, none⟩ = some (.slice A1_2 l1_2.length c1_2) := (blk_cell BK326.out 2).trans rfl; have hfz22_0 := blk_frozen BK326.out 0; have hfz22_1 := blk_frozen BK326.out 1; have hfz22_2 := blk_frozen BK326.out 2) | ((with_reducible refine gate_dst (N := 11) rfl ?_); refine Kd.N_lit k26 _ 26 ?hg (N' := 11) ?hd (xs := ([(⟨a0_0, a0_1, l0_2⟩ : S26), (⟨a1_0, a1_1, l1_2⟩ : S26)] : List (S26))) (inner := [.int .i64 a0_0, .int .i64 a0_1, .slice A0_2 l0_2.length c0_2, .int .i64 a1_0, .int .i64 a1_1, .slice A1_2 l1_2.length c1_2]) (ok := (fun k_ => ((P0_2_ k_ ∨ P1_2_ k_) ∨ w.heap.size ≤ k_) ∧ k_ ≠ gb325 ∧ k_ ≠ gb326)) (okp := (fun k_ => ((P0_2_ k_ ∨ P1_2_ k_) ∨ w.heap.size ≤ k_) ∧ k_ ≠ gb325 ∧ k_ ≠ gb326)) ?hr ?hp (fun _ hk => hk) ((show ∀ k_, w19.heap.size ≤ k_ → (fun k_ => ((P0_2_ k_ ∨ P1_2_ k_) ∨ w.heap.size ≤ k_) ∧ k_ ≠ gb325 ∧ k_ ≠ gb326) k_ from fun k_ hk => ⟨(.inr (Nat.le_trans (below_size (zBz HB.out GE325.out GE326.out)) hk)), Kd.freshB (g := gb325) (o := .cells #[.int .i64 a0_0, .int .i64 a0_1, .slice A0_2 l0_2.length c0_2] 26 (0, 0)) (zbx BK325.out) k_ hk, Kd.freshB (g := gb326) (o := .cells #[.int .i64 a1_0, .int .i64 a1_1, .slice A1_2 l1_2.length c1_2] 26 (0, 0)) (zbx BK326.out) k_ hk⟩) _ (Nat.le_refl _)) (Below.refl _ _) (Nat.le_refl _) (by simp) ?_; (case hd => rfl); (case hg => rfl); (case hr => exact zsx); (case hp => exact (Reps.c3 (show Kd.FK k26 _ _ (⟨a0_0, a0_1, l0_2⟩ : S26) [.int .i64 a0_0, .int .i64 a0_1, .slice A0_2 l0_2.length c0_2] from (k26_mkF _ _ (⟨a0_0, a0_1, l0_2⟩ : S26) (Kd.V_reads' (Kd.V_mono (ok' := (fun k_ => ((P0_2_ k_ ∨ P1_2_ k_) ∨ w.heap.size ≤ k_) ∧ k_ ≠ gb325 ∧ k_ ≠ gb326)) (HO0_2.out) (fun k_ hk => ⟨hk.1.1, ⟨hk.1.2, hk.2⟩⟩))).2.1 (Kd.V_F (Kd.V_mono (ok' := (fun k_ => ((P0_2_ k_ ∨ P1_2_ k_) ∨ w.heap.size ≤ k_) ∧ k_ ≠ gb325 ∧ k_ ≠ gb326)) (HO0_2.out) (fun k_ hk => ⟨hk.1.1, ⟨hk.1.2, hk.2⟩⟩))))) (Reps.c3 (show Kd.FK k26 _ _ (⟨a1_0, a1_1, l1_2⟩ : S26) [.int .i64 a1_0, .int .i64 a1_1, .slice A1_2 l1_2.length c1_2] from (k26_mkF _ _ (⟨a1_0, a1_1, l1_2⟩ : S26) (Kd.V_reads' (Kd.V_mono (ok' := (fun k_ => ((P0_2_ k_ ∨ P1_2_ k_) ∨ w.heap.size ≤ k_) ∧ k_ ≠ gb325 ∧ k_ ≠ gb326)) (HO1_2.out) (fun k_ hk => ⟨hk.1.1, ⟨hk.1.2, hk.2⟩⟩))).2.1 (Kd.V_F (Kd.V_mono (ok' := (fun k_ => ((P0_2_ k_ ∨ P1_2_ k_) ∨ w.heap.size ≤ k_) ∧ k_ ≠ gb325 ∧ k_ ≠ gb326)) (HO1_2.out) (fun k_ hk => ⟨hk.1.1, ⟨hk.1.2, hk.2⟩⟩))))) (Reps.none _ _)))); intro v328 w23 ho24 hb hg_ hnew_; clear hg_ hnew_; (first | rw [← Ny327.out] at ho24 | (simp only [Int.reduceToNat] at ho24; rw [← Ny327.out] at ho24)); replace HO0_2 := Aside0.mk (Kd.V_elder' (by refine zDV ?_; exact HO0_2.out) (Kd.N_base ho24) hb); replace HO1_2 := Aside0.mk (Kd.V_elder' (by refine zDV ?_; exact HO1_2.out) (Kd.N_base ho24) hb); have HO329 := Aside0.mk (Kd.N_lower ho24 (below_size (zBz HB.out GE325.out GE326.out))); replace BK325 := zbl BK325.out hb; replace BK326 := zbl BK326.out hb; replace HB := Aside0.mk (below_step (zBz HB.out GE325.out GE326.out) hb); clear hb ho24; obtain ⟨Ao25, co25, eo25⟩ := Kd.N_slice HO329.out; subst eo25) | ((with_reducible refine gate_callee (f := 34) rfl ?_); refine goesL_ (some 12) rfl rfl Try.func34 (by kernel_rfl) rfl #[.slice Ao25 y327.length co25] rfl zlx ?_; (with_reducible refine (impl_areAlike.calls k _ _ y327 false _ ?side1 ?side2 A3.out).mono ?_); (case side1 => repeat (first | exact (Kd.N_reads' HO329.out).2.2 | (with_reducible refine Kd.C_alloc ?_ _) | (with_reducible refine Kd.C_drewN ?_ _) | (with_reducible refine Kd.C_drew ?_))); (case side2 => exact (Kd.N_reads' HO329.out).2.1); rintro e w26 ⟨rfl, hb⟩; refine ⟨_, rfl, ?_⟩; replace HO0_2 := Aside0.mk (Kd.V_below (by refine zDV ?_; exact HO0_2.out) hb); replace HO1_2 := Aside0.mk (Kd.V_below (by refine zDV ?_; exact HO1_2.out) hb); replace HO329 := Aside0.mk (Kd.N_below (by (with_reducible repeat (first | apply Kd.N_alloc | apply Kd.N_drewN | apply Kd.N_drew)); exact HO329.out) hb); replace BK325 := zbl BK325.out hb; replace BK326 := zbl BK326.out hb; replace HB := Aside0.mk (below_step (zBz HB.out GE325.out GE326.out) hb); (try clear hb); (try clear hb2); (try clear hk); (try clear hi)))
   go_ret3
   exact ⟨by first | rfl | (simp [errW_none, errW_some] <;> rfl) | (simp [*, errW_none, errW_some] <;> rfl), by exact zBz HB.out GE325.out GE326.out⟩

/-! ### spec_l1Cur_table: function 49 -/
def spec_l1Cur_table.f (s0_0 : List Int) (s0_1 : Int) (s0_2 : Int) : Option (Int × Int × Int × Int × Int × Int) := (spec_l1Cur_pick.f s0_0 s0_1 s0_2 12).bind fun bt334 => ((spec_l1Cur_pick.f s0_0 bt334.2.1 bt334.2.2 8).bind fun bt337 => ((spec_l1Cur_pick.f s0_0 bt337.2.1 bt337.2.2 8).bind fun bt340 => ((spec_l1Cur_pick.f s0_0 bt340.2.1 bt340.2.2 40).bind fun bt343 => ((spec_l1Cur_pick.f s0_0 bt343.2.1 bt343.2.2 16).bind fun bt347 => (if bt347.1 = 0 then ((spec_l1Cur_among.f s0_0 bt347.2.1 bt347.2.2 (([0, 1000000, 1000001, (-1)] : List Int))).bind fun bt353 => (some (bt353.1, bt337.1, bt340.1, bt343.1, bt353.2.1, bt353.2.2))) else (if bt347.1 = 1 then (some (bt334.1, 0, 0, bt343.1, bt347.2.1, bt347.2.2)) else (if bt347.1 = 2 then ((spec_l1Cur_among.f s0_0 bt347.2.1 bt347.2.2 (([0, 5, 1000000] : List Int))).bind fun bt359 => (some (0, 0, 0, bt359.1, bt359.2.1, bt359.2.2))) else (some (bt334.1, bt337.1, bt340.1, bt343.1, bt347.2.1, bt347.2.2)))))))))
set_option maxHeartbeats 8000000 in
set_option maxRecDepth 100000 in
theorem spec_l1Cur_table.calls (g : Nat) (s0_0 : List Int) (s0_1 : Int) (s0_2 : Int) (r1 : Int) (r2 : Int) (r3 : Int) (r4 : Int) (r5 : Int) (r6 : Int) (w0 w : World) (hI : IsS51 w0 w g s0_0 s0_1 s0_2) (hB : Below w0.heap.size w0 w) (h : spec_l1Cur_table.f s0_0 s0_1 s0_2 = some (r1, r2, r3, r4, r5, r6)) :
 Calls Try.prog 49 #[.pointer (some ⟨g, 0, none⟩)] w fun e w' => e = .returned (.agg #[.int .i64 r1, .int .i64 r2, .int .i64 r3, .int .i64 r4]) ∧ IsS51 w0 w' g s0_0 r5 r6 ∧ Below w0.heap.size w0 w' ∧ KeepBut w w' g none := by
 have hu30 := Try.underlying30
 have HI0 := Aside0.mk hI
 have HK := Aside0.mk (KeepBut.refl w g none)
 have HL := Aside0.mk hB.size
 clear hI
 have HW0 := Aside0.mk hB.size
 have HB := Aside0.mk hB
 clear hB
 have H : ((spec_l1Cur_pick.f s0_0 s0_1 s0_2 12).bind fun bt334 => ((spec_l1Cur_pick.f s0_0 bt334.2.1 bt334.2.2 8).bind fun bt337 => ((spec_l1Cur_pick.f s0_0 bt337.2.1 bt337.2.2 8).bind fun bt340 => ((spec_l1Cur_pick.f s0_0 bt340.2.1 bt340.2.2 40).bind fun bt343 => ((spec_l1Cur_pick.f s0_0 bt343.2.1 bt343.2.2 16).bind fun bt347 => (if bt347.1 = 0 then ((spec_l1Cur_among.f s0_0 bt347.2.1 bt347.2.2 (([0, 1000000, 1000001, (-1)] : List Int))).bind fun bt353 => (some (bt353.1, bt337.1, bt340.1, bt343.1, bt353.2.1, bt353.2.2))) else (if bt347.1 = 1 then (some (bt334.1, 0, 0, bt343.1, bt347.2.1, bt347.2.2)) else (if bt347.1 = 2 then ((spec_l1Cur_among.f s0_0 bt347.2.1 bt347.2.2 (([0, 5, 1000000] : List Int))).bind fun bt359 => (some (0, 0, 0, bt359.1, bt359.2.1, bt359.2.2))) else (some (bt334.1, bt337.1, bt340.1, bt343.1, bt347.2.1, bt347.2.2)))))))))) = some (r1, r2, r3, r4, r5, r6) := h
 clear h
 replace H := Option.bind_eq_some_iff.mp H
 obtain ⟨⟨t334, t335, t336⟩, A20, H⟩ := H
 replace H : ((spec_l1Cur_pick.f s0_0 t335 t336 8).bind fun bt337 => ((spec_l1Cur_pick.f s0_0 bt337.2.1 bt337.2.2 8).bind fun bt340 => ((spec_l1Cur_pick.f s0_0 bt340.2.1 bt340.2.2 40).bind fun bt343 => ((spec_l1Cur_pick.f s0_0 bt343.2.1 bt343.2.2 16).bind fun bt347 => (if bt347.1 = 0 then ((spec_l1Cur_among.f s0_0 bt347.2.1 bt347.2.2 (([0, 1000000, 1000001, (-1)] : List Int))).bind fun bt353 => (some (bt353.1, bt337.1, bt340.1, bt343.1, bt353.2.1, bt353.2.2))) else (if bt347.1 = 1 then (some (t334, 0, 0, bt343.1, bt347.2.1, bt347.2.2)) else (if bt347.1 = 2 then ((spec_l1Cur_among.f s0_0 bt347.2.1 bt347.2.2 (([0, 5, 1000000] : List Int))).bind fun bt359 => (some (0, 0, 0, bt359.1, bt359.2.1, bt359.2.2))) else (some (t334, bt337.1, bt340.1, bt343.1, bt347.2.1, bt347.2.2))))))))) = some (r1, r2, r3, r4, r5, r6) := H
 have A2 := Aside0.mk A20
 clear A20
 replace H := Option.bind_eq_some_iff.mp H
 obtain ⟨⟨t337, t338, t339⟩, A30, H⟩ := H
 replace H : ((spec_l1Cur_pick.f s0_0 t338 t339 8).bind fun bt340 => ((spec_l1Cur_pick.f s0_0 bt340.2.1 bt340.2.2 40).bind fun bt343 => ((spec_l1Cur_pick.f s0_0 bt343.2.1 bt343.2.2 16).bind fun bt347 => (if bt347.1 = 0 then ((spec_l1Cur_among.f s0_0 bt347.2.1 bt347.2.2 (([0, 1000000, 1000001, (-1)] : List Int))).bind fun bt353 => (some (bt353.1, t337, bt340.1, bt343.1, bt353.2.1, bt353.2.2))) else (if bt347.1 = 1 then (some (t334, 0, 0, bt343.1, bt347.2.1, bt347.2.2)) else (if bt347.1 = 2 then ((spec_l1Cur_among.f s0_0 bt347.2.1 bt347.2.2 (([0, 5, 1000000] : List Int))).bind fun bt359 => (some (0, 0, 0, bt359.1, bt359.2.1, bt359.2.2))) else (some (t334, t337, bt340.1, bt343.1, bt347.2.1, bt347.2.2)))))))) = some (r1, r2, r3, r4, r5, r6) := H
 have A3 := Aside0.mk A30
 clear A30
 replace H := Option.bind_eq_some_iff.mp H
 obtain ⟨⟨t340, t341, t342⟩, A40, H⟩ := H
 replace H : ((spec_l1Cur_pick.f s0_0 t341 t342 40).bind fun bt343 => ((spec_l1Cur_pick.f s0_0 bt343.2.1 bt343.2.2 16).bind fun bt347 => (if bt347.1 = 0 then ((spec_l1Cur_among.f s0_0 bt347.2.1 bt347.2.2 (([0, 1000000, 1000001, (-1)] : List Int))).bind fun bt353 => (some (bt353.1, t337, t340, bt343.1, bt353.2.1, bt353.2.2))) else (if bt347.1 = 1 then (some (t334, 0, 0, bt343.1, bt347.2.1, bt347.2.2)) else (if bt347.1 = 2 then ((spec_l1Cur_among.f s0_0 bt347.2.1 bt347.2.2 (([0, 5, 1000000] : List Int))).bind fun bt359 => (some (0, 0, 0, bt359.1, bt359.2.1, bt359.2.2))) else (some (t334, t337, t340, bt343.1, bt347.2.1, bt347.2.2))))))) = some (r1, r2, r3, r4, r5, r6) := H
 have A4 := Aside0.mk A40
 clear A40
 replace H := Option.bind_eq_some_iff.mp H
 obtain ⟨⟨t343, t344, t345⟩, A50, H⟩ := H
 replace H : ((spec_l1Cur_pick.f s0_0 t344 t345 16).bind fun bt347 => (if bt347.1 = 0 then ((spec_l1Cur_among.f s0_0 bt347.2.1 bt347.2.2 (([0, 1000000, 1000001, (-1)] : List Int))).bind fun bt353 => (some (bt353.1, t337, t340, t343, bt353.2.1, bt353.2.2))) else (if bt347.1 = 1 then (some (t334, 0, 0, t343, bt347.2.1, bt347.2.2)) else (if bt347.1 = 2 then ((spec_l1Cur_among.f s0_0 bt347.2.1 bt347.2.2 (([0, 5, 1000000] : List Int))).bind fun bt359 => (some (0, 0, 0, bt359.1, bt359.2.1, bt359.2.2))) else (some (t334, t337, t340, t343, bt347.2.1, bt347.2.2)))))) = some (r1, r2, r3, r4, r5, r6) := H
 have A5 := Aside0.mk A50
 clear A50
 replace H := Option.bind_eq_some_iff.mp H
 obtain ⟨⟨t347, t348, t349⟩, A60, H⟩ := H
 replace H : (if t347 = 0 then ((spec_l1Cur_among.f s0_0 t348 t349 (([0, 1000000, 1000001, (-1)] : List Int))).bind fun bt353 => (some (bt353.1, t337, t340, t343, bt353.2.1, bt353.2.2))) else (if t347 = 1 then (some (t334, 0, 0, t343, t348, t349)) else (if t347 = 2 then ((spec_l1Cur_among.f s0_0 t348 t349 (([0, 5, 1000000] : List Int))).bind fun bt359 => (some (0, 0, 0, bt359.1, bt359.2.1, bt359.2.2))) else (some (t334, t337, t340, t343, t348, t349))))) = some (r1, r2, r3, r4, r5, r6) := H
 have A6 := Aside0.mk A60
 clear A60
 by_cases c7 : t347 = 0
 ·rw [if_pos c7] at H
  have c7b0 : (t347 == 0) = true := beq_iff_eq.mpr c7
  have c7b1 : (t347 != 0) = false := bne_eq_false_iff_eq.mpr c7
  clear c7
  obtain ⟨y350, hy350⟩ : ∃ y_ : List Int, y_ = (([0, 1000000, 1000001, (-1)] : List Int)) := ⟨_, rfl⟩
  replace H : ((spec_l1Cur_among.f s0_0 t348 t349 y350).bind fun bt353 => (some (bt353.1, t337, t340, t343, bt353.2.1, bt353.2.2))) = some (r1, r2, r3, r4, r5, r6) := by first | (rw [hy350]; with_reducible exact H) | (have H2_ := (Option.bind_some _ _).symm.trans H; rw [hy350]; with_reducible exact H2_) | (have H2_ := (Option.bind_some _ _).symm.trans H; with_reducible exact H2_) | with_reducible exact H | (rw [hy350]; exact H) | exact H
  have Ny350 := Aside0.mk hy350
  clear hy350
  replace H := Option.bind_eq_some_iff.mp H
  obtain ⟨⟨t353, t354, t355⟩, A80, H⟩ := H
  replace H : (some (t353, t337, t340, t343, t354, t355)) = some (r1, r2, r3, r4, r5, r6) := H
  have A8 := Aside0.mk A80
  clear A80
  focus
   simp only [Option.some.injEq, Prod.mk.injEq] at H
   obtain ⟨rfl, rfl, rfl, rfl, rfl, rfl⟩ := H
   go_enter Try.func49, Try.ntmps49
   go_wp2_with (first | ((with_reducible refine gate_dst (N := 2) rfl ?_); refine box_event ?hg (N := 2) ?hd (cs := #[.int .i64 0, .int .i64 0, .int .i64 0, .int .i64 0]) (t := 30) ?hr ?_; (case hd => rfl); (case hg => rfl); (case hr => exact zsx); intro gb333 hg w9 hbox hb; replace HB := Aside0.mk (below_step (by first | exact zBy HB.out (IsS51.ge HI0.out) | exact zBx HB.out) hb); have BK333 := Aside0.mk (hbox); have GW333 := Aside0.mk ((by rw [hg]; exact (keep_size (w := w) (g := g) (row := none) (zKx HK.out)) : w.heap.size ≤ gb333)); have GE333 := Aside0.mk ((Nat.le_trans HW0.out (by rw [hg]; exact (keep_size (w := w) (g := g) (row := none) (zKx HK.out)) : w.heap.size ≤ gb333) : w0.heap.size ≤ gb333)); replace HK := Aside0.mk (KeepBut.trans (zKx HK.out) (KeepBut.of_below hb g none) (.inl rfl)); have NB0_333 := Aside0.mk ((by rw [hg]; exact Nat.ne_of_lt (IsS51.lt (show IsS51 w0 _ g s0_0 s0_1 s0_2 from IsS51.zI HI0.out)) : g ≠ gb333)); have NB333_0 := Aside0.mk ((by rw [hg]; exact Nat.ne_of_gt (IsS51.lt (show IsS51 w0 _ g s0_0 s0_1 s0_2 from IsS51.zI HI0.out)) : gb333 ≠ g)); replace HI0 := Aside0.mk (IsS51.below (IsS51.zI HI0.out) hb); clear hb hbox hg) | ((with_reducible refine gate_callee (f := 52) rfl ?_); refine goesL_ (some 5) rfl rfl Try.func52 (by kernel_rfl) rfl #[.pointer (some ⟨g, 0, none⟩), .int .i64 12] rfl zlx ?_; (with_reducible refine (spec_l1Cur_pick.calls g s0_0 s0_1 s0_2 12 t334 t335 t336 w0 _ ?side1 ?side2 A2.out).mono ?_); (case side1 => exact IsS51.zJ HI0.out NB0_333.out); (case side2 => first | exact zBz HB.out (IsS51.ge HI0.out) GE333.out | exact zBy HB.out GE333.out); rintro e w10 ⟨rfl, hi, hb, hk⟩; refine ⟨_, rfl, ?_⟩; replace BK333 := Aside0.mk (KeepBut.blk hk (g' := gb333) (o := .cells #[.int .i64 0, .int .i64 0, .int .i64 0, .int .i64 0] 30 (0, 0)) (zbx BK333.out) NB333_0.out (by simp)); replace HK := Aside0.mk (KeepBut.trans (zKy HK.out GW333.out) hk (.inl rfl)); replace HB := Aside0.mk (hb); replace HI0 := Aside0.mk (hi); (try clear hb); (try clear hb2); (try clear hk); (try clear hi)) | ((with_reducible refine gate_callee (f := 52) rfl ?_); refine goesL_ (some 7) rfl rfl Try.func52 (by kernel_rfl) rfl #[.pointer (some ⟨g, 0, none⟩), .int .i64 8] rfl zlx ?_; (with_reducible refine (spec_l1Cur_pick.calls g s0_0 t335 t336 8 t337 t338 t339 w0 _ ?side1 ?side2 A3.out).mono ?_); (case side1 => exact IsS51.zJ HI0.out NB0_333.out); (case side2 => first | exact zBz HB.out (IsS51.ge HI0.out) GE333.out | exact zBy HB.out GE333.out); rintro e w11 ⟨rfl, hi, hb, hk⟩; refine ⟨_, rfl, ?_⟩; replace BK333 := Aside0.mk (KeepBut.blk hk (g' := gb333) (o := .cells #[.int .i64 0, .int .i64 0, .int .i64 0, .int .i64 0] 30 (0, 0)) (zbx BK333.out) NB333_0.out (by simp)); replace HK := Aside0.mk (KeepBut.trans (zKy HK.out GW333.out) hk (.inl rfl)); replace HB := Aside0.mk (hb); replace HI0 := Aside0.mk (hi); (try clear hb); (try clear hb2); (try clear hk); (try clear hi)) | ((with_reducible refine gate_callee (f := 52) rfl ?_); refine goesL_ (some 9) rfl rfl Try.func52 (by kernel_rfl) rfl #[.pointer (some ⟨g, 0, none⟩), .int .i64 8] rfl zlx ?_; (with_reducible refine (spec_l1Cur_pick.calls g s0_0 t338 t339 8 t340 t341 t342 w0 _ ?side1 ?side2 A4.out).mono ?_); (case side1 => exact IsS51.zJ HI0.out NB0_333.out); (case side2 => first | exact zBz HB.out (IsS51.ge HI0.out) GE333.out | exact zBy HB.out GE333.out); rintro e w12 ⟨rfl, hi, hb, hk⟩; refine ⟨_, rfl, ?_⟩; replace BK333 := Aside0.mk (KeepBut.blk hk (g' := gb333) (o := .cells #[.int .i64 0, .int .i64 0, .int .i64 0, .int .i64 0] 30 (0, 0)) (zbx BK333.out) NB333_0.out (by simp)); replace HK := Aside0.mk (KeepBut.trans (zKy HK.out GW333.out) hk (.inl rfl)); replace HB := Aside0.mk (hb); replace HI0 := Aside0.mk (hi); (try clear hb); (try clear hb2); (try clear hk); (try clear hi)) | ((with_reducible refine gate_callee (f := 52) rfl ?_); refine goesL_ (some 11) rfl rfl Try.func52 (by kernel_rfl) rfl #[.pointer (some ⟨g, 0, none⟩), .int .i64 40] rfl zlx ?_; (with_reducible refine (spec_l1Cur_pick.calls g s0_0 t341 t342 40 t343 t344 t345 w0 _ ?side1 ?side2 A5.out).mono ?_); (case side1 => exact IsS51.zJ HI0.out NB0_333.out); (case side2 => first | exact zBz HB.out (IsS51.ge HI0.out) GE333.out | exact zBy HB.out GE333.out); rintro e w13 ⟨rfl, hi, hb, hk⟩; refine ⟨_, rfl, ?_⟩; replace BK333 := Aside0.mk (KeepBut.blk hk (g' := gb333) (o := .cells #[.int .i64 0, .int .i64 0, .int .i64 0, .int .i64 0] 30 (0, 0)) (zbx BK333.out) NB333_0.out (by simp)); replace HK := Aside0.mk (KeepBut.trans (zKy HK.out GW333.out) hk (.inl rfl)); replace HB := Aside0.mk (hb); replace HI0 := Aside0.mk (hi); (try clear hb); (try clear hb2); (try clear hk); (try clear hi)) | ((with_reducible refine gate_dst (N := 3) rfl ?_); refine box_event ?hg (N := 3) ?hd (cs := #[.int .i64 0, .int .i64 0, .int .i64 0, .int .i64 0]) (t := 30) ?hr ?_; (case hd => rfl); (case hg => rfl); (case hr => exact zsx); intro gb346 hg w14 hbox hb; replace HB := Aside0.mk (below_step (by first | exact zBz HB.out (IsS51.ge HI0.out) GE333.out | exact zBy HB.out GE333.out) hb); have BK346 := Aside0.mk (hbox); have GW346 := Aside0.mk ((by rw [hg]; exact (keep_size (w := w) (g := g) (row := none) (zKy HK.out GW333.out)) : w.heap.size ≤ gb346)); have GE346 := Aside0.mk ((Nat.le_trans HW0.out (by rw [hg]; exact (keep_size (w := w) (g := g) (row := none) (zKy HK.out GW333.out)) : w.heap.size ≤ gb346) : w0.heap.size ≤ gb346)); replace HK := Aside0.mk (KeepBut.trans (zKy HK.out GW333.out) (KeepBut.of_below hb g none) (.inl rfl)); have NB333_346 := znl hg BK333.out; have NB346_333 := zng hg BK333.out; replace BK333 := zbl BK333.out hb; have NB0_346 := Aside0.mk ((by rw [hg]; exact Nat.ne_of_lt (IsS51.lt (show IsS51 w0 _ g s0_0 t344 t345 from IsS51.zJ HI0.out NB0_333.out)) : g ≠ gb346)); have NB346_0 := Aside0.mk ((by rw [hg]; exact Nat.ne_of_gt (IsS51.lt (show IsS51 w0 _ g s0_0 t344 t345 from IsS51.zJ HI0.out NB0_333.out)) : gb346 ≠ g)); replace HI0 := Aside0.mk (IsS51.below (IsS51.zF HI0.out NB0_333.out) hb); clear hb hbox hg; have hnb15 := NB346_333.out; have hnc15 := NB333_346.out; have hnb16 := NB346_0.out; have hnc16 := NB0_346.out; have hcz17_0 : w14.cell? ⟨gb346, 0, none⟩ = some (.int .i64 0) := (blk_cell BK346.out 0).trans rfl; have hcz17_1 : w14.cell? ⟨gb346, 1, none⟩ = some (.int .i64 0) := (blk_cell BK346.out 1).trans rfl; have hcz17_2 : w14.cell? ⟨gb346, 2, none⟩ = some (.int .i64 0) := (blk_cell BK346.out 2).trans rfl; have hcz17_3 : w14.cell? ⟨gb346, 3, none⟩ = some (.int .i64 0) := (blk_cell BK346.out 3).trans rfl; have hfz17_0 := blk_frozen BK346.out 0; have hfz17_1 := blk_frozen BK346.out 1; have hfz17_2 := blk_frozen BK346.out 2; have hfz17_3 := blk_frozen BK346.out 3) | ((with_reducible refine gate_callee (f := 52) rfl ?_); refine goesL_ (some 14) rfl rfl Try.func52 (by kernel_rfl) rfl #[.pointer (some ⟨g, 0, none⟩), .int .i64 16] rfl zlx ?_; (with_reducible refine (spec_l1Cur_pick.calls g s0_0 t344 t345 16 t347 t348 t349 w0 _ ?side1 ?side2 A6.out).mono ?_); (case side1 => exact zhI51 HI0.out); (case side2 => exact zhB HB.out); rintro e w18 ⟨rfl, hi, hb, hk⟩; refine ⟨_, rfl, ?_⟩; replace BK333 := Aside0.mk (KeepBut.blk hk (g' := gb333) (o := .cells #[.int .i64 0, .int .i64 0, .int .i64 0, .int .i64 0] 30 (0, 0)) (zbq BK333.out) NB333_0.out (by simp)); replace BK346 := Aside0.mk (KeepBut.blk hk (g' := gb346) (o := .cells #[.int .i64 t334, .int .i64 t337, .int .i64 t340, .int .i64 t343] 30 (0, 0)) (by refine zbx ?_; refine blk_put (cs := #[.int .i64 t334, .int .i64 t337, .int .i64 t340, .int .i64 0]) ?_ 3 _ rfl; refine zbx ?_; refine blk_put (cs := #[.int .i64 t334, .int .i64 t337, .int .i64 0, .int .i64 0]) ?_ 2 _ rfl; refine zbx ?_; refine blk_put (cs := #[.int .i64 t334, .int .i64 0, .int .i64 0, .int .i64 0]) ?_ 1 _ rfl; refine zbx ?_; refine blk_put (cs := #[.int .i64 0, .int .i64 0, .int .i64 0, .int .i64 0]) ?_ 0 _ rfl; refine zbx ?_; exact BK346.out) NB346_0.out (by simp)); replace HK := Aside0.mk (KeepBut.trans (zhK HK.out) hk (.inl rfl)); replace HB := Aside0.mk (hb); replace HI0 := Aside0.mk (hi); (try clear hb); (try clear hb2); (try clear hk); (try clear hi)) | ((with_reducible refine gate_dst (N := 18) rfl ?_); refine Kd.R_lit (Kd.int .i64) _ 3 ?hg (N := 18) ?hd (xs := ([0, 1000000, 1000001, (-1)] : List Int)) (inner := [.int .i64 0, .int .i64 1000000, .int .i64 1000001, .int .i64 (-1)]) (ok := fun _ => True) (okp := fun _ => True) ?hr ?hp (fun _ hk => hk) trivial (Below.refl _ _) (Nat.le_refl _) (by simp) ?_; (case hd => rfl); (case hg => rfl); (case hr => exact zsx); (case hp => exact (Reps.one (show Kd.M (Kd.int .i64) _ _ _ 0 [.int .i64 0] from rfl) (Reps.one (show Kd.M (Kd.int .i64) _ _ _ 1000000 [.int .i64 1000000] from rfl) (Reps.one (show Kd.M (Kd.int .i64) _ _ _ 1000001 [.int .i64 1000001] from rfl) (Reps.one (show Kd.M (Kd.int .i64) _ _ _ (-1) [.int .i64 (-1)] from rfl) (Reps.none _ _)))))); intro v351 w19 ho20 hb hg_ hnew_; clear hg_ hnew_; (first | rw [← Ny350.out] at ho20 | (simp only [Int.reduceToNat] at ho20; rw [← Ny350.out] at ho20)); have HO352 := Aside0.mk (Kd.R_lower ho20 (keep_size (w := w) (g := g) (row := none) (zhK HK.out))); replace HI0 := Aside0.mk (IsS51.below (zhI51 HI0.out) hb); replace BK333 := zbl BK333.out hb; replace BK346 := zbl BK346.out hb; replace HK := Aside0.mk (KeepBut.trans (zhK HK.out) (KeepBut.of_below hb g none) (.inl rfl)); replace HB := Aside0.mk (below_step (zhB HB.out) hb); clear hb ho20; obtain ⟨Ao21, co21, eo21⟩ := Kd.R_slice HO352.out; subst eo21) | ((with_reducible refine gate_callee (f := 33) rfl ?_); refine goesL_ (some 19) rfl rfl Try.func33 (by kernel_rfl) rfl #[.pointer (some ⟨g, 0, none⟩), .slice Ao21 y350.length co21] rfl zlx ?_; (with_reducible refine (spec_l1Cur_among.calls g s0_0 t348 t349 _ _ y350 t353 t354 t355 w0 _ ?side1 ?side2 ?side3 ?side4 ?side5 A8.out).mono ?_); (case side1 => exact zhI51 HI0.out); (case side2 => exact zhB HB.out); (case side3 => repeat (first | exact (Kd.R_reads' HO352.out).2.2 | (with_reducible refine Kd.C_alloc ?_ _) | (with_reducible refine Kd.C_drewN ?_ _) | (with_reducible refine Kd.C_drew ?_))); (case side4 => exact (Kd.R_reads' HO352.out).2.1); (case side5 => exact far_slice (IsS51.own_ne HI0.out HO352.out (by decide))); rintro e w22 ⟨rfl, hi, hb, hk⟩; refine ⟨_, rfl, ?_⟩; replace BK333 := Aside0.mk (KeepBut.blk hk (g' := gb333) (o := .cells #[.int .i64 0, .int .i64 0, .int .i64 0, .int .i64 0] 30 (0, 0)) (zbx BK333.out) NB333_0.out (by simp)); replace BK346 := Aside0.mk (KeepBut.blk hk (g' := gb346) (o := .cells #[.int .i64 t334, .int .i64 t337, .int .i64 t340, .int .i64 t343] 30 (0, 0)) (zbx BK346.out) NB346_0.out (by simp)); replace HO352 := Aside0.mk (Kd.R_mono (Kd.R_keep (IsS51.apart (show IsS51 w0 _ g s0_0 t348 t349 from zhI51 HI0.out) (zRx HO352.out) (by decide)) hk (fun _ h => h.2)) (fun _ h => h.1)); replace HK := Aside0.mk (KeepBut.trans (zhK HK.out) hk (.inl rfl)); replace HB := Aside0.mk (hb); replace HI0 := Aside0.mk (hi); (try clear hb); (try clear hb2); (try clear hk); (try clear hi); have hcz23_0 : w22.cell? ⟨gb346, 0, none⟩ = some (.int .i64 t334) := (blk_cell BK346.out 0).trans rfl; have hcz23_1 : w22.cell? ⟨gb346, 1, none⟩ = some (.int .i64 t337) := (blk_cell BK346.out 1).trans rfl; have hcz23_2 : w22.cell? ⟨gb346, 2, none⟩ = some (.int .i64 t340) := (blk_cell BK346.out 2).trans rfl; have hcz23_3 : w22.cell? ⟨gb346, 3, none⟩ = some (.int .i64 t343) := (blk_cell BK346.out 3).trans rfl; have hfz23_0 := blk_frozen BK346.out 0; have hfz23_1 := blk_frozen BK346.out 1; have hfz23_2 := blk_frozen BK346.out 2; have hfz23_3 := blk_frozen BK346.out 3; have hnb24 := NB333_0.out; have hnc24 := NB0_333.out; have hcz25_0 : w22.cell? ⟨gb333, 0, none⟩ = some (.int .i64 0) := (blk_cell BK333.out 0).trans rfl; have hcz25_1 : w22.cell? ⟨gb333, 1, none⟩ = some (.int .i64 0) := (blk_cell BK333.out 1).trans rfl; have hcz25_2 : w22.cell? ⟨gb333, 2, none⟩ = some (.int .i64 0) := (blk_cell BK333.out 2).trans rfl; have hcz25_3 : w22.cell? ⟨gb333, 3, none⟩ = some (.int .i64 0) := (blk_cell BK333.out 3).trans rfl; have hfz25_0 := blk_frozen BK333.out 0; have hfz25_1 := blk_frozen BK333.out 1; have hfz25_2 := blk_frozen BK333.out 2; have hfz25_3 := blk_frozen BK333.out 3))
   refine bodyPost_ret (results_cell_row rfl _ _ gb333 30 #[.int .i64 t353, .int .i64 t337, .int .i64 t340, .int .i64 t343] (0, 0) _ rfl (by refine zbx ?_; refine blk_put (cs := #[.int .i64 t353, .int .i64 t337, .int .i64 t340, .int .i64 0]) ?_ 3 _ rfl; refine zbx ?_; refine blk_put (cs := #[.int .i64 t353, .int .i64 t337, .int .i64 0, .int .i64 0]) ?_ 2 _ rfl; refine zbx ?_; refine blk_put (cs := #[.int .i64 t353, .int .i64 0, .int .i64 0, .int .i64 0]) ?_ 1 _ rfl; refine zbx ?_; refine blk_put (cs := #[.int .i64 0, .int .i64 0, .int .i64 0, .int .i64 0]) ?_ 0 _ rfl; refine zbx ?_; refine blk_far ?_ NB333_346.out _; refine zbx ?_; exact BK333.out) Try.underlying30 rfl (by kernel_rfl)) rfl ?_
   exact ⟨by first | rfl | (simp [errW_none, errW_some] <;> rfl) | (simp [*, errW_none, errW_some] <;> rfl), zhI51 HI0.out, zhB HB.out, zhK HK.out⟩
 ·rw [if_neg c7] at H
  have c7b0 : (t347 == 0) = false := beq_eq_false_iff_ne.mpr c7
  have c7b1 : (t347 != 0) = true := bne_iff_ne.mpr c7
  by_cases c26 : t347 = 1
  ·rw [if_pos c26] at H
   have c26b0 : (t347 == 1) = true := beq_iff_eq.mpr c26
   have c26b1 : (t347 != 1) = false := bne_eq_false_iff_eq.mpr c26
   clear c26
   focus
    simp only [Option.some.injEq, Prod.mk.injEq] at H
    obtain ⟨rfl, rfl, rfl, rfl, rfl, rfl⟩ := H
    go_enter Try.func49, Try.ntmps49
    go_wp2_with (first | ((with_reducible refine gate_dst (N := 2) rfl ?_); refine box_event ?hg (N := 2) ?hd (cs := #[.int .i64 0, .int .i64 0, .int .i64 0, .int .i64 0]) (t := 30) ?hr ?_; (case hd => rfl); (case hg => rfl); (case hr => exact zsx); intro gb333 hg w27 hbox hb; replace HB := Aside0.mk (below_step (by first | exact zBy HB.out (IsS51.ge HI0.out) | exact zBx HB.out) hb); have BK333 := Aside0.mk (hbox); have GW333 := Aside0.mk ((by rw [hg]; exact (keep_size (w := w) (g := g) (row := none) (zKx HK.out)) : w.heap.size ≤ gb333)); have GE333 := Aside0.mk ((Nat.le_trans HW0.out (by rw [hg]; exact (keep_size (w := w) (g := g) (row := none) (zKx HK.out)) : w.heap.size ≤ gb333) : w0.heap.size ≤ gb333)); replace HK := Aside0.mk (KeepBut.trans (zKx HK.out) (KeepBut.of_below hb g none) (.inl rfl)); have NB0_333 := Aside0.mk ((by rw [hg]; exact Nat.ne_of_lt (IsS51.lt (show IsS51 w0 _ g s0_0 s0_1 s0_2 from IsS51.zI HI0.out)) : g ≠ gb333)); have NB333_0 := Aside0.mk ((by rw [hg]; exact Nat.ne_of_gt (IsS51.lt (show IsS51 w0 _ g s0_0 s0_1 s0_2 from IsS51.zI HI0.out)) : gb333 ≠ g)); replace HI0 := Aside0.mk (IsS51.below (IsS51.zI HI0.out) hb); clear hb hbox hg) | ((with_reducible refine gate_callee (f := 52) rfl ?_); refine goesL_ (some 5) rfl rfl Try.func52 (by kernel_rfl) rfl #[.pointer (some ⟨g, 0, none⟩), .int .i64 12] rfl zlx ?_; (with_reducible refine (spec_l1Cur_pick.calls g s0_0 s0_1 s0_2 12 t334 t335 t336 w0 _ ?side1 ?side2 A2.out).mono ?_); (case side1 => exact IsS51.zJ HI0.out NB0_333.out); (case side2 => first | exact zBz HB.out (IsS51.ge HI0.out) GE333.out | exact zBy HB.out GE333.out); rintro e w28 ⟨rfl, hi, hb, hk⟩; refine ⟨_, rfl, ?_⟩; replace BK333 := Aside0.mk (KeepBut.blk hk (g' := gb333) (o := .cells #[.int .i64 0, .int .i64 0, .int .i64 0, .int .i64 0] 30 (0, 0)) (zbx BK333.out) NB333_0.out (by simp)); replace HK := Aside0.mk (KeepBut.trans (zKy HK.out GW333.out) hk (.inl rfl)); replace HB := Aside0.mk (hb); replace HI0 := Aside0.mk (hi); (try clear hb); (try clear hb2); (try clear hk); (try clear hi)) | ((with_reducible refine gate_callee (f := 52) rfl ?_); refine goesL_ (some 7) rfl rfl Try.func52 (by kernel_rfl) rfl #[.pointer (some ⟨g, 0, none⟩), .int .i64 8] rfl zlx ?_; (with_reducible refine (spec_l1Cur_pick.calls g s0_0 t335 t336 8 t337 t338 t339 w0 _ ?side1 ?side2 A3.out).mono ?_); (case side1 => exact IsS51.zJ HI0.out NB0_333.out); (case side2 => first | exact zBz HB.out (IsS51.ge HI0.out) GE333.out | exact zBy HB.out GE333.out); rintro e w29 ⟨rfl, hi, hb, hk⟩; refine ⟨_, rfl, ?_⟩; replace BK333 := Aside0.mk (KeepBut.blk hk (g' := gb333) (o := .cells #[.int .i64 0, .int .i64 0, .int .i64 0, .int .i64 0] 30 (0, 0)) (zbx BK333.out) NB333_0.out (by simp)); replace HK := Aside0.mk (KeepBut.trans (zKy HK.out GW333.out) hk (.inl rfl)); replace HB := Aside0.mk (hb); replace HI0 := Aside0.mk (hi); (try clear hb); (try clear hb2); (try clear hk); (try clear hi)) | ((with_reducible refine gate_callee (f := 52) rfl ?_); refine goesL_ (some 9) rfl rfl Try.func52 (by kernel_rfl) rfl #[.pointer (some ⟨g, 0, none⟩), .int .i64 8] rfl zlx ?_; (with_reducible refine (spec_l1Cur_pick.calls g s0_0 t338 t339 8 t340 t341 t342 w0 _ ?side1 ?side2 A4.out).mono ?_); (case side1 => exact IsS51.zJ HI0.out NB0_333.out); (case side2 => first | exact zBz HB.out (IsS51.ge HI0.out) GE333.out | exact zBy HB.out GE333.out); rintro e w30 ⟨rfl, hi, hb, hk⟩; refine ⟨_, rfl, ?_⟩; replace BK333 := Aside0.mk (KeepBut.blk hk (g' := gb333) (o := .cells #[.int .i64 0, .int .i64 0, .int .i64 0, .int .i64 0] 30 (0, 0)) (zbx BK333.out) NB333_0.out (by simp)); replace HK := Aside0.mk (KeepBut.trans (zKy HK.out GW333.out) hk (.inl rfl)); replace HB := Aside0.mk (hb); replace HI0 := Aside0.mk (hi); (try clear hb); (try clear hb2); (try clear hk); (try clear hi)) | ((with_reducible refine gate_callee (f := 52) rfl ?_); refine goesL_ (some 11) rfl rfl Try.func52 (by kernel_rfl) rfl #[.pointer (some ⟨g, 0, none⟩), .int .i64 40] rfl zlx ?_; (with_reducible refine (spec_l1Cur_pick.calls g s0_0 t341 t342 40 t343 t344 t345 w0 _ ?side1 ?side2 A5.out).mono ?_); (case side1 => exact IsS51.zJ HI0.out NB0_333.out); (case side2 => first | exact zBz HB.out (IsS51.ge HI0.out) GE333.out | exact zBy HB.out GE333.out); rintro e w31 ⟨rfl, hi, hb, hk⟩; refine ⟨_, rfl, ?_⟩; replace BK333 := Aside0.mk (KeepBut.blk hk (g' := gb333) (o := .cells #[.int .i64 0, .int .i64 0, .int .i64 0, .int .i64 0] 30 (0, 0)) (zbx BK333.out) NB333_0.out (by simp)); replace HK := Aside0.mk (KeepBut.trans (zKy HK.out GW333.out) hk (.inl rfl)); replace HB := Aside0.mk (hb); replace HI0 := Aside0.mk (hi); (try clear hb); (try clear hb2); (try clear hk); (try clear hi)) | ((with_reducible refine gate_dst (N := 3) rfl ?_); refine box_event ?hg (N := 3) ?hd (cs := #[.int .i64 0, .int .i64 0, .int .i64 0, .int .i64 0]) (t := 30) ?hr ?_; (case hd => rfl); (case hg => rfl); (case hr => exact zsx); intro gb346 hg w32 hbox hb; replace HB := Aside0.mk (below_step (by first | exact zBz HB.out (IsS51.ge HI0.out) GE333.out | exact zBy HB.out GE333.out) hb); have BK346 := Aside0.mk (hbox); have GW346 := Aside0.mk ((by rw [hg]; exact (keep_size (w := w) (g := g) (row := none) (zKy HK.out GW333.out)) : w.heap.size ≤ gb346)); have GE346 := Aside0.mk ((Nat.le_trans HW0.out (by rw [hg]; exact (keep_size (w := w) (g := g) (row := none) (zKy HK.out GW333.out)) : w.heap.size ≤ gb346) : w0.heap.size ≤ gb346)); replace HK := Aside0.mk (KeepBut.trans (zKy HK.out GW333.out) (KeepBut.of_below hb g none) (.inl rfl)); have NB333_346 := znl hg BK333.out; have NB346_333 := zng hg BK333.out; replace BK333 := zbl BK333.out hb; have NB0_346 := Aside0.mk ((by rw [hg]; exact Nat.ne_of_lt (IsS51.lt (show IsS51 w0 _ g s0_0 t344 t345 from IsS51.zJ HI0.out NB0_333.out)) : g ≠ gb346)); have NB346_0 := Aside0.mk ((by rw [hg]; exact Nat.ne_of_gt (IsS51.lt (show IsS51 w0 _ g s0_0 t344 t345 from IsS51.zJ HI0.out NB0_333.out)) : gb346 ≠ g)); replace HI0 := Aside0.mk (IsS51.below (IsS51.zF HI0.out NB0_333.out) hb); clear hb hbox hg; have hnb33 := NB346_333.out; have hnc33 := NB333_346.out; have hnb34 := NB346_0.out; have hnc34 := NB0_346.out; have hcz35_0 : w32.cell? ⟨gb346, 0, none⟩ = some (.int .i64 0) := (blk_cell BK346.out 0).trans rfl; have hcz35_1 : w32.cell? ⟨gb346, 1, none⟩ = some (.int .i64 0) := (blk_cell BK346.out 1).trans rfl; have hcz35_2 : w32.cell? ⟨gb346, 2, none⟩ = some (.int .i64 0) := (blk_cell BK346.out 2).trans rfl; have hcz35_3 : w32.cell? ⟨gb346, 3, none⟩ = some (.int .i64 0) := (blk_cell BK346.out 3).trans rfl; have hfz35_0 := blk_frozen BK346.out 0; have hfz35_1 := blk_frozen BK346.out 1; have hfz35_2 := blk_frozen BK346.out 2; have hfz35_3 := blk_frozen BK346.out 3) | ((with_reducible refine gate_callee (f := 52) rfl ?_); refine goesL_ (some 14) rfl rfl Try.func52 (by kernel_rfl) rfl #[.pointer (some ⟨g, 0, none⟩), .int .i64 16] rfl zlx ?_; (with_reducible refine (spec_l1Cur_pick.calls g s0_0 t344 t345 16 t347 t348 t349 w0 _ ?side1 ?side2 A6.out).mono ?_); (case side1 => exact zhI51 HI0.out); (case side2 => exact zhB HB.out); rintro e w36 ⟨rfl, hi, hb, hk⟩; refine ⟨_, rfl, ?_⟩; replace BK333 := Aside0.mk (KeepBut.blk hk (g' := gb333) (o := .cells #[.int .i64 0, .int .i64 0, .int .i64 0, .int .i64 0] 30 (0, 0)) (zbq BK333.out) NB333_0.out (by simp)); replace BK346 := Aside0.mk (KeepBut.blk hk (g' := gb346) (o := .cells #[.int .i64 t334, .int .i64 t337, .int .i64 t340, .int .i64 t343] 30 (0, 0)) (by refine zbx ?_; refine blk_put (cs := #[.int .i64 t334, .int .i64 t337, .int .i64 t340, .int .i64 0]) ?_ 3 _ rfl; refine zbx ?_; refine blk_put (cs := #[.int .i64 t334, .int .i64 t337, .int .i64 0, .int .i64 0]) ?_ 2 _ rfl; refine zbx ?_; refine blk_put (cs := #[.int .i64 t334, .int .i64 0, .int .i64 0, .int .i64 0]) ?_ 1 _ rfl; refine zbx ?_; refine blk_put (cs := #[.int .i64 0, .int .i64 0, .int .i64 0, .int .i64 0]) ?_ 0 _ rfl; refine zbx ?_; exact BK346.out) NB346_0.out (by simp)); replace HK := Aside0.mk (KeepBut.trans (zhK HK.out) hk (.inl rfl)); replace HB := Aside0.mk (hb); replace HI0 := Aside0.mk (hi); (try clear hb); (try clear hb2); (try clear hk); (try clear hi); have hcz37_0 : w36.cell? ⟨gb346, 0, none⟩ = some (.int .i64 t334) := (blk_cell BK346.out 0).trans rfl; have hcz37_1 : w36.cell? ⟨gb346, 1, none⟩ = some (.int .i64 t337) := (blk_cell BK346.out 1).trans rfl; have hcz37_2 : w36.cell? ⟨gb346, 2, none⟩ = some (.int .i64 t340) := (blk_cell BK346.out 2).trans rfl; have hcz37_3 : w36.cell? ⟨gb346, 3, none⟩ = some (.int .i64 t343) := (blk_cell BK346.out 3).trans rfl; have hfz37_0 := blk_frozen BK346.out 0; have hfz37_1 := blk_frozen BK346.out 1; have hfz37_2 := blk_frozen BK346.out 2; have hfz37_3 := blk_frozen BK346.out 3; have hnb38 := NB333_0.out; have hnc38 := NB0_333.out; have hcz39_0 : w36.cell? ⟨gb333, 0, none⟩ = some (.int .i64 0) := (blk_cell BK333.out 0).trans rfl; have hcz39_1 : w36.cell? ⟨gb333, 1, none⟩ = some (.int .i64 0) := (blk_cell BK333.out 1).trans rfl; have hcz39_2 : w36.cell? ⟨gb333, 2, none⟩ = some (.int .i64 0) := (blk_cell BK333.out 2).trans rfl; have hcz39_3 : w36.cell? ⟨gb333, 3, none⟩ = some (.int .i64 0) := (blk_cell BK333.out 3).trans rfl; have hfz39_0 := blk_frozen BK333.out 0; have hfz39_1 := blk_frozen BK333.out 1; have hfz39_2 := blk_frozen BK333.out 2; have hfz39_3 := blk_frozen BK333.out 3))
    refine bodyPost_ret (results_cell_row rfl _ _ gb333 30 #[.int .i64 t334, .int .i64 0, .int .i64 0, .int .i64 t343] (0, 0) _ rfl (by refine zbx ?_; refine blk_put (cs := #[.int .i64 t334, .int .i64 0, .int .i64 0, .int .i64 0]) ?_ 3 _ rfl; refine zbx ?_; refine blk_put (cs := #[.int .i64 t334, .int .i64 0, .int .i64 0, .int .i64 0]) ?_ 2 _ rfl; refine zbx ?_; refine blk_put (cs := #[.int .i64 t334, .int .i64 0, .int .i64 0, .int .i64 0]) ?_ 1 _ rfl; refine zbx ?_; refine blk_put (cs := #[.int .i64 0, .int .i64 0, .int .i64 0, .int .i64 0]) ?_ 0 _ rfl; refine zbx ?_; refine blk_far ?_ NB333_346.out _; refine zbx ?_; refine blk_far ?_ NB333_346.out _; refine zbx ?_; exact BK333.out) Try.underlying30 rfl (by kernel_rfl)) rfl ?_
    exact ⟨by first | rfl | (simp [errW_none, errW_some] <;> rfl) | (simp [*, errW_none, errW_some] <;> rfl), zhI51 HI0.out, zhB HB.out, zhK HK.out⟩
  ·rw [if_neg c26] at H
   have c26b0 : (t347 == 1) = false := beq_eq_false_iff_ne.mpr c26
   have c26b1 : (t347 != 1) = true := bne_iff_ne.mpr c26
   by_cases c40 : t347 = 2
   ·rw [if_pos c40] at H
    have c40b0 : (t347 == 2) = true := beq_iff_eq.mpr c40
    have c40b1 : (t347 != 2) = false := bne_eq_false_iff_eq.mpr c40
    clear c40
    obtain ⟨y356, hy356⟩ : ∃ y_ : List Int, y_ = (([0, 5, 1000000] : List Int)) := ⟨_, rfl⟩
    replace H : ((spec_l1Cur_among.f s0_0 t348 t349 y356).bind fun bt359 => (some (0, 0, 0, bt359.1, bt359.2.1, bt359.2.2))) = some (r1, r2, r3, r4, r5, r6) := by first | (rw [hy356]; with_reducible exact H) | (have H2_ := (Option.bind_some _ _).symm.trans H; rw [hy356]; with_reducible exact H2_) | (have H2_ := (Option.bind_some _ _).symm.trans H; with_reducible exact H2_) | with_reducible exact H | (rw [hy356]; exact H) | exact H
    have Ny356 := Aside0.mk hy356
    clear hy356
    replace H := Option.bind_eq_some_iff.mp H
    obtain ⟨⟨t359, t360, t361⟩, A410, H⟩ := H
    replace H : (some (0, 0, 0, t359, t360, t361)) = some (r1, r2, r3, r4, r5, r6) := H
    have A41 := Aside0.mk A410
    clear A410
    focus
     simp only [Option.some.injEq, Prod.mk.injEq] at H
     obtain ⟨rfl, rfl, rfl, rfl, rfl, rfl⟩ := H
     go_enter Try.func49, Try.ntmps49
     go_wp2_with (first | ((with_reducible refine gate_dst (N := 2) rfl ?_); refine box_event ?hg (N := 2) ?hd (cs := #[.int .i64 0, .int .i64 0, .int .i64 0, .int .i64 0]) (t := 30) ?hr ?_; (case hd => rfl); (case hg => rfl); (case hr => exact zsx); intro gb333 hg w42 hbox hb; replace HB := Aside0.mk (below_step (by first | exact zBy HB.out (IsS51.ge HI0.out) | exact zBx HB.out) hb); have BK333 := Aside0.mk (hbox); have GW333 := Aside0.mk ((by rw [hg]; exact (keep_size (w := w) (g := g) (row := none) (zKx HK.out)) : w.heap.size ≤ gb333)); have GE333 := Aside0.mk ((Nat.le_trans HW0.out (by rw [hg]; exact (keep_size (w := w) (g := g) (row := none) (zKx HK.out)) : w.heap.size ≤ gb333) : w0.heap.size ≤ gb333)); replace HK := Aside0.mk (KeepBut.trans (zKx HK.out) (KeepBut.of_below hb g none) (.inl rfl)); have NB0_333 := Aside0.mk ((by rw [hg]; exact Nat.ne_of_lt (IsS51.lt (show IsS51 w0 _ g s0_0 s0_1 s0_2 from IsS51.zI HI0.out)) : g ≠ gb333)); have NB333_0 := Aside0.mk ((by rw [hg]; exact Nat.ne_of_gt (IsS51.lt (show IsS51 w0 _ g s0_0 s0_1 s0_2 from IsS51.zI HI0.out)) : gb333 ≠ g)); replace HI0 := Aside0.mk (IsS51.below (IsS51.zI HI0.out) hb); clear hb hbox hg) | ((with_reducible refine gate_callee (f := 52) rfl ?_); refine goesL_ (some 5) rfl rfl Try.func52 (by kernel_rfl) rfl #[.pointer (some ⟨g, 0, none⟩), .int .i64 12] rfl zlx ?_; (with_reducible refine (spec_l1Cur_pick.calls g s0_0 s0_1 s0_2 12 t334 t335 t336 w0 _ ?side1 ?side2 A2.out).mono ?_); (case side1 => exact IsS51.zJ HI0.out NB0_333.out); (case side2 => first | exact zBz HB.out (IsS51.ge HI0.out) GE333.out | exact zBy HB.out GE333.out); rintro e w43 ⟨rfl, hi, hb, hk⟩; refine ⟨_, rfl, ?_⟩; replace BK333 := Aside0.mk (KeepBut.blk hk (g' := gb333) (o := .cells #[.int .i64 0, .int .i64 0, .int .i64 0, .int .i64 0] 30 (0, 0)) (zbx BK333.out) NB333_0.out (by simp)); replace HK := Aside0.mk (KeepBut.trans (zKy HK.out GW333.out) hk (.inl rfl)); replace HB := Aside0.mk (hb); replace HI0 := Aside0.mk (hi); (try clear hb); (try clear hb2); (try clear hk); (try clear hi)) | ((with_reducible refine gate_callee (f := 52) rfl ?_); refine goesL_ (some 7) rfl rfl Try.func52 (by kernel_rfl) rfl #[.pointer (some ⟨g, 0, none⟩), .int .i64 8] rfl zlx ?_; (with_reducible refine (spec_l1Cur_pick.calls g s0_0 t335 t336 8 t337 t338 t339 w0 _ ?side1 ?side2 A3.out).mono ?_); (case side1 => exact IsS51.zJ HI0.out NB0_333.out); (case side2 => first | exact zBz HB.out (IsS51.ge HI0.out) GE333.out | exact zBy HB.out GE333.out); rintro e w44 ⟨rfl, hi, hb, hk⟩; refine ⟨_, rfl, ?_⟩; replace BK333 := Aside0.mk (KeepBut.blk hk (g' := gb333) (o := .cells #[.int .i64 0, .int .i64 0, .int .i64 0, .int .i64 0] 30 (0, 0)) (zbx BK333.out) NB333_0.out (by simp)); replace HK := Aside0.mk (KeepBut.trans (zKy HK.out GW333.out) hk (.inl rfl)); replace HB := Aside0.mk (hb); replace HI0 := Aside0.mk (hi); (try clear hb); (try clear hb2); (try clear hk); (try clear hi)) | ((with_reducible refine gate_callee (f := 52) rfl ?_); refine goesL_ (some 9) rfl rfl Try.func52 (by kernel_rfl) rfl #[.pointer (some ⟨g, 0, none⟩), .int .i64 8] rfl zlx ?_; (with_reducible refine (spec_l1Cur_pick.calls g s0_0 t338 t339 8 t340 t341 t342 w0 _ ?side1 ?side2 A4.out).mono ?_); (case side1 => exact IsS51.zJ HI0.out NB0_333.out); (case side2 => first | exact zBz HB.out (IsS51.ge HI0.out) GE333.out | exact zBy HB.out GE333.out); rintro e w45 ⟨rfl, hi, hb, hk⟩; refine ⟨_, rfl, ?_⟩; replace BK333 := Aside0.mk (KeepBut.blk hk (g' := gb333) (o := .cells #[.int .i64 0, .int .i64 0, .int .i64 0, .int .i64 0] 30 (0, 0)) (zbx BK333.out) NB333_0.out (by simp)); replace HK := Aside0.mk (KeepBut.trans (zKy HK.out GW333.out) hk (.inl rfl)); replace HB := Aside0.mk (hb); replace HI0 := Aside0.mk (hi); (try clear hb); (try clear hb2); (try clear hk); (try clear hi)) | ((with_reducible refine gate_callee (f := 52) rfl ?_); refine goesL_ (some 11) rfl rfl Try.func52 (by kernel_rfl) rfl #[.pointer (some ⟨g, 0, none⟩), .int .i64 40] rfl zlx ?_; (with_reducible refine (spec_l1Cur_pick.calls g s0_0 t341 t342 40 t343 t344 t345 w0 _ ?side1 ?side2 A5.out).mono ?_); (case side1 => exact IsS51.zJ HI0.out NB0_333.out); (case side2 => first | exact zBz HB.out (IsS51.ge HI0.out) GE333.out | exact zBy HB.out GE333.out); rintro e w46 ⟨rfl, hi, hb, hk⟩; refine ⟨_, rfl, ?_⟩; replace BK333 := Aside0.mk (KeepBut.blk hk (g' := gb333) (o := .cells #[.int .i64 0, .int .i64 0, .int .i64 0, .int .i64 0] 30 (0, 0)) (zbx BK333.out) NB333_0.out (by simp)); replace HK := Aside0.mk (KeepBut.trans (zKy HK.out GW333.out) hk (.inl rfl)); replace HB := Aside0.mk (hb); replace HI0 := Aside0.mk (hi); (try clear hb); (try clear hb2); (try clear hk); (try clear hi)) | ((with_reducible refine gate_dst (N := 3) rfl ?_); refine box_event ?hg (N := 3) ?hd (cs := #[.int .i64 0, .int .i64 0, .int .i64 0, .int .i64 0]) (t := 30) ?hr ?_; (case hd => rfl); (case hg => rfl); (case hr => exact zsx); intro gb346 hg w47 hbox hb; replace HB := Aside0.mk (below_step (by first | exact zBz HB.out (IsS51.ge HI0.out) GE333.out | exact zBy HB.out GE333.out) hb); have BK346 := Aside0.mk (hbox); have GW346 := Aside0.mk ((by rw [hg]; exact (keep_size (w := w) (g := g) (row := none) (zKy HK.out GW333.out)) : w.heap.size ≤ gb346)); have GE346 := Aside0.mk ((Nat.le_trans HW0.out (by rw [hg]; exact (keep_size (w := w) (g := g) (row := none) (zKy HK.out GW333.out)) : w.heap.size ≤ gb346) : w0.heap.size ≤ gb346)); replace HK := Aside0.mk (KeepBut.trans (zKy HK.out GW333.out) (KeepBut.of_below hb g none) (.inl rfl)); have NB333_346 := znl hg BK333.out; have NB346_333 := zng hg BK333.out; replace BK333 := zbl BK333.out hb; have NB0_346 := Aside0.mk ((by rw [hg]; exact Nat.ne_of_lt (IsS51.lt (show IsS51 w0 _ g s0_0 t344 t345 from IsS51.zJ HI0.out NB0_333.out)) : g ≠ gb346)); have NB346_0 := Aside0.mk ((by rw [hg]; exact Nat.ne_of_gt (IsS51.lt (show IsS51 w0 _ g s0_0 t344 t345 from IsS51.zJ HI0.out NB0_333.out)) : gb346 ≠ g)); replace HI0 := Aside0.mk (IsS51.below (IsS51.zF HI0.out NB0_333.out) hb); clear hb hbox hg; have hnb48 := NB346_333.out; have hnc48 := NB333_346.out; have hnb49 := NB346_0.out; have hnc49 := NB0_346.out; have hcz50_0 : w47.cell? ⟨gb346, 0, none⟩ = some (.int .i64 0) := (blk_cell BK346.out 0).trans rfl; have hcz50_1 : w47.cell? ⟨gb346, 1, none⟩ = some (.int .i64 0) := (blk_cell BK346.out 1).trans rfl; have hcz50_2 : w47.cell? ⟨gb346, 2, none⟩ = some (.int .i64 0) := (blk_cell BK346.out 2).trans rfl; have hcz50_3 : w47.cell? ⟨gb346, 3, none⟩ = some (.int .i64 0) := (blk_cell BK346.out 3).trans rfl; have hfz50_0 := blk_frozen BK346.out 0; have hfz50_1 := blk_frozen BK346.out 1; have hfz50_2 := blk_frozen BK346.out 2; have hfz50_3 := blk_frozen BK346.out 3) | ((with_reducible refine gate_callee (f := 52) rfl ?_); refine goesL_ (some 14) rfl rfl Try.func52 (by kernel_rfl) rfl #[.pointer (some ⟨g, 0, none⟩), .int .i64 16] rfl zlx ?_; (with_reducible refine (spec_l1Cur_pick.calls g s0_0 t344 t345 16 t347 t348 t349 w0 _ ?side1 ?side2 A6.out).mono ?_); (case side1 => exact zhI51 HI0.out); (case side2 => exact zhB HB.out); rintro e w51 ⟨rfl, hi, hb, hk⟩; refine ⟨_, rfl, ?_⟩; replace BK333 := Aside0.mk (KeepBut.blk hk (g' := gb333) (o := .cells #[.int .i64 0, .int .i64 0, .int .i64 0, .int .i64 0] 30 (0, 0)) (zbq BK333.out) NB333_0.out (by simp)); replace BK346 := Aside0.mk (KeepBut.blk hk (g' := gb346) (o := .cells #[.int .i64 t334, .int .i64 t337, .int .i64 t340, .int .i64 t343] 30 (0, 0)) (by refine zbx ?_; refine blk_put (cs := #[.int .i64 t334, .int .i64 t337, .int .i64 t340, .int .i64 0]) ?_ 3 _ rfl; refine zbx ?_; refine blk_put (cs := #[.int .i64 t334, .int .i64 t337, .int .i64 0, .int .i64 0]) ?_ 2 _ rfl; refine zbx ?_; refine blk_put (cs := #[.int .i64 t334, .int .i64 0, .int .i64 0, .int .i64 0]) ?_ 1 _ rfl; refine zbx ?_; refine blk_put (cs := #[.int .i64 0, .int .i64 0, .int .i64 0, .int .i64 0]) ?_ 0 _ rfl; refine zbx ?_; exact BK346.out) NB346_0.out (by simp)); replace HK := Aside0.mk (KeepBut.trans (zhK HK.out) hk (.inl rfl)); replace HB := Aside0.mk (hb); replace HI0 := Aside0.mk (hi); (try clear hb); (try clear hb2); (try clear hk); (try clear hi)) | ((with_reducible refine gate_dst (N := 28) rfl ?_); refine Kd.R_lit (Kd.int .i64) _ 3 ?hg (N := 28) ?hd (xs := ([0, 5, 1000000] : List Int)) (inner := [.int .i64 0, .int .i64 5, .int .i64 1000000]) (ok := fun _ => True) (okp := fun _ => True) ?hr ?hp (fun _ hk => hk) trivial (Below.refl _ _) (Nat.le_refl _) (by simp) ?_; (case hd => rfl); (case hg => rfl); (case hr => exact zsx); (case hp => exact (Reps.one (show Kd.M (Kd.int .i64) _ _ _ 0 [.int .i64 0] from rfl) (Reps.one (show Kd.M (Kd.int .i64) _ _ _ 5 [.int .i64 5] from rfl) (Reps.one (show Kd.M (Kd.int .i64) _ _ _ 1000000 [.int .i64 1000000] from rfl) (Reps.none _ _))))); intro v357 w52 ho53 hb hg_ hnew_; clear hg_ hnew_; (first | rw [← Ny356.out] at ho53 | (simp only [Int.reduceToNat] at ho53; rw [← Ny356.out] at ho53)); have HO358 := Aside0.mk (Kd.R_lower ho53 (keep_size (w := w) (g := g) (row := none) (zhK HK.out))); replace HI0 := Aside0.mk (IsS51.below (zhI51 HI0.out) hb); replace BK333 := zbl BK333.out hb; replace BK346 := zbl BK346.out hb; replace HK := Aside0.mk (KeepBut.trans (zhK HK.out) (KeepBut.of_below hb g none) (.inl rfl)); replace HB := Aside0.mk (below_step (zhB HB.out) hb); clear hb ho53; obtain ⟨Ao54, co54, eo54⟩ := Kd.R_slice HO358.out; subst eo54) | ((with_reducible refine gate_callee (f := 33) rfl ?_); refine goesL_ (some 29) rfl rfl Try.func33 (by kernel_rfl) rfl #[.pointer (some ⟨g, 0, none⟩), .slice Ao54 y356.length co54] rfl zlx ?_; (with_reducible refine (spec_l1Cur_among.calls g s0_0 t348 t349 _ _ y356 t359 t360 t361 w0 _ ?side1 ?side2 ?side3 ?side4 ?side5 A41.out).mono ?_); (case side1 => exact zhI51 HI0.out); (case side2 => exact zhB HB.out); (case side3 => repeat (first | exact (Kd.R_reads' HO358.out).2.2 | (with_reducible refine Kd.C_alloc ?_ _) | (with_reducible refine Kd.C_drewN ?_ _) | (with_reducible refine Kd.C_drew ?_))); (case side4 => exact (Kd.R_reads' HO358.out).2.1); (case side5 => exact far_slice (IsS51.own_ne HI0.out HO358.out (by decide))); rintro e w55 ⟨rfl, hi, hb, hk⟩; refine ⟨_, rfl, ?_⟩; replace BK333 := Aside0.mk (KeepBut.blk hk (g' := gb333) (o := .cells #[.int .i64 0, .int .i64 0, .int .i64 0, .int .i64 0] 30 (0, 0)) (zbx BK333.out) NB333_0.out (by simp)); replace BK346 := Aside0.mk (KeepBut.blk hk (g' := gb346) (o := .cells #[.int .i64 t334, .int .i64 t337, .int .i64 t340, .int .i64 t343] 30 (0, 0)) (zbx BK346.out) NB346_0.out (by simp)); replace HO358 := Aside0.mk (Kd.R_mono (Kd.R_keep (IsS51.apart (show IsS51 w0 _ g s0_0 t348 t349 from zhI51 HI0.out) (zRx HO358.out) (by decide)) hk (fun _ h => h.2)) (fun _ h => h.1)); replace HK := Aside0.mk (KeepBut.trans (zhK HK.out) hk (.inl rfl)); replace HB := Aside0.mk (hb); replace HI0 := Aside0.mk (hi); (try clear hb); (try clear hb2); (try clear hk); (try clear hi); have hcz56_0 : w55.cell? ⟨gb346, 0, none⟩ = some (.int .i64 t334) := (blk_cell BK346.out 0).trans rfl; have hcz56_1 : w55.cell? ⟨gb346, 1, none⟩ = some (.int .i64 t337) := (blk_cell BK346.out 1).trans rfl; have hcz56_2 : w55.cell? ⟨gb346, 2, none⟩ = some (.int .i64 t340) := (blk_cell BK346.out 2).trans rfl; have hcz56_3 : w55.cell? ⟨gb346, 3, none⟩ = some (.int .i64 t343) := (blk_cell BK346.out 3).trans rfl; have hfz56_0 := blk_frozen BK346.out 0; have hfz56_1 := blk_frozen BK346.out 1; have hfz56_2 := blk_frozen BK346.out 2; have hfz56_3 := blk_frozen BK346.out 3; have hnb57 := NB333_0.out; have hnc57 := NB0_333.out; have hcz58_0 : w55.cell? ⟨gb333, 0, none⟩ = some (.int .i64 0) := (blk_cell BK333.out 0).trans rfl; have hcz58_1 : w55.cell? ⟨gb333, 1, none⟩ = some (.int .i64 0) := (blk_cell BK333.out 1).trans rfl; have hcz58_2 : w55.cell? ⟨gb333, 2, none⟩ = some (.int .i64 0) := (blk_cell BK333.out 2).trans rfl; have hcz58_3 : w55.cell? ⟨gb333, 3, none⟩ = some (.int .i64 0) := (blk_cell BK333.out 3).trans rfl; have hfz58_0 := blk_frozen BK333.out 0; have hfz58_1 := blk_frozen BK333.out 1; have hfz58_2 := blk_frozen BK333.out 2; have hfz58_3 := blk_frozen BK333.out 3))
     refine bodyPost_ret (results_cell_row rfl _ _ gb333 30 #[.int .i64 0, .int .i64 0, .int .i64 0, .int .i64 t359] (0, 0) _ rfl (by refine zbx ?_; refine blk_put (cs := #[.int .i64 0, .int .i64 0, .int .i64 0, .int .i64 0]) ?_ 3 _ rfl; refine zbx ?_; refine blk_put (cs := #[.int .i64 0, .int .i64 0, .int .i64 0, .int .i64 0]) ?_ 2 _ rfl; refine zbx ?_; refine blk_put (cs := #[.int .i64 0, .int .i64 0, .int .i64 0, .int .i64 0]) ?_ 1 _ rfl; refine zbx ?_; refine blk_put (cs := #[.int .i64 0, .int .i64 0, .int .i64 0, .int .i64 0]) ?_ 0 _ rfl; refine zbx ?_; refine blk_far ?_ NB333_346.out _; refine zbx ?_; refine blk_far ?_ NB333_346.out _; refine zbx ?_; refine blk_far ?_ NB333_346.out _; refine zbx ?_; refine blk_far ?_ NB333_346.out _; refine zbx ?_; exact BK333.out) Try.underlying30 rfl (by kernel_rfl)) rfl ?_
     exact ⟨by first | rfl | (simp [errW_none, errW_some] <;> rfl) | (simp [*, errW_none, errW_some] <;> rfl), zhI51 HI0.out, zhB HB.out, zhK HK.out⟩
   ·rw [if_neg c40] at H
    have c40b0 : (t347 == 2) = false := beq_eq_false_iff_ne.mpr c40
    have c40b1 : (t347 != 2) = true := bne_iff_ne.mpr c40
    focus
     simp only [Option.some.injEq, Prod.mk.injEq] at H
     obtain ⟨rfl, rfl, rfl, rfl, rfl, rfl⟩ := H
     go_enter Try.func49, Try.ntmps49
     go_wp2_with (first | ((with_reducible refine gate_dst (N := 2) rfl ?_); refine box_event ?hg (N := 2) ?hd (cs := #[.int .i64 0, .int .i64 0, .int .i64 0, .int .i64 0]) (t := 30) ?hr ?_; (case hd => rfl); (case hg => rfl); (case hr => exact zsx); intro gb333 hg w59 hbox hb; replace HB := Aside0.mk (below_step (by first | exact zBy HB.out (IsS51.ge HI0.out) | exact zBx HB.out) hb); have BK333 := Aside0.mk (hbox); have GW333 := Aside0.mk ((by rw [hg]; exact (keep_size (w := w) (g := g) (row := none) (zKx HK.out)) : w.heap.size ≤ gb333)); have GE333 := Aside0.mk ((Nat.le_trans HW0.out (by rw [hg]; exact (keep_size (w := w) (g := g) (row := none) (zKx HK.out)) : w.heap.size ≤ gb333) : w0.heap.size ≤ gb333)); replace HK := Aside0.mk (KeepBut.trans (zKx HK.out) (KeepBut.of_below hb g none) (.inl rfl)); have NB0_333 := Aside0.mk ((by rw [hg]; exact Nat.ne_of_lt (IsS51.lt (show IsS51 w0 _ g s0_0 s0_1 s0_2 from IsS51.zI HI0.out)) : g ≠ gb333)); have NB333_0 := Aside0.mk ((by rw [hg]; exact Nat.ne_of_gt (IsS51.lt (show IsS51 w0 _ g s0_0 s0_1 s0_2 from IsS51.zI HI0.out)) : gb333 ≠ g)); replace HI0 := Aside0.mk (IsS51.below (IsS51.zI HI0.out) hb); clear hb hbox hg) | ((with_reducible refine gate_callee (f := 52) rfl ?_); refine goesL_ (some 5) rfl rfl Try.func52 (by kernel_rfl) rfl #[.pointer (some ⟨g, 0, none⟩), .int .i64 12] rfl zlx ?_; (with_reducible refine (spec_l1Cur_pick.calls g s0_0 s0_1 s0_2 12 t334 t335 t336 w0 _ ?side1 ?side2 A2.out).mono ?_); (case side1 => exact IsS51.zJ HI0.out NB0_333.out); (case side2 => first | exact zBz HB.out (IsS51.ge HI0.out) GE333.out | exact zBy HB.out GE333.out); rintro e w60 ⟨rfl, hi, hb, hk⟩; refine ⟨_, rfl, ?_⟩; replace BK333 := Aside0.mk (KeepBut.blk hk (g' := gb333) (o := .cells #[.int .i64 0, .int .i64 0, .int .i64 0, .int .i64 0] 30 (0, 0)) (zbx BK333.out) NB333_0.out (by simp)); replace HK := Aside0.mk (KeepBut.trans (zKy HK.out GW333.out) hk (.inl rfl)); replace HB := Aside0.mk (hb); replace HI0 := Aside0.mk (hi); (try clear hb); (try clear hb2); (try clear hk); (try clear hi)) | ((with_reducible refine gate_callee (f := 52) rfl ?_); refine goesL_ (some 7) rfl rfl Try.func52 (by kernel_rfl) rfl #[.pointer (some ⟨g, 0, none⟩), .int .i64 8] rfl zlx ?_; (with_reducible refine (spec_l1Cur_pick.calls g s0_0 t335 t336 8 t337 t338 t339 w0 _ ?side1 ?side2 A3.out).mono ?_); (case side1 => exact IsS51.zJ HI0.out NB0_333.out); (case side2 => first | exact zBz HB.out (IsS51.ge HI0.out) GE333.out | exact zBy HB.out GE333.out); rintro e w61 ⟨rfl, hi, hb, hk⟩; refine ⟨_, rfl, ?_⟩; replace BK333 := Aside0.mk (KeepBut.blk hk (g' := gb333) (o := .cells #[.int .i64 0, .int .i64 0, .int .i64 0, .int .i64 0] 30 (0, 0)) (zbx BK333.out) NB333_0.out (by simp)); replace HK := Aside0.mk (KeepBut.trans (zKy HK.out GW333.out) hk (.inl rfl)); replace HB := Aside0.mk (hb); replace HI0 := Aside0.mk (hi); (try clear hb); (try clear hb2); (try clear hk); (try clear hi)) | ((with_reducible refine gate_callee (f := 52) rfl ?_); refine goesL_ (some 9) rfl rfl Try.func52 (by kernel_rfl) rfl #[.pointer (some ⟨g, 0, none⟩), .int .i64 8] rfl zlx ?_; (with_reducible refine (spec_l1Cur_pick.calls g s0_0 t338 t339 8 t340 t341 t342 w0 _ ?side1 ?side2 A4.out).mono ?_); (case side1 => exact IsS51.zJ HI0.out NB0_333.out); (case side2 => first | exact zBz HB.out (IsS51.ge HI0.out) GE333.out | exact zBy HB.out GE333.out); rintro e w62 ⟨rfl, hi, hb, hk⟩; refine ⟨_, rfl, ?_⟩; replace BK333 := Aside0.mk (KeepBut.blk hk (g' := gb333) (o := .cells #[.int .i64 0, .int .i64 0, .int .i64 0, .int .i64 0] 30 (0, 0)) (zbx BK333.out) NB333_0.out (by simp)); replace HK := Aside0.mk (KeepBut.trans (zKy HK.out GW333.out) hk (.inl rfl)); replace HB := Aside0.mk (hb); replace HI0 := Aside0.mk (hi); (try clear hb); (try clear hb2); (try clear hk); (try clear hi)) | ((with_reducible refine gate_callee (f := 52) rfl ?_); refine goesL_ (some 11) rfl rfl Try.func52 (by kernel_rfl) rfl #[.pointer (some ⟨g, 0, none⟩), .int .i64 40] rfl zlx ?_; (with_reducible refine (spec_l1Cur_pick.calls g s0_0 t341 t342 40 t343 t344 t345 w0 _ ?side1 ?side2 A5.out).mono ?_); (case side1 => exact IsS51.zJ HI0.out NB0_333.out); (case side2 => first | exact zBz HB.out (IsS51.ge HI0.out) GE333.out | exact zBy HB.out GE333.out); rintro e w63 ⟨rfl, hi, hb, hk⟩; refine ⟨_, rfl, ?_⟩; replace BK333 := Aside0.mk (KeepBut.blk hk (g' := gb333) (o := .cells #[.int .i64 0, .int .i64 0, .int .i64 0, .int .i64 0] 30 (0, 0)) (zbx BK333.out) NB333_0.out (by simp)); replace HK := Aside0.mk (KeepBut.trans (zKy HK.out GW333.out) hk (.inl rfl)); replace HB := Aside0.mk (hb); replace HI0 := Aside0.mk (hi); (try clear hb); (try clear hb2); (try clear hk); (try clear hi)) | ((with_reducible refine gate_dst (N := 3) rfl ?_); refine box_event ?hg (N := 3) ?hd (cs := #[.int .i64 0, .int .i64 0, .int .i64 0, .int .i64 0]) (t := 30) ?hr ?_; (case hd => rfl); (case hg => rfl); (case hr => exact zsx); intro gb346 hg w64 hbox hb; replace HB := Aside0.mk (below_step (by first | exact zBz HB.out (IsS51.ge HI0.out) GE333.out | exact zBy HB.out GE333.out) hb); have BK346 := Aside0.mk (hbox); have GW346 := Aside0.mk ((by rw [hg]; exact (keep_size (w := w) (g := g) (row := none) (zKy HK.out GW333.out)) : w.heap.size ≤ gb346)); have GE346 := Aside0.mk ((Nat.le_trans HW0.out (by rw [hg]; exact (keep_size (w := w) (g := g) (row := none) (zKy HK.out GW333.out)) : w.heap.size ≤ gb346) : w0.heap.size ≤ gb346)); replace HK := Aside0.mk (KeepBut.trans (zKy HK.out GW333.out) (KeepBut.of_below hb g none) (.inl rfl)); have NB333_346 := znl hg BK333.out; have NB346_333 := zng hg BK333.out; replace BK333 := zbl BK333.out hb; have NB0_346 := Aside0.mk ((by rw [hg]; exact Nat.ne_of_lt (IsS51.lt (show IsS51 w0 _ g s0_0 t344 t345 from IsS51.zJ HI0.out NB0_333.out)) : g ≠ gb346)); have NB346_0 := Aside0.mk ((by rw [hg]; exact Nat.ne_of_gt (IsS51.lt (show IsS51 w0 _ g s0_0 t344 t345 from IsS51.zJ HI0.out NB0_333.out)) : gb346 ≠ g)); replace HI0 := Aside0.mk (IsS51.below (IsS51.zF HI0.out NB0_333.out) hb); clear hb hbox hg; have hnb65 := NB346_333.out; have hnc65 := NB333_346.out; have hnb66 := NB346_0.out; have hnc66 := NB0_346.out; have hcz67_0 : w64.cell? ⟨gb346, 0, none⟩ = some (.int .i64 0) := (blk_cell BK346.out 0).trans rfl; have hcz67_1 : w64.cell? ⟨gb346, 1, none⟩ = some (.int .i64 0) := (blk_cell BK346.out 1).trans rfl; have hcz67_2 : w64.cell? ⟨gb346, 2, none⟩ = some (.int .i64 0) := (blk_cell BK346.out 2).trans rfl; have hcz67_3 : w64.cell? ⟨gb346, 3, none⟩ = some (.int .i64 0) := (blk_cell BK346.out 3).trans rfl; have hfz67_0 := blk_frozen BK346.out 0; have hfz67_1 := blk_frozen BK346.out 1; have hfz67_2 := blk_frozen BK346.out 2; have hfz67_3 := blk_frozen BK346.out 3) | ((with_reducible refine gate_callee (f := 52) rfl ?_); refine goesL_ (some 14) rfl rfl Try.func52 (by kernel_rfl) rfl #[.pointer (some ⟨g, 0, none⟩), .int .i64 16] rfl zlx ?_; (with_reducible refine (spec_l1Cur_pick.calls g s0_0 t344 t345 16 t347 t348 t349 w0 _ ?side1 ?side2 A6.out).mono ?_); (case side1 => exact zhI51 HI0.out); (case side2 => exact zhB HB.out); rintro e w68 ⟨rfl, hi, hb, hk⟩; refine ⟨_, rfl, ?_⟩; replace BK333 := Aside0.mk (KeepBut.blk hk (g' := gb333) (o := .cells #[.int .i64 0, .int .i64 0, .int .i64 0, .int .i64 0] 30 (0, 0)) (zbq BK333.out) NB333_0.out (by simp)); replace BK346 := Aside0.mk (KeepBut.blk hk (g' := gb346) (o := .cells #[.int .i64 t334, .int .i64 t337, .int .i64 t340, .int .i64 t343] 30 (0, 0)) (by refine zbx ?_; refine blk_put (cs := #[.int .i64 t334, .int .i64 t337, .int .i64 t340, .int .i64 0]) ?_ 3 _ rfl; refine zbx ?_; refine blk_put (cs := #[.int .i64 t334, .int .i64 t337, .int .i64 0, .int .i64 0]) ?_ 2 _ rfl; refine zbx ?_; refine blk_put (cs := #[.int .i64 t334, .int .i64 0, .int .i64 0, .int .i64 0]) ?_ 1 _ rfl; refine zbx ?_; refine blk_put (cs := #[.int .i64 0, .int .i64 0, .int .i64 0, .int .i64 0]) ?_ 0 _ rfl; refine zbx ?_; exact BK346.out) NB346_0.out (by simp)); replace HK := Aside0.mk (KeepBut.trans (zhK HK.out) hk (.inl rfl)); replace HB := Aside0.mk (hb); replace HI0 := Aside0.mk (hi); (try clear hb); (try clear hb2); (try clear hk); (try clear hi); have hcz69_0 : w68.cell? ⟨gb346, 0, none⟩ = some (.int .i64 t334) := (blk_cell BK346.out 0).trans rfl; have hcz69_1 : w68.cell? ⟨gb346, 1, none⟩ = some (.int .i64 t337) := (blk_cell BK346.out 1).trans rfl; have hcz69_2 : w68.cell? ⟨gb346, 2, none⟩ = some (.int .i64 t340) := (blk_cell BK346.out 2).trans rfl; have hcz69_3 : w68.cell? ⟨gb346, 3, none⟩ = some (.int .i64 t343) := (blk_cell BK346.out 3).trans rfl; have hfz69_0 := blk_frozen BK346.out 0; have hfz69_1 := blk_frozen BK346.out 1; have hfz69_2 := blk_frozen BK346.out 2; have hfz69_3 := blk_frozen BK346.out 3; have hnb70 := NB333_0.out; have hnc70 := NB0_333.out; have hcz71_0 : w68.cell? ⟨gb333, 0, none⟩ = some (.int .i64 0) := (blk_cell BK333.out 0).trans rfl; have hcz71_1 : w68.cell? ⟨gb333, 1, none⟩ = some (.int .i64 0) := (blk_cell BK333.out 1).trans rfl; have hcz71_2 : w68.cell? ⟨gb333, 2, none⟩ = some (.int .i64 0) := (blk_cell BK333.out 2).trans rfl; have hcz71_3 : w68.cell? ⟨gb333, 3, none⟩ = some (.int .i64 0) := (blk_cell BK333.out 3).trans rfl; have hfz71_0 := blk_frozen BK333.out 0; have hfz71_1 := blk_frozen BK333.out 1; have hfz71_2 := blk_frozen BK333.out 2; have hfz71_3 := blk_frozen BK333.out 3))
     refine bodyPost_ret (results_cell_row rfl _ _ gb333 30 #[.int .i64 t334, .int .i64 t337, .int .i64 t340, .int .i64 t343] (0, 0) _ rfl (by refine zbx ?_; refine blk_put (cs := #[.int .i64 t334, .int .i64 t337, .int .i64 t340, .int .i64 0]) ?_ 3 _ rfl; refine zbx ?_; refine blk_put (cs := #[.int .i64 t334, .int .i64 t337, .int .i64 0, .int .i64 0]) ?_ 2 _ rfl; refine zbx ?_; refine blk_put (cs := #[.int .i64 t334, .int .i64 0, .int .i64 0, .int .i64 0]) ?_ 1 _ rfl; refine zbx ?_; refine blk_put (cs := #[.int .i64 0, .int .i64 0, .int .i64 0, .int .i64 0]) ?_ 0 _ rfl; refine zbx ?_; exact BK333.out) Try.underlying30 rfl (by kernel_rfl)) rfl ?_
     exact ⟨by first | rfl | (simp [errW_none, errW_some] <;> rfl) | (simp [*, errW_none, errW_some] <;> rfl), zhI51 HI0.out, zhB HB.out, zhK HK.out⟩

/-! ### spec_DrawHitRate: function 39 -/
def spec_DrawHitRate.f (l0 : List Int) : Option (Int × Int × Int × Int) := (spec_l1Cur_table.f l0 0 0).bind fun bt364 => (some (bt364.1, bt364.2.1, bt364.2.2.1, bt364.2.2.2.1))
set_option maxHeartbeats 8000000 in
set_option maxRecDepth 100000 in
theorem spec_DrawHitRate.calls (A0 : Option Addr) (c0 : Nat) (l0 : List Int) (r1 : Int) (r2 : Int) (r3 : Int) (r4 : Int) (w : World) (hr0 : Kd.C (Kd.int .u8) w A0 l0.length l0) (hc0 : l0.length ≤ c0) (h : spec_DrawHitRate.f l0 = some (r1, r2, r3, r4)) :
 Calls Try.prog 39 #[.slice A0 l0.length c0] w fun e w' => e = .returned (.agg #[.int .i64 r1, .int .i64 r2, .int .i64 r3, .int .i64 r4]) ∧ Below w.heap.size w w' := by
 have hu30 := Try.underlying30
 have hu51 := Try.underlying51
 have HR0 := Aside0.mk hr0
 have HC0 := Aside0.mk hc0
 clear hr0 hc0
 have HB := Aside0.mk (Below.refl w.heap.size w)
 have H : ((spec_l1Cur_table.f l0 0 0).bind fun bt364 => (some (bt364.1, bt364.2.1, bt364.2.2.1, bt364.2.2.2.1))) = some (r1, r2, r3, r4) := h
 clear h
 replace H := Option.bind_eq_some_iff.mp H
 obtain ⟨⟨t364, t365, t366, t367, t368, t369⟩, A20, H⟩ := H
 replace H : (some (t364, t365, t366, t367)) = some (r1, r2, r3, r4) := H
 have A2 := Aside0.mk A20
 clear A20
 focus
  simp only [Option.some.injEq, Prod.mk.injEq] at H
  obtain ⟨rfl, rfl, rfl, rfl⟩ := H
  go_enter Try.func39, Try.ntmps39
  go_wp2_with (first | ((with_reducible refine gate_dst (N := 2) rfl ?_); refine box_event ?hg (N := 2) ?hd (cs := #[.int .i64 0, .int .i64 0, .int .i64 0, .int .i64 0]) (t := 30) ?hr ?_; (case hd => rfl); (case hg => rfl); (case hr => exact zsx); intro gb362 hg w3 hbox hb; have BK362 := Aside0.mk (hbox); have GW362 := zns hg HB.out; have GE362 := zns hg HB.out; replace HB := Aside0.mk (below_step (zBx HB.out) hb); clear hb hbox hg) | ((with_reducible refine gate_dst (N := 6) rfl ?_); refine box_event ?hg (N := 6) ?hd (cs := #[.slice A0 l0.length c0, .int .i64 0, .int .u64 0]) (t := 51) ?hr ?_; (case hd => rfl); (case hg => rfl); (case hr => exact zsx); intro gb363 hg w4 hbox hb; have BK363 := Aside0.mk (hbox); have GW363 := zns hg HB.out; have GE363 := zns hg HB.out; replace HB := Aside0.mk (below_step (zBy HB.out GE362.out) hb); have NB362_363 := znl hg BK362.out; have NB363_362 := zng hg BK362.out; replace BK362 := zbl BK362.out hb; clear hb hbox hg) | ((with_reducible refine gate_callee (f := 49) rfl ?_); refine goesL_ (some 8) rfl rfl Try.func49 (by kernel_rfl) rfl #[.pointer (some ⟨gb363, 0, none⟩)] rfl zlx ?_; (with_reducible refine (spec_l1Cur_table.calls gb363 l0 0 0 t364 t365 t366 t367 t368 t369 w _ ?side1 ?side2 A2.out).mono ?_); (case side1 => first | exact ⟨_, _, (zbx BK363.out), GE363.out, HR0.out⟩); (case side2 => first | exact zBz HB.out (IsS51.ge HI363.out) GE362.out | exact zBy HB.out GE362.out); rintro e w5 ⟨rfl, hi, hb, hk⟩; refine ⟨_, rfl, ?_⟩; replace BK362 := Aside0.mk (KeepBut.blk hk (g' := gb362) (o := .cells #[.int .i64 0, .int .i64 0, .int .i64 0, .int .i64 0] 30 (0, 0)) (zbx BK362.out) NB362_363.out (by simp)); replace HB := Aside0.mk (hb); have HI363 := Aside0.mk (hi); (try clear hb); (try clear hb2); (try clear hk); (try clear hi); have hnb6 := NB362_363.out; have hnc6 := NB363_362.out; have hcz7_0 : w5.cell? ⟨gb362, 0, none⟩ = some (.int .i64 0) := (blk_cell BK362.out 0).trans rfl; have hcz7_1 : w5.cell? ⟨gb362, 1, none⟩ = some (.int .i64 0) := (blk_cell BK362.out 1).trans rfl; have hcz7_2 : w5.cell? ⟨gb362, 2, none⟩ = some (.int .i64 0) := (blk_cell BK362.out 2).trans rfl; have hcz7_3 : w5.cell? ⟨gb362, 3, none⟩ = some (.int .i64 0) := (blk_cell BK362.out 3).trans rfl; have hfz7_0 := blk_frozen BK362.out 0; have hfz7_1 := blk_frozen BK362.out 1; have hfz7_2 := blk_frozen BK362.out 2; have hfz7_3 := blk_frozen BK362.out 3))
  refine bodyPost_ret (results_cell_row rfl _ _ gb362 30 #[.int .i64 t364, .int .i64 t365, .int .i64 t366, .int .i64 t367] (0, 0) _ rfl (by refine zbx ?_; refine blk_put (cs := #[.int .i64 t364, .int .i64 t365, .int .i64 t366, .int .i64 0]) ?_ 3 _ rfl; refine zbx ?_; refine blk_put (cs := #[.int .i64 t364, .int .i64 t365, .int .i64 0, .int .i64 0]) ?_ 2 _ rfl; refine zbx ?_; refine blk_put (cs := #[.int .i64 t364, .int .i64 0, .int .i64 0, .int .i64 0]) ?_ 1 _ rfl; refine zbx ?_; refine blk_put (cs := #[.int .i64 0, .int .i64 0, .int .i64 0, .int .i64 0]) ?_ 0 _ rfl; refine zbx ?_; exact BK362.out) Try.underlying30 rfl (by kernel_rfl)) rfl ?_
  exact ⟨by first | rfl | (simp [errW_none, errW_some] <;> rfl) | (simp [*, errW_none, errW_some] <;> rfl), by exact zBz HB.out (IsS51.ge HI363.out) GE362.out⟩

/-! ### spec_DrawThreatScore: function 10 -/
def spec_DrawThreatScore.f (l0 : List Int) : Option (Int × Int × Int × Int) := (spec_DrawHitRate.f l0).bind fun bt371 => (some (bt371.1, bt371.2.1, bt371.2.2.1, bt371.2.2.2))
set_option maxHeartbeats 8000000 in
set_option maxRecDepth 100000 in
theorem spec_DrawThreatScore.calls (A0 : Option Addr) (c0 : Nat) (l0 : List Int) (r1 : Int) (r2 : Int) (r3 : Int) (r4 : Int) (w : World) (hr0 : Kd.C (Kd.int .u8) w A0 l0.length l0) (hc0 : l0.length ≤ c0) (h : spec_DrawThreatScore.f l0 = some (r1, r2, r3, r4)) :
 Calls Try.prog 10 #[.slice A0 l0.length c0] w fun e w' => e = .returned (.agg #[.int .i64 r1, .int .i64 r2, .int .i64 r3, .int .i64 r4]) ∧ Below w.heap.size w w' := by
 have hu30 := Try.underlying30
 have HR0 := Aside0.mk hr0
 have HC0 := Aside0.mk hc0
 clear hr0 hc0
 have HB := Aside0.mk (Below.refl w.heap.size w)
 have H : ((spec_DrawHitRate.f l0).bind fun bt371 => (some (bt371.1, bt371.2.1, bt371.2.2.1, bt371.2.2.2))) = some (r1, r2, r3, r4) := h
 clear h
 replace H := Option.bind_eq_some_iff.mp H
 obtain ⟨⟨t371, t372, t373, t374⟩, A20, H⟩ := H
 replace H : (some (t371, t372, t373, t374)) = some (r1, r2, r3, r4) := H
 have A2 := Aside0.mk A20
 clear A20
 focus
  simp only [Option.some.injEq, Prod.mk.injEq] at H
  obtain ⟨rfl, rfl, rfl, rfl⟩ := H
  go_enter Try.func10, Try.ntmps10
  go_wp2_with (first | ((with_reducible refine gate_dst (N := 2) rfl ?_); refine box_event ?hg (N := 2) ?hd (cs := #[.int .i64 0, .int .i64 0, .int .i64 0, .int .i64 0]) (t := 30) ?hr ?_; (case hd => rfl); (case hg => rfl); (case hr => exact zsx); intro gb370 hg w3 hbox hb; have BK370 := Aside0.mk (hbox); have GW370 := zns hg HB.out; have GE370 := zns hg HB.out; replace HB := Aside0.mk (below_step (zBx HB.out) hb); clear hb hbox hg) | ((with_reducible refine gate_callee (f := 39) rfl ?_); refine goesL_ (some 4) rfl rfl Try.func39 (by kernel_rfl) rfl #[.slice A0 l0.length c0] rfl zlx ?_; (with_reducible refine (spec_DrawHitRate.calls _ _ l0 t371 t372 t373 t374 _ ?side1 ?side2 A2.out).mono ?_); (case side1 => repeat (first | exact (Kd.C_below HR0.out HB.out) | (with_reducible refine Kd.C_alloc ?_ _) | (with_reducible refine Kd.C_drewN ?_ _) | (with_reducible refine Kd.C_drew ?_))); (case side2 => exact HC0.out); rintro e w4 ⟨rfl, hb⟩; refine ⟨_, rfl, ?_⟩; replace BK370 := zbl BK370.out hb; replace HB := Aside0.mk (below_step (zBy HB.out GE370.out) hb); (try clear hb); (try clear hb2); (try clear hk); (try clear hi); have hcz5_0 : w4.cell? ⟨gb370, 0, none⟩ = some (.int .i64 0) := (blk_cell BK370.out 0).trans rfl; have hcz5_1 : w4.cell? ⟨gb370, 1, none⟩ = some (.int .i64 0) := (blk_cell BK370.out 1).trans rfl; have hcz5_2 : w4.cell? ⟨gb370, 2, none⟩ = some (.int .i64 0) := (blk_cell BK370.out 2).trans rfl; have hcz5_3 : w4.cell? ⟨gb370, 3, none⟩ = some (.int .i64 0) := (blk_cell BK370.out 3).trans rfl; have hfz5_0 := blk_frozen BK370.out 0; have hfz5_1 := blk_frozen BK370.out 1; have hfz5_2 := blk_frozen BK370.out 2; have hfz5_3 := blk_frozen BK370.out 3))
  refine bodyPost_ret (results_cell_row rfl _ _ gb370 30 #[.int .i64 t371, .int .i64 t372, .int .i64 t373, .int .i64 t374] (0, 0) _ rfl (by refine zbx ?_; refine blk_put (cs := #[.int .i64 t371, .int .i64 t372, .int .i64 t373, .int .i64 0]) ?_ 3 _ rfl; refine zbx ?_; refine blk_put (cs := #[.int .i64 t371, .int .i64 t372, .int .i64 0, .int .i64 0]) ?_ 2 _ rfl; refine zbx ?_; refine blk_put (cs := #[.int .i64 t371, .int .i64 0, .int .i64 0, .int .i64 0]) ?_ 1 _ rfl; refine zbx ?_; refine blk_put (cs := #[.int .i64 0, .int .i64 0, .int .i64 0, .int .i64 0]) ?_ 0 _ rfl; refine zbx ?_; exact BK370.out) Try.underlying30 rfl (by kernel_rfl)) rfl ?_
  exact ⟨by first | rfl | (simp [errW_none, errW_some] <;> rfl) | (simp [*, errW_none, errW_some] <;> rfl), by exact zBy HB.out GE370.out⟩

/-! ### impl_allWithin: function 69 -/
def impl_allWithin.l0 : Nat → Int → Int → List Int → Int → Int → Option (Bool)
 | 0, _, _, _, _, _ => none
 | k + 1, x1, x2, x9, x10, x11 => if x11 < x10 then (if 0 ≤ x11 then (if x11 < (x9.length : Int) then ((impl_within.f (rd x9 x11) x1 x2).bind fun t376 => (if t376 = true then (impl_allWithin.l0 k x1 x2 x9 x10 (wrap64 (x11 + 1))) else (some false))) else (none)) else (none)) else (some true)
def impl_allWithin.f (k : Nat) (l0 : List Int) (a1 : Int) (a2 : Int) : Option (Bool) := impl_allWithin.l0 k a1 a2 l0 (l0.length : Int) 0
theorem impl_allWithin.mono_l : ∀ k, (∀ y0 y1 y2 y3 y4, LeO (impl_allWithin.l0 k y0 y1 y2 y3 y4) (impl_allWithin.l0 (k + 1) y0 y1 y2 y3 y4))
 | 0 => fun _ _ _ _ _ r h => by simp [impl_allWithin.l0] at h
 | k + 1 => by
  have ih0 := impl_allWithin.mono_l k
  ·intro y0 y1 y2 y3 y4
   unfold impl_allWithin.l0
   repeat' first
   | (with_reducible exact ih0 _ _ _ _ _)
   | (with_reducible exact LeO.refl _)
   | (with_reducible exact LeO.none _)
   | (with_reducible refine LeO.ite ?_ ?_)
   | (with_reducible refine LeO.bind ?_ (fun _ => ?_))
   | exact ih0 _ _ _ _ _
   | exact LeO.none _
   | refine LeO.ite ?_ ?_
   | refine LeO.bind ?_ (fun _ => ?_)
theorem impl_allWithin.mono : ∀ a0 a1 a2 k, LeO (impl_allWithin.f k a0 a1 a2) (impl_allWithin.f (k + 1) a0 a1 a2) := by
 intro a0 a1 a2 k
 have ih0 := impl_allWithin.mono_l k
 unfold impl_allWithin.f
 repeat' first
  | (with_reducible exact ih0 _ _ _ _ _)
  | (with_reducible exact LeO.refl _)
  | (with_reducible exact LeO.none _)
  | (with_reducible refine LeO.ite ?_ ?_)
  | (with_reducible refine LeO.bind ?_ (fun _ => ?_))
  | exact ih0 _ _ _ _ _
  | exact LeO.none _
  | refine LeO.ite ?_ ?_
  | refine LeO.bind ?_ (fun _ => ?_)
set_option maxHeartbeats 8000000 in
set_option maxRecDepth 100000 in
theorem impl_allWithin.calls (k : Nat) (A0 : Option Addr) (c0 : Nat) (l0 : List Int) (a1 : Int) (a2 : Int) (r : Bool) (w : World) (hr0 : Kd.C (Kd.int .i64) w A0 l0.length l0) (hc0 : l0.length ≤ c0) (h : impl_allWithin.f k l0 a1 a2 = some r) :
 Calls Try.prog 69 #[.slice A0 l0.length c0, .int .i64 a1, .int .i64 a2] w fun e w' => e = .returned (.bool r) ∧ Drawn0 w w' := by
 have HR0 := Aside0.mk hr0
 have HC0 := Aside0.mk hc0
 clear hr0 hc0
 have H : (impl_allWithin.l0 k a1 a2 l0 (l0.length : Int) 0) = some r := h
 clear h
 have H' := Aside0.mk H
 clear H
 go_enter Try.func69, Try.ntmps69
 go_wp2
 go_loopg [11] k (fun kq v11 w' => ∃ (x11_1 : Int), v11 = .int .i64 x11_1 ∧ Aside0 (impl_allWithin.l0 kq a1 a2 l0 (l0.length : Int) x11_1 = some r) ∧ Aside0 (kq ≤ k) ∧ Drawn0 w w')
 case atStart => exact ⟨(0), zrx, H', ⟨Nat.le_refl _⟩, by repeat (first | exact Drawn0.refl _ | apply Drawn0.step)⟩
 case round =>
  clear H'
  try clear p2
  obtain ⟨x11_1, rfl, HA, HK1, ⟨m1, rfl⟩⟩ := hrel
  cases gk with
  | zero => exact absurd HA.out (by simp [impl_allWithin.l0])
  | succ k1 =>
   have H := HA.out
   clear HA
   simp only [impl_allWithin.l0] at H
   by_cases c4 : x11_1 < (l0.length : Int)
   ·rw [if_pos c4] at H
    have c4b0 : decide (x11_1 < (l0.length : Int)) = true := decide_eq_true c4
    clear c4
    by_cases c5 : 0 ≤ x11_1
    ·rw [if_pos c5] at H
     have c5b0 : decide (0 ≤ x11_1) = true := decide_eq_true c5
     clear c5
     by_cases c6 : x11_1 < (l0.length : Int)
     ·rw [if_pos c6] at H
      have c6b0 : decide (x11_1 < (l0.length : Int)) = true := decide_eq_true c6
      clear c6
      replace H := Option.bind_eq_some_iff.mp H
      obtain ⟨t376, A70, H⟩ := H
      replace H : (if t376 = true then (impl_allWithin.l0 k1 a1 a2 l0 (l0.length : Int) (wrap64 (x11_1 + 1))) else (some false)) = some r := H
      have A7 := Aside0.mk A70
      clear A70
      by_cases c8 : t376 = true
      ·subst c8
       have H1 : (impl_allWithin.l0 k1 a1 a2 l0 (l0.length : Int) (wrap64 (x11_1 + 1))) = some r := by rw [if_pos rfl] at H; exact H
       clear H
       have H := H1
       clear H1
       focus
        have H' := Aside0.mk H
        clear H
        have p375 : 0 ≤ (x11_1 : Int) := of_decide_eq_true zax
        have q375 : x11_1 < (l0.length : Int) := of_decide_eq_true zax
        obtain ⟨ad375, e375, hx375_0⟩ := Kd.at_int HR0.out x11_1 p375 q375
        cases e375
        replace p375 := eq_true p375
        replace q375 := eq_true q375
        go_wp2_with (first | ((with_reducible refine gate_callee (f := 73) rfl ?_); refine goesL_ (some 18) rfl rfl Try.func73 (by kernel_rfl) rfl #[.int .i64 (rd l0 x11_1), .int .i64 a1, .int .i64 a2] rfl zlx ?_; (with_reducible refine (impl_within.calls (rd l0 x11_1) a1 a2 true _ A7.out).mono ?_); rintro e w' ⟨rfl, ⟨nd, rfl⟩⟩; refine ⟨_, rfl, ?_⟩))
        go_roundg k1
        case measure => have := HK1.out; omega
        case rel => exact ⟨(wrap64 (x11_1 + 1)), zrx, H', ⟨by have := HK1.out; omega⟩, by repeat (first | exact Drawn0.refl _ | apply Drawn0.step)⟩
      ·replace c8 := Bool.eq_false_iff.mpr c8
       subst c8
       have H1 : (some false) = some r := by rw [if_neg (show ¬ (false = true) by decide)] at H; exact H
       clear H
       have H := H1
       clear H1
       focus
        obtain rfl := Option.some.inj H
        have p375 : 0 ≤ (x11_1 : Int) := of_decide_eq_true zax
        have q375 : x11_1 < (l0.length : Int) := of_decide_eq_true zax
        obtain ⟨ad375, e375, hx375_0⟩ := Kd.at_int HR0.out x11_1 p375 q375
        cases e375
        replace p375 := eq_true p375
        replace q375 := eq_true q375
        go_wp2_with (first | ((with_reducible refine gate_callee (f := 73) rfl ?_); refine goesL_ (some 18) rfl rfl Try.func73 (by kernel_rfl) rfl #[.int .i64 (rd l0 x11_1), .int .i64 a1, .int .i64 a2] rfl zlx ?_; (with_reducible refine (impl_within.calls (rd l0 x11_1) a1 a2 false _ A7.out).mono ?_); rintro e w' ⟨rfl, ⟨nd, rfl⟩⟩; refine ⟨_, rfl, ?_⟩))
        go_ret
        exact ⟨by first | rfl | (simp; done) | (simp [*]; done), by repeat (first | exact Drawn0.refl _ | apply Drawn0.step)⟩
     ·rw [if_neg c6] at H
      exact absurd H (by simp)
    ·rw [if_neg c5] at H
     exact absurd H (by simp)
   ·rw [if_neg c4] at H
    have c4b0 : decide (x11_1 < (l0.length : Int)) = false := decide_eq_false c4
    clear c4
    focus
     obtain rfl := Option.some.inj H
     go_wp2
     go_ret
     exact ⟨by first | rfl | (simp; done) | (simp [*]; done), by repeat (first | exact Drawn0.refl _ | apply Drawn0.step)⟩

/-! ### impl_isTable: function 50 -/
def impl_isTable.f (k : Nat) (a0_0 : Int) (a0_1 : Int) (a0_2 : Int) (a0_3 : Int) : Option (Bool) := (impl_allWithin.f k (([a0_0, a0_1, a0_2, a0_3] : List Int)) 0 1000000).bind fun t381 => (some t381)
theorem impl_isTable.mono : ∀ a0 a1 a2 a3 k, LeO (impl_isTable.f k a0 a1 a2 a3) (impl_isTable.f (k + 1) a0 a1 a2 a3) := by
 intro a0 a1 a2 a3 k
 unfold impl_isTable.f
 repeat' first
  | (with_reducible exact impl_allWithin.mono _ _ _ _)
  | (with_reducible exact LeO.refl _)
  | (with_reducible exact LeO.none _)
  | (with_reducible refine LeO.ite ?_ ?_)
  | (with_reducible refine LeO.bind ?_ (fun _ => ?_))
  | exact impl_allWithin.mono _ _ _ _
  | exact LeO.none _
  | refine LeO.ite ?_ ?_
  | refine LeO.bind ?_ (fun _ => ?_)
set_option maxHeartbeats 8000000 in
set_option maxRecDepth 100000 in
theorem impl_isTable.calls (k : Nat) (a0_0 : Int) (a0_1 : Int) (a0_2 : Int) (a0_3 : Int) (r : Bool) (w : World) (h : impl_isTable.f k a0_0 a0_1 a0_2 a0_3 = some r) :
 Calls Try.prog 50 #[.agg #[.int .i64 a0_0, .int .i64 a0_1, .int .i64 a0_2, .int .i64 a0_3]] w fun e w' => e = .returned (.bool r) ∧ Below w.heap.size w w' := by
 have hu30 := Try.underlying30
 have HB := Aside0.mk (Below.refl w.heap.size w)
 have H : ((impl_allWithin.f k (([a0_0, a0_1, a0_2, a0_3] : List Int)) 0 1000000).bind fun t381 => (some t381)) = some r := h
 clear h
 obtain ⟨y378, hy378⟩ : ∃ y_ : List Int, y_ = (([a0_0, a0_1, a0_2, a0_3] : List Int)) := ⟨_, rfl⟩
 replace H : ((impl_allWithin.f k y378 0 1000000).bind fun t381 => (some t381)) = some r := by first | (rw [hy378]; with_reducible exact H) | (have H2_ := (Option.bind_some _ _).symm.trans H; rw [hy378]; with_reducible exact H2_) | (have H2_ := (Option.bind_some _ _).symm.trans H; with_reducible exact H2_) | with_reducible exact H | (rw [hy378]; exact H) | exact H
 have Ny378 := Aside0.mk hy378
 clear hy378
 replace H := Option.bind_eq_some_iff.mp H
 obtain ⟨t381, A20, H⟩ := H
 replace H : (some t381) = some r := H
 have A2 := Aside0.mk A20
 clear A20
 focus
  obtain rfl := Option.some.inj H
  go_enter Try.func50, Try.ntmps50
  go_wp2_with (first | ((with_reducible refine gate_dst (N := 1) rfl ?_); refine box_event ?hg (N := 1) ?hd (cs := #[.int .i64 a0_0, .int .i64 a0_1, .int .i64 a0_2, .int .i64 a0_3]) (t := 30) ?hr ?_; (case hd => rfl); (case hg => rfl); (case hr => exact zsx); intro gb377 hg w3 hbox hb; have BK377 := Aside0.mk (hbox); have GW377 := zns hg HB.out; have GE377 := zns hg HB.out; replace HB := Aside0.mk (below_step (zBx HB.out) hb); clear hb hbox hg; have hcz4_0 : w3.cell? ⟨gb377, 0, none⟩ = some (.int .i64 a0_0) := (blk_cell BK377.out 0).trans rfl; have hcz4_1 : w3.cell? ⟨gb377, 1, none⟩ = some (.int .i64 a0_1) := (blk_cell BK377.out 1).trans rfl; have hcz4_2 : w3.cell? ⟨gb377, 2, none⟩ = some (.int .i64 a0_2) := (blk_cell BK377.out 2).trans rfl; have hcz4_3 : w3.cell? ⟨gb377, 3, none⟩ = some (.int .i64 a0_3) := (blk_cell BK377.out 3).trans rfl; have hfz4_0 := blk_frozen BK377.out 0; have hfz4_1 := blk_frozen BK377.out 1; have hfz4_2 := blk_frozen BK377.out 2; have hfz4_3 := blk_frozen BK377.out 3) | ((with_reducible refine gate_dst (N := 11) rfl ?_); refine Kd.R_lit (Kd.int .i64) _ 3 ?hg (N := 11) ?hd (xs := ([a0_0, a0_1, a0_2, a0_3] : List Int)) (inner := [.int .i64 a0_0, .int .i64 a0_1, .int .i64 a0_2, .int .i64 a0_3]) (ok := fun _ => True) (okp := fun _ => True) ?hr ?hp (fun _ hk => hk) trivial (Below.refl _ _) (Nat.le_refl _) (by simp) ?_; (case hd => rfl); (case hg => rfl); (case hr => exact zsx); (case hp => exact (Reps.one (show Kd.M (Kd.int .i64) _ _ _ a0_0 [.int .i64 a0_0] from rfl) (Reps.one (show Kd.M (Kd.int .i64) _ _ _ a0_1 [.int .i64 a0_1] from rfl) (Reps.one (show Kd.M (Kd.int .i64) _ _ _ a0_2 [.int .i64 a0_2] from rfl) (Reps.one (show Kd.M (Kd.int .i64) _ _ _ a0_3 [.int .i64 a0_3] from rfl) (Reps.none _ _)))))); intro v379 w5 ho6 hb hg_ hnew_; clear hg_ hnew_; (first | rw [← Ny378.out] at ho6 | (simp only [Int.reduceToNat] at ho6; rw [← Ny378.out] at ho6)); have HO380 := Aside0.mk (Kd.R_lower ho6 (below_size (zBy HB.out GE377.out))); replace BK377 := zbl BK377.out hb; replace HB := Aside0.mk (below_step (zBy HB.out GE377.out) hb); clear hb ho6; obtain ⟨Ao7, co7, eo7⟩ := Kd.R_slice HO380.out; subst eo7) | ((with_reducible refine gate_callee (f := 69) rfl ?_); refine goesL_ (some 12) rfl rfl Try.func69 (by kernel_rfl) rfl #[.slice Ao7 y378.length co7, .int .i64 0, .int .i64 1000000] rfl zlx ?_; (with_reducible refine (impl_allWithin.calls k _ _ y378 0 1000000 t381 _ ?side1 ?side2 A2.out).mono ?_); (case side1 => repeat (first | exact (Kd.R_reads' HO380.out).2.2 | (with_reducible refine Kd.C_alloc ?_ _) | (with_reducible refine Kd.C_drewN ?_ _) | (with_reducible refine Kd.C_drew ?_))); (case side2 => exact (Kd.R_reads' HO380.out).2.1); rintro e w' ⟨rfl, ⟨nd, rfl⟩⟩; refine ⟨_, rfl, ?_⟩))
  go_ret
  exact ⟨by first | rfl | (simp [errW_none, errW_some] <;> rfl) | (simp [*, errW_none, errW_some] <;> rfl), by exact zBy HB.out GE377.out⟩

/-! ### impl_divisorOf: function 79 -/
def impl_divisorOf.l0 : Nat → Int → Int → Option (Int)
 | 0, _, _ => none
 | k + 1, x0, x1 => if x1 > 0 then (if x1 = 0 then (none) else (impl_divisorOf.l0 k x1 (Int.tmod x0 x1))) else (some x0)
def impl_divisorOf.f (k : Nat) (a0 : Int) (a1 : Int) : Option (Int) := impl_divisorOf.l0 k a0 a1
theorem impl_divisorOf.mono_l : ∀ k, (∀ y0 y1, LeO (impl_divisorOf.l0 k y0 y1) (impl_divisorOf.l0 (k + 1) y0 y1))
 | 0 => fun _ _ r h => by simp [impl_divisorOf.l0] at h
 | k + 1 => by
  have ih0 := impl_divisorOf.mono_l k
  ·intro y0 y1
   unfold impl_divisorOf.l0
   repeat' first
   | (with_reducible exact ih0 _ _)
   | (with_reducible exact LeO.refl _)
   | (with_reducible exact LeO.none _)
   | (with_reducible refine LeO.ite ?_ ?_)
   | (with_reducible refine LeO.bind ?_ (fun _ => ?_))
   | exact ih0 _ _
   | exact LeO.none _
   | refine LeO.ite ?_ ?_
   | refine LeO.bind ?_ (fun _ => ?_)
theorem impl_divisorOf.mono : ∀ a0 a1 k, LeO (impl_divisorOf.f k a0 a1) (impl_divisorOf.f (k + 1) a0 a1) := by
 intro a0 a1 k
 have ih0 := impl_divisorOf.mono_l k
 unfold impl_divisorOf.f
 repeat' first
  | (with_reducible exact ih0 _ _)
  | (with_reducible exact LeO.refl _)
  | (with_reducible exact LeO.none _)
  | (with_reducible refine LeO.ite ?_ ?_)
  | (with_reducible refine LeO.bind ?_ (fun _ => ?_))
  | exact ih0 _ _
  | exact LeO.none _
  | refine LeO.ite ?_ ?_
  | refine LeO.bind ?_ (fun _ => ?_)
set_option maxHeartbeats 8000000 in
set_option maxRecDepth 100000 in
theorem impl_divisorOf.calls (k : Nat) (a0 : Int) (a1 : Int) (r : Int) (w : World) (h : impl_divisorOf.f k a0 a1 = some r) :
 Calls Try.prog 79 #[.int .i64 a0, .int .i64 a1] w fun e w' => e = .returned (.int .i64 r) ∧ Drawn0 w w' := by
 have H : (impl_divisorOf.l0 k a0 a1) = some r := h
 clear h
 have H' := Aside0.mk H
 clear H
 go_enter Try.func79, Try.ntmps79
 go_wp2
 repeat (go_quiet (fail); try go_wp2)
 go_loopg [0, 1] k (fun kq v0 v1 w' => ∃ (x0_1 : Int) (x1_1 : Int), v0 = .int .i64 x0_1 ∧ v1 = .int .i64 x1_1 ∧ Aside0 (impl_divisorOf.l0 kq x0_1 x1_1 = some r) ∧ Aside0 (kq ≤ k) ∧ Drawn0 w w')
 case atStart => exact ⟨(a0), (a1), zrx, zrx, H', ⟨Nat.le_refl _⟩, by repeat (first | exact Drawn0.refl _ | apply Drawn0.step)⟩
 case round =>
  clear H'
  try clear p2
  obtain ⟨x0_1, x1_1, rfl, rfl, HA, HK1, ⟨m1, rfl⟩⟩ := hrel
  cases gk with
  | zero => exact absurd HA.out (by simp [impl_divisorOf.l0])
  | succ k1 =>
   have H := HA.out
   clear HA
   simp only [impl_divisorOf.l0] at H
   by_cases c3 : x1_1 > 0
   ·rw [if_pos c3] at H
    have c3b0 : decide (0 < x1_1) = true := decide_eq_true c3
    clear c3
    by_cases c4 : x1_1 = 0
    ·rw [if_pos c4] at H
     exact absurd H (by simp)
    ·rw [if_neg c4] at H
     have c4b0 : (x1_1 == 0) = false := beq_eq_false_iff_ne.mpr c4
     have c4b1 : (x1_1 != 0) = true := bne_iff_ne.mpr c4
     focus
      have H' := Aside0.mk H
      clear H
      go_wp2
      repeat (go_quiet (fail); try go_wp2)
      go_roundg k1
      case measure => have := HK1.out; omega
      case rel => exact ⟨(x1_1), (Int.tmod x0_1 x1_1), zrx, zrx, H', ⟨by have := HK1.out; omega⟩, by repeat (first | exact Drawn0.refl _ | apply Drawn0.step)⟩
   ·rw [if_neg c3] at H
    have c3b0 : decide (0 < x1_1) = false := decide_eq_false c3
    clear c3
    focus
     obtain rfl := Option.some.inj H
     go_wp2
     repeat (go_quiet (fail); try go_wp2)
     go_ret
     exact ⟨by first | rfl | (simp; done) | (simp [*]; done), by repeat (first | exact Drawn0.refl _ | apply Drawn0.step)⟩

/-! ### impl_ratioOf: function 59 -/
def impl_ratioOf.f (k : Nat) (a0 : Int) (a1 : Int) : Option (Int × Int × Bool) := if a1 = 0 then (some (0, 0, false)) else (if a1 < 0 then ((impl_absOf.f (wrap64 (-a0))).bind fun t383 => ((impl_divisorOf.f k (wrap64 (-a1)) t383).bind fun t384 => (if t384 = 0 then (none) else (some (wrap64 (Int.tdiv (wrap64 (-a0)) t384), wrap64 (Int.tdiv (wrap64 (-a1)) t384), true))))) else ((impl_absOf.f a0).bind fun t385 => ((impl_divisorOf.f k a1 t385).bind fun t386 => (if t386 = 0 then (none) else (some (wrap64 (Int.tdiv a0 t386), wrap64 (Int.tdiv a1 t386), true))))))
theorem impl_ratioOf.mono : ∀ a0 a1 k, LeO (impl_ratioOf.f k a0 a1) (impl_ratioOf.f (k + 1) a0 a1) := by
 intro a0 a1 k
 unfold impl_ratioOf.f
 repeat' first
  | (with_reducible exact impl_divisorOf.mono _ _ _)
  | (with_reducible exact LeO.refl _)
  | (with_reducible exact LeO.none _)
  | (with_reducible refine LeO.ite ?_ ?_)
  | (with_reducible refine LeO.bind ?_ (fun _ => ?_))
  | exact impl_divisorOf.mono _ _ _
  | exact LeO.none _
  | refine LeO.ite ?_ ?_
  | refine LeO.bind ?_ (fun _ => ?_)
def impl_ratioOf.T6 : Bool × List (List Nat × List Nat) := (true, [([], []), ([], []), ([0, 1], [0, 1]), ([], []), ([], []), ([3, 4], [3, 4]), ([2, 5], [2, 5]), ([6, 0, 1, 2, 3, 4, 5, 6], [6]), ([7, 0, 1, 2, 3, 4, 5, 6, 7], [])])
def impl_ratioOf.B6 : List Nat := [0, 0, 3, 0, 0, 24, 63, 127, 255]
theorem impl_ratioOf.tab6 : rtab .any (opsOf Try.f59 6) = impl_ratioOf.T6 := by kernel_rfl
theorem impl_ratioOf.bits6 : waitsOk impl_ratioOf.T6.2 impl_ratioOf.B6 = true := by kernel_rfl
set_option maxHeartbeats 8000000 in
set_option maxRecDepth 100000 in
theorem impl_ratioOf.calls (k : Nat) (a0 : Int) (a1 : Int) (r1 : Int) (r2 : Int) (r3 : Bool) (w : World) (h : impl_ratioOf.f k a0 a1 = some (r1, r2, r3)) :
 Calls Try.prog 59 #[.int .i64 a0, .int .i64 a1] w fun e w' => e = .returned (.tuple #[.agg #[.int .i64 r1, .int .i64 r2], .bool r3]) ∧ Below w.heap.size w w' := by
 have hu37 := Try.underlying37
 have HB := Aside0.mk (Below.refl w.heap.size w)
 have H : (if a1 = 0 then (some (0, 0, false)) else (if a1 < 0 then ((impl_absOf.f (wrap64 (-a0))).bind fun t383 => ((impl_divisorOf.f k (wrap64 (-a1)) t383).bind fun t384 => (if t384 = 0 then (none) else (some (wrap64 (Int.tdiv (wrap64 (-a0)) t384), wrap64 (Int.tdiv (wrap64 (-a1)) t384), true))))) else ((impl_absOf.f a0).bind fun t385 => ((impl_divisorOf.f k a1 t385).bind fun t386 => (if t386 = 0 then (none) else (some (wrap64 (Int.tdiv a0 t386), wrap64 (Int.tdiv a1 t386), true))))))) = some (r1, r2, r3) := h
 clear h
 by_cases c3 : a1 = 0
 ·rw [if_pos c3] at H
  have c3b0 : (a1 == 0) = true := beq_iff_eq.mpr c3
  have c3b1 : (a1 != 0) = false := bne_eq_false_iff_eq.mpr c3
  clear c3
  focus
   simp only [Option.some.injEq, Prod.mk.injEq] at H
   obtain ⟨rfl, rfl, rfl⟩ := H
   go_enter Try.func59, Try.ntmps59
   go_wp2_with (first | ((with_reducible refine gate_dst (N := 4) rfl ?_); refine box_event ?hg (N := 4) ?hd (cs := #[.int .i64 0, .int .i64 0]) (t := 37) ?hr ?_; (case hd => rfl); (case hg => rfl); (case hr => exact zsx); intro gb382 hg w4 hbox hb; have BK382 := Aside0.mk (hbox); have GW382 := zns hg HB.out; have GE382 := zns hg HB.out; replace HB := Aside0.mk (below_step (zBx HB.out) hb); clear hb hbox hg; have hcz5_0 : w4.cell? ⟨gb382, 0, none⟩ = some (.int .i64 0) := (blk_cell BK382.out 0).trans rfl; have hcz5_1 : w4.cell? ⟨gb382, 1, none⟩ = some (.int .i64 0) := (blk_cell BK382.out 1).trans rfl; have hfz5_0 := blk_frozen BK382.out 0; have hfz5_1 := blk_frozen BK382.out 1))
   refine bodyPost_ret (results_ct rfl _ _ gb382 37 #[.int .i64 0, .int .i64 0] (0, 0) _ rfl (by refine zbx ?_; refine blk_put (cs := #[.int .i64 0, .int .i64 0]) ?_ 1 _ rfl; refine zbx ?_; refine blk_put (cs := #[.int .i64 0, .int .i64 0]) ?_ 0 _ rfl; refine zbx ?_; exact BK382.out) Try.underlying37 rfl (by kernel_rfl)) rfl ?_
   exact ⟨by first | rfl | (simp [errW_none, errW_some] <;> rfl) | (simp [*, errW_none, errW_some] <;> rfl), by exact zBy HB.out GE382.out⟩
 ·rw [if_neg c3] at H
  have c3b0 : (a1 == 0) = false := beq_eq_false_iff_ne.mpr c3
  have c3b1 : (a1 != 0) = true := bne_iff_ne.mpr c3
  by_cases c6 : a1 < 0
  ·rw [if_pos c6] at H
   have c6b0 : decide (a1 < 0) = true := decide_eq_true c6
   clear c6
   replace H := Option.bind_eq_some_iff.mp H
   obtain ⟨t383, A70, H⟩ := H
   replace H : ((impl_divisorOf.f k (wrap64 (-a1)) t383).bind fun t384 => (if t384 = 0 then (none) else (some (wrap64 (Int.tdiv (wrap64 (-a0)) t384), wrap64 (Int.tdiv (wrap64 (-a1)) t384), true)))) = some (r1, r2, r3) := H
   have A7 := Aside0.mk A70
   clear A70
   replace H := Option.bind_eq_some_iff.mp H
   obtain ⟨t384, A80, H⟩ := H
   replace H : (if t384 = 0 then (none) else (some (wrap64 (Int.tdiv (wrap64 (-a0)) t384), wrap64 (Int.tdiv (wrap64 (-a1)) t384), true))) = some (r1, r2, r3) := H
   have A8 := Aside0.mk A80
   clear A80
   by_cases c9 : t384 = 0
   ·rw [if_pos c9] at H
    exact absurd H (by simp)
   ·rw [if_neg c9] at H
    have c9b0 : (t384 == 0) = false := beq_eq_false_iff_ne.mpr c9
    have c9b1 : (t384 != 0) = true := bne_iff_ne.mpr c9
    focus
     simp only [Option.some.injEq, Prod.mk.injEq] at H
     obtain ⟨rfl, rfl, rfl⟩ := H
     go_enter Try.func59, Try.ntmps59
     try go_wp2_with (first | ((with_reducible refine gate_dst (N := 4) rfl ?_); refine box_event ?hg (N := 4) ?hd (cs := #[.int .i64 0, .int .i64 0]) (t := 37) ?hr ?_; (case hd => rfl); (case hg => rfl); (case hr => exact zsx); intro gb382 hg w10 hbox hb; have BK382 := Aside0.mk (hbox); have GW382 := zns hg HB.out; have GE382 := zns hg HB.out; replace HB := Aside0.mk (below_step (zBx HB.out) hb); clear hb hbox hg) | ((with_reducible refine gate_callee (f := 58) rfl ?_); refine goesL_ (some 18) rfl rfl Try.func58 (by kernel_rfl) rfl #[.int .i64 (wrap64 (-a0))] rfl zlx ?_; (with_reducible refine (impl_absOf.calls (wrap64 (-a0)) t383 _ A7.out).mono ?_); rintro e w' ⟨rfl, ⟨nd, rfl⟩⟩; refine ⟨_, rfl, ?_⟩; (try (rw [drewN_self w10]; generalize hq_ : World.drewN w10 _ = w10; replace BK382 : Aside0 (w10.heap[gb382]? = some (.cells #[.int .i64 0, .int .i64 0] 37 (0, 0))) := ⟨by rw [← hq_]; exact (zbx BK382.out)⟩; replace HB : Aside0 (Below w.heap.size w w10) := ⟨by rw [← hq_]; exact (zBy HB.out GE382.out)⟩; clear hq_))) | ((with_reducible refine gate_callee (f := 79) rfl ?_); refine goesL_ (some 19) rfl rfl Try.func79 (by kernel_rfl) rfl #[.int .i64 (wrap64 (-a1)), .int .i64 t383] rfl zlx ?_; (with_reducible refine (impl_divisorOf.calls k (wrap64 (-a1)) t383 t384 _ A8.out).mono ?_); rintro e w' ⟨rfl, ⟨nd, rfl⟩⟩; refine ⟨_, rfl, ?_⟩; (try (rw [drewN_self w10]; generalize hq_ : World.drewN w10 _ = w10; replace BK382 : Aside0 (w10.heap[gb382]? = some (.cells #[.int .i64 0, .int .i64 0] 37 (0, 0))) := ⟨by rw [← hq_]; exact (zbx BK382.out)⟩; replace HB : Aside0 (Below w.heap.size w w10) := ⟨by rw [← hq_]; exact (zBy HB.out GE382.out)⟩; clear hq_))))
     replace BK382 := Aside0.mk (blk_drew BK382.out)
     replace HB := Aside0.mk (below_drew1 HB.out)
     refine start_ (n := 9) (S := fun w' => True) (ds := []) #[F,F,F,F,F,F,F,F,F] (by kernel_rfl) rfl rfl trivial (fun hHeld => ?_); refine with_tabW impl_ratioOf.tab6 impl_ratioOf.bits6 (fun HT_ HW_ => ?_)
     generalize w10.drew = w11 at BK382 HB hHeld ⊢
     refine pure_ (i := 0) (N := some 20) (v := ?_) (a' := ?_) #[T,F,F,F,F,F,F,F,F] rfl rfl (any_of HT_.out (by kernel_rfl)) (fun _ _ _ h => h) (Or.inl ⟨by rfl, ?_⟩) ?_ ?_
     rotate_left
     ·exact zwx
     rotate_left
     ·exact zpx
     refine pure_ (i := 1) (N := some 21) (v := ?_) (a' := ?_) #[T,T,F,F,F,F,F,F,F] rfl rfl (any_of HT_.out (by kernel_rfl)) (fun _ _ _ h => h) (Or.inl ⟨by rfl, ?_⟩) ?_ ?_
     rotate_left
     ·exact zwx
     rotate_left
     ·exact zpx
     refine pure_ (i := 2) (N := some 22) (v := ?_) (a' := ?_) #[T,T,T,F,F,F,F,F,F] rfl rfl (any_of HT_.out (by kernel_rfl)) (fun _ _ _ h => h) (Or.inl ⟨by rfl, ?_⟩) ?_ ?_
     rotate_left
     ·exact zwx
     rotate_left
     ·exact zpx
     refine pure_ (i := 3) (N := some 23) (v := ?_) (a' := ?_) #[T,T,T,T,F,F,F,F,F] rfl rfl (any_of HT_.out (by kernel_rfl)) (fun _ _ _ h => h) (Or.inl ⟨by rfl, ?_⟩) ?_ ?_
     rotate_left
     ·exact zwx
     rotate_left
     ·exact zpx
     refine pure_ (i := 4) (N := some 24) (v := ?_) (a' := ?_) #[T,T,T,T,T,F,F,F,F] rfl rfl (any_of HT_.out (by kernel_rfl)) (fun _ _ _ h => h) (Or.inl ⟨by rfl, ?_⟩) ?_ ?_
     rotate_left
     ·exact zwx
     rotate_left
     ·exact zpx
     refine pure_ (i := 5) (N := some 25) (v := ?_) (a' := ?_) #[T,T,T,T,T,T,F,F,F] rfl rfl (any_of HT_.out (by kernel_rfl)) (fun _ _ _ h => h) (Or.inl ⟨by rfl, ?_⟩) ?_ ?_
     rotate_left
     ·exact zwx
     rotate_left
     ·exact zpx
     refine pure_ (i := 6) (N := some 26) (v := ?_) (a' := ?_) #[T,T,T,T,T,T,T,F,F] rfl rfl (any_of HT_.out (by kernel_rfl)) (fun _ _ _ h => h) (Or.inl ⟨by rfl, ?_⟩) ?_ ?_
     rotate_left
     ·exact zwx
     rotate_left
     ·exact zpx
     refine one_ (i := 7) (N := none) #[T,T,T,T,T,T,T,T,F] rfl rfl (one_of HT_.out (by kernel_rfl)) (by decide) (fun K hK => ?_)
     have hs12 : w11.cell? ⟨gb382, 0, none⟩ = some (.int .i64 0) := (blk_cell BK382.out 0).trans rfl
     have hfs12 := blk_frozen BK382.out 0
     have hs13 : w11.cell? ⟨gb382, 1, none⟩ = some (.int .i64 0) := (blk_cell BK382.out 1).trans rfl
     have hfs13 := blk_frozen BK382.out 1
     refine skip_ (w1 := ?_) (by rfl) rfl ?_ ?_
     rotate_left
     ·go_simp
      rfl
     refine hK.out _ _ trivial (fun hHeld => ?_)
     clear hK K
     refine pure_ (i := 8) (N := some 5) (v := ?_) (a' := ?_) #[T,T,T,T,T,T,T,T,T] rfl rfl (any_of HT_.out (by kernel_rfl)) (fun _ _ _ h => h) (Or.inl ⟨by rfl, ?_⟩) ?_ ?_
     rotate_left
     ·exact zwx
     rotate_left
     ·exact zpx
     refine done_ (done_of HT_.out (by kernel_rfl)) ?_
     try go_wp2
     refine bodyPost_ret (results_ct rfl _ _ gb382 37 #[.int .i64 (wrap64 (Int.tdiv (wrap64 (-a0)) t384)), .int .i64 (wrap64 (Int.tdiv (wrap64 (-a1)) t384))] (0, 0) _ rfl (by refine zbx ?_; refine blk_put (cs := #[.int .i64 (wrap64 (Int.tdiv (wrap64 (-a0)) t384)), .int .i64 0]) ?_ 1 _ rfl; refine zbx ?_; refine blk_put (cs := #[.int .i64 0, .int .i64 0]) ?_ 0 _ rfl; refine zbx ?_; exact BK382.out) Try.underlying37 rfl (by kernel_rfl)) rfl ?_
     exact ⟨by first | rfl | (simp [errW_none, errW_some] <;> rfl) | (simp [*, errW_none, errW_some] <;> rfl), by exact zBy HB.out GE382.out⟩
  ·rw [if_neg c6] at H
   have c6b0 : decide (a1 < 0) = false := decide_eq_false c6
   clear c6
   replace H := Option.bind_eq_some_iff.mp H
   obtain ⟨t385, A140, H⟩ := H
   replace H : ((impl_divisorOf.f k a1 t385).bind fun t386 => (if t386 = 0 then (none) else (some (wrap64 (Int.tdiv a0 t386), wrap64 (Int.tdiv a1 t386), true)))) = some (r1, r2, r3) := H
   have A14 := Aside0.mk A140
   clear A140
   replace H := Option.bind_eq_some_iff.mp H
   obtain ⟨t386, A150, H⟩ := H
   replace H : (if t386 = 0 then (none) else (some (wrap64 (Int.tdiv a0 t386), wrap64 (Int.tdiv a1 t386), true))) = some (r1, r2, r3) := H
   have A15 := Aside0.mk A150
   clear A150
   by_cases c16 : t386 = 0
   ·rw [if_pos c16] at H
    exact absurd H (by simp)
   ·rw [if_neg c16] at H
    have c16b0 : (t386 == 0) = false := beq_eq_false_iff_ne.mpr c16
    have c16b1 : (t386 != 0) = true := bne_iff_ne.mpr c16
    focus
     simp only [Option.some.injEq, Prod.mk.injEq] at H
     obtain ⟨rfl, rfl, rfl⟩ := H
     go_enter Try.func59, Try.ntmps59
     try go_wp2_with (first | ((with_reducible refine gate_dst (N := 4) rfl ?_); refine box_event ?hg (N := 4) ?hd (cs := #[.int .i64 0, .int .i64 0]) (t := 37) ?hr ?_; (case hd => rfl); (case hg => rfl); (case hr => exact zsx); intro gb382 hg w17 hbox hb; have BK382 := Aside0.mk (hbox); have GW382 := zns hg HB.out; have GE382 := zns hg HB.out; replace HB := Aside0.mk (below_step (zBx HB.out) hb); clear hb hbox hg) | ((with_reducible refine gate_callee (f := 58) rfl ?_); refine goesL_ (some 18) rfl rfl Try.func58 (by kernel_rfl) rfl #[.int .i64 a0] rfl zlx ?_; (with_reducible refine (impl_absOf.calls a0 t385 _ A14.out).mono ?_); rintro e w' ⟨rfl, ⟨nd, rfl⟩⟩; refine ⟨_, rfl, ?_⟩; (try (rw [drewN_self w17]; generalize hq_ : World.drewN w17 _ = w17; replace BK382 : Aside0 (w17.heap[gb382]? = some (.cells #[.int .i64 0, .int .i64 0] 37 (0, 0))) := ⟨by rw [← hq_]; exact (zbx BK382.out)⟩; replace HB : Aside0 (Below w.heap.size w w17) := ⟨by rw [← hq_]; exact (zBy HB.out GE382.out)⟩; clear hq_))) | ((with_reducible refine gate_callee (f := 79) rfl ?_); refine goesL_ (some 19) rfl rfl Try.func79 (by kernel_rfl) rfl #[.int .i64 a1, .int .i64 t385] rfl zlx ?_; (with_reducible refine (impl_divisorOf.calls k a1 t385 t386 _ A15.out).mono ?_); rintro e w' ⟨rfl, ⟨nd, rfl⟩⟩; refine ⟨_, rfl, ?_⟩; (try (rw [drewN_self w17]; generalize hq_ : World.drewN w17 _ = w17; replace BK382 : Aside0 (w17.heap[gb382]? = some (.cells #[.int .i64 0, .int .i64 0] 37 (0, 0))) := ⟨by rw [← hq_]; exact (zbx BK382.out)⟩; replace HB : Aside0 (Below w.heap.size w w17) := ⟨by rw [← hq_]; exact (zBy HB.out GE382.out)⟩; clear hq_))))
     replace BK382 := Aside0.mk (blk_drew BK382.out)
     replace HB := Aside0.mk (below_drew1 HB.out)
     refine start_ (n := 9) (S := fun w' => True) (ds := []) #[F,F,F,F,F,F,F,F,F] (by kernel_rfl) rfl rfl trivial (fun hHeld => ?_); refine with_tabW impl_ratioOf.tab6 impl_ratioOf.bits6 (fun HT_ HW_ => ?_)
     generalize w17.drew = w18 at BK382 HB hHeld ⊢
     refine pure_ (i := 0) (N := some 20) (v := ?_) (a' := ?_) #[T,F,F,F,F,F,F,F,F] rfl rfl (any_of HT_.out (by kernel_rfl)) (fun _ _ _ h => h) (Or.inl ⟨by rfl, ?_⟩) ?_ ?_
     rotate_left
     ·exact zwx
     rotate_left
     ·exact zpx
     refine pure_ (i := 1) (N := some 21) (v := ?_) (a' := ?_) #[T,T,F,F,F,F,F,F,F] rfl rfl (any_of HT_.out (by kernel_rfl)) (fun _ _ _ h => h) (Or.inl ⟨by rfl, ?_⟩) ?_ ?_
     rotate_left
     ·exact zwx
     rotate_left
     ·exact zpx
     refine pure_ (i := 2) (N := some 22) (v := ?_) (a' := ?_) #[T,T,T,F,F,F,F,F,F] rfl rfl (any_of HT_.out (by kernel_rfl)) (fun _ _ _ h => h) (Or.inl ⟨by rfl, ?_⟩) ?_ ?_
     rotate_left
     ·exact zwx
     rotate_left
     ·exact zpx
     refine pure_ (i := 3) (N := some 23) (v := ?_) (a' := ?_) #[T,T,T,T,F,F,F,F,F] rfl rfl (any_of HT_.out (by kernel_rfl)) (fun _ _ _ h => h) (Or.inl ⟨by rfl, ?_⟩) ?_ ?_
     rotate_left
     ·exact zwx
     rotate_left
     ·exact zpx
     refine pure_ (i := 4) (N := some 24) (v := ?_) (a' := ?_) #[T,T,T,T,T,F,F,F,F] rfl rfl (any_of HT_.out (by kernel_rfl)) (fun _ _ _ h => h) (Or.inl ⟨by rfl, ?_⟩) ?_ ?_
     rotate_left
     ·exact zwx
     rotate_left
     ·exact zpx
     refine pure_ (i := 5) (N := some 25) (v := ?_) (a' := ?_) #[T,T,T,T,T,T,F,F,F] rfl rfl (any_of HT_.out (by kernel_rfl)) (fun _ _ _ h => h) (Or.inl ⟨by rfl, ?_⟩) ?_ ?_
     rotate_left
     ·exact zwx
     rotate_left
     ·exact zpx
     refine pure_ (i := 6) (N := some 26) (v := ?_) (a' := ?_) #[T,T,T,T,T,T,T,F,F] rfl rfl (any_of HT_.out (by kernel_rfl)) (fun _ _ _ h => h) (Or.inl ⟨by rfl, ?_⟩) ?_ ?_
     rotate_left
     ·exact zwx
     rotate_left
     ·exact zpx
     refine one_ (i := 7) (N := none) #[T,T,T,T,T,T,T,T,F] rfl rfl (one_of HT_.out (by kernel_rfl)) (by decide) (fun K hK => ?_)
     have hs19 : w18.cell? ⟨gb382, 0, none⟩ = some (.int .i64 0) := (blk_cell BK382.out 0).trans rfl
     have hfs19 := blk_frozen BK382.out 0
     have hs20 : w18.cell? ⟨gb382, 1, none⟩ = some (.int .i64 0) := (blk_cell BK382.out 1).trans rfl
     have hfs20 := blk_frozen BK382.out 1
     refine skip_ (w1 := ?_) (by rfl) rfl ?_ ?_
     rotate_left
     ·go_simp
      rfl
     refine hK.out _ _ trivial (fun hHeld => ?_)
     clear hK K
     refine pure_ (i := 8) (N := some 5) (v := ?_) (a' := ?_) #[T,T,T,T,T,T,T,T,T] rfl rfl (any_of HT_.out (by kernel_rfl)) (fun _ _ _ h => h) (Or.inl ⟨by rfl, ?_⟩) ?_ ?_
     rotate_left
     ·exact zwx
     rotate_left
     ·exact zpx
     refine done_ (done_of HT_.out (by kernel_rfl)) ?_
     try go_wp2
     refine bodyPost_ret (results_ct rfl _ _ gb382 37 #[.int .i64 (wrap64 (Int.tdiv a0 t386)), .int .i64 (wrap64 (Int.tdiv a1 t386))] (0, 0) _ rfl (by refine zbx ?_; refine blk_put (cs := #[.int .i64 (wrap64 (Int.tdiv a0 t386)), .int .i64 0]) ?_ 1 _ rfl; refine zbx ?_; refine blk_put (cs := #[.int .i64 0, .int .i64 0]) ?_ 0 _ rfl; refine zbx ?_; exact BK382.out) Try.underlying37 rfl (by kernel_rfl)) rfl ?_
     exact ⟨by first | rfl | (simp [errW_none, errW_some] <;> rfl) | (simp [*, errW_none, errW_some] <;> rfl), by exact zBy HB.out GE382.out⟩

/-! ### impl_tableRatio: function 40 -/
def impl_tableRatio.f (k : Nat) (a0_0 : Int) (a0_1 : Int) (a0_2 : Int) (a0_3 : Int) (a1 : Int) (a2 : Int) : Option (Int × Int × Bool) := (impl_isTable.f k a0_0 a0_1 a0_2 a0_3).bind fun t389 => (if t389 = true then ((impl_ratioOf.f k a1 a2).bind fun bt390 => (some (bt390.1, bt390.2.1, bt390.2.2))) else (some (0, 0, false)))
theorem impl_tableRatio.mono : ∀ a0 a1 a2 a3 a4 a5 k, LeO (impl_tableRatio.f k a0 a1 a2 a3 a4 a5) (impl_tableRatio.f (k + 1) a0 a1 a2 a3 a4 a5) := by
 intro a0 a1 a2 a3 a4 a5 k
 unfold impl_tableRatio.f
 repeat' first
  | (with_reducible exact impl_isTable.mono _ _ _ _ _)
  | (with_reducible exact impl_ratioOf.mono _ _ _)
  | (with_reducible exact LeO.refl _)
  | (with_reducible exact LeO.none _)
  | (with_reducible refine LeO.ite ?_ ?_)
  | (with_reducible refine LeO.bind ?_ (fun _ => ?_))
  | exact impl_isTable.mono _ _ _ _ _
  | exact impl_ratioOf.mono _ _ _
  | exact LeO.none _
  | refine LeO.ite ?_ ?_
  | refine LeO.bind ?_ (fun _ => ?_)
set_option maxHeartbeats 8000000 in
set_option maxRecDepth 100000 in
theorem impl_tableRatio.calls (k : Nat) (a0_0 : Int) (a0_1 : Int) (a0_2 : Int) (a0_3 : Int) (a1 : Int) (a2 : Int) (r1 : Int) (r2 : Int) (r3 : Bool) (w : World) (h : impl_tableRatio.f k a0_0 a0_1 a0_2 a0_3 a1 a2 = some (r1, r2, r3)) :
 Calls Try.prog 40 #[.agg #[.int .i64 a0_0, .int .i64 a0_1, .int .i64 a0_2, .int .i64 a0_3], .int .i64 a1, .int .i64 a2] w fun e w' => e = .returned (.tuple #[.agg #[.int .i64 r1, .int .i64 r2], .bool r3]) ∧ Below w.heap.size w w' := by
 have hu30 := Try.underlying30
 have hu37 := Try.underlying37
 have HB := Aside0.mk (Below.refl w.heap.size w)
 have H : ((impl_isTable.f k a0_0 a0_1 a0_2 a0_3).bind fun t389 => (if t389 = true then ((impl_ratioOf.f k a1 a2).bind fun bt390 => (some (bt390.1, bt390.2.1, bt390.2.2))) else (some (0, 0, false)))) = some (r1, r2, r3) := h
 clear h
 replace H := Option.bind_eq_some_iff.mp H
 obtain ⟨t389, A40, H⟩ := H
 replace H : (if t389 = true then ((impl_ratioOf.f k a1 a2).bind fun bt390 => (some (bt390.1, bt390.2.1, bt390.2.2))) else (some (0, 0, false))) = some (r1, r2, r3) := H
 have A4 := Aside0.mk A40
 clear A40
 by_cases c5 : t389 = true
 ·subst c5
  have H1 : ((impl_ratioOf.f k a1 a2).bind fun bt390 => (some (bt390.1, bt390.2.1, bt390.2.2))) = some (r1, r2, r3) := by rw [if_pos rfl] at H; exact H
  clear H
  have H := H1
  clear H1
  replace H := Option.bind_eq_some_iff.mp H
  obtain ⟨⟨t390, t391, t392⟩, A60, H⟩ := H
  replace H : (some (t390, t391, t392)) = some (r1, r2, r3) := H
  have A6 := Aside0.mk A60
  clear A60
  focus
   simp only [Option.some.injEq, Prod.mk.injEq] at H
   obtain ⟨rfl, rfl, rfl⟩ := H
   go_enter Try.func40, Try.ntmps40
   go_wp2_with (first | ((with_reducible refine gate_dst (N := 3) rfl ?_); refine box_event ?hg (N := 3) ?hd (cs := #[.int .i64 a0_0, .int .i64 a0_1, .int .i64 a0_2, .int .i64 a0_3]) (t := 30) ?hr ?_; (case hd => rfl); (case hg => rfl); (case hr => exact zsx); intro gb387 hg w7 hbox hb; have BK387 := Aside0.mk (hbox); have GW387 := zns hg HB.out; have GE387 := zns hg HB.out; replace HB := Aside0.mk (below_step (zBx HB.out) hb); clear hb hbox hg) | ((with_reducible refine gate_dst (N := 6) rfl ?_); refine box_event ?hg (N := 6) ?hd (cs := #[.int .i64 0, .int .i64 0]) (t := 37) ?hr ?_; (case hd => rfl); (case hg => rfl); (case hr => exact zsx); intro gb388 hg w8 hbox hb; have BK388 := Aside0.mk (hbox); have GW388 := zns hg HB.out; have GE388 := zns hg HB.out; replace HB := Aside0.mk (below_step (zBy HB.out GE387.out) hb); have NB387_388 := znl hg BK387.out; have NB388_387 := zng hg BK387.out; replace BK387 := zbl BK387.out hb; clear hb hbox hg; have hnb9 := NB387_388.out; have hnc9 := NB388_387.out; have hcz10_0 : w8.cell? ⟨gb387, 0, none⟩ = some (.int .i64 a0_0) := (blk_cell BK387.out 0).trans rfl; have hcz10_1 : w8.cell? ⟨gb387, 1, none⟩ = some (.int .i64 a0_1) := (blk_cell BK387.out 1).trans rfl; have hcz10_2 : w8.cell? ⟨gb387, 2, none⟩ = some (.int .i64 a0_2) := (blk_cell BK387.out 2).trans rfl; have hcz10_3 : w8.cell? ⟨gb387, 3, none⟩ = some (.int .i64 a0_3) := (blk_cell BK387.out 3).trans rfl; have hfz10_0 := blk_frozen BK387.out 0; have hfz10_1 := blk_frozen BK387.out 1; have hfz10_2 := blk_frozen BK387.out 2; have hfz10_3 := blk_frozen BK387.out 3) | ((with_reducible refine gate_callee (f := 50) rfl ?_); refine goesL_ (some 9) rfl rfl Try.func50 (by kernel_rfl) rfl #[.agg #[.int .i64 a0_0, .int .i64 a0_1, .int .i64 a0_2, .int .i64 a0_3]] rfl zlx ?_; (with_reducible refine (impl_isTable.calls k a0_0 a0_1 a0_2 a0_3 true _ A4.out).mono ?_); rintro e w11 ⟨rfl, hb⟩; refine ⟨_, rfl, ?_⟩; replace BK387 := zbl BK387.out hb; replace BK388 := zbl BK388.out hb; replace HB := Aside0.mk (below_step (zBz HB.out GE387.out GE388.out) hb); (try clear hb); (try clear hb2); (try clear hk); (try clear hi)) | ((with_reducible refine gate_callee (f := 59) rfl ?_); refine goesL_ (some 14) rfl rfl Try.func59 (by kernel_rfl) rfl #[.int .i64 a1, .int .i64 a2] rfl zlx ?_; (with_reducible refine (impl_ratioOf.calls k a1 a2 t390 t391 t392 _ A6.out).mono ?_); rintro e w12 ⟨rfl, hb⟩; refine ⟨_, rfl, ?_⟩; replace BK387 := zbl BK387.out hb; replace BK388 := zbl BK388.out hb; replace HB := Aside0.mk (below_step (zBz HB.out GE387.out GE388.out) hb); (try clear hb); (try clear hb2); (try clear hk); (try clear hi); have hcz13_0 : w12.cell? ⟨gb388, 0, none⟩ = some (.int .i64 0) := (blk_cell BK388.out 0).trans rfl; have hcz13_1 : w12.cell? ⟨gb388, 1, none⟩ = some (.int .i64 0) := (blk_cell BK388.out 1).trans rfl; have hfz13_0 := blk_frozen BK388.out 0; have hfz13_1 := blk_frozen BK388.out 1))
   refine bodyPost_ret (results_ct rfl _ _ gb388 37 #[.int .i64 t390, .int .i64 t391] (0, 0) _ rfl (by refine zbx ?_; refine blk_put (cs := #[.int .i64 t390, .int .i64 0]) ?_ 1 _ rfl; refine zbx ?_; refine blk_put (cs := #[.int .i64 0, .int .i64 0]) ?_ 0 _ rfl; refine zbx ?_; exact BK388.out) Try.underlying37 rfl (by kernel_rfl)) rfl ?_
   exact ⟨by first | rfl | (simp [errW_none, errW_some] <;> rfl) | (simp [*, errW_none, errW_some] <;> rfl), by exact zBz HB.out GE387.out GE388.out⟩
 ·replace c5 := Bool.eq_false_iff.mpr c5
  subst c5
  have H1 : (some (0, 0, false)) = some (r1, r2, r3) := by rw [if_neg (show ¬ (false = true) by decide)] at H; exact H
  clear H
  have H := H1
  clear H1
  focus
   simp only [Option.some.injEq, Prod.mk.injEq] at H
   obtain ⟨rfl, rfl, rfl⟩ := H
   go_enter Try.func40, Try.ntmps40
   go_wp2_with (first | ((with_reducible refine gate_dst (N := 3) rfl ?_); refine box_event ?hg (N := 3) ?hd (cs := #[.int .i64 a0_0, .int .i64 a0_1, .int .i64 a0_2, .int .i64 a0_3]) (t := 30) ?hr ?_; (case hd => rfl); (case hg => rfl); (case hr => exact zsx); intro gb387 hg w14 hbox hb; have BK387 := Aside0.mk (hbox); have GW387 := zns hg HB.out; have GE387 := zns hg HB.out; replace HB := Aside0.mk (below_step (zBx HB.out) hb); clear hb hbox hg) | ((with_reducible refine gate_dst (N := 6) rfl ?_); refine box_event ?hg (N := 6) ?hd (cs := #[.int .i64 0, .int .i64 0]) (t := 37) ?hr ?_; (case hd => rfl); (case hg => rfl); (case hr => exact zsx); intro gb388 hg w15 hbox hb; have BK388 := Aside0.mk (hbox); have GW388 := zns hg HB.out; have GE388 := zns hg HB.out; replace HB := Aside0.mk (below_step (zBy HB.out GE387.out) hb); have NB387_388 := znl hg BK387.out; have NB388_387 := zng hg BK387.out; replace BK387 := zbl BK387.out hb; clear hb hbox hg; have hnb16 := NB387_388.out; have hnc16 := NB388_387.out; have hcz17_0 : w15.cell? ⟨gb387, 0, none⟩ = some (.int .i64 a0_0) := (blk_cell BK387.out 0).trans rfl; have hcz17_1 : w15.cell? ⟨gb387, 1, none⟩ = some (.int .i64 a0_1) := (blk_cell BK387.out 1).trans rfl; have hcz17_2 : w15.cell? ⟨gb387, 2, none⟩ = some (.int .i64 a0_2) := (blk_cell BK387.out 2).trans rfl; have hcz17_3 : w15.cell? ⟨gb387, 3, none⟩ = some (.int .i64 a0_3) := (blk_cell BK387.out 3).trans rfl; have hfz17_0 := blk_frozen BK387.out 0; have hfz17_1 := blk_frozen BK387.out 1; have hfz17_2 := blk_frozen BK387.out 2; have hfz17_3 := blk_frozen BK387.out 3) | ((with_reducible refine gate_callee (f := 50) rfl ?_); refine goesL_ (some 9) rfl rfl Try.func50 (by kernel_rfl) rfl #[.agg #[.int .i64 a0_0, .int .i64 a0_1, .int .i64 a0_2, .int .i64 a0_3]] rfl zlx ?_; (with_reducible refine (impl_isTable.calls k a0_0 a0_1 a0_2 a0_3 false _ A4.out).mono ?_); rintro e w18 ⟨rfl, hb⟩; refine ⟨_, rfl, ?_⟩; replace BK387 := zbl BK387.out hb; replace BK388 := zbl BK388.out hb; replace HB := Aside0.mk (below_step (zBz HB.out GE387.out GE388.out) hb); (try clear hb); (try clear hb2); (try clear hk); (try clear hi); have hcz19_0 : w18.cell? ⟨gb388, 0, none⟩ = some (.int .i64 0) := (blk_cell BK388.out 0).trans rfl; have hcz19_1 : w18.cell? ⟨gb388, 1, none⟩ = some (.int .i64 0) := (blk_cell BK388.out 1).trans rfl; have hfz19_0 := blk_frozen BK388.out 0; have hfz19_1 := blk_frozen BK388.out 1))
   refine bodyPost_ret (results_ct rfl _ _ gb388 37 #[.int .i64 0, .int .i64 0] (0, 0) _ rfl (by refine zbx ?_; refine blk_put (cs := #[.int .i64 0, .int .i64 0]) ?_ 1 _ rfl; refine zbx ?_; refine blk_put (cs := #[.int .i64 0, .int .i64 0]) ?_ 0 _ rfl; refine zbx ?_; exact BK388.out) Try.underlying37 rfl (by kernel_rfl)) rfl ?_
   exact ⟨by first | rfl | (simp [errW_none, errW_some] <;> rfl) | (simp [*, errW_none, errW_some] <;> rfl), by exact zBz HB.out GE387.out GE388.out⟩

/-! ### impl_ThreatScore: function 11 -/
def impl_ThreatScore.f (k : Nat) (a0_0 : Int) (a0_1 : Int) (a0_2 : Int) (a0_3 : Int) : Option (Int × Int × Bool) := (impl_tableRatio.f k a0_0 a0_1 a0_2 a0_3 a0_0 (wrap64 ((wrap64 (a0_0 + a0_1)) + a0_2))).bind fun bt395 => (some (bt395.1, bt395.2.1, bt395.2.2))
theorem impl_ThreatScore.mono : ∀ a0 a1 a2 a3 k, LeO (impl_ThreatScore.f k a0 a1 a2 a3) (impl_ThreatScore.f (k + 1) a0 a1 a2 a3) := by
 intro a0 a1 a2 a3 k
 unfold impl_ThreatScore.f
 repeat' first
  | (with_reducible exact impl_tableRatio.mono _ _ _ _ _ _ _)
  | (with_reducible exact LeO.refl _)
  | (with_reducible exact LeO.none _)
  | (with_reducible refine LeO.ite ?_ ?_)
  | (with_reducible refine LeO.bind ?_ (fun _ => ?_))
  | exact impl_tableRatio.mono _ _ _ _ _ _ _
  | exact LeO.none _
  | refine LeO.ite ?_ ?_
  | refine LeO.bind ?_ (fun _ => ?_)
set_option maxHeartbeats 8000000 in
set_option maxRecDepth 100000 in
theorem impl_ThreatScore.calls (k : Nat) (a0_0 : Int) (a0_1 : Int) (a0_2 : Int) (a0_3 : Int) (r1 : Int) (r2 : Int) (r3 : Bool) (w : World) (h : impl_ThreatScore.f k a0_0 a0_1 a0_2 a0_3 = some (r1, r2, r3)) :
 Calls Try.prog 11 #[.agg #[.int .i64 a0_0, .int .i64 a0_1, .int .i64 a0_2, .int .i64 a0_3]] w fun e w' => e = .returned (.tuple #[.agg #[.int .i64 r1, .int .i64 r2], .bool r3]) ∧ Below w.heap.size w w' := by
 have hu30 := Try.underlying30
 have hu37 := Try.underlying37
 have HB := Aside0.mk (Below.refl w.heap.size w)
 have H : ((impl_tableRatio.f k a0_0 a0_1 a0_2 a0_3 a0_0 (wrap64 ((wrap64 (a0_0 + a0_1)) + a0_2))).bind fun bt395 => (some (bt395.1, bt395.2.1, bt395.2.2))) = some (r1, r2, r3) := h
 clear h
 replace H := Option.bind_eq_some_iff.mp H
 obtain ⟨⟨t395, t396, t397⟩, A20, H⟩ := H
 replace H : (some (t395, t396, t397)) = some (r1, r2, r3) := H
 have A2 := Aside0.mk A20
 clear A20
 focus
  simp only [Option.some.injEq, Prod.mk.injEq] at H
  obtain ⟨rfl, rfl, rfl⟩ := H
  go_enter Try.func11, Try.ntmps11
  go_wp2_with (first | ((with_reducible refine gate_dst (N := 1) rfl ?_); refine box_event ?hg (N := 1) ?hd (cs := #[.int .i64 a0_0, .int .i64 a0_1, .int .i64 a0_2, .int .i64 a0_3]) (t := 30) ?hr ?_; (case hd => rfl); (case hg => rfl); (case hr => exact zsx); intro gb393 hg w3 hbox hb; have BK393 := Aside0.mk (hbox); have GW393 := zns hg HB.out; have GE393 := zns hg HB.out; replace HB := Aside0.mk (below_step (zBx HB.out) hb); clear hb hbox hg) | ((with_reducible refine gate_dst (N := 2) rfl ?_); refine box_event ?hg (N := 2) ?hd (cs := #[.int .i64 0, .int .i64 0]) (t := 37) ?hr ?_; (case hd => rfl); (case hg => rfl); (case hr => exact zsx); intro gb394 hg w4 hbox hb; have BK394 := Aside0.mk (hbox); have GW394 := zns hg HB.out; have GE394 := zns hg HB.out; replace HB := Aside0.mk (below_step (zBy HB.out GE393.out) hb); have NB393_394 := znl hg BK393.out; have NB394_393 := zng hg BK393.out; replace BK393 := zbl BK393.out hb; clear hb hbox hg; have hnb5 := NB393_394.out; have hnc5 := NB394_393.out; have hcz6_0 : w4.cell? ⟨gb393, 0, none⟩ = some (.int .i64 a0_0) := (blk_cell BK393.out 0).trans rfl; have hcz6_1 : w4.cell? ⟨gb393, 1, none⟩ = some (.int .i64 a0_1) := (blk_cell BK393.out 1).trans rfl; have hcz6_2 : w4.cell? ⟨gb393, 2, none⟩ = some (.int .i64 a0_2) := (blk_cell BK393.out 2).trans rfl; have hcz6_3 : w4.cell? ⟨gb393, 3, none⟩ = some (.int .i64 a0_3) := (blk_cell BK393.out 3).trans rfl; have hfz6_0 := blk_frozen BK393.out 0; have hfz6_1 := blk_frozen BK393.out 1; have hfz6_2 := blk_frozen BK393.out 2; have hfz6_3 := blk_frozen BK393.out 3) | ((with_reducible refine gate_callee (f := 40) rfl ?_); refine goesL_ (some 15) rfl rfl Try.func40 (by kernel_rfl) rfl #[.agg #[.int .i64 a0_0, .int .i64 a0_1, .int .i64 a0_2, .int .i64 a0_3], .int .i64 a0_0, .int .i64 (wrap64 ((wrap64 (a0_0 + a0_1)) + a0_2))] rfl zlx ?_; (with_reducible refine (impl_tableRatio.calls k a0_0 a0_1 a0_2 a0_3 a0_0 (wrap64 ((wrap64 (a0_0 + a0_1)) + a0_2)) t395 t396 t397 _ A2.out).mono ?_); rintro e w7 ⟨rfl, hb⟩; refine ⟨_, rfl, ?_⟩; replace BK393 := zbl BK393.out hb; replace BK394 := zbl BK394.out hb; replace HB := Aside0.mk (below_step (zBz HB.out GE393.out GE394.out) hb); (try clear hb); (try clear hb2); (try clear hk); (try clear hi); have hcz8_0 : w7.cell? ⟨gb394, 0, none⟩ = some (.int .i64 0) := (blk_cell BK394.out 0).trans rfl; have hcz8_1 : w7.cell? ⟨gb394, 1, none⟩ = some (.int .i64 0) := (blk_cell BK394.out 1).trans rfl; have hfz8_0 := blk_frozen BK394.out 0; have hfz8_1 := blk_frozen BK394.out 1))
  refine bodyPost_ret (results_ct rfl _ _ gb394 37 #[.int .i64 t395, .int .i64 t396] (0, 0) _ rfl (by refine zbx ?_; refine blk_put (cs := #[.int .i64 t395, .int .i64 0]) ?_ 1 _ rfl; refine zbx ?_; refine blk_put (cs := #[.int .i64 0, .int .i64 0]) ?_ 0 _ rfl; refine zbx ?_; exact BK394.out) Try.underlying37 rfl (by kernel_rfl)) rfl ?_
  exact ⟨by first | rfl | (simp [errW_none, errW_some] <;> rfl) | (simp [*, errW_none, errW_some] <;> rfl), by exact zBz HB.out GE393.out GE394.out⟩

/-! ### impl_HitRate: function 12 -/
def impl_HitRate.f (k : Nat) (a0_0 : Int) (a0_1 : Int) (a0_2 : Int) (a0_3 : Int) : Option (Int × Int × Bool) := (impl_tableRatio.f k a0_0 a0_1 a0_2 a0_3 a0_0 (wrap64 (a0_0 + a0_1))).bind fun bt400 => (some (bt400.1, bt400.2.1, bt400.2.2))
theorem impl_HitRate.mono : ∀ a0 a1 a2 a3 k, LeO (impl_HitRate.f k a0 a1 a2 a3) (impl_HitRate.f (k + 1) a0 a1 a2 a3) := by
 intro a0 a1 a2 a3 k
 unfold impl_HitRate.f
 repeat' first
  | (with_reducible exact impl_tableRatio.mono _ _ _ _ _ _ _)
  | (with_reducible exact LeO.refl _)
  | (with_reducible exact LeO.none _)
  | (with_reducible refine LeO.ite ?_ ?_)
  | (with_reducible refine LeO.bind ?_ (fun _ => ?_))
  | exact impl_tableRatio.mono _ _ _ _ _ _ _
  | exact LeO.none _
  | refine LeO.ite ?_ ?_
  | refine LeO.bind ?_ (fun _ => ?_)
set_option maxHeartbeats 8000000 in
set_option maxRecDepth 100000 in
theorem impl_HitRate.calls (k : Nat) (a0_0 : Int) (a0_1 : Int) (a0_2 : Int) (a0_3 : Int) (r1 : Int) (r2 : Int) (r3 : Bool) (w : World) (h : impl_HitRate.f k a0_0 a0_1 a0_2 a0_3 = some (r1, r2, r3)) :
 Calls Try.prog 12 #[.agg #[.int .i64 a0_0, .int .i64 a0_1, .int .i64 a0_2, .int .i64 a0_3]] w fun e w' => e = .returned (.tuple #[.agg #[.int .i64 r1, .int .i64 r2], .bool r3]) ∧ Below w.heap.size w w' := by
 have hu30 := Try.underlying30
 have hu37 := Try.underlying37
 have HB := Aside0.mk (Below.refl w.heap.size w)
 have H : ((impl_tableRatio.f k a0_0 a0_1 a0_2 a0_3 a0_0 (wrap64 (a0_0 + a0_1))).bind fun bt400 => (some (bt400.1, bt400.2.1, bt400.2.2))) = some (r1, r2, r3) := h
 clear h
 replace H := Option.bind_eq_some_iff.mp H
 obtain ⟨⟨t400, t401, t402⟩, A20, H⟩ := H
 replace H : (some (t400, t401, t402)) = some (r1, r2, r3) := H
 have A2 := Aside0.mk A20
 clear A20
 focus
  simp only [Option.some.injEq, Prod.mk.injEq] at H
  obtain ⟨rfl, rfl, rfl⟩ := H
  go_enter Try.func12, Try.ntmps12
  go_wp2_with (first | ((with_reducible refine gate_dst (N := 1) rfl ?_); refine box_event ?hg (N := 1) ?hd (cs := #[.int .i64 a0_0, .int .i64 a0_1, .int .i64 a0_2, .int .i64 a0_3]) (t := 30) ?hr ?_; (case hd => rfl); (case hg => rfl); (case hr => exact zsx); intro gb398 hg w3 hbox hb; have BK398 := Aside0.mk (hbox); have GW398 := zns hg HB.out; have GE398 := zns hg HB.out; replace HB := Aside0.mk (below_step (zBx HB.out) hb); clear hb hbox hg) | ((with_reducible refine gate_dst (N := 2) rfl ?_); refine box_event ?hg (N := 2) ?hd (cs := #[.int .i64 0, .int .i64 0]) (t := 37) ?hr ?_; (case hd => rfl); (case hg => rfl); (case hr => exact zsx); intro gb399 hg w4 hbox hb; have BK399 := Aside0.mk (hbox); have GW399 := zns hg HB.out; have GE399 := zns hg HB.out; replace HB := Aside0.mk (below_step (zBy HB.out GE398.out) hb); have NB398_399 := znl hg BK398.out; have NB399_398 := zng hg BK398.out; replace BK398 := zbl BK398.out hb; clear hb hbox hg; have hnb5 := NB398_399.out; have hnc5 := NB399_398.out; have hcz6_0 : w4.cell? ⟨gb398, 0, none⟩ = some (.int .i64 a0_0) := (blk_cell BK398.out 0).trans rfl; have hcz6_1 : w4.cell? ⟨gb398, 1, none⟩ = some (.int .i64 a0_1) := (blk_cell BK398.out 1).trans rfl; have hcz6_2 : w4.cell? ⟨gb398, 2, none⟩ = some (.int .i64 a0_2) := (blk_cell BK398.out 2).trans rfl; have hcz6_3 : w4.cell? ⟨gb398, 3, none⟩ = some (.int .i64 a0_3) := (blk_cell BK398.out 3).trans rfl; have hfz6_0 := blk_frozen BK398.out 0; have hfz6_1 := blk_frozen BK398.out 1; have hfz6_2 := blk_frozen BK398.out 2; have hfz6_3 := blk_frozen BK398.out 3) | ((with_reducible refine gate_callee (f := 40) rfl ?_); refine goesL_ (some 12) rfl rfl Try.func40 (by kernel_rfl) rfl #[.agg #[.int .i64 a0_0, .int .i64 a0_1, .int .i64 a0_2, .int .i64 a0_3], .int .i64 a0_0, .int .i64 (wrap64 (a0_0 + a0_1))] rfl zlx ?_; (with_reducible refine (impl_tableRatio.calls k a0_0 a0_1 a0_2 a0_3 a0_0 (wrap64 (a0_0 + a0_1)) t400 t401 t402 _ A2.out).mono ?_); rintro e w7 ⟨rfl, hb⟩; refine ⟨_, rfl, ?_⟩; replace BK398 := zbl BK398.out hb; replace BK399 := zbl BK399.out hb; replace HB := Aside0.mk (below_step (zBz HB.out GE398.out GE399.out) hb); (try clear hb); (try clear hb2); (try clear hk); (try clear hi); have hcz8_0 : w7.cell? ⟨gb399, 0, none⟩ = some (.int .i64 0) := (blk_cell BK399.out 0).trans rfl; have hcz8_1 : w7.cell? ⟨gb399, 1, none⟩ = some (.int .i64 0) := (blk_cell BK399.out 1).trans rfl; have hfz8_0 := blk_frozen BK399.out 0; have hfz8_1 := blk_frozen BK399.out 1))
  refine bodyPost_ret (results_ct rfl _ _ gb399 37 #[.int .i64 t400, .int .i64 t401] (0, 0) _ rfl (by refine zbx ?_; refine blk_put (cs := #[.int .i64 t400, .int .i64 0]) ?_ 1 _ rfl; refine zbx ?_; refine blk_put (cs := #[.int .i64 0, .int .i64 0]) ?_ 0 _ rfl; refine zbx ?_; exact BK399.out) Try.underlying37 rfl (by kernel_rfl)) rfl ?_
  exact ⟨by first | rfl | (simp [errW_none, errW_some] <;> rfl) | (simp [*, errW_none, errW_some] <;> rfl), by exact zBz HB.out GE398.out GE399.out⟩

end Go.Proofs.Ytddgbaohepfekaa.XFnScores
