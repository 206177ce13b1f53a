-- written by wip/tools/xprint.py (a program of this project) out of the translation
import Derived.Test.YtddgbaohepfekaaXFnLimitsx0
import Derived.Test.YtddgbaohepfekaaXFnLimitsx4
import Derived.Test.YtddgbaohepfekaaXFnLimitsx5
import Derived.Test.YtddgbaohepfekaaXFnLimitsx6
import Derived.Test.YtddgbaohepfekaaXFnLimitsx10
namespace Go.Proofs.Ytddgbaohepfekaa.XFnLimits
open Go.RowKit Go.Proofs.YtddgbaohepfekaaW.PrintWords Go.Proofs.YtddgbaohepfekaaW.PrintLast Go.Proofs.YtddgbaohepfekaaW.PrintMore
attribute [local go_sem] max2_int min2_int max_two min_two max_three min_three max_four min_four   -- for this text's walks alone
set_option linter.unusedVariables false
set_option linter.unusedSimpArgs false

/-! ### impl_BestLimit: function 22 -/
def impl_BestLimit.l0 : Nat → Int → Int → Bool → List Int → Int → Int → Int → Int → List Int → Int → Int → List Int → Int → Int → Option (Int × Int × Int × Bool)
 | 0, _, _, _, _, _, _, _, _, _, _, _, _, _, _ => none
 | k + 1, x2, x10, x12, x29, x30, x31, x364000, x364001, x364002, x365000, x365001, x365002, x375000, x375001 => if x31 < x30 then (if 0 ≤ x31 then (if x31 < (x29.length : Int) then ((impl_countTable.f k x364000 x364001 x364002 x365000 x365001 x365002 (wrap64 ((rd x29 x31) - 1)) x2).bind fun bt379 => ((impl_ThreatScore.f k bt379.1 bt379.2.1 bt379.2.2.1 bt379.2.2.2).bind fun bt383 => (if bt383.2.2 = true then (if x12 = true then ((impl_compareRatios.f bt383.1 bt383.2.1 x375000 x375001).bind fun t387 => (if t387 > 0 then (impl_BestLimit.l0 k x2 (wrap64 ((rd x29 x31) - 1)) true x29 x30 (wrap64 (x31 + 1)) x364000 x364001 x364002 x365000 x365001 x365002 bt383.1 bt383.2.1) else (impl_BestLimit.l0 k x2 x10 x12 x29 x30 (wrap64 (x31 + 1)) x364000 x364001 x364002 x365000 x365001 x365002 x375000 x375001))) else (impl_BestLimit.l0 k x2 (wrap64 ((rd x29 x31) - 1)) true x29 x30 (wrap64 (x31 + 1)) x364000 x364001 x364002 x365000 x365001 x365002 bt383.1 bt383.2.1)) else (impl_BestLimit.l0 k x2 x10 x12 x29 x30 (wrap64 (x31 + 1)) x364000 x364001 x364002 x365000 x365001 x365002 x375000 x375001)))) else (none)) else (none)) else (some (x10, x375000, x375001, x12))
def impl_BestLimit.f (k : Nat) (a0_0 : Int) (a0_1 : Int) (l0_2 : List Int) (a1_0 : Int) (a1_1 : Int) (l1_2 : List Int) (a2 : Int) : Option (Int × Int × Int × Bool) := (impl_areAlike.f k (([(⟨a0_0, a0_1, l0_2⟩ : S26), (⟨a1_0, a1_1, l1_2⟩ : S26)] : List (S26)))).bind fun t369 => (if t369 = true then ((impl_valuesOf.f k a0_0 a0_1 l0_2).bind fun t370 => ((slices_Sort_int.f t370).bind fun t373 => ((slices_Compact_int.f t373).bind fun t375 => (impl_BestLimit.l0 k a2 0 false t375 (t375.length : Int) 0 a0_0 a0_1 l0_2 a1_0 a1_1 l1_2 0 0)))) else (some (0, 0, 0, false)))
theorem impl_BestLimit.mono_l : ∀ k, (∀ y0 y1 y2 y3 y4 y5 y6 y7 y8 y9 y10 y11 y12 y13, LeO (impl_BestLimit.l0 k y0 y1 y2 y3 y4 y5 y6 y7 y8 y9 y10 y11 y12 y13) (impl_BestLimit.l0 (k + 1) y0 y1 y2 y3 y4 y5 y6 y7 y8 y9 y10 y11 y12 y13))
 | 0 => fun _ _ _ _ _ _ _ _ _ _ _ _ _ _ r h => by simp [impl_BestLimit.l0] at h
 | k + 1 => by
  have ih0 := impl_BestLimit.mono_l k
  ·intro y0 y1 y2 y3 y4 y5 y6 y7 y8 y9 y10 y11 y12 y13
   unfold impl_BestLimit.l0
   repeat' first
   | (with_reducible exact ih0 _ _ _ _ _ _ _ _ _ _ _ _ _ _)
   | (with_reducible exact impl_ThreatScore.mono _ _ _ _ _)
   | (with_reducible exact impl_areAlike.mono _ _)
   | (with_reducible exact impl_countTable.mono _ _ _ _ _ _ _ _ _)
   | (with_reducible exact impl_valuesOf.mono _ _ _ _)
   | (with_reducible exact LeO.refl _)
   | (with_reducible exact LeO.none _)
   | (with_reducible refine LeO.ite ?_ ?_)
   | (with_reducible refine LeO.bind ?_ (fun _ => ?_))
   | exact ih0 _ _ _ _ _ _ _ _ _ _ _ _ _ _
   | exact impl_ThreatScore.mono _ _ _ _ _
   | exact impl_areAlike.mono _ _
   | exact impl_countTable.mono _ _ _ _ _ _ _ _ _
   | exact impl_valuesOf.mono _ _ _ _
   | exact LeO.none _
   | refine LeO.ite ?_ ?_
   | refine LeO.bind ?_ (fun _ => ?_)
theorem impl_BestLimit.mono : ∀ a0 a1 a2 a3 a4 a5 a6 k, LeO (impl_BestLimit.f k a0 a1 a2 a3 a4 a5 a6) (impl_BestLimit.f (k + 1) a0 a1 a2 a3 a4 a5 a6) := by
 intro a0 a1 a2 a3 a4 a5 a6 k
 have ih0 := impl_BestLimit.mono_l k
 unfold impl_BestLimit.f
 repeat' first
  | (with_reducible exact ih0 _ _ _ _ _ _ _ _ _ _ _ _ _ _)
  | (with_reducible exact impl_ThreatScore.mono _ _ _ _ _)
  | (with_reducible exact impl_areAlike.mono _ _)
  | (with_reducible exact impl_countTable.mono _ _ _ _ _ _ _ _ _)
  | (with_reducible exact impl_valuesOf.mono _ _ _ _)
  | (with_reducible exact LeO.refl _)
  | (with_reducible exact LeO.none _)
  | (with_reducible refine LeO.ite ?_ ?_)
  | (with_reducible refine LeO.bind ?_ (fun _ => ?_))
  | exact ih0 _ _ _ _ _ _ _ _ _ _ _ _ _ _
  | exact impl_ThreatScore.mono _ _ _ _ _
  | exact impl_areAlike.mono _ _
  | exact impl_countTable.mono _ _ _ _ _ _ _ _ _
  | exact impl_valuesOf.mono _ _ _ _
  | exact LeO.none _
  | refine LeO.ite ?_ ?_
  | refine LeO.bind ?_ (fun _ => ?_)
set_option maxHeartbeats 8000000 in
set_option maxRecDepth 100000 in
theorem impl_BestLimit.calls (k : Nat) (a0_0 : Int) (a0_1 : Int) (P0_2_ : Nat → Prop) (A0_2 : Option Addr) (c0_2 : Nat) (l0_2 : List Int) (a1_0 : Int) (a1_1 : Int) (P1_2_ : Nat → Prop) (A1_2 : Option Addr) (c1_2 : Nat) (l1_2 : List Int) (a2 : Int) (r1 : Int) (r2 : Int) (r3 : Int) (r4 : Bool) (w : World) (hs0_2 : Kd.V (Kd.int .i64) 3 w w.heap.size (fun k_ => P0_2_ k_) (.slice A0_2 l0_2.length c0_2) l0_2) (hs1_2 : Kd.V (Kd.int .i64) 3 w w.heap.size (fun k_ => P1_2_ k_) (.slice A1_2 l1_2.length c1_2) l1_2) (h : impl_BestLimit.f k a0_0 a0_1 l0_2 a1_0 a1_1 l1_2 a2 = some (r1, r2, r3, r4)) :
 Calls Try.prog 22 #[.agg #[.int .i64 a0_0, .int .i64 a0_1, .slice A0_2 l0_2.length c0_2], .agg #[.int .i64 a1_0, .int .i64 a1_1, .slice A1_2 l1_2.length c1_2], .int .i64 a2] w fun e w' => e = .returned (.tuple #[.int .i64 r1, .agg #[.int .i64 r2, .int .i64 r3], .bool r4]) ∧ Below w.heap.size w w' := by
 have hu26 := Try.underlying26
 have hu37 := Try.underlying37
 have HO0_2 := Aside0.mk (show Kd.V (Kd.int .i64) 3 w w.heap.size (fun k_ => ((P0_2_ k_ ∨ P1_2_ k_) ∨ w.heap.size ≤ k_)) (.slice A0_2 l0_2.length c0_2) l0_2 from Kd.V_mono hs0_2 (fun k_ hk => .inl (.inl hk)))
 have HO1_2 := Aside0.mk (show Kd.V (Kd.int .i64) 3 w w.heap.size (fun k_ => ((P0_2_ k_ ∨ P1_2_ k_) ∨ w.heap.size ≤ k_)) (.slice A1_2 l1_2.length c1_2) l1_2 from Kd.V_mono hs1_2 (fun k_ hk => .inl (.inr hk)))
 have HB := Aside0.mk (Below.refl w.heap.size w)
 have H : ((impl_areAlike.f k (([(⟨a0_0, a0_1, l0_2⟩ : S26), (⟨a1_0, a1_1, l1_2⟩ : S26)] : List (S26)))).bind fun t369 => (if t369 = true then ((impl_valuesOf.f k a0_0 a0_1 l0_2).bind fun t370 => ((slices_Sort_int.f t370).bind fun t373 => ((slices_Compact_int.f t373).bind fun t375 => (impl_BestLimit.l0 k a2 0 false t375 (t375.length : Int) 0 a0_0 a0_1 l0_2 a1_0 a1_1 l1_2 0 0)))) else (some (0, 0, 0, false)))) = some (r1, r2, r3, r4) := h
 clear h
 obtain ⟨y366, hy366⟩ : ∃ y_ : List (S26), y_ = (([(⟨a0_0, a0_1, l0_2⟩ : S26), (⟨a1_0, a1_1, l1_2⟩ : S26)] : List (S26))) := ⟨_, rfl⟩
 replace H : ((impl_areAlike.f k y366).bind fun t369 => (if t369 = true then ((impl_valuesOf.f k a0_0 a0_1 l0_2).bind fun t370 => ((slices_Sort_int.f t370).bind fun t373 => ((slices_Compact_int.f t373).bind fun t375 => (impl_BestLimit.l0 k a2 0 false t375 (t375.length : Int) 0 a0_0 a0_1 l0_2 a1_0 a1_1 l1_2 0 0)))) else (some (0, 0, 0, false)))) = some (r1, r2, r3, r4) := by first | (rw [hy366]; with_reducible exact H) | (have H2_ := (Option.bind_some _ _).symm.trans H; rw [hy366]; with_reducible exact H2_) | (have H2_ := (Option.bind_some _ _).symm.trans H; with_reducible exact H2_) | with_reducible exact H | (rw [hy366]; exact H) | exact H
 have Ny366 := Aside0.mk hy366
 clear hy366
 replace H := Option.bind_eq_some_iff.mp H
 obtain ⟨t369, A40, H⟩ := H
 replace H : (if t369 = true then ((impl_valuesOf.f k a0_0 a0_1 l0_2).bind fun t370 => ((slices_Sort_int.f t370).bind fun t373 => ((slices_Compact_int.f t373).bind fun t375 => (impl_BestLimit.l0 k a2 0 false t375 (t375.length : Int) 0 a0_0 a0_1 l0_2 a1_0 a1_1 l1_2 0 0)))) else (some (0, 0, 0, false))) = some (r1, r2, r3, r4) := H
 have A4 := Aside0.mk A40
 clear A40
 by_cases c5 : t369 = true
 ·subst c5
  rw [if_pos rfl] at H
  replace H := Option.bind_eq_some_iff.mp H
  obtain ⟨t370, A60, H⟩ := H
  replace H : ((slices_Sort_int.f t370).bind fun t373 => ((slices_Compact_int.f t373).bind fun t375 => (impl_BestLimit.l0 k a2 0 false t375 (t375.length : Int) 0 a0_0 a0_1 l0_2 a1_0 a1_1 l1_2 0 0))) = some (r1, r2, r3, r4) := H
  have A6 := Aside0.mk A60
  clear A60
  replace H := Option.bind_eq_some_iff.mp H
  obtain ⟨t373, A70, H⟩ := H
  replace H : ((slices_Compact_int.f t373).bind fun t375 => (impl_BestLimit.l0 k a2 0 false t375 (t375.length : Int) 0 a0_0 a0_1 l0_2 a1_0 a1_1 l1_2 0 0)) = some (r1, r2, r3, r4) := H
  have A7 := Aside0.mk A70
  clear A70
  replace H := Option.bind_eq_some_iff.mp H
  obtain ⟨t375, A80, H⟩ := H
  replace H : (impl_BestLimit.l0 k a2 0 false t375 (t375.length : Int) 0 a0_0 a0_1 l0_2 a1_0 a1_1 l1_2 0 0) = some (r1, r2, r3, r4) := H
  have A8 := Aside0.mk A80
  clear A80
  have H' := Aside0.mk H
  clear H
  go_enter Try.func22, Try.ntmps22
  go_wp2_with (first | ((with_reducible refine gate_dst (N := 3) rfl ?_); refine box_event ?hg (N := 3) ?hd (cs := #[.int .i64 a0_0, .int .i64 a0_1, .slice A0_2 l0_2.length c0_2]) (t := 26) ?hr ?_; (case hd => rfl); (case hg => rfl); (case hr => exact zsx); intro gb363 hg w9 hbox hb; replace HO0_2 := Aside0.mk (Kd.V_below (Kd.V_elderB (by refine zDV ?_; exact HO0_2.out) gb363 (Nat.le_of_eq hg.symm)) hb); replace HO1_2 := Aside0.mk (Kd.V_below (Kd.V_elderB (by refine zDV ?_; exact HO1_2.out) gb363 (Nat.le_of_eq hg.symm)) hb); have BK363 := Aside0.mk (hbox); have GW363 := zns hg HB.out; have GE363 := zns hg HB.out; replace HB := Aside0.mk (below_step (zBx HB.out) hb); clear hb hbox hg) | ((with_reducible refine gate_dst (N := 4) rfl ?_); refine box_event ?hg (N := 4) ?hd (cs := #[.int .i64 a1_0, .int .i64 a1_1, .slice A1_2 l1_2.length c1_2]) (t := 26) ?hr ?_; (case hd => rfl); (case hg => rfl); (case hr => exact zsx); intro gb364 hg w10 hbox hb; replace HO0_2 := Aside0.mk (Kd.V_below (Kd.V_elderB (by refine zDV ?_; exact HO0_2.out) gb364 (Nat.le_of_eq hg.symm)) hb); replace HO1_2 := Aside0.mk (Kd.V_below (Kd.V_elderB (by refine zDV ?_; exact HO1_2.out) gb364 (Nat.le_of_eq hg.symm)) hb); have BK364 := Aside0.mk (hbox); have GW364 := zns hg HB.out; have GE364 := zns hg HB.out; replace HB := Aside0.mk (below_step (zBy HB.out GE363.out) hb); have NB363_364 := znl hg BK363.out; have NB364_363 := zng hg BK363.out; replace BK363 := zbl BK363.out hb; clear hb hbox hg) | ((with_reducible refine gate_dst (N := 7) rfl ?_); refine box_event ?hg (N := 7) ?hd (cs := #[.int .i64 0, .int .i64 0]) (t := 37) ?hr ?_; (case hd => rfl); (case hg => rfl); (case hr => exact zsx); intro gb365 hg w11 hbox hb; replace HO0_2 := Aside0.mk (Kd.V_below (Kd.V_elderB (by refine zDV ?_; exact HO0_2.out) gb365 (Nat.le_of_eq hg.symm)) hb); replace HO1_2 := Aside0.mk (Kd.V_below (Kd.V_elderB (by refine zDV ?_; exact HO1_2.out) gb365 (Nat.le_of_eq hg.symm)) hb); have BK365 := Aside0.mk (hbox); have GW365 := zns hg HB.out; have GE365 := zns hg HB.out; replace HB := Aside0.mk (below_step (zBz HB.out GE363.out GE364.out) hb); have NB363_365 := znl hg BK363.out; have NB365_363 := zng hg BK363.out; replace BK363 := zbl BK363.out hb; have NB364_365 := znl hg BK364.out; have NB365_364 := zng hg BK364.out; replace BK364 := zbl BK364.out hb; clear hb hbox hg; have hnb12 := NB363_364.out; have hnc12 := NB364_363.out; have hnb13 := NB363_365.out; have hnc13 := NB365_363.out; have hcz14_0 : w11.cell? ⟨gb363, 0, none⟩ = some (.int .i64 a0_0) := (blk_cell BK363.out 0).trans rfl; have hcz14_1 : w11.cell? ⟨gb363, 1, none⟩ = some (.int .i64 a0_1) := (blk_cell BK363.out 1).trans rfl; have hcz14_2 : w11.cell? ⟨gb363, 2, none⟩ = some (.slice A0_2 l0_2.length c0_2) := (blk_cell BK363.out 2).trans rfl; have hfz14_0 := blk_frozen BK363.out 0; have hfz14_1 := blk_frozen BK363.out 1; have hfz14_2 := blk_frozen BK363.out 2; have hnb15 := NB364_365.out; have hnc15 := NB365_364.out; have hcz16_0 : w11.cell? ⟨gb364, 0, none⟩ = some (.int .i64 a1_0) := (blk_cell BK364.out 0).trans rfl; have hcz16_1 : w11.cell? ⟨gb364, 1, none⟩ = some (.int .i64 a1_1) := (blk_cell BK364.out 1).trans rfl; have hcz16_2 : w11.cell? ⟨gb364, 2, none⟩ = some (.slice A1_2 l1_2.length c1_2) := (blk_cell BK364.out 2).trans rfl; have hfz16_0 := blk_frozen BK364.out 0; have hfz16_1 := blk_frozen BK364.out 1; have hfz16_2 := blk_frozen BK364.out 2) | ((with_reducible refine gate_dst (N := 19) rfl ?_); refine Kd.N_lit k26 _ 26 ?hg (N' := 19) ?hd (xs := ([(⟨a0_0, a0_1, l0_2⟩ : S26), (⟨a1_0, a1_1, l1_2⟩ : S26)] : List (S26))) (inner := [.int .i64 a0_0, .int .i64 a0_1, .slice A0_2 l0_2.length c0_2, .int .i64 a1_0, .int .i64 a1_1, .slice A1_2 l1_2.length c1_2]) (ok := (fun k_ => ((P0_2_ k_ ∨ P1_2_ k_) ∨ w.heap.size ≤ k_) ∧ k_ ≠ gb363 ∧ k_ ≠ gb364 ∧ k_ ≠ gb365)) (okp := (fun k_ => ((P0_2_ k_ ∨ P1_2_ k_) ∨ w.heap.size ≤ k_) ∧ k_ ≠ gb363 ∧ k_ ≠ gb364 ∧ k_ ≠ gb365)) ?hr ?hp (fun _ hk => hk) ((show ∀ k_, w11.heap.size ≤ k_ → (fun k_ => ((P0_2_ k_ ∨ P1_2_ k_) ∨ w.heap.size ≤ k_) ∧ k_ ≠ gb363 ∧ k_ ≠ gb364 ∧ k_ ≠ gb365) k_ from fun k_ hk => ⟨(.inr (Nat.le_trans (below_size (zhB HB.out)) hk)), Kd.freshB (g := gb363) (o := .cells #[.int .i64 a0_0, .int .i64 a0_1, .slice A0_2 l0_2.length c0_2] 26 (0, 0)) (zbx BK363.out) k_ hk, Kd.freshB (g := gb364) (o := .cells #[.int .i64 a1_0, .int .i64 a1_1, .slice A1_2 l1_2.length c1_2] 26 (0, 0)) (zbx BK364.out) k_ hk, Kd.freshB (g := gb365) (o := .cells #[.int .i64 0, .int .i64 0] 37 (0, 0)) (zbx BK365.out) k_ hk⟩) _ (Nat.le_refl _)) (Below.refl _ _) (Nat.le_refl _) (by simp) ?_; (case hd => rfl); (case hg => rfl); (case hr => exact zsx); (case hp => exact (Reps.c3 (show Kd.FK k26 _ _ (⟨a0_0, a0_1, l0_2⟩ : S26) [.int .i64 a0_0, .int .i64 a0_1, .slice A0_2 l0_2.length c0_2] from (k26_mkF _ _ (⟨a0_0, a0_1, l0_2⟩ : S26) (Kd.V_reads' (Kd.V_mono (ok' := (fun k_ => ((P0_2_ k_ ∨ P1_2_ k_) ∨ w.heap.size ≤ k_) ∧ k_ ≠ gb363 ∧ k_ ≠ gb364 ∧ k_ ≠ gb365)) (HO0_2.out) (fun k_ hk => ⟨hk.1.1.1, ⟨hk.1.1.2, ⟨hk.1.2, hk.2⟩⟩⟩))).2.1 (Kd.V_F (Kd.V_mono (ok' := (fun k_ => ((P0_2_ k_ ∨ P1_2_ k_) ∨ w.heap.size ≤ k_) ∧ k_ ≠ gb363 ∧ k_ ≠ gb364 ∧ k_ ≠ gb365)) (HO0_2.out) (fun k_ hk => ⟨hk.1.1.1, ⟨hk.1.1.2, ⟨hk.1.2, hk.2⟩⟩⟩))))) (Reps.c3 (show Kd.FK k26 _ _ (⟨a1_0, a1_1, l1_2⟩ : S26) [.int .i64 a1_0, .int .i64 a1_1, .slice A1_2 l1_2.length c1_2] from (k26_mkF _ _ (⟨a1_0, a1_1, l1_2⟩ : S26) (Kd.V_reads' (Kd.V_mono (ok' := (fun k_ => ((P0_2_ k_ ∨ P1_2_ k_) ∨ w.heap.size ≤ k_) ∧ k_ ≠ gb363 ∧ k_ ≠ gb364 ∧ k_ ≠ gb365)) (HO1_2.out) (fun k_ hk => ⟨hk.1.1.1, ⟨hk.1.1.2, ⟨hk.1.2, hk.2⟩⟩⟩))).2.1 (Kd.V_F (Kd.V_mono (ok' := (fun k_ => ((P0_2_ k_ ∨ P1_2_ k_) ∨ w.heap.size ≤ k_) ∧ k_ ≠ gb363 ∧ k_ ≠ gb364 ∧ k_ ≠ gb365)) (HO1_2.out) (fun k_ hk => ⟨hk.1.1.1, ⟨hk.1.1.2, ⟨hk.1.2, hk.2⟩⟩⟩))))) (Reps.none _ _)))); intro v367 w17 ho18 hb hg_ hnew_; clear hg_ hnew_; (first | rw [← Ny366.out] at ho18 | (simp only [Int.reduceToNat] at ho18; rw [← Ny366.out] at ho18)); replace HO0_2 := Aside0.mk (Kd.V_elder' (by refine zDV ?_; exact HO0_2.out) (Kd.N_base ho18) hb); replace HO1_2 := Aside0.mk (Kd.V_elder' (by refine zDV ?_; exact HO1_2.out) (Kd.N_base ho18) hb); have HO368 := Aside0.mk (Kd.N_lower ho18 (below_size (zhB HB.out))); replace BK363 := zbl BK363.out hb; replace BK364 := zbl BK364.out hb; replace BK365 := zbl BK365.out hb; replace HB := Aside0.mk (below_step (zhB HB.out) hb); clear hb ho18; obtain ⟨Ao19, co19, eo19⟩ := Kd.N_slice HO368.out; subst eo19) | ((with_reducible refine gate_callee (f := 34) rfl ?_); refine goesL_ (some 20) rfl rfl Try.func34 (by kernel_rfl) rfl #[.slice Ao19 y366.length co19] rfl zlx ?_; (with_reducible refine (impl_areAlike.calls k _ _ y366 true _ ?side1 ?side2 A4.out).mono ?_); (case side1 => repeat (first | exact (Kd.N_reads' HO368.out).2.2 | (with_reducible refine Kd.C_alloc ?_ _) | (with_reducible refine Kd.C_drewN ?_ _) | (with_reducible refine Kd.C_drew ?_))); (case side2 => exact (Kd.N_reads' HO368.out).2.1); rintro e w20 ⟨rfl, hb⟩; refine ⟨_, rfl, ?_⟩; replace HO0_2 := Aside0.mk (Kd.V_below (by refine zDV ?_; exact HO0_2.out) hb); replace HO1_2 := Aside0.mk (Kd.V_below (by refine zDV ?_; exact HO1_2.out) hb); replace HO368 := Aside0.mk (Kd.N_below (by (with_reducible repeat (first | apply Kd.N_alloc | apply Kd.N_drewN | apply Kd.N_drew)); exact HO368.out) hb); replace BK363 := zbl BK363.out hb; replace BK364 := zbl BK364.out hb; replace BK365 := zbl BK365.out hb; replace HB := Aside0.mk (below_step (zhB HB.out) hb); (try clear hb); have hcz21_0 : w20.cell? ⟨gb363, 0, none⟩ = some (.int .i64 a0_0) := (blk_cell BK363.out 0).trans rfl; have hcz21_1 : w20.cell? ⟨gb363, 1, none⟩ = some (.int .i64 a0_1) := (blk_cell BK363.out 1).trans rfl; have hcz21_2 : w20.cell? ⟨gb363, 2, none⟩ = some (.slice A0_2 l0_2.length c0_2) := (blk_cell BK363.out 2).trans rfl; have hfz21_0 := blk_frozen BK363.out 0; have hfz21_1 := blk_frozen BK363.out 1; have hfz21_2 := blk_frozen BK363.out 2) | ((with_reducible refine gate_callee (f := 44) rfl ?_); refine goesL_ (some 24) rfl rfl Try.func44 (by kernel_rfl) rfl #[.agg #[.int .i64 a0_0, .int .i64 a0_1, .slice A0_2 l0_2.length c0_2]] rfl zlx ?_; (with_reducible refine (impl_valuesOf.calls k a0_0 a0_1 _ _ l0_2 t370 _ ?side1 ?side2 A6.out).mono ?_); (case side1 => exact zCx (Kd.V_reads' HO0_2.out).2.2); (case side2 => exact (Kd.V_reads' HO0_2.out).2.1); rintro e w22 ⟨v371, rfl, ho0, hb⟩; refine ⟨_, rfl, ?_⟩; replace HO0_2 := Aside0.mk (Kd.V_elder' (by refine zDV ?_; exact HO0_2.out) (Kd.R_base ho0) hb); replace HO1_2 := Aside0.mk (Kd.V_elder' (by refine zDV ?_; exact HO1_2.out) (Kd.R_base ho0) hb); replace HO368 := Aside0.mk (Kd.N_elder' (by (with_reducible repeat (first | apply Kd.N_alloc | apply Kd.N_drewN | apply Kd.N_drew)); exact HO368.out) (Kd.R_base ho0) hb); have HO372 := Aside0.mk (Kd.R_lower (Kd.R_newM (M := fun k_ => (w.heap.size ≤ k_)) ho0 (below_size (zhB HB.out)) (fun k_ h_ => h_)) (below_size (zhB HB.out))); replace BK363 := zbl BK363.out hb; replace BK364 := zbl BK364.out hb; replace BK365 := zbl BK365.out hb; replace HB := Aside0.mk (below_step (zhB HB.out) hb); (try clear hb); (try clear ho0); obtain ⟨Ao23, co23, eo23⟩ := Kd.R_slice HO372.out; subst eo23) | ((with_reducible refine gate_callee (f := 45) rfl ?_); refine goesL_ (some 26) rfl rfl Try.func45 (by kernel_rfl) rfl #[.slice Ao23 t370.length co23] rfl zlx ?_; (with_reducible refine (slices_Sort_int.calls (fun k_ => some k_ = (.slice Ao23 t370.length co23 : Value).ownBlock) (.slice Ao23 t370.length co23) t370 t373 w _ ?side1 ?side2 A7.out).mono ?_); (case side1 => exact zhB HB.out); (case side2 => exact Kd.R_tight rfl HO372.out); rintro e w24 ⟨rfl, hy0, hb, hkp⟩; refine ⟨_, rfl, ?_⟩; replace HO0_2 := Aside0.mk (Kd.V_mono (ok' := fun k_ => ((P0_2_ k_ ∨ P1_2_ k_) ∨ w.heap.size ≤ k_) ∧ some k_ ≠ (.slice Ao19 y366.length co19 : Value).ownBlock ∧ some k_ ≠ (.slice Ao23 t370.length co23 : Value).ownBlock ∧ k_ ≠ gb363 ∧ k_ ≠ gb364 ∧ k_ ≠ gb365) (Kd.V_keptB (HO0_2.out) hkp (fun k_ hk_ hs_ => (hk_.2) hs_)) (fun k_ hk_ => ⟨hk_.1.1.1.1.1.1, hk_.1.1.2, hk_.1.2, hk_.1.1.1.1.1.2, hk_.1.1.1.1.2, hk_.1.1.1.2⟩)); replace HO1_2 := Aside0.mk (Kd.V_mono (ok' := fun k_ => ((P0_2_ k_ ∨ P1_2_ k_) ∨ w.heap.size ≤ k_) ∧ some k_ ≠ (.slice Ao19 y366.length co19 : Value).ownBlock ∧ some k_ ≠ (.slice Ao23 t370.length co23 : Value).ownBlock ∧ k_ ≠ gb363 ∧ k_ ≠ gb364 ∧ k_ ≠ gb365) (Kd.V_keptB (HO1_2.out) hkp (fun k_ hk_ hs_ => (hk_.2) hs_)) (fun k_ hk_ => ⟨hk_.1.1.1.1.1.1, hk_.1.1.2, hk_.1.2, hk_.1.1.1.1.1.2, hk_.1.1.1.1.2, hk_.1.1.1.2⟩)); replace BK363 := Aside0.mk (blk_kept (zbx BK363.out) hkp (fun hs_ => (fun e_ => (Kd.R_ne HO372.out BK363.out (by decide)) e_) hs_)); replace BK364 := Aside0.mk (blk_kept (zbx BK364.out) hkp (fun hs_ => (fun e_ => (Kd.R_ne HO372.out BK364.out (by decide)) e_) hs_)); replace BK365 := Aside0.mk (blk_kept (zbx BK365.out) hkp (fun hs_ => (fun e_ => (Kd.R_ne HO372.out BK365.out (by decide)) e_) hs_)); replace HO368 := Aside0.mk (Kd.N_mono (ok' := fun k_ => ((P0_2_ k_ ∨ P1_2_ k_) ∨ w.heap.size ≤ k_) ∧ some k_ ≠ (.slice Ao23 t370.length co23 : Value).ownBlock ∧ k_ ≠ gb363 ∧ k_ ≠ gb364 ∧ k_ ≠ gb365) (Kd.N_keptB (HO368.out) hkp (fun k_ hk_ hs_ => (hk_.2) hs_)) (fun k_ hk_ => ⟨hk_.1.1.1, hk_.1.2, hk_.1.1.2.1, hk_.1.1.2.2.1, hk_.1.1.2.2.2⟩)); replace HO372 := Aside0.mk (Kd.R_reok rfl hy0 (fun k_ e_ => HO372.out.1 k_ e_)); replace HB := Aside0.mk (hb); (try clear hb); (try clear hkp); (try clear hy0)) | ((with_reducible refine gate_dst (N := 11) rfl ?_); refine box_event ?hg (N := 11) ?hd (cs := #[.int .i64 0, .int .i64 0]) (t := 37) ?hr ?_; (case hd => rfl); (case hg => rfl); (case hr => exact zsx); intro gb374 hg w25 hbox hb; replace HO0_2 := Aside0.mk (Kd.V_below (Kd.V_elderB (by refine zDV ?_; exact HO0_2.out) gb374 (Nat.le_of_eq hg.symm)) hb); replace HO1_2 := Aside0.mk (Kd.V_below (Kd.V_elderB (by refine zDV ?_; exact HO1_2.out) gb374 (Nat.le_of_eq hg.symm)) hb); replace HO368 := Aside0.mk (Kd.N_below (Kd.N_elderB (by (with_reducible repeat (first | apply Kd.N_alloc | apply Kd.N_drewN | apply Kd.N_drew)); exact HO368.out) gb374 (Nat.le_of_eq hg.symm)) hb); replace HO372 := Aside0.mk (Kd.R_below (zRx HO372.out) hb); have BK374 := Aside0.mk (hbox); have GW374 := zns hg HB.out; have GE374 := zns hg HB.out; replace HB := Aside0.mk (below_step (zhB HB.out) hb); have NB363_374 := znl hg BK363.out; have NB374_363 := zng hg BK363.out; replace BK363 := zbl BK363.out hb; have NB364_374 := znl hg BK364.out; have NB374_364 := zng hg BK364.out; replace BK364 := zbl BK364.out hb; have NB365_374 := znl hg BK365.out; have NB374_365 := zng hg BK365.out; replace BK365 := zbl BK365.out hb; clear hb hbox hg; have hnb26 := NB374_363.out; have hnc26 := NB363_374.out; have hnb27 := NB374_364.out; have hnc27 := NB364_374.out; have hnb28 := NB374_365.out; have hnc28 := NB365_374.out; have hcz29_0 : w25.cell? ⟨gb374, 0, none⟩ = some (.int .i64 0) := (blk_cell BK374.out 0).trans rfl; have hcz29_1 : w25.cell? ⟨gb374, 1, none⟩ = some (.int .i64 0) := (blk_cell BK374.out 1).trans rfl; have hfz29_0 := blk_frozen BK374.out 0; have hfz29_1 := blk_frozen BK374.out 1) | ((with_reducible refine gate_store (t := 37) (p := 11) rfl ?_); refine store_event (t := 37) (p := 11) (v := ?vo_w30) (w1 := ((w25.setCell ⟨gb374, 0, none⟩ (.int .i64 0)).setCell ⟨gb374, 1, none⟩ (.int .i64 0))) ?hg ?ho ?hn ?hr ?_; (case ho => rfl); (case hg => rfl); (case hn => rfl); (case hr => exact zsx); intro w30 hw; replace HO0_2 : Aside0 (Kd.V (Kd.int .i64) 3 w30 w.heap.size (fun k_ => ((P0_2_ k_ ∨ P1_2_ k_) ∨ w.heap.size ≤ k_) ∧ some k_ ≠ (.slice Ao19 y366.length co19 : Value).ownBlock ∧ some k_ ≠ (.slice Ao23 t370.length co23 : Value).ownBlock ∧ k_ ≠ gb363 ∧ k_ ≠ gb364 ∧ k_ ≠ gb365 ∧ k_ ≠ gb374) (.slice A0_2 l0_2.length c0_2) l0_2) := ⟨(by rw [hw]; exact (by refine zDV ?_; exact Kd.V_mono (Kd.V_far (p := ⟨gb374, 1, none⟩) (Kd.V_far (p := ⟨gb374, 0, none⟩) (Kd.V_mono HO0_2.out (fun k_ hk => (⟨hk, hk.2⟩ : _ ∧ k_ ≠ gb374))) (fun _ hk => hk.2) (.int .i64 0)) (fun _ hk => hk.2) (.int .i64 0)) (fun _ hk => ⟨hk.1.1.1, ⟨hk.1.1.2.1, ⟨hk.1.1.2.2.1, ⟨hk.1.1.2.2.2.1, ⟨hk.1.1.2.2.2.2.1, ⟨hk.1.1.2.2.2.2.2, hk.1.2⟩⟩⟩⟩⟩⟩)))⟩; replace HO1_2 : Aside0 (Kd.V (Kd.int .i64) 3 w30 w.heap.size (fun k_ => ((P0_2_ k_ ∨ P1_2_ k_) ∨ w.heap.size ≤ k_) ∧ some k_ ≠ (.slice Ao19 y366.length co19 : Value).ownBlock ∧ some k_ ≠ (.slice Ao23 t370.length co23 : Value).ownBlock ∧ k_ ≠ gb363 ∧ k_ ≠ gb364 ∧ k_ ≠ gb365 ∧ k_ ≠ gb374) (.slice A1_2 l1_2.length c1_2) l1_2) := ⟨(by rw [hw]; exact (by refine zDV ?_; exact Kd.V_mono (Kd.V_far (p := ⟨gb374, 1, none⟩) (Kd.V_far (p := ⟨gb374, 0, none⟩) (Kd.V_mono HO1_2.out (fun k_ hk => (⟨hk, hk.2⟩ : _ ∧ k_ ≠ gb374))) (fun _ hk => hk.2) (.int .i64 0)) (fun _ hk => hk.2) (.int .i64 0)) (fun _ hk => ⟨hk.1.1.1, ⟨hk.1.1.2.1, ⟨hk.1.1.2.2.1, ⟨hk.1.1.2.2.2.1, ⟨hk.1.1.2.2.2.2.1, ⟨hk.1.1.2.2.2.2.2, hk.1.2⟩⟩⟩⟩⟩⟩)))⟩; replace HO368 : Aside0 (Kd.N k26 26 w30 w.heap.size (fun k_ => ((P0_2_ k_ ∨ P1_2_ k_) ∨ w.heap.size ≤ k_) ∧ some k_ ≠ (.slice Ao23 t370.length co23 : Value).ownBlock ∧ k_ ≠ gb363 ∧ k_ ≠ gb364 ∧ k_ ≠ gb365 ∧ k_ ≠ gb374) (.slice Ao19 y366.length co19) y366) := ⟨(by rw [hw]; exact (by (with_reducible repeat (first | apply Kd.N_alloc | apply Kd.N_drewN | apply Kd.N_drew)); exact Kd.N_mono (Kd.N_far (p := ⟨gb374, 1, none⟩) (Kd.N_far (p := ⟨gb374, 0, none⟩) (Kd.N_mono HO368.out (fun k_ hk => (⟨hk, hk.2⟩ : _ ∧ k_ ≠ gb374))) (fun _ hk => hk.2) (.int .i64 0)) (fun _ hk => hk.2) (.int .i64 0)) (fun _ hk => ⟨hk.1.1.1, ⟨hk.1.1.2.1, ⟨hk.1.1.2.2.1, ⟨hk.1.1.2.2.2.1, ⟨hk.1.1.2.2.2.2, hk.1.2⟩⟩⟩⟩⟩)))⟩; replace HO372 : Aside0 (Kd.R (Kd.int .i64) 3 w30 w.heap.size (fun k_ => (w.heap.size ≤ k_)) (.slice Ao23 t370.length co23) t373) := ⟨(by rw [hw]; exact (by refine zDR ?_; exact Kd.R_mono (Kd.R_far (p := ⟨gb374, 1, none⟩) (Kd.R_far (p := ⟨gb374, 0, none⟩) (Kd.R_types HO372.out BK374.out (by decide)) (fun _ hk => hk.2) (.int .i64 0)) (fun _ hk => hk.2) (.int .i64 0)) (fun _ hk => hk.1.1)))⟩; replace BK363 : Aside0 (w30.heap[gb363]? = some (.cells #[.int .i64 a0_0, .int .i64 a0_1, .slice A0_2 l0_2.length c0_2] 26 (0, 0))) := ⟨(by rw [hw]; exact (zbq BK363.out))⟩; replace BK364 : Aside0 (w30.heap[gb364]? = some (.cells #[.int .i64 a1_0, .int .i64 a1_1, .slice A1_2 l1_2.length c1_2] 26 (0, 0))) := ⟨(by rw [hw]; exact (zbq BK364.out))⟩; replace BK365 : Aside0 (w30.heap[gb365]? = some (.cells #[.int .i64 0, .int .i64 0] 37 (0, 0))) := ⟨(by rw [hw]; exact (zbq BK365.out))⟩; replace BK374 : Aside0 (w30.heap[gb374]? = some (.cells #[.int .i64 0, .int .i64 0] 37 (0, 0))) := ⟨(by rw [hw]; exact (zbp BK374.out))⟩; replace HB : Aside0 (Below w.heap.size w w30) := ⟨(by rw [hw]; exact (zhB HB.out))⟩; clear hw) | ((with_reducible refine gate_callee (f := 46) rfl ?_); refine goesL_ (some 29) rfl rfl Try.func46 (by kernel_rfl) rfl #[.slice Ao23 t370.length co23] rfl zlx ?_; (with_reducible refine (slices_Compact_int.calls (fun k_ => some k_ = (.slice Ao23 t370.length co23 : Value).ownBlock) (.slice Ao23 t370.length co23) t373 t375 w _ ?side1 ?side2 A8.out).mono ?_); (case side1 => exact zhB HB.out); (case side2 => exact Kd.R_tight rfl HO372.out); rintro e w31 ⟨v376, rfl, ho0, hb, hkp⟩; refine ⟨_, rfl, ?_⟩; replace HO0_2 := Aside0.mk (Kd.V_mono (ok' := fun k_ => ((P0_2_ k_ ∨ P1_2_ k_) ∨ w.heap.size ≤ k_) ∧ some k_ ≠ (.slice Ao19 y366.length co19 : Value).ownBlock ∧ k_ ≠ gb363 ∧ k_ ≠ gb364 ∧ k_ ≠ gb365 ∧ k_ ≠ gb374 ∧ some k_ ≠ (v376 : Value).ownBlock) (Kd.V_keptB (HO0_2.out) hkp (fun k_ hk_ hs_ => (hk_.2.2.1) hs_)) (fun k_ hk_ => ⟨hk_.1.1, hk_.1.2.1, hk_.1.2.2.2.1, hk_.1.2.2.2.2.1, hk_.1.2.2.2.2.2.1, hk_.1.2.2.2.2.2.2, fun e_ => Or.elim (ho0.1 k_ e_.symm) (fun hs_ => hk_.2.1 hs_) (fun hn_ => Nat.not_le.2 hk_.2.2 hn_)⟩)); replace HO1_2 := Aside0.mk (Kd.V_mono (ok' := fun k_ => ((P0_2_ k_ ∨ P1_2_ k_) ∨ w.heap.size ≤ k_) ∧ some k_ ≠ (.slice Ao19 y366.length co19 : Value).ownBlock ∧ k_ ≠ gb363 ∧ k_ ≠ gb364 ∧ k_ ≠ gb365 ∧ k_ ≠ gb374 ∧ some k_ ≠ (v376 : Value).ownBlock) (Kd.V_keptB (HO1_2.out) hkp (fun k_ hk_ hs_ => (hk_.2.2.1) hs_)) (fun k_ hk_ => ⟨hk_.1.1, hk_.1.2.1, hk_.1.2.2.2.1, hk_.1.2.2.2.2.1, hk_.1.2.2.2.2.2.1, hk_.1.2.2.2.2.2.2, fun e_ => Or.elim (ho0.1 k_ e_.symm) (fun hs_ => hk_.2.1 hs_) (fun hn_ => Nat.not_le.2 hk_.2.2 hn_)⟩)); replace BK363 := Aside0.mk (blk_kept (zbx BK363.out) hkp (fun hs_ => (fun e_ => (Kd.R_ne HO372.out BK363.out (by decide)) e_) hs_)); replace BK364 := Aside0.mk (blk_kept (zbx BK364.out) hkp (fun hs_ => (fun e_ => (Kd.R_ne HO372.out BK364.out (by decide)) e_) hs_)); replace BK365 := Aside0.mk (blk_kept (zbx BK365.out) hkp (fun hs_ => (fun e_ => (Kd.R_ne HO372.out BK365.out (by decide)) e_) hs_)); replace HO368 := Aside0.mk (Kd.N_mono (ok' := fun k_ => ((P0_2_ k_ ∨ P1_2_ k_) ∨ w.heap.size ≤ k_) ∧ k_ ≠ gb363 ∧ k_ ≠ gb364 ∧ k_ ≠ gb365 ∧ k_ ≠ gb374 ∧ some k_ ≠ (v376 : Value).ownBlock) (Kd.N_keptB (HO368.out) hkp (fun k_ hk_ hs_ => (hk_.2.1) hs_)) (fun k_ hk_ => ⟨hk_.1.1, hk_.1.2.2.1, hk_.1.2.2.2.1, hk_.1.2.2.2.2.1, hk_.1.2.2.2.2.2, fun e_ => Or.elim (ho0.1 k_ e_.symm) (fun hs_ => hk_.2.1 hs_) (fun hn_ => Nat.not_le.2 hk_.2.2 hn_)⟩)); replace BK374 := Aside0.mk (blk_kept (zbx BK374.out) hkp (fun hs_ => (fun e_ => (Kd.R_ne HO372.out BK374.out (by decide)) e_) hs_)); have HO377 := Aside0.mk (Kd.R_mono (ok' := fun k_ => (w.heap.size ≤ k_)) ho0 (fun k_ hk_ => Or.elim hk_ (fun hs_ => (HO372.out.1 k_ (hs_).symm)) (fun hn_ => (Nat.le_trans (below_size (zhB HB.out)) hn_)))); replace HB := Aside0.mk (hb); clear HO372; (try clear hb); (try clear hkp); (try clear ho0); obtain ⟨Ao32, co32, eo32⟩ := Kd.R_slice HO377.out; subst eo32))
  go_loopg [10, 12, 31] k (fun kq v10 v12 v31 w' => ∃ (x10_1 : Int) (x12_1 : Bool) (x31_1 : Int) (x375000_1 : Int) (x375001_1 : Int), v10 = .int .i64 x10_1 ∧ v12 = .bool x12_1 ∧ v31 = .int .i64 x31_1 ∧ Aside0 (impl_BestLimit.l0 kq a2 x10_1 x12_1 t375 (t375.length : Int) x31_1 a0_0 a0_1 l0_2 a1_0 a1_1 l1_2 x375000_1 x375001_1 = some (r1, r2, r3, r4)) ∧ Aside0 (kq ≤ k) ∧ Aside0 (Kd.R (Kd.int .i64) 3 w' w.heap.size (fun k_ => (w.heap.size ≤ k_)) (.slice Ao32 t375.length co32) t375) ∧ Aside0 (Kd.V (Kd.int .i64) 3 w' w.heap.size (fun k_ => ((P0_2_ k_ ∨ P1_2_ k_) ∨ w.heap.size ≤ k_) ∧ some k_ ≠ ((.slice Ao32 t375.length co32) : Value).ownBlock ∧ k_ ≠ gb363 ∧ k_ ≠ gb364 ∧ k_ ≠ gb365 ∧ k_ ≠ gb374) (.slice A0_2 l0_2.length c0_2) l0_2) ∧ Aside0 (Kd.V (Kd.int .i64) 3 w' w.heap.size (fun k_ => ((P0_2_ k_ ∨ P1_2_ k_) ∨ w.heap.size ≤ k_) ∧ some k_ ≠ ((.slice Ao32 t375.length co32) : Value).ownBlock ∧ k_ ≠ gb363 ∧ k_ ≠ gb364 ∧ k_ ≠ gb365 ∧ k_ ≠ gb374) (.slice A1_2 l1_2.length c1_2) l1_2) ∧ Aside0 (w'.heap[gb363]? = some (.cells #[.int .i64 a0_0, .int .i64 a0_1, (.slice A0_2 l0_2.length c0_2)] 26 (0, 0))) ∧ Aside0 (w'.heap[gb364]? = some (.cells #[.int .i64 a1_0, .int .i64 a1_1, (.slice A1_2 l1_2.length c1_2)] 26 (0, 0))) ∧ Aside0 (w'.heap[gb365]? = some (.cells #[.int .i64 0, .int .i64 0] 37 (0, 0))) ∧ Aside0 (w'.heap[gb374]? = some (.cells #[.int .i64 x375000_1, .int .i64 x375001_1] 37 (0, 0))) ∧ Aside0 (Below w.heap.size w w'))
  case atStart => exact ⟨(0), (false), (0), (0), (0), zrx, zrx, zrx, H', ⟨Nat.le_refl _⟩, ⟨by refine zDR ?_; exact HO377.out⟩, ⟨by refine zDV ?_; exact Kd.V_mono HO0_2.out (fun _ hk => ⟨hk.1, ⟨hk.2.2.2.2.2.2, ⟨hk.2.2.1, ⟨hk.2.2.2.1, ⟨hk.2.2.2.2.1, hk.2.2.2.2.2.1⟩⟩⟩⟩⟩)⟩, ⟨by refine zDV ?_; exact Kd.V_mono HO1_2.out (fun _ hk => ⟨hk.1, ⟨hk.2.2.2.2.2.2, ⟨hk.2.2.1, ⟨hk.2.2.2.1, ⟨hk.2.2.2.2.1, hk.2.2.2.2.2.1⟩⟩⟩⟩⟩)⟩, ⟨by refine zbx ?_; exact BK363.out⟩, ⟨by refine zbx ?_; exact BK364.out⟩, ⟨by refine zbx ?_; exact BK365.out⟩, ⟨by refine zbx ?_; exact BK374.out⟩, ⟨zhB HB.out⟩⟩
  case round =>
   clear H'
   try clear c1
   try clear c2
   try clear p2
   try clear c3
   try clear c4
   try clear c5
   try clear c12
   try clear c13
   try clear c15
   try clear c22
   try clear c26
   try clear c27
   try clear c28
   try clear hcz14_0
   try clear hcz14_1
   try clear hcz14_2
   try clear hcz16_0
   try clear hcz16_1
   try clear hcz16_2
   try clear hcz21_0
   try clear hcz21_1
   try clear hcz21_2
   try clear hcz29_0
   try clear hcz29_1
   try clear hfz14_0
   try clear hfz14_1
   try clear hfz14_2
   try clear hfz16_0
   try clear hfz16_1
   try clear hfz16_2
   try clear hfz21_0
   try clear hfz21_1
   try clear hfz21_2
   try clear hfz29_0
   try clear hfz29_1
   obtain ⟨x10_1, x12_1, x31_1, x375000_1, x375001_1, rfl, rfl, rfl, HA, HK1, HO_29, HO_364002, HO_365002, BK363, BK364, BK365, BK374, HB⟩ := hrel
   cases gk with
   | zero => exact absurd HA.out (by simp [impl_BestLimit.l0])
   | succ k1 =>
    have H := HA.out
    clear HA
    simp only [impl_BestLimit.l0] at H
    by_cases c33 : x31_1 < (t375.length : Int)
    ·rw [if_pos c33] at H
     have c33b0 : decide (x31_1 < (t375.length : Int)) = true := decide_eq_true c33
     clear c33
     by_cases c34 : 0 ≤ x31_1
     ·rw [if_pos c34] at H
      have c34b0 : decide (0 ≤ x31_1) = true := decide_eq_true c34
      clear c34
      by_cases c35 : x31_1 < (t375.length : Int)
      ·rw [if_pos c35] at H
       have c35b0 : decide (x31_1 < (t375.length : Int)) = true := decide_eq_true c35
       clear c35
       replace H := Option.bind_eq_some_iff.mp H
       obtain ⟨⟨t379, t380, t381, t382⟩, A360, H⟩ := H
       replace H : ((impl_ThreatScore.f k1 t379 t380 t381 t382).bind fun bt383 => (if bt383.2.2 = true then (if x12_1 = true then ((impl_compareRatios.f bt383.1 bt383.2.1 x375000_1 x375001_1).bind fun t387 => (if t387 > 0 then (impl_BestLimit.l0 k1 a2 (wrap64 ((rd t375 x31_1) - 1)) true t375 (t375.length : Int) (wrap64 (x31_1 + 1)) a0_0 a0_1 l0_2 a1_0 a1_1 l1_2 bt383.1 bt383.2.1) else (impl_BestLimit.l0 k1 a2 x10_1 x12_1 t375 (t375.length : Int) (wrap64 (x31_1 + 1)) a0_0 a0_1 l0_2 a1_0 a1_1 l1_2 x375000_1 x375001_1))) else (impl_BestLimit.l0 k1 a2 (wrap64 ((rd t375 x31_1) - 1)) true t375 (t375.length : Int) (wrap64 (x31_1 + 1)) a0_0 a0_1 l0_2 a1_0 a1_1 l1_2 bt383.1 bt383.2.1)) else (impl_BestLimit.l0 k1 a2 x10_1 x12_1 t375 (t375.length : Int) (wrap64 (x31_1 + 1)) a0_0 a0_1 l0_2 a1_0 a1_1 l1_2 x375000_1 x375001_1))) = some (r1, r2, r3, r4) := H
       have A36 := Aside0.mk A360
       clear A360
       replace H := Option.bind_eq_some_iff.mp H
       obtain ⟨⟨t383, t384, t385⟩, A370, H⟩ := H
       replace H : (if t385 = true then (if x12_1 = true then ((impl_compareRatios.f t383 t384 x375000_1 x375001_1).bind fun t387 => (if t387 > 0 then (impl_BestLimit.l0 k1 a2 (wrap64 ((rd t375 x31_1) - 1)) true t375 (t375.length : Int) (wrap64 (x31_1 + 1)) a0_0 a0_1 l0_2 a1_0 a1_1 l1_2 t383 t384) else (impl_BestLimit.l0 k1 a2 x10_1 x12_1 t375 (t375.length : Int) (wrap64 (x31_1 + 1)) a0_0 a0_1 l0_2 a1_0 a1_1 l1_2 x375000_1 x375001_1))) else (impl_BestLimit.l0 k1 a2 (wrap64 ((rd t375 x31_1) - 1)) true t375 (t375.length : Int) (wrap64 (x31_1 + 1)) a0_0 a0_1 l0_2 a1_0 a1_1 l1_2 t383 t384)) else (impl_BestLimit.l0 k1 a2 x10_1 x12_1 t375 (t375.length : Int) (wrap64 (x31_1 + 1)) a0_0 a0_1 l0_2 a1_0 a1_1 l1_2 x375000_1 x375001_1)) = some (r1, r2, r3, r4) := H
       have A37 := Aside0.mk A370
       clear A370
       by_cases c38 : t385 = true
       ·subst c38
        rw [if_pos rfl] at H
        by_cases c39 : x12_1 = true
        ·subst c39
         rw [if_pos rfl] at H
         replace H := Option.bind_eq_some_iff.mp H
         obtain ⟨t387, A400, H⟩ := H
         replace H : (if t387 > 0 then (impl_BestLimit.l0 k1 a2 (wrap64 ((rd t375 x31_1) - 1)) true t375 (t375.length : Int) (wrap64 (x31_1 + 1)) a0_0 a0_1 l0_2 a1_0 a1_1 l1_2 t383 t384) else (impl_BestLimit.l0 k1 a2 x10_1 true t375 (t375.length : Int) (wrap64 (x31_1 + 1)) a0_0 a0_1 l0_2 a1_0 a1_1 l1_2 x375000_1 x375001_1)) = some (r1, r2, r3, r4) := H
         have A40 := Aside0.mk A400
         clear A400
         by_cases c41 : t387 > 0
         ·rw [if_pos c41] at H
          have c41b0 : decide (0 < t387) = true := decide_eq_true c41
          clear c41
          focus
           have H' := Aside0.mk H
           clear H
           have p378 : 0 ≤ (x31_1 : Int) := of_decide_eq_true zax
           have q378 : x31_1 < (t375.length : Int) := of_decide_eq_true zax
           obtain ⟨ad378, e378, hx378_0⟩ := Kd.at_int (Kd.R_reads' HO_29.out).2.2 x31_1 p378 q378
           cases e378
           replace p378 := eq_true p378
           replace q378 := eq_true q378
           have hnb42 := NB363_364.out
           have hnc42 := NB364_363.out
           have hnb43 := NB363_365.out
           have hnc43 := NB365_363.out
           have hnb44 := NB363_374.out
           have hnc44 := NB374_363.out
           have hcz45_0 : wr.cell? ⟨gb363, 0, none⟩ = some (.int .i64 a0_0) := (blk_cell BK363.out 0).trans rfl
           have hcz45_1 : wr.cell? ⟨gb363, 1, none⟩ = some (.int .i64 a0_1) := (blk_cell BK363.out 1).trans rfl
           have hcz45_2 : wr.cell? ⟨gb363, 2, none⟩ = some (.slice A0_2 l0_2.length c0_2) := (blk_cell BK363.out 2).trans rfl
           have hfz45_0 := blk_frozen BK363.out 0
           have hfz45_1 := blk_frozen BK363.out 1
           have hfz45_2 := blk_frozen BK363.out 2
           have hnb46 := NB364_365.out
           have hnc46 := NB365_364.out
           have hnb47 := NB364_374.out
           have hnc47 := NB374_364.out
           have hcz48_0 : wr.cell? ⟨gb364, 0, none⟩ = some (.int .i64 a1_0) := (blk_cell BK364.out 0).trans rfl
           have hcz48_1 : wr.cell? ⟨gb364, 1, none⟩ = some (.int .i64 a1_1) := (blk_cell BK364.out 1).trans rfl
           have hcz48_2 : wr.cell? ⟨gb364, 2, none⟩ = some (.slice A1_2 l1_2.length c1_2) := (blk_cell BK364.out 2).trans rfl
           have hfz48_0 := blk_frozen BK364.out 0
           have hfz48_1 := blk_frozen BK364.out 1
           have hfz48_2 := blk_frozen BK364.out 2
           try go_wp2_with (first | ((with_reducible refine gate_callee (f := 35) rfl ?_); refine goesL_ (some 41) rfl rfl Try.func35 (by kernel_rfl) rfl #[.agg #[.int .i64 a0_0, .int .i64 a0_1, .slice A0_2 l0_2.length c0_2], .agg #[.int .i64 a1_0, .int .i64 a1_1, .slice A1_2 l1_2.length c1_2], .int .i64 (wrap64 ((rd t375 x31_1) - 1)), .int .i64 a2] rfl zlx ?_; (with_reducible refine (impl_countTable.calls k1 a0_0 a0_1 _ _ l0_2 a1_0 a1_1 _ _ l1_2 (wrap64 ((rd t375 x31_1) - 1)) a2 t379 t380 t381 t382 _ ?side1 ?side2 ?side3 ?side4 A36.out).mono ?_); (case side1 => exact zCx (Kd.V_reads' HO_364002.out).2.2); (case side2 => exact (Kd.V_reads' HO_364002.out).2.1); (case side3 => exact zCx (Kd.V_reads' HO_365002.out).2.2); (case side4 => exact (Kd.V_reads' HO_365002.out).2.1); rintro e w49 ⟨rfl, hb⟩; refine ⟨_, rfl, ?_⟩; replace HO_29 := Aside0.mk (Kd.R_below (zRx HO_29.out) hb); replace HO_364002 := Aside0.mk (Kd.V_below (by refine zDV ?_; exact HO_364002.out) hb); replace HO_365002 := Aside0.mk (Kd.V_below (by refine zDV ?_; exact HO_365002.out) hb); replace BK363 := zbl BK363.out hb; replace BK364 := zbl BK364.out hb; replace BK365 := zbl BK365.out hb; replace BK374 := zbl BK374.out hb; replace HB := Aside0.mk (below_step (zhB HB.out) hb); (try clear hb)) | ((with_reducible refine gate_callee (f := 11) rfl ?_); refine goesL_ (some 42) rfl rfl Try.func11 (by kernel_rfl) rfl #[.agg #[.int .i64 t379, .int .i64 t380, .int .i64 t381, .int .i64 t382]] rfl zlx ?_; (with_reducible refine (impl_ThreatScore.calls k1 t379 t380 t381 t382 t383 t384 true _ A37.out).mono ?_); rintro e w50 ⟨rfl, hb⟩; refine ⟨_, rfl, ?_⟩; replace HO_29 := Aside0.mk (Kd.R_below (zRx HO_29.out) hb); replace HO_364002 := Aside0.mk (Kd.V_below (by refine zDV ?_; exact HO_364002.out) hb); replace HO_365002 := Aside0.mk (Kd.V_below (by refine zDV ?_; exact HO_365002.out) hb); replace BK363 := zbl BK363.out hb; replace BK364 := zbl BK364.out hb; replace BK365 := zbl BK365.out hb; replace BK374 := zbl BK374.out hb; replace HB := Aside0.mk (below_step (zhB HB.out) hb); (try clear hb)) | ((with_reducible refine gate_dst (N := 15) rfl ?_); refine box_event ?hg (N := 15) ?hd (cs := #[.int .i64 0, .int .i64 0]) (t := 37) ?hr ?_; (case hd => rfl); (case hg => rfl); (case hr => exact zsx); intro gb386 hg w51 hbox hb; replace HO_29 := Aside0.mk (Kd.R_below (zRx HO_29.out) hb); replace HO_364002 := Aside0.mk (Kd.V_below (Kd.V_elderB (by refine zDV ?_; exact HO_364002.out) gb386 (Nat.le_of_eq hg.symm)) hb); replace HO_365002 := Aside0.mk (Kd.V_below (Kd.V_elderB (by refine zDV ?_; exact HO_365002.out) gb386 (Nat.le_of_eq hg.symm)) hb); have BK386 := Aside0.mk (hbox); have GW386 := zns hg HB.out; have GE386 := zns hg HB.out; replace HB := Aside0.mk (below_step (zhB HB.out) hb); have NB363_386 := znl hg BK363.out; have NB386_363 := zng hg BK363.out; replace BK363 := zbl BK363.out hb; have NB364_386 := znl hg BK364.out; have NB386_364 := zng hg BK364.out; replace BK364 := zbl BK364.out hb; have NB365_386 := znl hg BK365.out; have NB386_365 := zng hg BK365.out; replace BK365 := zbl BK365.out hb; have NB374_386 := znl hg BK374.out; have NB386_374 := zng hg BK374.out; replace BK374 := zbl BK374.out hb; clear hb hbox hg; have hnb52 := NB386_363.out; have hnc52 := NB363_386.out; have hnb53 := NB386_364.out; have hnc53 := NB364_386.out; have hnb54 := NB386_365.out; have hnc54 := NB365_386.out; have hnb55 := NB386_374.out; have hnc55 := NB374_386.out; have hcz56_0 : w51.cell? ⟨gb386, 0, none⟩ = some (.int .i64 0) := (blk_cell BK386.out 0).trans rfl; have hcz56_1 : w51.cell? ⟨gb386, 1, none⟩ = some (.int .i64 0) := (blk_cell BK386.out 1).trans rfl; have hfz56_0 := blk_frozen BK386.out 0; have hfz56_1 := blk_frozen BK386.out 1; have hnb57 := NB374_365.out; have hnc57 := NB365_374.out; have hcz58_0 : w51.cell? ⟨gb374, 0, none⟩ = some (.int .i64 x375000_1) := (blk_cell BK374.out 0).trans rfl; have hcz58_1 : w51.cell? ⟨gb374, 1, none⟩ = some (.int .i64 x375001_1) := (blk_cell BK374.out 1).trans rfl; have hfz58_0 := blk_frozen BK374.out 0; have hfz58_1 := blk_frozen BK374.out 1) | (go_at_call 47; (with_reducible refine (impl_compareRatios.calls t383 t384 x375000_1 x375001_1 t387 _ A40.out).mono ?_); rintro e w59 ⟨rfl, hb⟩; replace HO_29 := Aside0.mk (Kd.R_below (by (with_reducible repeat (first | apply Kd.R_alloc | apply Kd.R_drewN | apply Kd.R_drew)); exact (Kd.R_mono (Kd.R_far (p := ⟨gb386, 1, none⟩) (Kd.R_far (p := ⟨gb386, 0, none⟩) (Kd.R_types HO_29.out BK386.out (by decide)) (fun _ hk => hk.2) (.int .i64 t383)) (fun _ hk => hk.2) (.int .i64 t384)) (fun _ h_ => h_.1))) hb); replace HO_364002 := Aside0.mk (Kd.V_below (by (with_reducible repeat (first | apply Kd.V_alloc | apply Kd.V_drewN | apply Kd.V_drew)); exact (Kd.V_mono (Kd.V_far (p := ⟨gb386, 1, none⟩) (Kd.V_far (p := ⟨gb386, 0, none⟩) (Kd.V_mono HO_364002.out (fun k_ hk => (⟨hk, hk.2⟩ : _ ∧ k_ ≠ gb386))) (fun _ hk => hk.2) (.int .i64 t383)) (fun _ hk => hk.2) (.int .i64 t384)) (fun _ h_ => h_.1))) hb); replace HO_365002 := Aside0.mk (Kd.V_below (by (with_reducible repeat (first | apply Kd.V_alloc | apply Kd.V_drewN | apply Kd.V_drew)); exact (Kd.V_mono (Kd.V_far (p := ⟨gb386, 1, none⟩) (Kd.V_far (p := ⟨gb386, 0, none⟩) (Kd.V_mono HO_365002.out (fun k_ hk => (⟨hk, hk.2⟩ : _ ∧ k_ ≠ gb386))) (fun _ hk => hk.2) (.int .i64 t383)) (fun _ hk => hk.2) (.int .i64 t384)) (fun _ h_ => h_.1))) hb); replace BK363 := zbl BK363.out hb; replace BK364 := zbl BK364.out hb; replace BK365 := zbl BK365.out hb; replace BK374 := zbl BK374.out hb; replace BK386 := Aside0.mk (blk_below (g := gb386) (o := .cells #[.int .i64 t383, .int .i64 t384] 37 (0, 0)) (zbp BK386.out) hb); replace HB := Aside0.mk (below_step (zhB HB.out) hb); (try clear hb); (try clear hk)))
           replace HO_29 := Aside0.mk (Kd.R_drew HO_29.out)
           replace HO_364002 := Aside0.mk (Kd.V_drew HO_364002.out)
           replace HO_365002 := Aside0.mk (Kd.V_drew HO_365002.out)
           replace BK363 := Aside0.mk (blk_drew BK363.out)
           replace BK364 := Aside0.mk (blk_drew BK364.out)
           replace BK365 := Aside0.mk (blk_drew BK365.out)
           replace BK374 := Aside0.mk (blk_drew BK374.out)
           replace BK386 := Aside0.mk (blk_drew BK386.out)
           replace HB := Aside0.mk (below_drew1 HB.out)
           refine start_ (n := 6) (S := fun w' => w'.cell? ⟨gb386, 0, none⟩ = some (.int .i64 t383) ∧ w'.cell? ⟨gb386, 1, none⟩ = some (.int .i64 t384)) (ds := []) #[F,F,F,F,F,F] (by kernel_rfl) rfl rfl ⟨(blk_cell BK386.out 0).trans rfl, (blk_cell BK386.out 1).trans rfl⟩ (fun hHeld => ?_)
           generalize w59.drew = w60 at HO_29 HO_364002 HO_365002 BK363 BK364 BK365 BK374 BK386 HB hHeld ⊢
           refine pure_ (i := 0) (N := some 56) (v := ?_) (a' := ?_) #[T,F,F,F,F,F] rfl rfl (by kernel_rfl) (fun _ _ _ h => h) (Or.inl ⟨by rfl, ?_⟩) ?_ ?_
           rotate_left
           ·exact zwx
           rotate_left
           ·exact zpx
           refine pure_ (i := 1) (N := some 57) (v := ?_) (a' := ?_) #[T,T,F,F,F,F] rfl rfl (by kernel_rfl) (fun _ _ _ h => h) (Or.inl ⟨by rfl, ?_⟩) ?_ ?_
           rotate_left
           ·exact zwx
           rotate_left
           ·exact zpx
           refine pure_ (i := 3) (N := some 10) (v := ?_) (a' := ?_) #[T,T,F,T,F,F] rfl rfl (by kernel_rfl) (fun _ _ _ h => h) (Or.inl ⟨by rfl, ?_⟩) ?_ ?_
           rotate_left
           ·exact zwx
           rotate_left
           ·exact zpx
           refine take_ (i := 2) (N := some 58) (v := ?_) (a' := ?_) #[T,T,T,T,F,F] rfl rfl (by kernel_rfl) (fun _ _ _ h => h) (Or.inl ⟨by rfl, ?_⟩) hHeld ?_ ?_
           rotate_left
           ·rintro w' ⟨s0, s1⟩
            go_simp
            with_reducible rfl
           rotate_left
           ·exact zpx
           refine one_ (i := 4) (N := none) #[T,T,T,T,T,F] rfl rfl (by kernel_rfl) (by decide) (fun K hK => ?_)
           have hs61 : w60.cell? ⟨gb374, 0, none⟩ = some (.int .i64 x375000_1) := (blk_cell BK374.out 0).trans rfl
           have hfs61 := blk_frozen BK374.out 0
           have hns61_0 := NB363_374.out
           have hns61_1 := NB364_374.out
           have hns61_2 := NB365_374.out
           have hns61_4 := NB386_374.out
           have hms61_0 := NB374_363.out
           have hms61_1 := NB374_364.out
           have hms61_2 := NB374_365.out
           have hms61_4 := NB374_386.out
           have hs62 : w60.cell? ⟨gb374, 1, none⟩ = some (.int .i64 x375001_1) := (blk_cell BK374.out 1).trans rfl
           have hfs62 := blk_frozen BK374.out 1
           have hns62_0 := NB363_374.out
           have hns62_1 := NB364_374.out
           have hns62_2 := NB365_374.out
           have hns62_4 := NB386_374.out
           have hms62_0 := NB374_363.out
           have hms62_1 := NB374_364.out
           have hms62_2 := NB374_365.out
           have hms62_4 := NB374_386.out
           refine skip_ (w1 := ?_) (by rfl) rfl ?_ ?_
           rotate_left
           ·go_simp
            rfl
           refine hK.out _ _ ⟨((cell_far (p := ⟨gb374, _, none⟩) NB386_374.out _).trans (((cell_far (p := ⟨gb374, _, none⟩) NB386_374.out _).trans (hHeld.1)))), ((cell_far (p := ⟨gb374, _, none⟩) NB386_374.out _).trans (((cell_far (p := ⟨gb374, _, none⟩) NB386_374.out _).trans (hHeld.2))))⟩ (fun hHeld => ?_)
           clear hK K
           refine pure_ (i := 5) (N := some 12) (v := ?_) (a' := ?_) #[T,T,T,T,T,T] rfl rfl (by kernel_rfl) (fun _ _ _ h => h) (Or.inl ⟨by rfl, ?_⟩) ?_ ?_
           rotate_left
           ·exact zwx
           rotate_left
           ·exact zpx
           refine done_ (by kernel_rfl) ?_
           try go_wp2
           go_roundg k1
           case measure => have := HK1.out; omega
           case rel => exact ⟨(wrap64 ((rd t375 x31_1) - 1)), (true), (wrap64 (x31_1 + 1)), (t383), (t384), zrx, zrx, zrx, H', ⟨by have := HK1.out; omega⟩, ⟨by refine zDR ?_; exact Kd.R_mono (Kd.R_far (p := ⟨gb374, 1, none⟩) (Kd.R_far (p := ⟨gb374, 0, none⟩) (Kd.R_types HO_29.out BK374.out (by decide)) (fun _ hk => hk.2) (.int .i64 t383)) (fun _ hk => hk.2) (.int .i64 t384)) (fun _ hk => hk.1)⟩, ⟨by refine zDV ?_; exact Kd.V_mono (Kd.V_far (p := ⟨gb374, 1, none⟩) (Kd.V_far (p := ⟨gb374, 0, none⟩) (Kd.V_mono HO_364002.out (fun k_ hk => (⟨hk, hk.1.2.2.2.2.2⟩ : _ ∧ k_ ≠ gb374))) (fun _ hk => hk.2) (.int .i64 t383)) (fun _ hk => hk.2) (.int .i64 t384)) (fun _ hk => ⟨hk.1.1.1, ⟨hk.1.1.2.1, ⟨hk.1.1.2.2.1, ⟨hk.1.1.2.2.2.1, ⟨hk.1.1.2.2.2.2.1, hk.1.1.2.2.2.2.2⟩⟩⟩⟩⟩)⟩, ⟨by refine zDV ?_; exact Kd.V_mono (Kd.V_far (p := ⟨gb374, 1, none⟩) (Kd.V_far (p := ⟨gb374, 0, none⟩) (Kd.V_mono HO_365002.out (fun k_ hk => (⟨hk, hk.1.2.2.2.2.2⟩ : _ ∧ k_ ≠ gb374))) (fun _ hk => hk.2) (.int .i64 t383)) (fun _ hk => hk.2) (.int .i64 t384)) (fun _ hk => ⟨hk.1.1.1, ⟨hk.1.1.2.1, ⟨hk.1.1.2.2.1, ⟨hk.1.1.2.2.2.1, ⟨hk.1.1.2.2.2.2.1, hk.1.1.2.2.2.2.2⟩⟩⟩⟩⟩)⟩, ⟨zbp BK363.out⟩, ⟨zbp BK364.out⟩, ⟨zbp BK365.out⟩, ⟨zbp BK374.out⟩, ⟨zhB HB.out⟩⟩
         ·rw [if_neg c41] at H
          have c41b0 : decide (0 < t387) = false := decide_eq_false c41
          clear c41
          focus
           have H' := Aside0.mk H
           clear H
           have p378 : 0 ≤ (x31_1 : Int) := of_decide_eq_true zax
           have q378 : x31_1 < (t375.length : Int) := of_decide_eq_true zax
           obtain ⟨ad378, e378, hx378_0⟩ := Kd.at_int (Kd.R_reads' HO_29.out).2.2 x31_1 p378 q378
           cases e378
           replace p378 := eq_true p378
           replace q378 := eq_true q378
           have hnb63 := NB363_364.out
           have hnc63 := NB364_363.out
           have hnb64 := NB363_365.out
           have hnc64 := NB365_363.out
           have hnb65 := NB363_374.out
           have hnc65 := NB374_363.out
           have hcz66_0 : wr.cell? ⟨gb363, 0, none⟩ = some (.int .i64 a0_0) := (blk_cell BK363.out 0).trans rfl
           have hcz66_1 : wr.cell? ⟨gb363, 1, none⟩ = some (.int .i64 a0_1) := (blk_cell BK363.out 1).trans rfl
           have hcz66_2 : wr.cell? ⟨gb363, 2, none⟩ = some (.slice A0_2 l0_2.length c0_2) := (blk_cell BK363.out 2).trans rfl
           have hfz66_0 := blk_frozen BK363.out 0
           have hfz66_1 := blk_frozen BK363.out 1
           have hfz66_2 := blk_frozen BK363.out 2
           have hnb67 := NB364_365.out
           have hnc67 := NB365_364.out
           have hnb68 := NB364_374.out
           have hnc68 := NB374_364.out
           have hcz69_0 : wr.cell? ⟨gb364, 0, none⟩ = some (.int .i64 a1_0) := (blk_cell BK364.out 0).trans rfl
           have hcz69_1 : wr.cell? ⟨gb364, 1, none⟩ = some (.int .i64 a1_1) := (blk_cell BK364.out 1).trans rfl
           have hcz69_2 : wr.cell? ⟨gb364, 2, none⟩ = some (.slice A1_2 l1_2.length c1_2) := (blk_cell BK364.out 2).trans rfl
           have hfz69_0 := blk_frozen BK364.out 0
           have hfz69_1 := blk_frozen BK364.out 1
           have hfz69_2 := blk_frozen BK364.out 2
           go_wp2_with (first | ((with_reducible refine gate_callee (f := 35) rfl ?_); refine goesL_ (some 41) rfl rfl Try.func35 (by kernel_rfl) rfl #[.agg #[.int .i64 a0_0, .int .i64 a0_1, .slice A0_2 l0_2.length c0_2], .agg #[.int .i64 a1_0, .int .i64 a1_1, .slice A1_2 l1_2.length c1_2], .int .i64 (wrap64 ((rd t375 x31_1) - 1)), .int .i64 a2] rfl zlx ?_; (with_reducible refine (impl_countTable.calls k1 a0_0 a0_1 _ _ l0_2 a1_0 a1_1 _ _ l1_2 (wrap64 ((rd t375 x31_1) - 1)) a2 t379 t380 t381 t382 _ ?side1 ?side2 ?side3 ?side4 A36.out).mono ?_); (case side1 => exact zCx (Kd.V_reads' HO_364002.out).2.2); (case side2 => exact (Kd.V_reads' HO_364002.out).2.1); (case side3 => exact zCx (Kd.V_reads' HO_365002.out).2.2); (case side4 => exact (Kd.V_reads' HO_365002.out).2.1); rintro e w70 ⟨rfl, hb⟩; refine ⟨_, rfl, ?_⟩; replace HO_29 := Aside0.mk (Kd.R_below (zRx HO_29.out) hb); replace HO_364002 := Aside0.mk (Kd.V_below (by refine zDV ?_; exact HO_364002.out) hb); replace HO_365002 := Aside0.mk (Kd.V_below (by refine zDV ?_; exact HO_365002.out) hb); replace BK363 := zbl BK363.out hb; replace BK364 := zbl BK364.out hb; replace BK365 := zbl BK365.out hb; replace BK374 := zbl BK374.out hb; replace HB := Aside0.mk (below_step (zhB HB.out) hb); (try clear hb)) | ((with_reducible refine gate_callee (f := 11) rfl ?_); refine goesL_ (some 42) rfl rfl Try.func11 (by kernel_rfl) rfl #[.agg #[.int .i64 t379, .int .i64 t380, .int .i64 t381, .int .i64 t382]] rfl zlx ?_; (with_reducible refine (impl_ThreatScore.calls k1 t379 t380 t381 t382 t383 t384 true _ A37.out).mono ?_); rintro e w71 ⟨rfl, hb⟩; refine ⟨_, rfl, ?_⟩; replace HO_29 := Aside0.mk (Kd.R_below (zRx HO_29.out) hb); replace HO_364002 := Aside0.mk (Kd.V_below (by refine zDV ?_; exact HO_364002.out) hb); replace HO_365002 := Aside0.mk (Kd.V_below (by refine zDV ?_; exact HO_365002.out) hb); replace BK363 := zbl BK363.out hb; replace BK364 := zbl BK364.out hb; replace BK365 := zbl BK365.out hb; replace BK374 := zbl BK374.out hb; replace HB := Aside0.mk (below_step (zhB HB.out) hb); (try clear hb)) | ((with_reducible refine gate_dst (N := 15) rfl ?_); refine box_event ?hg (N := 15) ?hd (cs := #[.int .i64 0, .int .i64 0]) (t := 37) ?hr ?_; (case hd => rfl); (case hg => rfl); (case hr => exact zsx); intro gb386 hg w72 hbox hb; replace HO_29 := Aside0.mk (Kd.R_below (zRx HO_29.out) hb); replace HO_364002 := Aside0.mk (Kd.V_below (Kd.V_elderB (by refine zDV ?_; exact HO_364002.out) gb386 (Nat.le_of_eq hg.symm)) hb); replace HO_365002 := Aside0.mk (Kd.V_below (Kd.V_elderB (by refine zDV ?_; exact HO_365002.out) gb386 (Nat.le_of_eq hg.symm)) hb); have BK386 := Aside0.mk (hbox); have GW386 := zns hg HB.out; have GE386 := zns hg HB.out; replace HB := Aside0.mk (below_step (zhB HB.out) hb); have NB363_386 := znl hg BK363.out; have NB386_363 := zng hg BK363.out; replace BK363 := zbl BK363.out hb; have NB364_386 := znl hg BK364.out; have NB386_364 := zng hg BK364.out; replace BK364 := zbl BK364.out hb; have NB365_386 := znl hg BK365.out; have NB386_365 := zng hg BK365.out; replace BK365 := zbl BK365.out hb; have NB374_386 := znl hg BK374.out; have NB386_374 := zng hg BK374.out; replace BK374 := zbl BK374.out hb; clear hb hbox hg; have hnb73 := NB386_363.out; have hnc73 := NB363_386.out; have hnb74 := NB386_364.out; have hnc74 := NB364_386.out; have hnb75 := NB386_365.out; have hnc75 := NB365_386.out; have hnb76 := NB386_374.out; have hnc76 := NB374_386.out; have hcz77_0 : w72.cell? ⟨gb386, 0, none⟩ = some (.int .i64 0) := (blk_cell BK386.out 0).trans rfl; have hcz77_1 : w72.cell? ⟨gb386, 1, none⟩ = some (.int .i64 0) := (blk_cell BK386.out 1).trans rfl; have hfz77_0 := blk_frozen BK386.out 0; have hfz77_1 := blk_frozen BK386.out 1; have hnb78 := NB374_365.out; have hnc78 := NB365_374.out; have hcz79_0 : w72.cell? ⟨gb374, 0, none⟩ = some (.int .i64 x375000_1) := (blk_cell BK374.out 0).trans rfl; have hcz79_1 : w72.cell? ⟨gb374, 1, none⟩ = some (.int .i64 x375001_1) := (blk_cell BK374.out 1).trans rfl; have hfz79_0 := blk_frozen BK374.out 0; have hfz79_1 := blk_frozen BK374.out 1) | (go_at_call 47; (with_reducible refine (impl_compareRatios.calls t383 t384 x375000_1 x375001_1 t387 _ A40.out).mono ?_); rintro e w80 ⟨rfl, hb⟩; replace HO_29 := Aside0.mk (Kd.R_below (by (with_reducible repeat (first | apply Kd.R_alloc | apply Kd.R_drewN | apply Kd.R_drew)); exact (Kd.R_mono (Kd.R_far (p := ⟨gb386, 1, none⟩) (Kd.R_far (p := ⟨gb386, 0, none⟩) (Kd.R_types HO_29.out BK386.out (by decide)) (fun _ hk => hk.2) (.int .i64 t383)) (fun _ hk => hk.2) (.int .i64 t384)) (fun _ h_ => h_.1))) hb); replace HO_364002 := Aside0.mk (Kd.V_below (by (with_reducible repeat (first | apply Kd.V_alloc | apply Kd.V_drewN | apply Kd.V_drew)); exact (Kd.V_mono (Kd.V_far (p := ⟨gb386, 1, none⟩) (Kd.V_far (p := ⟨gb386, 0, none⟩) (Kd.V_mono HO_364002.out (fun k_ hk => (⟨hk, hk.2⟩ : _ ∧ k_ ≠ gb386))) (fun _ hk => hk.2) (.int .i64 t383)) (fun _ hk => hk.2) (.int .i64 t384)) (fun _ h_ => h_.1))) hb); replace HO_365002 := Aside0.mk (Kd.V_below (by (with_reducible repeat (first | apply Kd.V_alloc | apply Kd.V_drewN | apply Kd.V_drew)); exact (Kd.V_mono (Kd.V_far (p := ⟨gb386, 1, none⟩) (Kd.V_far (p := ⟨gb386, 0, none⟩) (Kd.V_mono HO_365002.out (fun k_ hk => (⟨hk, hk.2⟩ : _ ∧ k_ ≠ gb386))) (fun _ hk => hk.2) (.int .i64 t383)) (fun _ hk => hk.2) (.int .i64 t384)) (fun _ h_ => h_.1))) hb); replace BK363 := zbl BK363.out hb; replace BK364 := zbl BK364.out hb; replace BK365 := zbl BK365.out hb; replace BK374 := zbl BK374.out hb; replace BK386 := Aside0.mk (blk_below (g := gb386) (o := .cells #[.int .i64 t383, .int .i64 t384] 37 (0, 0)) (zbp BK386.out) hb); replace HB := Aside0.mk (below_step (zhB HB.out) hb); (try clear hb); (try clear hk)))
           go_roundg k1
           case measure => have := HK1.out; omega
           case rel => exact ⟨(x10_1), (true), (wrap64 (x31_1 + 1)), (x375000_1), (x375001_1), zrx, zrx, zrx, H', ⟨by have := HK1.out; omega⟩, ⟨by refine zDR ?_; exact HO_29.out⟩, ⟨by refine zDV ?_; exact Kd.V_mono HO_364002.out (fun _ hk => ⟨hk.1.1, ⟨hk.1.2.1, ⟨hk.1.2.2.1, ⟨hk.1.2.2.2.1, ⟨hk.1.2.2.2.2.1, hk.1.2.2.2.2.2⟩⟩⟩⟩⟩)⟩, ⟨by refine zDV ?_; exact Kd.V_mono HO_365002.out (fun _ hk => ⟨hk.1.1, ⟨hk.1.2.1, ⟨hk.1.2.2.1, ⟨hk.1.2.2.2.1, ⟨hk.1.2.2.2.2.1, hk.1.2.2.2.2.2⟩⟩⟩⟩⟩)⟩, ⟨by refine zbx ?_; exact BK363.out⟩, ⟨by refine zbx ?_; exact BK364.out⟩, ⟨by refine zbx ?_; exact BK365.out⟩, ⟨by refine zbx ?_; exact BK374.out⟩, ⟨zhB HB.out⟩⟩
        ·replace c39 := Bool.eq_false_iff.mpr c39
         subst c39
         rw [if_neg (show ¬ (false = true) by decide)] at H
         focus
          have H' := Aside0.mk H
          clear H
          have p378 : 0 ≤ (x31_1 : Int) := of_decide_eq_true zax
          have q378 : x31_1 < (t375.length : Int) := of_decide_eq_true zax
          obtain ⟨ad378, e378, hx378_0⟩ := Kd.at_int (Kd.R_reads' HO_29.out).2.2 x31_1 p378 q378
          cases e378
          replace p378 := eq_true p378
          replace q378 := eq_true q378
          have hnb81 := NB363_364.out
          have hnc81 := NB364_363.out
          have hnb82 := NB363_365.out
          have hnc82 := NB365_363.out
          have hnb83 := NB363_374.out
          have hnc83 := NB374_363.out
          have hcz84_0 : wr.cell? ⟨gb363, 0, none⟩ = some (.int .i64 a0_0) := (blk_cell BK363.out 0).trans rfl
          have hcz84_1 : wr.cell? ⟨gb363, 1, none⟩ = some (.int .i64 a0_1) := (blk_cell BK363.out 1).trans rfl
          have hcz84_2 : wr.cell? ⟨gb363, 2, none⟩ = some (.slice A0_2 l0_2.length c0_2) := (blk_cell BK363.out 2).trans rfl
          have hfz84_0 := blk_frozen BK363.out 0
          have hfz84_1 := blk_frozen BK363.out 1
          have hfz84_2 := blk_frozen BK363.out 2
          have hnb85 := NB364_365.out
          have hnc85 := NB365_364.out
          have hnb86 := NB364_374.out
          have hnc86 := NB374_364.out
          have hcz87_0 : wr.cell? ⟨gb364, 0, none⟩ = some (.int .i64 a1_0) := (blk_cell BK364.out 0).trans rfl
          have hcz87_1 : wr.cell? ⟨gb364, 1, none⟩ = some (.int .i64 a1_1) := (blk_cell BK364.out 1).trans rfl
          have hcz87_2 : wr.cell? ⟨gb364, 2, none⟩ = some (.slice A1_2 l1_2.length c1_2) := (blk_cell BK364.out 2).trans rfl
          have hfz87_0 := blk_frozen BK364.out 0
          have hfz87_1 := blk_frozen BK364.out 1
          have hfz87_2 := blk_frozen BK364.out 2
          try go_wp2_with (first | ((with_reducible refine gate_callee (f := 35) rfl ?_); refine goesL_ (some 41) rfl rfl Try.func35 (by kernel_rfl) rfl #[.agg #[.int .i64 a0_0, .int .i64 a0_1, .slice A0_2 l0_2.length c0_2], .agg #[.int .i64 a1_0, .int .i64 a1_1, .slice A1_2 l1_2.length c1_2], .int .i64 (wrap64 ((rd t375 x31_1) - 1)), .int .i64 a2] rfl zlx ?_; (with_reducible refine (impl_countTable.calls k1 a0_0 a0_1 _ _ l0_2 a1_0 a1_1 _ _ l1_2 (wrap64 ((rd t375 x31_1) - 1)) a2 t379 t380 t381 t382 _ ?side1 ?side2 ?side3 ?side4 A36.out).mono ?_); (case side1 => exact zCx (Kd.V_reads' HO_364002.out).2.2); (case side2 => exact (Kd.V_reads' HO_364002.out).2.1); (case side3 => exact zCx (Kd.V_reads' HO_365002.out).2.2); (case side4 => exact (Kd.V_reads' HO_365002.out).2.1); rintro e w88 ⟨rfl, hb⟩; refine ⟨_, rfl, ?_⟩; replace HO_29 := Aside0.mk (Kd.R_below (zRx HO_29.out) hb); replace HO_364002 := Aside0.mk (Kd.V_below (by refine zDV ?_; exact HO_364002.out) hb); replace HO_365002 := Aside0.mk (Kd.V_below (by refine zDV ?_; exact HO_365002.out) hb); replace BK363 := zbl BK363.out hb; replace BK364 := zbl BK364.out hb; replace BK365 := zbl BK365.out hb; replace BK374 := zbl BK374.out hb; replace HB := Aside0.mk (below_step (zhB HB.out) hb); (try clear hb)) | ((with_reducible refine gate_callee (f := 11) rfl ?_); refine goesL_ (some 42) rfl rfl Try.func11 (by kernel_rfl) rfl #[.agg #[.int .i64 t379, .int .i64 t380, .int .i64 t381, .int .i64 t382]] rfl zlx ?_; (with_reducible refine (impl_ThreatScore.calls k1 t379 t380 t381 t382 t383 t384 true _ A37.out).mono ?_); rintro e w89 ⟨rfl, hb⟩; refine ⟨_, rfl, ?_⟩; replace HO_29 := Aside0.mk (Kd.R_below (zRx HO_29.out) hb); replace HO_364002 := Aside0.mk (Kd.V_below (by refine zDV ?_; exact HO_364002.out) hb); replace HO_365002 := Aside0.mk (Kd.V_below (by refine zDV ?_; exact HO_365002.out) hb); replace BK363 := zbl BK363.out hb; replace BK364 := zbl BK364.out hb; replace BK365 := zbl BK365.out hb; replace BK374 := zbl BK374.out hb; replace HB := Aside0.mk (below_step (zhB HB.out) hb); (try clear hb)) | ((with_reducible refine gate_dst (N := 15) rfl ?_); refine box_event ?hg (N := 15) ?hd (cs := #[.int .i64 0, .int .i64 0]) (t := 37) ?hr ?_; (case hd => rfl); (case hg => rfl); (case hr => exact zsx); intro gb386 hg w90 hbox hb; replace HO_29 := Aside0.mk (Kd.R_below (zRx HO_29.out) hb); replace HO_364002 := Aside0.mk (Kd.V_below (Kd.V_elderB (by refine zDV ?_; exact HO_364002.out) gb386 (Nat.le_of_eq hg.symm)) hb); replace HO_365002 := Aside0.mk (Kd.V_below (Kd.V_elderB (by refine zDV ?_; exact HO_365002.out) gb386 (Nat.le_of_eq hg.symm)) hb); have BK386 := Aside0.mk (hbox); have GW386 := zns hg HB.out; have GE386 := zns hg HB.out; replace HB := Aside0.mk (below_step (zhB HB.out) hb); have NB363_386 := znl hg BK363.out; have NB386_363 := zng hg BK363.out; replace BK363 := zbl BK363.out hb; have NB364_386 := znl hg BK364.out; have NB386_364 := zng hg BK364.out; replace BK364 := zbl BK364.out hb; have NB365_386 := znl hg BK365.out; have NB386_365 := zng hg BK365.out; replace BK365 := zbl BK365.out hb; have NB374_386 := znl hg BK374.out; have NB386_374 := zng hg BK374.out; replace BK374 := zbl BK374.out hb; clear hb hbox hg; have hnb91 := NB386_363.out; have hnc91 := NB363_386.out; have hnb92 := NB386_364.out; have hnc92 := NB364_386.out; have hnb93 := NB386_365.out; have hnc93 := NB365_386.out; have hnb94 := NB386_374.out; have hnc94 := NB374_386.out; have hcz95_0 : w90.cell? ⟨gb386, 0, none⟩ = some (.int .i64 0) := (blk_cell BK386.out 0).trans rfl; have hcz95_1 : w90.cell? ⟨gb386, 1, none⟩ = some (.int .i64 0) := (blk_cell BK386.out 1).trans rfl; have hfz95_0 := blk_frozen BK386.out 0; have hfz95_1 := blk_frozen BK386.out 1))
          have n0_ : Aside0 (Kd.R (Kd.int .i64) 3 ((w90.setCell ⟨gb386, 0, none⟩ (.int .i64 t383)).setCell ⟨gb386, 1, none⟩ (.int .i64 t384)) w.heap.size (fun k_ => (w.heap.size ≤ k_)) (.slice (some ad378) t375.length co32) t375) := ⟨by refine zDR ?_; exact Kd.R_mono (Kd.R_far (p := ⟨gb386, 1, none⟩) (Kd.R_far (p := ⟨gb386, 0, none⟩) (Kd.R_types HO_29.out BK386.out (by decide)) (fun _ hk => hk.2) (.int .i64 t383)) (fun _ hk => hk.2) (.int .i64 t384)) (fun _ hk => hk.1)⟩
          have n1_ : Aside0 (Kd.V (Kd.int .i64) 3 ((w90.setCell ⟨gb386, 0, none⟩ (.int .i64 t383)).setCell ⟨gb386, 1, none⟩ (.int .i64 t384)) w.heap.size (fun k_ => ((P0_2_ k_ ∨ P1_2_ k_) ∨ w.heap.size ≤ k_) ∧ some k_ ≠ (.slice (some ad378) t375.length co32 : Value).ownBlock ∧ k_ ≠ gb363 ∧ k_ ≠ gb364 ∧ k_ ≠ gb365 ∧ k_ ≠ gb374 ∧ k_ ≠ gb386) (.slice A0_2 l0_2.length c0_2) l0_2) := ⟨by refine zDV ?_; exact Kd.V_mono (Kd.V_far (p := ⟨gb386, 1, none⟩) (Kd.V_far (p := ⟨gb386, 0, none⟩) (Kd.V_mono HO_364002.out (fun k_ hk => (⟨hk, hk.2⟩ : _ ∧ k_ ≠ gb386))) (fun _ hk => hk.2) (.int .i64 t383)) (fun _ hk => hk.2) (.int .i64 t384)) (fun _ hk => ⟨hk.1.1.1, ⟨hk.1.1.2.1, ⟨hk.1.1.2.2.1, ⟨hk.1.1.2.2.2.1, ⟨hk.1.1.2.2.2.2.1, ⟨hk.1.1.2.2.2.2.2, hk.1.2⟩⟩⟩⟩⟩⟩)⟩
          have n2_ : Aside0 (Kd.V (Kd.int .i64) 3 ((w90.setCell ⟨gb386, 0, none⟩ (.int .i64 t383)).setCell ⟨gb386, 1, none⟩ (.int .i64 t384)) w.heap.size (fun k_ => ((P0_2_ k_ ∨ P1_2_ k_) ∨ w.heap.size ≤ k_) ∧ some k_ ≠ (.slice (some ad378) t375.length co32 : Value).ownBlock ∧ k_ ≠ gb363 ∧ k_ ≠ gb364 ∧ k_ ≠ gb365 ∧ k_ ≠ gb374 ∧ k_ ≠ gb386) (.slice A1_2 l1_2.length c1_2) l1_2) := ⟨by refine zDV ?_; exact Kd.V_mono (Kd.V_far (p := ⟨gb386, 1, none⟩) (Kd.V_far (p := ⟨gb386, 0, none⟩) (Kd.V_mono HO_365002.out (fun k_ hk => (⟨hk, hk.2⟩ : _ ∧ k_ ≠ gb386))) (fun _ hk => hk.2) (.int .i64 t383)) (fun _ hk => hk.2) (.int .i64 t384)) (fun _ hk => ⟨hk.1.1.1, ⟨hk.1.1.2.1, ⟨hk.1.1.2.2.1, ⟨hk.1.1.2.2.2.1, ⟨hk.1.1.2.2.2.2.1, ⟨hk.1.1.2.2.2.2.2, hk.1.2⟩⟩⟩⟩⟩⟩)⟩
          have n3_ : Aside0 (((w90.setCell ⟨gb386, 0, none⟩ (.int .i64 t383)).setCell ⟨gb386, 1, none⟩ (.int .i64 t384)).heap[gb363]? = some (.cells #[.int .i64 a0_0, .int .i64 a0_1, .slice A0_2 l0_2.length c0_2] 26 (0, 0))) := ⟨zbp BK363.out⟩
          have n4_ : Aside0 (((w90.setCell ⟨gb386, 0, none⟩ (.int .i64 t383)).setCell ⟨gb386, 1, none⟩ (.int .i64 t384)).heap[gb364]? = some (.cells #[.int .i64 a1_0, .int .i64 a1_1, .slice A1_2 l1_2.length c1_2] 26 (0, 0))) := ⟨zbp BK364.out⟩
          have n5_ : Aside0 (((w90.setCell ⟨gb386, 0, none⟩ (.int .i64 t383)).setCell ⟨gb386, 1, none⟩ (.int .i64 t384)).heap[gb365]? = some (.cells #[.int .i64 0, .int .i64 0] 37 (0, 0))) := ⟨zbp BK365.out⟩
          have n6_ : Aside0 (((w90.setCell ⟨gb386, 0, none⟩ (.int .i64 t383)).setCell ⟨gb386, 1, none⟩ (.int .i64 t384)).heap[gb374]? = some (.cells #[.int .i64 x375000_1, .int .i64 x375001_1] 37 (0, 0))) := ⟨zbp BK374.out⟩
          have n7_ : Aside0 (((w90.setCell ⟨gb386, 0, none⟩ (.int .i64 t383)).setCell ⟨gb386, 1, none⟩ (.int .i64 t384)).heap[gb386]? = some (.cells #[.int .i64 t383, .int .i64 t384] 37 (0, 0))) := ⟨zbp BK386.out⟩
          have n8_ : Aside0 (Below w.heap.size w ((w90.setCell ⟨gb386, 0, none⟩ (.int .i64 t383)).setCell ⟨gb386, 1, none⟩ (.int .i64 t384))) := ⟨zhB HB.out⟩
          (try clear HO_29)
          (try clear HO_364002)
          (try clear HO_365002)
          (try clear BK363)
          (try clear BK364)
          (try clear BK365)
          (try clear BK374)
          (try clear BK386)
          (try clear HB)
          generalize ((w90.setCell ⟨gb386, 0, none⟩ (.int .i64 t383)).setCell ⟨gb386, 1, none⟩ (.int .i64 t384)) = w96 at n0_ n1_ n2_ n3_ n4_ n5_ n6_ n7_ n8_ ⊢
          have HO_29 := n0_
          have HO_364002 := n1_
          have HO_365002 := n2_
          have BK363 := n3_
          have BK364 := n4_
          have BK365 := n5_
          have BK374 := n6_
          have BK386 := n7_
          have HB := n8_
          clear n0_ n1_ n2_ n3_ n4_ n5_ n6_ n7_ n8_
          replace HO_29 := Aside0.mk (Kd.R_drew HO_29.out)
          replace HO_364002 := Aside0.mk (Kd.V_drew HO_364002.out)
          replace HO_365002 := Aside0.mk (Kd.V_drew HO_365002.out)
          replace BK363 := Aside0.mk (blk_drew BK363.out)
          replace BK364 := Aside0.mk (blk_drew BK364.out)
          replace BK365 := Aside0.mk (blk_drew BK365.out)
          replace BK374 := Aside0.mk (blk_drew BK374.out)
          replace BK386 := Aside0.mk (blk_drew BK386.out)
          replace HB := Aside0.mk (below_drew1 HB.out)
          refine start_ (n := 6) (S := fun w' => w'.cell? ⟨gb386, 0, none⟩ = some (.int .i64 t383) ∧ w'.cell? ⟨gb386, 1, none⟩ = some (.int .i64 t384)) (ds := []) #[F,F,F,F,F,F] (by kernel_rfl) rfl rfl ⟨(blk_cell BK386.out 0).trans rfl, (blk_cell BK386.out 1).trans rfl⟩ (fun hHeld => ?_)
          generalize w96.drew = w97 at HO_29 HO_364002 HO_365002 BK363 BK364 BK365 BK374 BK386 HB hHeld ⊢
          refine pure_ (i := 0) (N := some 56) (v := ?_) (a' := ?_) #[T,F,F,F,F,F] rfl rfl (by kernel_rfl) (fun _ _ _ h => h) (Or.inl ⟨by rfl, ?_⟩) ?_ ?_
          rotate_left
          ·exact zwx
          rotate_left
          ·exact zpx
          refine pure_ (i := 1) (N := some 57) (v := ?_) (a' := ?_) #[T,T,F,F,F,F] rfl rfl (by kernel_rfl) (fun _ _ _ h => h) (Or.inl ⟨by rfl, ?_⟩) ?_ ?_
          rotate_left
          ·exact zwx
          rotate_left
          ·exact zpx
          refine pure_ (i := 3) (N := some 10) (v := ?_) (a' := ?_) #[T,T,F,T,F,F] rfl rfl (by kernel_rfl) (fun _ _ _ h => h) (Or.inl ⟨by rfl, ?_⟩) ?_ ?_
          rotate_left
          ·exact zwx
          rotate_left
          ·exact zpx
          refine take_ (i := 2) (N := some 58) (v := ?_) (a' := ?_) #[T,T,T,T,F,F] rfl rfl (by kernel_rfl) (fun _ _ _ h => h) (Or.inl ⟨by rfl, ?_⟩) hHeld ?_ ?_
          rotate_left
          ·rintro w' ⟨s0, s1⟩
           go_simp
           with_reducible rfl
          rotate_left
          ·exact zpx
          refine one_ (i := 4) (N := none) #[T,T,T,T,T,F] rfl rfl (by kernel_rfl) (by decide) (fun K hK => ?_)
          have hs98 : w97.cell? ⟨gb374, 0, none⟩ = some (.int .i64 x375000_1) := (blk_cell BK374.out 0).trans rfl
          have hfs98 := blk_frozen BK374.out 0
          have hns98_0 := NB363_374.out
          have hns98_1 := NB364_374.out
          have hns98_2 := NB365_374.out
          have hns98_4 := NB386_374.out
          have hms98_0 := NB374_363.out
          have hms98_1 := NB374_364.out
          have hms98_2 := NB374_365.out
          have hms98_4 := NB374_386.out
          have hs99 : w97.cell? ⟨gb374, 1, none⟩ = some (.int .i64 x375001_1) := (blk_cell BK374.out 1).trans rfl
          have hfs99 := blk_frozen BK374.out 1
          have hns99_0 := NB363_374.out
          have hns99_1 := NB364_374.out
          have hns99_2 := NB365_374.out
          have hns99_4 := NB386_374.out
          have hms99_0 := NB374_363.out
          have hms99_1 := NB374_364.out
          have hms99_2 := NB374_365.out
          have hms99_4 := NB374_386.out
          refine skip_ (w1 := ?_) (by rfl) rfl ?_ ?_
          rotate_left
          ·go_simp
           rfl
          refine hK.out _ _ ⟨((cell_far (p := ⟨gb374, _, none⟩) NB386_374.out _).trans (((cell_far (p := ⟨gb374, _, none⟩) NB386_374.out _).trans (hHeld.1)))), ((cell_far (p := ⟨gb374, _, none⟩) NB386_374.out _).trans (((cell_far (p := ⟨gb374, _, none⟩) NB386_374.out _).trans (hHeld.2))))⟩ (fun hHeld => ?_)
          clear hK K
          refine pure_ (i := 5) (N := some 12) (v := ?_) (a' := ?_) #[T,T,T,T,T,T] rfl rfl (by kernel_rfl) (fun _ _ _ h => h) (Or.inl ⟨by rfl, ?_⟩) ?_ ?_
          rotate_left
          ·exact zwx
          rotate_left
          ·exact zpx
          refine done_ (by kernel_rfl) ?_
          try go_wp2
          go_roundg k1
          case measure => have := HK1.out; omega
          case rel => exact ⟨(wrap64 ((rd t375 x31_1) - 1)), (true), (wrap64 (x31_1 + 1)), (t383), (t384), zrx, zrx, zrx, H', ⟨by have := HK1.out; omega⟩, ⟨by refine zDR ?_; exact Kd.R_mono (Kd.R_far (p := ⟨gb374, 1, none⟩) (Kd.R_far (p := ⟨gb374, 0, none⟩) (Kd.R_types HO_29.out BK374.out (by decide)) (fun _ hk => hk.2) (.int .i64 t383)) (fun _ hk => hk.2) (.int .i64 t384)) (fun _ hk => hk.1)⟩, ⟨by refine zDV ?_; exact Kd.V_mono (Kd.V_far (p := ⟨gb374, 1, none⟩) (Kd.V_far (p := ⟨gb374, 0, none⟩) (Kd.V_mono HO_364002.out (fun k_ hk => (⟨hk, hk.2.2.2.2.2.1⟩ : _ ∧ k_ ≠ gb374))) (fun _ hk => hk.2) (.int .i64 t383)) (fun _ hk => hk.2) (.int .i64 t384)) (fun _ hk => ⟨hk.1.1, ⟨hk.1.2.1, ⟨hk.1.2.2.1, ⟨hk.1.2.2.2.1, ⟨hk.1.2.2.2.2.1, hk.1.2.2.2.2.2.1⟩⟩⟩⟩⟩)⟩, ⟨by refine zDV ?_; exact Kd.V_mono (Kd.V_far (p := ⟨gb374, 1, none⟩) (Kd.V_far (p := ⟨gb374, 0, none⟩) (Kd.V_mono HO_365002.out (fun k_ hk => (⟨hk, hk.2.2.2.2.2.1⟩ : _ ∧ k_ ≠ gb374))) (fun _ hk => hk.2) (.int .i64 t383)) (fun _ hk => hk.2) (.int .i64 t384)) (fun _ hk => ⟨hk.1.1, ⟨hk.1.2.1, ⟨hk.1.2.2.1, ⟨hk.1.2.2.2.1, ⟨hk.1.2.2.2.2.1, hk.1.2.2.2.2.2.1⟩⟩⟩⟩⟩)⟩, ⟨zbp BK363.out⟩, ⟨zbp BK364.out⟩, ⟨zbp BK365.out⟩, ⟨zbp BK374.out⟩, ⟨zhB HB.out⟩⟩
       ·replace c38 := Bool.eq_false_iff.mpr c38
        subst c38
        rw [if_neg (show ¬ (false = true) by decide)] at H
        focus
         have H' := Aside0.mk H
         clear H
         have p378 : 0 ≤ (x31_1 : Int) := of_decide_eq_true zax
         have q378 : x31_1 < (t375.length : Int) := of_decide_eq_true zax
         obtain ⟨ad378, e378, hx378_0⟩ := Kd.at_int (Kd.R_reads' HO_29.out).2.2 x31_1 p378 q378
         cases e378
         replace p378 := eq_true p378
         replace q378 := eq_true q378
         have hnb100 := NB363_364.out
         have hnc100 := NB364_363.out
         have hnb101 := NB363_365.out
         have hnc101 := NB365_363.out
         have hnb102 := NB363_374.out
         have hnc102 := NB374_363.out
         have hcz103_0 : wr.cell? ⟨gb363, 0, none⟩ = some (.int .i64 a0_0) := (blk_cell BK363.out 0).trans rfl
         have hcz103_1 : wr.cell? ⟨gb363, 1, none⟩ = some (.int .i64 a0_1) := (blk_cell BK363.out 1).trans rfl
         have hcz103_2 : wr.cell? ⟨gb363, 2, none⟩ = some (.slice A0_2 l0_2.length c0_2) := (blk_cell BK363.out 2).trans rfl
         have hfz103_0 := blk_frozen BK363.out 0
         have hfz103_1 := blk_frozen BK363.out 1
         have hfz103_2 := blk_frozen BK363.out 2
         have hnb104 := NB364_365.out
         have hnc104 := NB365_364.out
         have hnb105 := NB364_374.out
         have hnc105 := NB374_364.out
         have hcz106_0 : wr.cell? ⟨gb364, 0, none⟩ = some (.int .i64 a1_0) := (blk_cell BK364.out 0).trans rfl
         have hcz106_1 : wr.cell? ⟨gb364, 1, none⟩ = some (.int .i64 a1_1) := (blk_cell BK364.out 1).trans rfl
         have hcz106_2 : wr.cell? ⟨gb364, 2, none⟩ = some (.slice A1_2 l1_2.length c1_2) := (blk_cell BK364.out 2).trans rfl
         have hfz106_0 := blk_frozen BK364.out 0
         have hfz106_1 := blk_frozen BK364.out 1
         have hfz106_2 := blk_frozen BK364.out 2
         go_wp2_with (first | ((with_reducible refine gate_callee (f := 35) rfl ?_); refine goesL_ (some 41) rfl rfl Try.func35 (by kernel_rfl) rfl #[.agg #[.int .i64 a0_0, .int .i64 a0_1, .slice A0_2 l0_2.length c0_2], .agg #[.int .i64 a1_0, .int .i64 a1_1, .slice A1_2 l1_2.length c1_2], .int .i64 (wrap64 ((rd t375 x31_1) - 1)), .int .i64 a2] rfl zlx ?_; (with_reducible refine (impl_countTable.calls k1 a0_0 a0_1 _ _ l0_2 a1_0 a1_1 _ _ l1_2 (wrap64 ((rd t375 x31_1) - 1)) a2 t379 t380 t381 t382 _ ?side1 ?side2 ?side3 ?side4 A36.out).mono ?_); (case side1 => exact zCx (Kd.V_reads' HO_364002.out).2.2); (case side2 => exact (Kd.V_reads' HO_364002.out).2.1); (case side3 => exact zCx (Kd.V_reads' HO_365002.out).2.2); (case side4 => exact (Kd.V_reads' HO_365002.out).2.1); rintro e w107 ⟨rfl, hb⟩; refine ⟨_, rfl, ?_⟩; replace HO_29 := Aside0.mk (Kd.R_below (zRx HO_29.out) hb); replace HO_364002 := Aside0.mk (Kd.V_below (by refine zDV ?_; exact HO_364002.out) hb); replace HO_365002 := Aside0.mk (Kd.V_below (by refine zDV ?_; exact HO_365002.out) hb); replace BK363 := zbl BK363.out hb; replace BK364 := zbl BK364.out hb; replace BK365 := zbl BK365.out hb; replace BK374 := zbl BK374.out hb; replace HB := Aside0.mk (below_step (zhB HB.out) hb); (try clear hb)) | ((with_reducible refine gate_callee (f := 11) rfl ?_); refine goesL_ (some 42) rfl rfl Try.func11 (by kernel_rfl) rfl #[.agg #[.int .i64 t379, .int .i64 t380, .int .i64 t381, .int .i64 t382]] rfl zlx ?_; (with_reducible refine (impl_ThreatScore.calls k1 t379 t380 t381 t382 t383 t384 false _ A37.out).mono ?_); rintro e w108 ⟨rfl, hb⟩; refine ⟨_, rfl, ?_⟩; replace HO_29 := Aside0.mk (Kd.R_below (zRx HO_29.out) hb); replace HO_364002 := Aside0.mk (Kd.V_below (by refine zDV ?_; exact HO_364002.out) hb); replace HO_365002 := Aside0.mk (Kd.V_below (by refine zDV ?_; exact HO_365002.out) hb); replace BK363 := zbl BK363.out hb; replace BK364 := zbl BK364.out hb; replace BK365 := zbl BK365.out hb; replace BK374 := zbl BK374.out hb; replace HB := Aside0.mk (below_step (zhB HB.out) hb); (try clear hb)) | ((with_reducible refine gate_dst (N := 15) rfl ?_); refine box_event ?hg (N := 15) ?hd (cs := #[.int .i64 0, .int .i64 0]) (t := 37) ?hr ?_; (case hd => rfl); (case hg => rfl); (case hr => exact zsx); intro gb386 hg w109 hbox hb; replace HO_29 := Aside0.mk (Kd.R_below (zRx HO_29.out) hb); replace HO_364002 := Aside0.mk (Kd.V_below (Kd.V_elderB (by refine zDV ?_; exact HO_364002.out) gb386 (Nat.le_of_eq hg.symm)) hb); replace HO_365002 := Aside0.mk (Kd.V_below (Kd.V_elderB (by refine zDV ?_; exact HO_365002.out) gb386 (Nat.le_of_eq hg.symm)) hb); have BK386 := Aside0.mk (hbox); have GW386 := zns hg HB.out; have GE386 := zns hg HB.out; replace HB := Aside0.mk (below_step (zhB HB.out) hb); have NB363_386 := znl hg BK363.out; have NB386_363 := zng hg BK363.out; replace BK363 := zbl BK363.out hb; have NB364_386 := znl hg BK364.out; have NB386_364 := zng hg BK364.out; replace BK364 := zbl BK364.out hb; have NB365_386 := znl hg BK365.out; have NB386_365 := zng hg BK365.out; replace BK365 := zbl BK365.out hb; have NB374_386 := znl hg BK374.out; have NB386_374 := zng hg BK374.out; replace BK374 := zbl BK374.out hb; clear hb hbox hg; have hnb110 := NB386_363.out; have hnc110 := NB363_386.out; have hnb111 := NB386_364.out; have hnc111 := NB364_386.out; have hnb112 := NB386_365.out; have hnc112 := NB365_386.out; have hnb113 := NB386_374.out; have hnc113 := NB374_386.out; have hcz114_0 : w109.cell? ⟨gb386, 0, none⟩ = some (.int .i64 0) := (blk_cell BK386.out 0).trans rfl; have hcz114_1 : w109.cell? ⟨gb386, 1, none⟩ = some (.int .i64 0) := (blk_cell BK386.out 1).trans rfl; have hfz114_0 := blk_frozen BK386.out 0; have hfz114_1 := blk_frozen BK386.out 1))
         go_roundg k1
         case measure => have := HK1.out; omega
         case rel => exact ⟨(x10_1), (x12_1), (wrap64 (x31_1 + 1)), (x375000_1), (x375001_1), zrx, zrx, zrx, H', ⟨by have := HK1.out; omega⟩, ⟨by refine zDR ?_; exact Kd.R_mono (Kd.R_far (p := ⟨gb386, 1, none⟩) (Kd.R_far (p := ⟨gb386, 0, none⟩) (Kd.R_types HO_29.out BK386.out (by decide)) (fun _ hk => hk.2) (.int .i64 t383)) (fun _ hk => hk.2) (.int .i64 t384)) (fun _ hk => hk.1)⟩, ⟨by refine zDV ?_; exact Kd.V_mono (Kd.V_far (p := ⟨gb386, 1, none⟩) (Kd.V_far (p := ⟨gb386, 0, none⟩) (Kd.V_mono HO_364002.out (fun k_ hk => (⟨hk, hk.2⟩ : _ ∧ k_ ≠ gb386))) (fun _ hk => hk.2) (.int .i64 t383)) (fun _ hk => hk.2) (.int .i64 t384)) (fun _ hk => ⟨hk.1.1.1, ⟨hk.1.1.2.1, ⟨hk.1.1.2.2.1, ⟨hk.1.1.2.2.2.1, ⟨hk.1.1.2.2.2.2.1, hk.1.1.2.2.2.2.2⟩⟩⟩⟩⟩)⟩, ⟨by refine zDV ?_; exact Kd.V_mono (Kd.V_far (p := ⟨gb386, 1, none⟩) (Kd.V_far (p := ⟨gb386, 0, none⟩) (Kd.V_mono HO_365002.out (fun k_ hk => (⟨hk, hk.2⟩ : _ ∧ k_ ≠ gb386))) (fun _ hk => hk.2) (.int .i64 t383)) (fun _ hk => hk.2) (.int .i64 t384)) (fun _ hk => ⟨hk.1.1.1, ⟨hk.1.1.2.1, ⟨hk.1.1.2.2.1, ⟨hk.1.1.2.2.2.1, ⟨hk.1.1.2.2.2.2.1, hk.1.1.2.2.2.2.2⟩⟩⟩⟩⟩)⟩, ⟨zbp BK363.out⟩, ⟨zbp BK364.out⟩, ⟨zbp BK365.out⟩, ⟨zbp BK374.out⟩, ⟨zhB HB.out⟩⟩
      ·rw [if_neg c35] at H
       exact absurd H (by simp)
     ·rw [if_neg c34] at H
      exact absurd H (by simp)
    ·rw [if_neg c33] at H
     have c33b0 : decide (x31_1 < (t375.length : Int)) = false := decide_eq_false c33
     clear c33
     focus
      simp only [Option.some.injEq, Prod.mk.injEq] at H
      obtain ⟨rfl, rfl, rfl, rfl⟩ := H
      try go_wp2
      replace HO_29 := Aside0.mk (Kd.R_drew HO_29.out)
      replace HO_364002 := Aside0.mk (Kd.V_drew HO_364002.out)
      replace HO_365002 := Aside0.mk (Kd.V_drew HO_365002.out)
      replace BK363 := Aside0.mk (blk_drew BK363.out)
      replace BK364 := Aside0.mk (blk_drew BK364.out)
      replace BK365 := Aside0.mk (blk_drew BK365.out)
      replace BK374 := Aside0.mk (blk_drew BK374.out)
      replace HB := Aside0.mk (below_drew1 HB.out)
      refine start_ (n := 6) (S := fun w' => w'.cell? ⟨gb374, 0, none⟩ = some (.int .i64 x375000_1) ∧ w'.cell? ⟨gb374, 1, none⟩ = some (.int .i64 x375001_1)) (ds := []) #[F,F,F,F,F,F] (by kernel_rfl) rfl rfl ⟨(blk_cell BK374.out 0).trans rfl, (blk_cell BK374.out 1).trans rfl⟩ (fun hHeld => ?_)
      generalize wr.drew = w115 at HO_29 HO_364002 HO_365002 BK363 BK364 BK365 BK374 HB hHeld ⊢
      refine pure_ (i := 0) (N := some 60) (v := ?_) (a' := ?_) #[T,F,F,F,F,F] rfl rfl (by kernel_rfl) (fun _ _ _ h => h) (Or.inl ⟨by rfl, ?_⟩) ?_ ?_
      rotate_left
      ·exact zwx
      rotate_left
      ·exact zpx
      refine pure_ (i := 2) (N := some 62) (v := ?_) (a' := ?_) #[T,F,T,F,F,F] rfl rfl (by kernel_rfl) (fun _ _ _ h => h) (Or.inl ⟨by rfl, ?_⟩) ?_ ?_
      rotate_left
      ·exact zwx
      rotate_left
      ·exact zpx
      refine pure_ (i := 3) (N := some 6) (v := ?_) (a' := ?_) #[T,F,T,T,F,F] rfl rfl (by kernel_rfl) (fun _ _ _ h => h) (Or.inl ⟨by rfl, ?_⟩) ?_ ?_
      rotate_left
      ·exact zwx
      rotate_left
      ·exact zpx
      refine take_ (i := 1) (N := some 61) (v := ?_) (a' := ?_) #[T,T,T,T,F,F] rfl rfl (by kernel_rfl) (fun _ _ _ h => h) (Or.inl ⟨by rfl, ?_⟩) hHeld ?_ ?_
      rotate_left
      ·rintro w' ⟨s0, s1⟩
       go_simp
       with_reducible rfl
      rotate_left
      ·exact zpx
      refine one_ (i := 4) (N := none) #[T,T,T,T,T,F] rfl rfl (by kernel_rfl) (by decide) (fun K hK => ?_)
      have hs116 : w115.cell? ⟨gb365, 0, none⟩ = some (.int .i64 0) := (blk_cell BK365.out 0).trans rfl
      have hfs116 := blk_frozen BK365.out 0
      have hns116_0 := NB363_365.out
      have hns116_1 := NB364_365.out
      have hns116_3 := NB374_365.out
      have hms116_0 := NB365_363.out
      have hms116_1 := NB365_364.out
      have hms116_3 := NB365_374.out
      have hs117 : w115.cell? ⟨gb365, 1, none⟩ = some (.int .i64 0) := (blk_cell BK365.out 1).trans rfl
      have hfs117 := blk_frozen BK365.out 1
      have hns117_0 := NB363_365.out
      have hns117_1 := NB364_365.out
      have hns117_3 := NB374_365.out
      have hms117_0 := NB365_363.out
      have hms117_1 := NB365_364.out
      have hms117_3 := NB365_374.out
      refine skip_ (w1 := ?_) (by rfl) rfl ?_ ?_
      rotate_left
      ·go_simp
       rfl
      refine hK.out _ _ ⟨((cell_far (p := ⟨gb365, _, none⟩) NB374_365.out _).trans (((cell_far (p := ⟨gb365, _, none⟩) NB374_365.out _).trans (hHeld.1)))), ((cell_far (p := ⟨gb365, _, none⟩) NB374_365.out _).trans (((cell_far (p := ⟨gb365, _, none⟩) NB374_365.out _).trans (hHeld.2))))⟩ (fun hHeld => ?_)
      clear hK K
      refine pure_ (i := 5) (N := some 8) (v := ?_) (a' := ?_) #[T,T,T,T,T,T] rfl rfl (by kernel_rfl) (fun _ _ _ h => h) (Or.inl ⟨by rfl, ?_⟩) ?_ ?_
      rotate_left
      ·exact zwx
      rotate_left
      ·exact zpx
      refine done_ (by kernel_rfl) ?_
      try go_wp2
      refine bodyPost_ret (results_list (rs := [.tmp 6, .cell 7 37, .tmp 8]) rfl (by simp) (.tmp (.cell gb365 37 #[.int .i64 x375000_1, .int .i64 x375001_1] (0, 0) _ rfl (zbp BK365.out) Try.underlying37 rfl (by kernel_rfl) (.tmp .nil)))) rfl ?_
      exact ⟨by first | rfl | (simp [errW_none, errW_some] <;> rfl) | (simp [*, errW_none, errW_some] <;> rfl), zhB HB.out⟩
 ·replace c5 := Bool.eq_false_iff.mpr c5
  subst c5
  rw [if_neg (show ¬ (false = true) by decide)] at H
  focus
   simp only [Option.some.injEq, Prod.mk.injEq] at H
   obtain ⟨rfl, rfl, rfl, rfl⟩ := H
   go_enter Try.func22, Try.ntmps22
   go_wp2_with (first | ((with_reducible refine gate_dst (N := 3) rfl ?_); refine box_event ?hg (N := 3) ?hd (cs := #[.int .i64 a0_0, .int .i64 a0_1, .slice A0_2 l0_2.length c0_2]) (t := 26) ?hr ?_; (case hd => rfl); (case hg => rfl); (case hr => exact zsx); intro gb363 hg w118 hbox hb; replace HO0_2 := Aside0.mk (Kd.V_below (Kd.V_elderB (by refine zDV ?_; exact HO0_2.out) gb363 (Nat.le_of_eq hg.symm)) hb); replace HO1_2 := Aside0.mk (Kd.V_below (Kd.V_elderB (by refine zDV ?_; exact HO1_2.out) gb363 (Nat.le_of_eq hg.symm)) hb); have BK363 := Aside0.mk (hbox); have GW363 := zns hg HB.out; have GE363 := zns hg HB.out; replace HB := Aside0.mk (below_step (zBx HB.out) hb); clear hb hbox hg) | ((with_reducible refine gate_dst (N := 4) rfl ?_); refine box_event ?hg (N := 4) ?hd (cs := #[.int .i64 a1_0, .int .i64 a1_1, .slice A1_2 l1_2.length c1_2]) (t := 26) ?hr ?_; (case hd => rfl); (case hg => rfl); (case hr => exact zsx); intro gb364 hg w119 hbox hb; replace HO0_2 := Aside0.mk (Kd.V_below (Kd.V_elderB (by refine zDV ?_; exact HO0_2.out) gb364 (Nat.le_of_eq hg.symm)) hb); replace HO1_2 := Aside0.mk (Kd.V_below (Kd.V_elderB (by refine zDV ?_; exact HO1_2.out) gb364 (Nat.le_of_eq hg.symm)) hb); have BK364 := Aside0.mk (hbox); have GW364 := zns hg HB.out; have GE364 := zns hg HB.out; replace HB := Aside0.mk (below_step (zBy HB.out GE363.out) hb); have NB363_364 := znl hg BK363.out; have NB364_363 := zng hg BK363.out; replace BK363 := zbl BK363.out hb; clear hb hbox hg) | ((with_reducible refine gate_dst (N := 7) rfl ?_); refine box_event ?hg (N := 7) ?hd (cs := #[.int .i64 0, .int .i64 0]) (t := 37) ?hr ?_; (case hd => rfl); (case hg => rfl); (case hr => exact zsx); intro gb365 hg w120 hbox hb; replace HO0_2 := Aside0.mk (Kd.V_below (Kd.V_elderB (by refine zDV ?_; exact HO0_2.out) gb365 (Nat.le_of_eq hg.symm)) hb); replace HO1_2 := Aside0.mk (Kd.V_below (Kd.V_elderB (by refine zDV ?_; exact HO1_2.out) gb365 (Nat.le_of_eq hg.symm)) hb); have BK365 := Aside0.mk (hbox); have GW365 := zns hg HB.out; have GE365 := zns hg HB.out; replace HB := Aside0.mk (below_step (zBz HB.out GE363.out GE364.out) hb); have NB363_365 := znl hg BK363.out; have NB365_363 := zng hg BK363.out; replace BK363 := zbl BK363.out hb; have NB364_365 := znl hg BK364.out; have NB365_364 := zng hg BK364.out; replace BK364 := zbl BK364.out hb; clear hb hbox hg; have hnb121 := NB363_364.out; have hnc121 := NB364_363.out; have hnb122 := NB363_365.out; have hnc122 := NB365_363.out; have hcz123_0 : w120.cell? ⟨gb363, 0, none⟩ = some (.int .i64 a0_0) := (blk_cell BK363.out 0).trans rfl; have hcz123_1 : w120.cell? ⟨gb363, 1, none⟩ = some (.int .i64 a0_1) := (blk_cell BK363.out 1).trans rfl; have hcz123_2 : w120.cell? ⟨gb363, 2, none⟩ = some (.slice A0_2 l0_2.length c0_2) := (blk_cell BK363.out 2).trans rfl; have hfz123_0 := blk_frozen BK363.out 0; have hfz123_1 := blk_frozen BK363.out 1; have hfz123_2 := blk_frozen BK363.out 2; have hnb124 := NB364_365.out; have hnc124 := NB365_364.out; have hcz125_0 : w120.cell? ⟨gb364, 0, none⟩ = some (.int .i64 a1_0) := (blk_cell BK364.out 0).trans rfl; have hcz125_1 : w120.cell? ⟨gb364, 1, none⟩ = some (.int .i64 a1_1) := (blk_cell BK364.out 1).trans rfl; have hcz125_2 : w120.cell? ⟨gb364, 2, none⟩ = some (.slice A1_2 l1_2.length c1_2) := (blk_cell BK364.out 2).trans rfl; have hfz125_0 := blk_frozen BK364.out 0; have hfz125_1 := blk_frozen BK364.out 1; have hfz125_2 := blk_frozen BK364.out 2) | ((with_reducible refine gate_dst (N := 19) rfl ?_); refine Kd.N_lit k26 _ 26 ?hg (N' := 19) ?hd (xs := ([(⟨a0_0, a0_1, l0_2⟩ : S26), (⟨a1_0, a1_1, l1_2⟩ : S26)] : List (S26))) (inner := [.int .i64 a0_0, .int .i64 a0_1, .slice A0_2 l0_2.length c0_2, .int .i64 a1_0, .int .i64 a1_1, .slice A1_2 l1_2.length c1_2]) (ok := (fun k_ => ((P0_2_ k_ ∨ P1_2_ k_) ∨ w.heap.size ≤ k_) ∧ k_ ≠ gb363 ∧ k_ ≠ gb364 ∧ k_ ≠ gb365)) (okp := (fun k_ => ((P0_2_ k_ ∨ P1_2_ k_) ∨ w.heap.size ≤ k_) ∧ k_ ≠ gb363 ∧ k_ ≠ gb364 ∧ k_ ≠ gb365)) ?hr ?hp (fun _ hk => hk) ((show ∀ k_, w120.heap.size ≤ k_ → (fun k_ => ((P0_2_ k_ ∨ P1_2_ k_) ∨ w.heap.size ≤ k_) ∧ k_ ≠ gb363 ∧ k_ ≠ gb364 ∧ k_ ≠ gb365) k_ from fun k_ hk => ⟨(.inr (Nat.le_trans (below_size (zhB HB.out)) hk)), Kd.freshB (g := gb363) (o := .cells #[.int .i64 a0_0, .int .i64 a0_1, .slice A0_2 l0_2.length c0_2] 26 (0, 0)) (zbx BK363.out) k_ hk, Kd.freshB (g := gb364) (o := .cells #[.int .i64 a1_0, .int .i64 a1_1, .slice A1_2 l1_2.length c1_2] 26 (0, 0)) (zbx BK364.out) k_ hk, Kd.freshB (g := gb365) (o := .cells #[.int .i64 0, .int .i64 0] 37 (0, 0)) (zbx BK365.out) k_ hk⟩) _ (Nat.le_refl _)) (Below.refl _ _) (Nat.le_refl _) (by simp) ?_; (case hd => rfl); (case hg => rfl); (case hr => exact zsx); (case hp => exact (Reps.c3 (show Kd.FK k26 _ _ (⟨a0_0, a0_1, l0_2⟩ : S26) [.int .i64 a0_0, .int .i64 a0_1, .slice A0_2 l0_2.length c0_2] from (k26_mkF _ _ (⟨a0_0, a0_1, l0_2⟩ : S26) (Kd.V_reads' (Kd.V_mono (ok' := (fun k_ => ((P0_2_ k_ ∨ P1_2_ k_) ∨ w.heap.size ≤ k_) ∧ k_ ≠ gb363 ∧ k_ ≠ gb364 ∧ k_ ≠ gb365)) (HO0_2.out) (fun k_ hk => ⟨hk.1.1.1, ⟨hk.1.1.2, ⟨hk.1.2, hk.2⟩⟩⟩))).2.1 (Kd.V_F (Kd.V_mono (ok' := (fun k_ => ((P0_2_ k_ ∨ P1_2_ k_) ∨ w.heap.size ≤ k_) ∧ k_ ≠ gb363 ∧ k_ ≠ gb364 ∧ k_ ≠ gb365)) (HO0_2.out) (fun k_ hk => ⟨hk.1.1.1, ⟨hk.1.1.2, ⟨hk.1.2, hk.2⟩⟩⟩))))) (Reps.c3 (show Kd.FK k26 _ _ (⟨a1_0, a1_1, l1_2⟩ : S26) [.int .i64 a1_0, .int .i64 a1_1, .slice A1_2 l1_2.length c1_2] from (k26_mkF _ _ (⟨a1_0, a1_1, l1_2⟩ : S26) (Kd.V_reads' (Kd.V_mono (ok' := (fun k_ => ((P0_2_ k_ ∨ P1_2_ k_) ∨ w.heap.size ≤ k_) ∧ k_ ≠ gb363 ∧ k_ ≠ gb364 ∧ k_ ≠ gb365)) (HO1_2.out) (fun k_ hk => ⟨hk.1.1.1, ⟨hk.1.1.2, ⟨hk.1.2, hk.2⟩⟩⟩))).2.1 (Kd.V_F (Kd.V_mono (ok' := (fun k_ => ((P0_2_ k_ ∨ P1_2_ k_) ∨ w.heap.size ≤ k_) ∧ k_ ≠ gb363 ∧ k_ ≠ gb364 ∧ k_ ≠ gb365)) (HO1_2.out) (fun k_ hk => ⟨hk.1.1.1, ⟨hk.1.1.2, ⟨hk.1.2, hk.2⟩⟩⟩))))) (Reps.none _ _)))); intro v367 w126 ho127 hb hg_ hnew_; clear hg_ hnew_; (first | rw [← Ny366.out] at ho127 | (simp only [Int.reduceToNat] at ho127; rw [← Ny366.out] at ho127)); replace HO0_2 := Aside0.mk (Kd.V_elder' (by refine zDV ?_; exact HO0_2.out) (Kd.N_base ho127) hb); replace HO1_2 := Aside0.mk (Kd.V_elder' (by refine zDV ?_; exact HO1_2.out) (Kd.N_base ho127) hb); have HO368 := Aside0.mk (Kd.N_lower ho127 (below_size (zhB HB.out))); replace BK363 := zbl BK363.out hb; replace BK364 := zbl BK364.out hb; replace BK365 := zbl BK365.out hb; replace HB := Aside0.mk (below_step (zhB HB.out) hb); clear hb ho127; obtain ⟨Ao128, co128, eo128⟩ := Kd.N_slice HO368.out; subst eo128) | ((with_reducible refine gate_callee (f := 34) rfl ?_); refine goesL_ (some 20) rfl rfl Try.func34 (by kernel_rfl) rfl #[.slice Ao128 y366.length co128] rfl zlx ?_; (with_reducible refine (impl_areAlike.calls k _ _ y366 false _ ?side1 ?side2 A4.out).mono ?_); (case side1 => repeat (first | exact (Kd.N_reads' HO368.out).2.2 | (with_reducible refine Kd.C_alloc ?_ _) | (with_reducible refine Kd.C_drewN ?_ _) | (with_reducible refine Kd.C_drew ?_))); (case side2 => exact (Kd.N_reads' HO368.out).2.1); rintro e w129 ⟨rfl, hb⟩; refine ⟨_, rfl, ?_⟩; replace HO0_2 := Aside0.mk (Kd.V_below (by refine zDV ?_; exact HO0_2.out) hb); replace HO1_2 := Aside0.mk (Kd.V_below (by refine zDV ?_; exact HO1_2.out) hb); replace HO368 := Aside0.mk (Kd.N_below (by (with_reducible repeat (first | apply Kd.N_alloc | apply Kd.N_drewN | apply Kd.N_drew)); exact HO368.out) hb); replace BK363 := zbl BK363.out hb; replace BK364 := zbl BK364.out hb; replace BK365 := zbl BK365.out hb; replace HB := Aside0.mk (below_step (zhB HB.out) hb); (try clear hb); have hcz130_0 : w129.cell? ⟨gb365, 0, none⟩ = some (.int .i64 0) := (blk_cell BK365.out 0).trans rfl; have hcz130_1 : w129.cell? ⟨gb365, 1, none⟩ = some (.int .i64 0) := (blk_cell BK365.out 1).trans rfl; have hfz130_0 := blk_frozen BK365.out 0; have hfz130_1 := blk_frozen BK365.out 1))
   refine bodyPost_ret (results_list (rs := [.tmp 6, .cell 7 37, .tmp 8]) rfl (by simp) (.tmp (.cell gb365 37 #[.int .i64 0, .int .i64 0] (0, 0) _ rfl (zbp BK365.out) Try.underlying37 rfl (by kernel_rfl) (.tmp .nil)))) rfl ?_
   exact ⟨by first | rfl | (simp [errW_none, errW_some] <;> rfl) | (simp [*, errW_none, errW_some] <;> rfl), zhB HB.out⟩

/-! ### spec_l1In: function 60 -/
def spec_l1In.f (a0 : Int) (a1 : Int) (a2 : Int) : Option (Bool) := if a0 ≥ a1 then (some (decide (a0 ≤ a2))) else (some false)
set_option maxHeartbeats 8000000 in
set_option maxRecDepth 100000 in
theorem spec_l1In.calls (a0 : Int) (a1 : Int) (a2 : Int) (r : Bool) (w : World) (h : spec_l1In.f a0 a1 a2 = some r) :
 Calls Try.prog 60 #[.int .i64 a0, .int .i64 a1, .int .i64 a2] w fun e w' => e = .returned (.bool r) ∧ Drawn0 w w' := by
 have H : (if a0 ≥ a1 then (some (decide (a0 ≤ a2))) else (some false)) = some r := h
 clear h
 by_cases c4 : a0 ≥ a1
 ·rw [if_pos c4] at H
  have c4b0 : decide (a1 ≤ a0) = true := decide_eq_true c4
  clear c4
  focus
   obtain rfl := Option.some.inj H
   go_enter Try.func60, Try.ntmps60
   go_wp2
   go_ret
   exact ⟨by first | rfl | (simp; done) | (simp [*]; done), by repeat (first | exact Drawn0.refl _ | apply Drawn0.step)⟩
 ·rw [if_neg c4] at H
  have c4b0 : decide (a1 ≤ a0) = false := decide_eq_false c4
  clear c4
  focus
   obtain rfl := Option.some.inj H
   go_enter Try.func60, Try.ntmps60
   go_wp2
   go_ret
   exact ⟨by first | rfl | (simp; done) | (simp [*]; done), by repeat (first | exact Drawn0.refl _ | apply Drawn0.step)⟩

/-! ### spec_l20Good: function 42 -/
def spec_l20Good.f (a0_0 : Int) (a0_1 : Int) (a0_2 : Int) (a0_3 : Int) : Option (Bool) := (spec_l1In.f a0_0 0 1000000).bind fun t389 => (if t389 = true then ((spec_l1In.f a0_1 0 1000000).bind fun t390 => (if t390 = true then ((spec_l1In.f a0_2 0 1000000).bind fun t391 => (if t391 = true then ((spec_l1In.f a0_3 0 1000000).bind fun t392 => (some t392)) else (some false))) else (some false))) else (some false))
theorem zendXFnLimitsx11_0 {P_ : Prop} (h_ : P_ := by
  obtain rfl := Option.some.inj H
  go_enter Try.func42, Try.ntmps42
  go_wp2_with (first | ((with_reducible refine gate_dst (N := 1) rfl ?_); refine box_event ?hg (N := 1) ?hd (cs := #[.int .i64 a0_0, .int .i64 a0_1, .int .i64 a0_2, .int .i64 a0_3]) (t := 30) ?hr ?_; (case hd => rfl); (case hg => rfl); (case hr => exact zsx); intro gb388 hg w9 hbox hb; have BK388 := Aside0.mk (hbox); have GW388 := zns hg HB.out; have GE388 := zns hg HB.out; replace HB := Aside0.mk (below_step (zBx HB.out) hb); clear hb hbox hg; have hcz10_0 : w9.cell? ⟨gb388, 0, none⟩ = some (.int .i64 a0_0) := (blk_cell BK388.out 0).trans rfl; have hcz10_1 : w9.cell? ⟨gb388, 1, none⟩ = some (.int .i64 a0_1) := (blk_cell BK388.out 1).trans rfl; have hcz10_2 : w9.cell? ⟨gb388, 2, none⟩ = some (.int .i64 a0_2) := (blk_cell BK388.out 2).trans rfl; have hcz10_3 : w9.cell? ⟨gb388, 3, none⟩ = some (.int .i64 a0_3) := (blk_cell BK388.out 3).trans rfl; have hfz10_0 := blk_frozen BK388.out 0; have hfz10_1 := blk_frozen BK388.out 1; have hfz10_2 := blk_frozen BK388.out 2; have hfz10_3 := blk_frozen BK388.out 3) | ((with_reducible refine gate_callee (f := 60) rfl ?_); refine goesL_ (some 5) rfl rfl Try.func60 (by kernel_rfl) rfl #[.int .i64 a0_0, .int .i64 0, .int .i64 1000000] rfl zlx ?_; (with_reducible refine (spec_l1In.calls a0_0 0 1000000 _ _ A2.out).mono ?_); rintro e w' ⟨rfl, ⟨nd, rfl⟩⟩; refine ⟨_, rfl, ?_⟩) | (go_at_call 60; (with_reducible refine (spec_l1In.calls a0_1 0 1000000 _ _ A4.out).mono ?_); rintro e w' ⟨rfl, ⟨nd, rfl⟩⟩) | (go_at_call 60; (with_reducible refine (spec_l1In.calls a0_2 0 1000000 _ _ A6.out).mono ?_); rintro e w' ⟨rfl, ⟨nd, rfl⟩⟩) | (go_at_call 60; (with_reducible refine (spec_l1In.calls a0_3 0 1000000 t392 _ A8.out).mono ?_); rintro e w' ⟨rfl, ⟨nd, rfl⟩⟩))
  go_ret
  exact ⟨by first | rfl | (simp [errW_none, errW_some] <;> rfl) | (simp [*, errW_none, errW_some] <;> rfl), by exact zBy HB.out GE388.out⟩) : P_ := h_
set_option maxHeartbeats 8000000 in
set_option maxRecDepth 100000 in
theorem spec_l20Good.calls (a0_0 : Int) (a0_1 : Int) (a0_2 : Int) (a0_3 : Int) (r : Bool) (w : World) (h : spec_l20Good.f a0_0 a0_1 a0_2 a0_3 = some r) :
 Calls Try.prog 42 #[.agg #[.int .i64 a0_0, .int .i64 a0_1, .int .i64 a0_2, .int .i64 a0_3]] w fun e w' => e = .returned (.bool r) ∧ Below w.heap.size w w' := by
 have hu30 := Try.underlying30
 have HB := Aside0.mk (Below.refl w.heap.size w)
 have H : ((spec_l1In.f a0_0 0 1000000).bind fun t389 => (if t389 = true then ((spec_l1In.f a0_1 0 1000000).bind fun t390 => (if t390 = true then ((spec_l1In.f a0_2 0 1000000).bind fun t391 => (if t391 = true then ((spec_l1In.f a0_3 0 1000000).bind fun t392 => (some t392)) else (some false))) else (some false))) else (some false))) = some r := h
 clear h
 replace H := Option.bind_eq_some_iff.mp H
 obtain ⟨t389, A20, H⟩ := H
 replace H : (if t389 = true then ((spec_l1In.f a0_1 0 1000000).bind fun t390 => (if t390 = true then ((spec_l1In.f a0_2 0 1000000).bind fun t391 => (if t391 = true then ((spec_l1In.f a0_3 0 1000000).bind fun t392 => (some t392)) else (some false))) else (some false))) else (some false)) = some r := H
 have A2 := Aside0.mk A20
 clear A20
 by_cases c3 : t389 = true
 ·subst c3
  rw [if_pos rfl] at H
  replace H := Option.bind_eq_some_iff.mp H
  obtain ⟨t390, A40, H⟩ := H
  replace H : (if t390 = true then ((spec_l1In.f a0_2 0 1000000).bind fun t391 => (if t391 = true then ((spec_l1In.f a0_3 0 1000000).bind fun t392 => (some t392)) else (some false))) else (some false)) = some r := H
  have A4 := Aside0.mk A40
  clear A40
  by_cases c5 : t390 = true
  ·subst c5
   rw [if_pos rfl] at H
   replace H := Option.bind_eq_some_iff.mp H
   obtain ⟨t391, A60, H⟩ := H
   replace H : (if t391 = true then ((spec_l1In.f a0_3 0 1000000).bind fun t392 => (some t392)) else (some false)) = some r := H
   have A6 := Aside0.mk A60
   clear A60
   by_cases c7 : t391 = true
   ·subst c7
    rw [if_pos rfl] at H
    replace H := Option.bind_eq_some_iff.mp H
    obtain ⟨t392, A80, H⟩ := H
    replace H : (some t392) = some r := H
    have A8 := Aside0.mk A80
    clear A80
    focus
     exact zendXFnLimitsx11_0
   ·replace c7 := Bool.eq_false_iff.mpr c7
    subst c7
    rw [if_neg (show ¬ (false = true) by decide)] at H
    focus
     exact zendXFnLimitsx11_0
  ·replace c5 := Bool.eq_false_iff.mpr c5
   subst c5
   rw [if_neg (show ¬ (false = true) by decide)] at H
   focus
    exact zendXFnLimitsx11_0
 ·replace c3 := Bool.eq_false_iff.mpr c3
  subst c3
  rw [if_neg (show ¬ (false = true) by decide)] at H
  focus
   exact zendXFnLimitsx11_0

/-! ### spec_l10Common: function 61 -/
def spec_l10Common.l0 : Nat → Int → Int → Option (Int)
 | 0, _, _ => none
 | k + 1, x0, x1 => if x1 > 0 then (if x1 = 0 then (none) else (spec_l10Common.l0 k x1 (Int.tmod x0 x1))) else (some x0)
def spec_l10Common.f (k : Nat) (a0 : Int) (a1 : Int) : Option (Int) := spec_l10Common.l0 k a0 a1
theorem spec_l10Common.mono_l : ∀ k, (∀ y0 y1, LeO (spec_l10Common.l0 k y0 y1) (spec_l10Common.l0 (k + 1) y0 y1))
 | 0 => fun _ _ r h => by simp [spec_l10Common.l0] at h
 | k + 1 => by
  have ih0 := spec_l10Common.mono_l k
  ·intro y0 y1
   unfold spec_l10Common.l0
   repeat' first
   | (with_reducible exact ih0 _ _)
   | (with_reducible exact LeO.refl _)
   | (with_reducible exact LeO.none _)
   | (with_reducible refine LeO.ite ?_ ?_)
   | (with_reducible refine LeO.bind ?_ (fun _ => ?_))
   | exact ih0 _ _
   | exact LeO.none _
   | refine LeO.ite ?_ ?_
   | refine LeO.bind ?_ (fun _ => ?_)
theorem spec_l10Common.mono : ∀ a0 a1 k, LeO (spec_l10Common.f k a0 a1) (spec_l10Common.f (k + 1) a0 a1) := by
 intro a0 a1 k
 have ih0 := spec_l10Common.mono_l k
 unfold spec_l10Common.f
 repeat' first
  | (with_reducible exact ih0 _ _)
  | (with_reducible exact LeO.refl _)
  | (with_reducible exact LeO.none _)
  | (with_reducible refine LeO.ite ?_ ?_)
  | (with_reducible refine LeO.bind ?_ (fun _ => ?_))
  | exact ih0 _ _
  | exact LeO.none _
  | refine LeO.ite ?_ ?_
  | refine LeO.bind ?_ (fun _ => ?_)
set_option maxHeartbeats 8000000 in
set_option maxRecDepth 100000 in
theorem spec_l10Common.calls (k : Nat) (a0 : Int) (a1 : Int) (r : Int) (w : World) (h : spec_l10Common.f k a0 a1 = some r) :
 Calls Try.prog 61 #[.int .i64 a0, .int .i64 a1] w fun e w' => e = .returned (.int .i64 r) ∧ Drawn0 w w' := by
 have H : (spec_l10Common.l0 k a0 a1) = some r := h
 clear h
 have H' := Aside0.mk H
 clear H
 go_enter Try.func61, Try.ntmps61
 go_wp2
 go_loopg [0, 1] k (fun kq v0 v1 w' => ∃ (x0_1 : Int) (x1_1 : Int), v0 = .int .i64 x0_1 ∧ v1 = .int .i64 x1_1 ∧ Aside0 (spec_l10Common.l0 kq x0_1 x1_1 = some r) ∧ Aside0 (kq ≤ k) ∧ Drawn0 w w')
 case atStart => exact ⟨(a0), (a1), zrx, zrx, H', ⟨Nat.le_refl _⟩, by repeat (first | exact Drawn0.refl _ | apply Drawn0.step)⟩
 case round =>
  clear H'
  try clear p2
  obtain ⟨x0_1, x1_1, rfl, rfl, HA, HK1, ⟨m1, rfl⟩⟩ := hrel
  cases gk with
  | zero => exact absurd HA.out (by simp [spec_l10Common.l0])
  | succ k1 =>
   have H := HA.out
   clear HA
   simp only [spec_l10Common.l0] at H
   by_cases c3 : x1_1 > 0
   ·rw [if_pos c3] at H
    have c3b0 : decide (0 < x1_1) = true := decide_eq_true c3
    clear c3
    by_cases c4 : x1_1 = 0
    ·rw [if_pos c4] at H
     exact absurd H (by simp)
    ·rw [if_neg c4] at H
     have c4b0 : (x1_1 == 0) = false := beq_eq_false_iff_ne.mpr c4
     have c4b1 : (x1_1 != 0) = true := bne_iff_ne.mpr c4
     focus
      have H' := Aside0.mk H
      clear H
      go_wp2
      go_roundg k1
      case measure => have := HK1.out; omega
      case rel => exact ⟨(x1_1), (Int.tmod x0_1 x1_1), zrx, zrx, H', ⟨by have := HK1.out; omega⟩, by repeat (first | exact Drawn0.refl _ | apply Drawn0.step)⟩
   ·rw [if_neg c3] at H
    have c3b0 : decide (0 < x1_1) = false := decide_eq_false c3
    clear c3
    focus
     obtain rfl := Option.some.inj H
     go_wp2
     go_ret
     exact ⟨by first | rfl | (simp; done) | (simp [*]; done), by repeat (first | exact Drawn0.refl _ | apply Drawn0.step)⟩

end Go.Proofs.Ytddgbaohepfekaa.XFnLimits
