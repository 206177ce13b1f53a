-- written by wip/tools/xprint.py (a program of this project) out of the translation
import Derived.Test.YtddgbaohepfekaaXFnLimitsx0
import Derived.Test.YtddgbaohepfekaaXFnLimitsx2
import Derived.Test.YtddgbaohepfekaaXFnLimitsx6
import Derived.Test.YtddgbaohepfekaaXFnLimitsx12
import Derived.Test.YtddgbaohepfekaaXFnLimitsx13
namespace Go.Proofs.Ytddgbaohepfekaa.XFnLimits
open Go.RowKit Go.Proofs.YtddgbaohepfekaaW.PrintWords Go.Proofs.YtddgbaohepfekaaW.PrintLast Go.Proofs.YtddgbaohepfekaaW.PrintMore
attribute [local go_sem] max2_int min2_int max_two min_two max_three min_three max_four min_four   -- for this text's walks alone
set_option linter.unusedVariables false
set_option linter.unusedSimpArgs false

attribute [local go_sem high] eqA37
/-! ### spec_BestLimit: function 23 -/
def spec_BestLimit.l0 : Nat → Int → Int → Bool → Int → Int → Int → List Int → Int → Int → List Int → Int → Int → Option (Int × Int × Int × Bool)
 | 0, _, _, _, _, _, _, _, _, _, _, _, _ => none
 | k + 1, x2, x9, x11, x12, x428000, x428001, x428002, x429000, x429001, x429002, x432000, x432001 => if x12 < (x428002.length : Int) then (if 0 ≤ x12 then (if (rd x428002 x12) = (-9999) then (spec_BestLimit.l0 k x2 x9 x11 (wrap64 (x12 + 1)) x428000 x428001 x428002 x429000 x429001 x429002 x432000 x432001) else ((spec_l20Count.f k x428000 x428001 x428002 x429000 x429001 x429002 (wrap64 ((rd x428002 x12) - 1)) x2).bind fun bt434 => ((spec_ThreatScore.f k bt434.1 bt434.2.1 bt434.2.2.1 bt434.2.2.2).bind fun bt438 => (if bt438.2.2 = true then (if x11 = true then ((spec_l20Less.f x432000 x432001 bt438.1 bt438.2.1).bind fun t442 => (if t442 = true then (spec_BestLimit.l0 k x2 (wrap64 ((rd x428002 x12) - 1)) true (wrap64 (x12 + 1)) x428000 x428001 x428002 x429000 x429001 x429002 bt438.1 bt438.2.1) else (if (bt438.1 == x432000 && (bt438.2.1 == x432001)) = true then (if (wrap64 ((rd x428002 x12) - 1)) < x9 then (spec_BestLimit.l0 k x2 (wrap64 ((rd x428002 x12) - 1)) true (wrap64 (x12 + 1)) x428000 x428001 x428002 x429000 x429001 x429002 bt438.1 bt438.2.1) else (spec_BestLimit.l0 k x2 x9 x11 (wrap64 (x12 + 1)) x428000 x428001 x428002 x429000 x429001 x429002 x432000 x432001)) else (spec_BestLimit.l0 k x2 x9 x11 (wrap64 (x12 + 1)) x428000 x428001 x428002 x429000 x429001 x429002 x432000 x432001)))) else (spec_BestLimit.l0 k x2 (wrap64 ((rd x428002 x12) - 1)) true (wrap64 (x12 + 1)) x428000 x428001 x428002 x429000 x429001 x429002 bt438.1 bt438.2.1)) else (spec_BestLimit.l0 k x2 x9 x11 (wrap64 (x12 + 1)) x428000 x428001 x428002 x429000 x429001 x429002 x432000 x432001))))) else (none)) else (some (x9, x432000, x432001, x11))
def spec_BestLimit.f (k : Nat) (a0_0 : Int) (a0_1 : Int) (l0_2 : List Int) (a1_0 : Int) (a1_1 : Int) (l1_2 : List Int) (a2 : Int) : Option (Int × Int × Int × Bool) := (spec_l2Same.f k a0_0 a0_1 l0_2 a1_0 a1_1 l1_2).bind fun t430 => (if t430 = true then (spec_BestLimit.l0 k a2 0 false 0 a0_0 a0_1 l0_2 a1_0 a1_1 l1_2 0 0) else (some (0, 0, 0, false)))
theorem spec_BestLimit.mono_l : ∀ k, (∀ y0 y1 y2 y3 y4 y5 y6 y7 y8 y9 y10 y11, LeO (spec_BestLimit.l0 k y0 y1 y2 y3 y4 y5 y6 y7 y8 y9 y10 y11) (spec_BestLimit.l0 (k + 1) y0 y1 y2 y3 y4 y5 y6 y7 y8 y9 y10 y11))
 | 0 => fun _ _ _ _ _ _ _ _ _ _ _ _ r h => by simp [spec_BestLimit.l0] at h
 | k + 1 => by
  have ih0 := spec_BestLimit.mono_l k
  ·intro y0 y1 y2 y3 y4 y5 y6 y7 y8 y9 y10 y11
   unfold spec_BestLimit.l0
   repeat' first
   | (with_reducible exact ih0 _ _ _ _ _ _ _ _ _ _ _ _)
   | (with_reducible exact spec_ThreatScore.mono _ _ _ _ _)
   | (with_reducible exact spec_l20Count.mono _ _ _ _ _ _ _ _ _)
   | (with_reducible exact spec_l2Same.mono _ _ _ _ _ _ _)
   | (with_reducible exact LeO.refl _)
   | (with_reducible exact LeO.none _)
   | (with_reducible refine LeO.ite ?_ ?_)
   | (with_reducible refine LeO.bind ?_ (fun _ => ?_))
   | exact ih0 _ _ _ _ _ _ _ _ _ _ _ _
   | exact spec_ThreatScore.mono _ _ _ _ _
   | exact spec_l20Count.mono _ _ _ _ _ _ _ _ _
   | exact spec_l2Same.mono _ _ _ _ _ _ _
   | exact LeO.none _
   | refine LeO.ite ?_ ?_
   | refine LeO.bind ?_ (fun _ => ?_)
theorem spec_BestLimit.mono : ∀ a0 a1 a2 a3 a4 a5 a6 k, LeO (spec_BestLimit.f k a0 a1 a2 a3 a4 a5 a6) (spec_BestLimit.f (k + 1) a0 a1 a2 a3 a4 a5 a6) := by
 intro a0 a1 a2 a3 a4 a5 a6 k
 have ih0 := spec_BestLimit.mono_l k
 unfold spec_BestLimit.f
 repeat' first
  | (with_reducible exact ih0 _ _ _ _ _ _ _ _ _ _ _ _)
  | (with_reducible exact spec_ThreatScore.mono _ _ _ _ _)
  | (with_reducible exact spec_l20Count.mono _ _ _ _ _ _ _ _ _)
  | (with_reducible exact spec_l2Same.mono _ _ _ _ _ _ _)
  | (with_reducible exact LeO.refl _)
  | (with_reducible exact LeO.none _)
  | (with_reducible refine LeO.ite ?_ ?_)
  | (with_reducible refine LeO.bind ?_ (fun _ => ?_))
  | exact ih0 _ _ _ _ _ _ _ _ _ _ _ _
  | exact spec_ThreatScore.mono _ _ _ _ _
  | exact spec_l20Count.mono _ _ _ _ _ _ _ _ _
  | exact spec_l2Same.mono _ _ _ _ _ _ _
  | exact LeO.none _
  | refine LeO.ite ?_ ?_
  | refine LeO.bind ?_ (fun _ => ?_)
set_option maxHeartbeats 8000000 in
set_option maxRecDepth 100000 in
theorem spec_BestLimit.calls (k : Nat) (a0_0 : Int) (a0_1 : Int) (A0_2 : Option Addr) (c0_2 : Nat) (l0_2 : List Int) (a1_0 : Int) (a1_1 : Int) (A1_2 : Option Addr) (c1_2 : Nat) (l1_2 : List Int) (a2 : Int) (r1 : Int) (r2 : Int) (r3 : Int) (r4 : Bool) (w : World) (hr0_2 : Kd.C (Kd.int .i64) w A0_2 l0_2.length l0_2) (hc0_2 : l0_2.length ≤ c0_2) (hr1_2 : Kd.C (Kd.int .i64) w A1_2 l1_2.length l1_2) (hc1_2 : l1_2.length ≤ c1_2) (h : spec_BestLimit.f k a0_0 a0_1 l0_2 a1_0 a1_1 l1_2 a2 = some (r1, r2, r3, r4)) :
 Calls Try.prog 23 #[.agg #[.int .i64 a0_0, .int .i64 a0_1, .slice A0_2 l0_2.length c0_2], .agg #[.int .i64 a1_0, .int .i64 a1_1, .slice A1_2 l1_2.length c1_2], .int .i64 a2] w fun e w' => e = .returned (.tuple #[.int .i64 r1, .agg #[.int .i64 r2, .int .i64 r3], .bool r4]) ∧ Below w.heap.size w w' := by
 have hu26 := Try.underlying26
 have hu37 := Try.underlying37
 have HR0_2 := Aside0.mk hr0_2
 have HC0_2 := Aside0.mk hc0_2
 clear hr0_2 hc0_2
 have HR1_2 := Aside0.mk hr1_2
 have HC1_2 := Aside0.mk hc1_2
 clear hr1_2 hc1_2
 have HB := Aside0.mk (Below.refl w.heap.size w)
 have H : ((spec_l2Same.f k a0_0 a0_1 l0_2 a1_0 a1_1 l1_2).bind fun t430 => (if t430 = true then (spec_BestLimit.l0 k a2 0 false 0 a0_0 a0_1 l0_2 a1_0 a1_1 l1_2 0 0) else (some (0, 0, 0, false)))) = some (r1, r2, r3, r4) := h
 clear h
 replace H := Option.bind_eq_some_iff.mp H
 obtain ⟨t430, A40, H⟩ := H
 replace H : (if t430 = true then (spec_BestLimit.l0 k a2 0 false 0 a0_0 a0_1 l0_2 a1_0 a1_1 l1_2 0 0) else (some (0, 0, 0, false))) = some (r1, r2, r3, r4) := H
 have A4 := Aside0.mk A40
 clear A40
 by_cases c5 : t430 = true
 ·subst c5
  rw [if_pos rfl] at H
  have H' := Aside0.mk H
  clear H
  go_enter Try.func23, Try.ntmps23
  go_wp2_with (first | ((with_reducible refine gate_dst (N := 3) rfl ?_); refine box_event ?hg (N := 3) ?hd (cs := #[.int .i64 a0_0, .int .i64 a0_1, .slice A0_2 l0_2.length c0_2]) (t := 26) ?hr ?_; (case hd => rfl); (case hg => rfl); (case hr => exact zsx); intro gb427 hg w6 hbox hb; have BK427 := Aside0.mk (hbox); have GW427 := zns hg HB.out; have GE427 := zns hg HB.out; replace HB := Aside0.mk (below_step (zBx HB.out) hb); clear hb hbox hg) | ((with_reducible refine gate_dst (N := 4) rfl ?_); refine box_event ?hg (N := 4) ?hd (cs := #[.int .i64 a1_0, .int .i64 a1_1, .slice A1_2 l1_2.length c1_2]) (t := 26) ?hr ?_; (case hd => rfl); (case hg => rfl); (case hr => exact zsx); intro gb428 hg w7 hbox hb; have BK428 := Aside0.mk (hbox); have GW428 := zns hg HB.out; have GE428 := zns hg HB.out; replace HB := Aside0.mk (below_step (zBy HB.out GE427.out) hb); have NB427_428 := znl hg BK427.out; have NB428_427 := zng hg BK427.out; replace BK427 := zbl BK427.out hb; clear hb hbox hg) | ((with_reducible refine gate_dst (N := 7) rfl ?_); refine box_event ?hg (N := 7) ?hd (cs := #[.int .i64 0, .int .i64 0]) (t := 37) ?hr ?_; (case hd => rfl); (case hg => rfl); (case hr => exact zsx); intro gb429 hg w8 hbox hb; have BK429 := Aside0.mk (hbox); have GW429 := zns hg HB.out; have GE429 := zns hg HB.out; replace HB := Aside0.mk (below_step (zBz HB.out GE427.out GE428.out) hb); have NB427_429 := znl hg BK427.out; have NB429_427 := zng hg BK427.out; replace BK427 := zbl BK427.out hb; have NB428_429 := znl hg BK428.out; have NB429_428 := zng hg BK428.out; replace BK428 := zbl BK428.out hb; clear hb hbox hg; have hnb9 := NB427_428.out; have hnc9 := NB428_427.out; have hnb10 := NB427_429.out; have hnc10 := NB429_427.out; have hcz11_0 : w8.cell? ⟨gb427, 0, none⟩ = some (.int .i64 a0_0) := (blk_cell BK427.out 0).trans rfl; have hcz11_1 : w8.cell? ⟨gb427, 1, none⟩ = some (.int .i64 a0_1) := (blk_cell BK427.out 1).trans rfl; have hcz11_2 : w8.cell? ⟨gb427, 2, none⟩ = some (.slice A0_2 l0_2.length c0_2) := (blk_cell BK427.out 2).trans rfl; have hfz11_0 := blk_frozen BK427.out 0; have hfz11_1 := blk_frozen BK427.out 1; have hfz11_2 := blk_frozen BK427.out 2; have hnb12 := NB428_429.out; have hnc12 := NB429_428.out; have hcz13_0 : w8.cell? ⟨gb428, 0, none⟩ = some (.int .i64 a1_0) := (blk_cell BK428.out 0).trans rfl; have hcz13_1 : w8.cell? ⟨gb428, 1, none⟩ = some (.int .i64 a1_1) := (blk_cell BK428.out 1).trans rfl; have hcz13_2 : w8.cell? ⟨gb428, 2, none⟩ = some (.slice A1_2 l1_2.length c1_2) := (blk_cell BK428.out 2).trans rfl; have hfz13_0 := blk_frozen BK428.out 0; have hfz13_1 := blk_frozen BK428.out 1; have hfz13_2 := blk_frozen BK428.out 2) | ((with_reducible refine gate_callee (f := 36) rfl ?_); refine goesL_ (some 18) rfl rfl Try.func36 (by kernel_rfl) rfl #[.agg #[.int .i64 a0_0, .int .i64 a0_1, .slice A0_2 l0_2.length c0_2], .agg #[.int .i64 a1_0, .int .i64 a1_1, .slice A1_2 l1_2.length c1_2]] rfl zlx ?_; (with_reducible refine (spec_l2Same.calls k a0_0 a0_1 _ _ l0_2 a1_0 a1_1 _ _ l1_2 true _ ?side1 ?side2 ?side3 ?side4 A4.out).mono ?_); (case side1 => exact zCx (Kd.C_below HR0_2.out HB.out)); (case side2 => exact HC0_2.out); (case side3 => exact zCx (Kd.C_below HR1_2.out HB.out)); (case side4 => exact HC1_2.out); rintro e w14 ⟨rfl, hb⟩; refine ⟨_, rfl, ?_⟩; replace BK427 := zbl BK427.out hb; replace BK428 := zbl BK428.out hb; replace BK429 := zbl BK429.out hb; replace HB := Aside0.mk (below_step (zhB HB.out) hb); (try clear hb)) | ((with_reducible refine gate_dst (N := 10) rfl ?_); refine box_event ?hg (N := 10) ?hd (cs := #[.int .i64 0, .int .i64 0]) (t := 37) ?hr ?_; (case hd => rfl); (case hg => rfl); (case hr => exact zsx); intro gb431 hg w15 hbox hb; have BK431 := Aside0.mk (hbox); have GW431 := zns hg HB.out; have GE431 := zns hg HB.out; replace HB := Aside0.mk (below_step (zhB HB.out) hb); have NB427_431 := znl hg BK427.out; have NB431_427 := zng hg BK427.out; replace BK427 := zbl BK427.out hb; have NB428_431 := znl hg BK428.out; have NB431_428 := zng hg BK428.out; replace BK428 := zbl BK428.out hb; have NB429_431 := znl hg BK429.out; have NB431_429 := zng hg BK429.out; replace BK429 := zbl BK429.out hb; clear hb hbox hg; have hnb16 := NB431_427.out; have hnc16 := NB427_431.out; have hnb17 := NB431_428.out; have hnc17 := NB428_431.out; have hnb18 := NB431_429.out; have hnc18 := NB429_431.out; have hcz19_0 : w15.cell? ⟨gb431, 0, none⟩ = some (.int .i64 0) := (blk_cell BK431.out 0).trans rfl; have hcz19_1 : w15.cell? ⟨gb431, 1, none⟩ = some (.int .i64 0) := (blk_cell BK431.out 1).trans rfl; have hfz19_0 := blk_frozen BK431.out 0; have hfz19_1 := blk_frozen BK431.out 1))
  go_loopg [9, 11, 12] k (fun kq v9 v11 v12 w' => ∃ (x9_1 : Int) (x11_1 : Bool) (x12_1 : Int) (x432000_1 : Int) (x432001_1 : Int), v9 = .int .i64 x9_1 ∧ v11 = .bool x11_1 ∧ v12 = .int .i64 x12_1 ∧ Aside0 (spec_BestLimit.l0 kq a2 x9_1 x11_1 x12_1 a0_0 a0_1 l0_2 a1_0 a1_1 l1_2 x432000_1 x432001_1 = some (r1, r2, r3, r4)) ∧ Aside0 (kq ≤ k) ∧ Aside0 (w'.heap[gb427]? = some (.cells #[.int .i64 a0_0, .int .i64 a0_1, (.slice A0_2 l0_2.length c0_2)] 26 (0, 0))) ∧ Aside0 (w'.heap[gb428]? = some (.cells #[.int .i64 a1_0, .int .i64 a1_1, (.slice A1_2 l1_2.length c1_2)] 26 (0, 0))) ∧ Aside0 (w'.heap[gb429]? = some (.cells #[.int .i64 0, .int .i64 0] 37 (0, 0))) ∧ Aside0 (w'.heap[gb431]? = some (.cells #[.int .i64 x432000_1, .int .i64 x432001_1] 37 (0, 0))) ∧ Aside0 (Below w.heap.size w w'))
  case atStart => exact ⟨(0), (false), (0), (0), (0), zrx, zrx, zrx, H', ⟨Nat.le_refl _⟩, ⟨zbp BK427.out⟩, ⟨zbp BK428.out⟩, ⟨zbp BK429.out⟩, ⟨zbp BK431.out⟩, ⟨zhB HB.out⟩⟩
  case round =>
   clear H'
   try clear c1
   try clear c2
   try clear p2
   try clear c3
   try clear c5
   try clear c9
   try clear c10
   try clear c12
   try clear c16
   try clear c17
   try clear c18
   try clear hcz11_0
   try clear hcz11_1
   try clear hcz11_2
   try clear hcz13_0
   try clear hcz13_1
   try clear hcz13_2
   try clear hcz19_0
   try clear hcz19_1
   try clear hfz11_0
   try clear hfz11_1
   try clear hfz11_2
   try clear hfz13_0
   try clear hfz13_1
   try clear hfz13_2
   try clear hfz19_0
   try clear hfz19_1
   obtain ⟨x9_1, x11_1, x12_1, x432000_1, x432001_1, rfl, rfl, rfl, HA, HK1, BK427, BK428, BK429, BK431, HB⟩ := hrel
   cases gk with
   | zero => exact absurd HA.out (by simp [spec_BestLimit.l0])
   | succ k1 =>
    have H := HA.out
    clear HA
    simp only [spec_BestLimit.l0] at H
    by_cases c20 : x12_1 < (l0_2.length : Int)
    ·rw [if_pos c20] at H
     have c20b0 : decide (x12_1 < (l0_2.length : Int)) = true := decide_eq_true c20
     clear c20
     by_cases c21 : 0 ≤ x12_1
     ·rw [if_pos c21] at H
      have c21b0 : decide (0 ≤ x12_1) = true := decide_eq_true c21
      clear c21
      by_cases c22 : (rd l0_2 x12_1) = (-9999)
      ·rw [if_pos c22] at H
       have c22b0 : ((rd l0_2 x12_1) == (-9999)) = true := beq_iff_eq.mpr c22
       have c22b1 : ((rd l0_2 x12_1) != (-9999)) = false := bne_eq_false_iff_eq.mpr c22
       clear c22
       focus
        have H' := Aside0.mk H
        clear H
        have hnb23 := NB427_428.out
        have hnc23 := NB428_427.out
        have hnb24 := NB427_429.out
        have hnc24 := NB429_427.out
        have hnb25 := NB427_431.out
        have hnc25 := NB431_427.out
        have hcz26_0 : wr.cell? ⟨gb427, 0, none⟩ = some (.int .i64 a0_0) := (blk_cell BK427.out 0).trans rfl
        have hcz26_1 : wr.cell? ⟨gb427, 1, none⟩ = some (.int .i64 a0_1) := (blk_cell BK427.out 1).trans rfl
        have hcz26_2 : wr.cell? ⟨gb427, 2, none⟩ = some (.slice A0_2 l0_2.length c0_2) := (blk_cell BK427.out 2).trans rfl
        have hfz26_0 := blk_frozen BK427.out 0
        have hfz26_1 := blk_frozen BK427.out 1
        have hfz26_2 := blk_frozen BK427.out 2
        have p432 : 0 ≤ (x12_1 : Int) := of_decide_eq_true zax
        have q432 : x12_1 < (l0_2.length : Int) := of_decide_eq_true zax
        obtain ⟨ad432, e432, hx432_0⟩ := Kd.at_int HR0_2.out x12_1 p432 q432
        cases e432
        replace hx432_0 := (HB.out.cell (World.block_lt_of_cell? w _ hx432_0)).trans hx432_0
        replace p432 := eq_true p432
        replace q432 := eq_true q432
        go_wp2
        go_roundg k1
        case measure => have := HK1.out; omega
        case rel => exact ⟨(x9_1), (x11_1), (wrap64 (x12_1 + 1)), (x432000_1), (x432001_1), zrx, zrx, zrx, H', ⟨by have := HK1.out; omega⟩, ⟨by refine zbx ?_; exact BK427.out⟩, ⟨by refine zbx ?_; exact BK428.out⟩, ⟨by refine zbx ?_; exact BK429.out⟩, ⟨by refine zbx ?_; exact BK431.out⟩, ⟨zhB HB.out⟩⟩
      ·rw [if_neg c22] at H
       have c22b0 : ((rd l0_2 x12_1) == (-9999)) = false := beq_eq_false_iff_ne.mpr c22
       have c22b1 : ((rd l0_2 x12_1) != (-9999)) = true := bne_iff_ne.mpr c22
       replace H := Option.bind_eq_some_iff.mp H
       obtain ⟨⟨t434, t435, t436, t437⟩, A270, H⟩ := H
       replace H : ((spec_ThreatScore.f k1 t434 t435 t436 t437).bind fun bt438 => (if bt438.2.2 = true then (if x11_1 = true then ((spec_l20Less.f x432000_1 x432001_1 bt438.1 bt438.2.1).bind fun t442 => (if t442 = true then (spec_BestLimit.l0 k1 a2 (wrap64 ((rd l0_2 x12_1) - 1)) true (wrap64 (x12_1 + 1)) a0_0 a0_1 l0_2 a1_0 a1_1 l1_2 bt438.1 bt438.2.1) else (if (bt438.1 == x432000_1 && (bt438.2.1 == x432001_1)) = true then (if (wrap64 ((rd l0_2 x12_1) - 1)) < x9_1 then (spec_BestLimit.l0 k1 a2 (wrap64 ((rd l0_2 x12_1) - 1)) true (wrap64 (x12_1 + 1)) a0_0 a0_1 l0_2 a1_0 a1_1 l1_2 bt438.1 bt438.2.1) else (spec_BestLimit.l0 k1 a2 x9_1 x11_1 (wrap64 (x12_1 + 1)) a0_0 a0_1 l0_2 a1_0 a1_1 l1_2 x432000_1 x432001_1)) else (spec_BestLimit.l0 k1 a2 x9_1 x11_1 (wrap64 (x12_1 + 1)) a0_0 a0_1 l0_2 a1_0 a1_1 l1_2 x432000_1 x432001_1)))) else (spec_BestLimit.l0 k1 a2 (wrap64 ((rd l0_2 x12_1) - 1)) true (wrap64 (x12_1 + 1)) a0_0 a0_1 l0_2 a1_0 a1_1 l1_2 bt438.1 bt438.2.1)) else (spec_BestLimit.l0 k1 a2 x9_1 x11_1 (wrap64 (x12_1 + 1)) a0_0 a0_1 l0_2 a1_0 a1_1 l1_2 x432000_1 x432001_1))) = some (r1, r2, r3, r4) := H
       have A27 := Aside0.mk A270
       clear A270
       replace H := Option.bind_eq_some_iff.mp H
       obtain ⟨⟨t438, t439, t440⟩, A280, H⟩ := H
       replace H : (if t440 = true then (if x11_1 = true then ((spec_l20Less.f x432000_1 x432001_1 t438 t439).bind fun t442 => (if t442 = true then (spec_BestLimit.l0 k1 a2 (wrap64 ((rd l0_2 x12_1) - 1)) true (wrap64 (x12_1 + 1)) a0_0 a0_1 l0_2 a1_0 a1_1 l1_2 t438 t439) else (if (t438 == x432000_1 && (t439 == x432001_1)) = true then (if (wrap64 ((rd l0_2 x12_1) - 1)) < x9_1 then (spec_BestLimit.l0 k1 a2 (wrap64 ((rd l0_2 x12_1) - 1)) true (wrap64 (x12_1 + 1)) a0_0 a0_1 l0_2 a1_0 a1_1 l1_2 t438 t439) else (spec_BestLimit.l0 k1 a2 x9_1 x11_1 (wrap64 (x12_1 + 1)) a0_0 a0_1 l0_2 a1_0 a1_1 l1_2 x432000_1 x432001_1)) else (spec_BestLimit.l0 k1 a2 x9_1 x11_1 (wrap64 (x12_1 + 1)) a0_0 a0_1 l0_2 a1_0 a1_1 l1_2 x432000_1 x432001_1)))) else (spec_BestLimit.l0 k1 a2 (wrap64 ((rd l0_2 x12_1) - 1)) true (wrap64 (x12_1 + 1)) a0_0 a0_1 l0_2 a1_0 a1_1 l1_2 t438 t439)) else (spec_BestLimit.l0 k1 a2 x9_1 x11_1 (wrap64 (x12_1 + 1)) a0_0 a0_1 l0_2 a1_0 a1_1 l1_2 x432000_1 x432001_1)) = some (r1, r2, r3, r4) := H
       have A28 := Aside0.mk A280
       clear A280
       by_cases c29 : t440 = true
       ·subst c29
        rw [if_pos rfl] at H
        by_cases c30 : x11_1 = true
        ·subst c30
         rw [if_pos rfl] at H
         replace H := Option.bind_eq_some_iff.mp H
         obtain ⟨t442, A310, H⟩ := H
         replace H : (if t442 = true then (spec_BestLimit.l0 k1 a2 (wrap64 ((rd l0_2 x12_1) - 1)) true (wrap64 (x12_1 + 1)) a0_0 a0_1 l0_2 a1_0 a1_1 l1_2 t438 t439) else (if (t438 == x432000_1 && (t439 == x432001_1)) = true then (if (wrap64 ((rd l0_2 x12_1) - 1)) < x9_1 then (spec_BestLimit.l0 k1 a2 (wrap64 ((rd l0_2 x12_1) - 1)) true (wrap64 (x12_1 + 1)) a0_0 a0_1 l0_2 a1_0 a1_1 l1_2 t438 t439) else (spec_BestLimit.l0 k1 a2 x9_1 true (wrap64 (x12_1 + 1)) a0_0 a0_1 l0_2 a1_0 a1_1 l1_2 x432000_1 x432001_1)) else (spec_BestLimit.l0 k1 a2 x9_1 true (wrap64 (x12_1 + 1)) a0_0 a0_1 l0_2 a1_0 a1_1 l1_2 x432000_1 x432001_1))) = some (r1, r2, r3, r4) := H
         have A31 := Aside0.mk A310
         clear A310
         by_cases c32 : t442 = true
         ·subst c32
          rw [if_pos rfl] at H
          focus
           have H' := Aside0.mk H
           clear H
           have hnb33 := NB427_428.out
           have hnc33 := NB428_427.out
           have hnb34 := NB427_429.out
           have hnc34 := NB429_427.out
           have hnb35 := NB427_431.out
           have hnc35 := NB431_427.out
           have hcz36_0 : wr.cell? ⟨gb427, 0, none⟩ = some (.int .i64 a0_0) := (blk_cell BK427.out 0).trans rfl
           have hcz36_1 : wr.cell? ⟨gb427, 1, none⟩ = some (.int .i64 a0_1) := (blk_cell BK427.out 1).trans rfl
           have hcz36_2 : wr.cell? ⟨gb427, 2, none⟩ = some (.slice A0_2 l0_2.length c0_2) := (blk_cell BK427.out 2).trans rfl
           have hfz36_0 := blk_frozen BK427.out 0
           have hfz36_1 := blk_frozen BK427.out 1
           have hfz36_2 := blk_frozen BK427.out 2
           have p432 : 0 ≤ (x12_1 : Int) := of_decide_eq_true zax
           have q432 : x12_1 < (l0_2.length : Int) := of_decide_eq_true zax
           obtain ⟨ad432, e432, hx432_0⟩ := Kd.at_int HR0_2.out x12_1 p432 q432
           cases e432
           replace hx432_0 := (HB.out.cell (World.block_lt_of_cell? w _ hx432_0)).trans hx432_0
           replace p432 := eq_true p432
           replace q432 := eq_true q432
           have p433 : 0 ≤ (x12_1 : Int) := of_decide_eq_true zax
           have q433 : x12_1 < (l0_2.length : Int) := of_decide_eq_true zax
           obtain ⟨ad433, e433, hx433_0⟩ := Kd.at_int HR0_2.out x12_1 p433 q433
           obtain rfl : ad432 = ad433 := (by injection e433)
           replace hx433_0 := (HB.out.cell (World.block_lt_of_cell? w _ hx433_0)).trans hx433_0
           replace p433 := eq_true p433
           replace q433 := eq_true q433
           have hnb37 := NB428_429.out
           have hnc37 := NB429_428.out
           have hnb38 := NB428_431.out
           have hnc38 := NB431_428.out
           have hcz39_0 : wr.cell? ⟨gb428, 0, none⟩ = some (.int .i64 a1_0) := (blk_cell BK428.out 0).trans rfl
           have hcz39_1 : wr.cell? ⟨gb428, 1, none⟩ = some (.int .i64 a1_1) := (blk_cell BK428.out 1).trans rfl
           have hcz39_2 : wr.cell? ⟨gb428, 2, none⟩ = some (.slice A1_2 l1_2.length c1_2) := (blk_cell BK428.out 2).trans rfl
           have hfz39_0 := blk_frozen BK428.out 0
           have hfz39_1 := blk_frozen BK428.out 1
           have hfz39_2 := blk_frozen BK428.out 2
           go_wp2_with (first | ((with_reducible refine gate_callee (f := 37) rfl ?_); refine goesL_ (some 46) rfl rfl Try.func37 (by kernel_rfl) rfl #[.agg #[.int .i64 a0_0, .int .i64 a0_1, .slice (some ad432) l0_2.length c0_2], .agg #[.int .i64 a1_0, .int .i64 a1_1, .slice A1_2 l1_2.length c1_2], .int .i64 (wrap64 ((rd l0_2 x12_1) - 1)), .int .i64 a2] rfl zlx ?_; (with_reducible refine (spec_l20Count.calls k1 a0_0 a0_1 _ _ l0_2 a1_0 a1_1 _ _ l1_2 (wrap64 ((rd l0_2 x12_1) - 1)) a2 t434 t435 t436 t437 _ ?side1 ?side2 ?side3 ?side4 A27.out).mono ?_); (case side1 => exact zCx (Kd.C_below HR0_2.out HB.out)); (case side2 => exact HC0_2.out); (case side3 => exact zCx (Kd.C_below HR1_2.out HB.out)); (case side4 => exact HC1_2.out); rintro e w40 ⟨rfl, hb⟩; refine ⟨_, rfl, ?_⟩; replace BK427 := zbl BK427.out hb; replace BK428 := zbl BK428.out hb; replace BK429 := zbl BK429.out hb; replace BK431 := zbl BK431.out hb; replace HB := Aside0.mk (below_step (zhB HB.out) hb); (try clear hb)) | ((with_reducible refine gate_callee (f := 16) rfl ?_); refine goesL_ (some 47) rfl rfl Try.func16 (by kernel_rfl) rfl #[.agg #[.int .i64 t434, .int .i64 t435, .int .i64 t436, .int .i64 t437]] rfl zlx ?_; (with_reducible refine (spec_ThreatScore.calls k1 t434 t435 t436 t437 t438 t439 true _ A28.out).mono ?_); rintro e w41 ⟨rfl, hb⟩; refine ⟨_, rfl, ?_⟩; replace BK427 := zbl BK427.out hb; replace BK428 := zbl BK428.out hb; replace BK429 := zbl BK429.out hb; replace BK431 := zbl BK431.out hb; replace HB := Aside0.mk (below_step (zhB HB.out) hb); (try clear hb)) | ((with_reducible refine gate_dst (N := 14) rfl ?_); refine box_event ?hg (N := 14) ?hd (cs := #[.int .i64 0, .int .i64 0]) (t := 37) ?hr ?_; (case hd => rfl); (case hg => rfl); (case hr => exact zsx); intro gb441 hg w42 hbox hb; have BK441 := Aside0.mk (hbox); have GW441 := zns hg HB.out; have GE441 := zns hg HB.out; replace HB := Aside0.mk (below_step (zhB HB.out) hb); have NB427_441 := znl hg BK427.out; have NB441_427 := zng hg BK427.out; replace BK427 := zbl BK427.out hb; have NB428_441 := znl hg BK428.out; have NB441_428 := zng hg BK428.out; replace BK428 := zbl BK428.out hb; have NB429_441 := znl hg BK429.out; have NB441_429 := zng hg BK429.out; replace BK429 := zbl BK429.out hb; have NB431_441 := znl hg BK431.out; have NB441_431 := zng hg BK431.out; replace BK431 := zbl BK431.out hb; clear hb hbox hg; have hnb43 := NB441_427.out; have hnc43 := NB427_441.out; have hnb44 := NB441_428.out; have hnc44 := NB428_441.out; have hnb45 := NB441_429.out; have hnc45 := NB429_441.out; have hnb46 := NB441_431.out; have hnc46 := NB431_441.out; have hcz47_0 : w42.cell? ⟨gb441, 0, none⟩ = some (.int .i64 0) := (blk_cell BK441.out 0).trans rfl; have hcz47_1 : w42.cell? ⟨gb441, 1, none⟩ = some (.int .i64 0) := (blk_cell BK441.out 1).trans rfl; have hfz47_0 := blk_frozen BK441.out 0; have hfz47_1 := blk_frozen BK441.out 1; have hnb48 := NB431_429.out; have hnc48 := NB429_431.out; have hcz49_0 : w42.cell? ⟨gb431, 0, none⟩ = some (.int .i64 x432000_1) := (blk_cell BK431.out 0).trans rfl; have hcz49_1 : w42.cell? ⟨gb431, 1, none⟩ = some (.int .i64 x432001_1) := (blk_cell BK431.out 1).trans rfl; have hfz49_0 := blk_frozen BK431.out 0; have hfz49_1 := blk_frozen BK431.out 1) | (go_at_call 48; (with_reducible refine (spec_l20Less.calls x432000_1 x432001_1 t438 t439 true _ A31.out).mono ?_); rintro e w50 ⟨rfl, hb⟩; replace BK427 := zbl BK427.out hb; replace BK428 := zbl BK428.out hb; replace BK429 := zbl BK429.out hb; replace BK431 := zbl BK431.out hb; replace BK441 := Aside0.mk (blk_below (g := gb441) (o := .cells #[.int .i64 t438, .int .i64 t439] 37 (0, 0)) (zbp BK441.out) hb); replace HB := Aside0.mk (below_step (zhB HB.out) hb); (try clear hb); have hcz51_0 : w50.cell? ⟨gb441, 0, none⟩ = some (.int .i64 t438) := (blk_cell BK441.out 0).trans rfl; have hcz51_1 : w50.cell? ⟨gb441, 1, none⟩ = some (.int .i64 t439) := (blk_cell BK441.out 1).trans rfl; have hfz51_0 := blk_frozen BK441.out 0; have hfz51_1 := blk_frozen BK441.out 1; have hcz52_0 : w50.cell? ⟨gb431, 0, none⟩ = some (.int .i64 x432000_1) := (blk_cell BK431.out 0).trans rfl; have hcz52_1 : w50.cell? ⟨gb431, 1, none⟩ = some (.int .i64 x432001_1) := (blk_cell BK431.out 1).trans rfl; have hfz52_0 := blk_frozen BK431.out 0; have hfz52_1 := blk_frozen BK431.out 1))
           go_roundg k1
           case measure => have := HK1.out; omega
           case rel => exact ⟨(wrap64 ((rd l0_2 x12_1) - 1)), (true), (wrap64 (x12_1 + 1)), (t438), (t439), zrx, zrx, zrx, H', ⟨by have := HK1.out; omega⟩, ⟨zbp BK427.out⟩, ⟨zbp BK428.out⟩, ⟨zbp BK429.out⟩, ⟨zbp BK431.out⟩, ⟨zhB HB.out⟩⟩
         ·replace c32 := Bool.eq_false_iff.mpr c32
          subst c32
          rw [if_neg (show ¬ (false = true) by decide)] at H
          by_cases c53 : (t438 == x432000_1 && (t439 == x432001_1)) = true
          ·rw [if_pos c53] at H
           have c53b0 : (t438 == x432000_1 && (t439 == x432001_1)) = true := c53
           (try (have c53b1 : decide (t438 = x432000_1 && (t439 == x432001_1)) = true := by simpa using c53))
           (try (have c53b2 : (t438 == x432000_1 && (t439 == x432001_1)) = true := by simpa using c53))
           clear c53
           by_cases c54 : (wrap64 ((rd l0_2 x12_1) - 1)) < x9_1
           ·rw [if_pos c54] at H
            have c54b0 : decide ((wrap64 ((rd l0_2 x12_1) - 1)) < x9_1) = true := decide_eq_true c54
            clear c54
            focus
             have H' := Aside0.mk H
             clear H
             have hnb55 := NB427_428.out
             have hnc55 := NB428_427.out
             have hnb56 := NB427_429.out
             have hnc56 := NB429_427.out
             have hnb57 := NB427_431.out
             have hnc57 := NB431_427.out
             have hcz58_0 : wr.cell? ⟨gb427, 0, none⟩ = some (.int .i64 a0_0) := (blk_cell BK427.out 0).trans rfl
             have hcz58_1 : wr.cell? ⟨gb427, 1, none⟩ = some (.int .i64 a0_1) := (blk_cell BK427.out 1).trans rfl
             have hcz58_2 : wr.cell? ⟨gb427, 2, none⟩ = some (.slice A0_2 l0_2.length c0_2) := (blk_cell BK427.out 2).trans rfl
             have hfz58_0 := blk_frozen BK427.out 0
             have hfz58_1 := blk_frozen BK427.out 1
             have hfz58_2 := blk_frozen BK427.out 2
             have p432 : 0 ≤ (x12_1 : Int) := of_decide_eq_true zax
             have q432 : x12_1 < (l0_2.length : Int) := of_decide_eq_true zax
             obtain ⟨ad432, e432, hx432_0⟩ := Kd.at_int HR0_2.out x12_1 p432 q432
             cases e432
             replace hx432_0 := (HB.out.cell (World.block_lt_of_cell? w _ hx432_0)).trans hx432_0
             replace p432 := eq_true p432
             replace q432 := eq_true q432
             have p433 : 0 ≤ (x12_1 : Int) := of_decide_eq_true zax
             have q433 : x12_1 < (l0_2.length : Int) := of_decide_eq_true zax
             obtain ⟨ad433, e433, hx433_0⟩ := Kd.at_int HR0_2.out x12_1 p433 q433
             obtain rfl : ad432 = ad433 := (by injection e433)
             replace hx433_0 := (HB.out.cell (World.block_lt_of_cell? w _ hx433_0)).trans hx433_0
             replace p433 := eq_true p433
             replace q433 := eq_true q433
             have hnb59 := NB428_429.out
             have hnc59 := NB429_428.out
             have hnb60 := NB428_431.out
             have hnc60 := NB431_428.out
             have hcz61_0 : wr.cell? ⟨gb428, 0, none⟩ = some (.int .i64 a1_0) := (blk_cell BK428.out 0).trans rfl
             have hcz61_1 : wr.cell? ⟨gb428, 1, none⟩ = some (.int .i64 a1_1) := (blk_cell BK428.out 1).trans rfl
             have hcz61_2 : wr.cell? ⟨gb428, 2, none⟩ = some (.slice A1_2 l1_2.length c1_2) := (blk_cell BK428.out 2).trans rfl
             have hfz61_0 := blk_frozen BK428.out 0
             have hfz61_1 := blk_frozen BK428.out 1
             have hfz61_2 := blk_frozen BK428.out 2
             go_wp2_with (first | ((with_reducible refine gate_callee (f := 37) rfl ?_); refine goesL_ (some 46) rfl rfl Try.func37 (by kernel_rfl) rfl #[.agg #[.int .i64 a0_0, .int .i64 a0_1, .slice (some ad432) l0_2.length c0_2], .agg #[.int .i64 a1_0, .int .i64 a1_1, .slice A1_2 l1_2.length c1_2], .int .i64 (wrap64 ((rd l0_2 x12_1) - 1)), .int .i64 a2] rfl zlx ?_; (with_reducible refine (spec_l20Count.calls k1 a0_0 a0_1 _ _ l0_2 a1_0 a1_1 _ _ l1_2 (wrap64 ((rd l0_2 x12_1) - 1)) a2 t434 t435 t436 t437 _ ?side1 ?side2 ?side3 ?side4 A27.out).mono ?_); (case side1 => exact zCx (Kd.C_below HR0_2.out HB.out)); (case side2 => exact HC0_2.out); (case side3 => exact zCx (Kd.C_below HR1_2.out HB.out)); (case side4 => exact HC1_2.out); rintro e w62 ⟨rfl, hb⟩; refine ⟨_, rfl, ?_⟩; replace BK427 := zbl BK427.out hb; replace BK428 := zbl BK428.out hb; replace BK429 := zbl BK429.out hb; replace BK431 := zbl BK431.out hb; replace HB := Aside0.mk (below_step (zhB HB.out) hb); (try clear hb)) | ((with_reducible refine gate_callee (f := 16) rfl ?_); refine goesL_ (some 47) rfl rfl Try.func16 (by kernel_rfl) rfl #[.agg #[.int .i64 t434, .int .i64 t435, .int .i64 t436, .int .i64 t437]] rfl zlx ?_; (with_reducible refine (spec_ThreatScore.calls k1 t434 t435 t436 t437 t438 t439 true _ A28.out).mono ?_); rintro e w63 ⟨rfl, hb⟩; refine ⟨_, rfl, ?_⟩; replace BK427 := zbl BK427.out hb; replace BK428 := zbl BK428.out hb; replace BK429 := zbl BK429.out hb; replace BK431 := zbl BK431.out hb; replace HB := Aside0.mk (below_step (zhB HB.out) hb); (try clear hb)) | ((with_reducible refine gate_dst (N := 14) rfl ?_); refine box_event ?hg (N := 14) ?hd (cs := #[.int .i64 0, .int .i64 0]) (t := 37) ?hr ?_; (case hd => rfl); (case hg => rfl); (case hr => exact zsx); intro gb441 hg w64 hbox hb; have BK441 := Aside0.mk (hbox); have GW441 := zns hg HB.out; have GE441 := zns hg HB.out; replace HB := Aside0.mk (below_step (zhB HB.out) hb); have NB427_441 := znl hg BK427.out; have NB441_427 := zng hg BK427.out; replace BK427 := zbl BK427.out hb; have NB428_441 := znl hg BK428.out; have NB441_428 := zng hg BK428.out; replace BK428 := zbl BK428.out hb; have NB429_441 := znl hg BK429.out; have NB441_429 := zng hg BK429.out; replace BK429 := zbl BK429.out hb; have NB431_441 := znl hg BK431.out; have NB441_431 := zng hg BK431.out; replace BK431 := zbl BK431.out hb; clear hb hbox hg; have hnb65 := NB441_427.out; have hnc65 := NB427_441.out; have hnb66 := NB441_428.out; have hnc66 := NB428_441.out; have hnb67 := NB441_429.out; have hnc67 := NB429_441.out; have hnb68 := NB441_431.out; have hnc68 := NB431_441.out; have hcz69_0 : w64.cell? ⟨gb441, 0, none⟩ = some (.int .i64 0) := (blk_cell BK441.out 0).trans rfl; have hcz69_1 : w64.cell? ⟨gb441, 1, none⟩ = some (.int .i64 0) := (blk_cell BK441.out 1).trans rfl; have hfz69_0 := blk_frozen BK441.out 0; have hfz69_1 := blk_frozen BK441.out 1; have hnb70 := NB431_429.out; have hnc70 := NB429_431.out; have hcz71_0 : w64.cell? ⟨gb431, 0, none⟩ = some (.int .i64 x432000_1) := (blk_cell BK431.out 0).trans rfl; have hcz71_1 : w64.cell? ⟨gb431, 1, none⟩ = some (.int .i64 x432001_1) := (blk_cell BK431.out 1).trans rfl; have hfz71_0 := blk_frozen BK431.out 0; have hfz71_1 := blk_frozen BK431.out 1) | (go_at_call 48; (with_reducible refine (spec_l20Less.calls x432000_1 x432001_1 t438 t439 false _ A31.out).mono ?_); rintro e w72 ⟨rfl, hb⟩; replace BK427 := zbl BK427.out hb; replace BK428 := zbl BK428.out hb; replace BK429 := zbl BK429.out hb; replace BK431 := zbl BK431.out hb; replace BK441 := Aside0.mk (blk_below (g := gb441) (o := .cells #[.int .i64 t438, .int .i64 t439] 37 (0, 0)) (zbp BK441.out) hb); replace HB := Aside0.mk (below_step (zhB HB.out) hb); (try clear hb); have hcz73_0 : w72.cell? ⟨gb441, 0, none⟩ = some (.int .i64 t438) := (blk_cell BK441.out 0).trans rfl; have hcz73_1 : w72.cell? ⟨gb441, 1, none⟩ = some (.int .i64 t439) := (blk_cell BK441.out 1).trans rfl; have hfz73_0 := blk_frozen BK441.out 0; have hfz73_1 := blk_frozen BK441.out 1; have hcz74_0 : w72.cell? ⟨gb431, 0, none⟩ = some (.int .i64 x432000_1) := (blk_cell BK431.out 0).trans rfl; have hcz74_1 : w72.cell? ⟨gb431, 1, none⟩ = some (.int .i64 x432001_1) := (blk_cell BK431.out 1).trans rfl; have hfz74_0 := blk_frozen BK431.out 0; have hfz74_1 := blk_frozen BK431.out 1))
             go_roundg k1
             case measure => have := HK1.out; omega
             case rel => exact ⟨(wrap64 ((rd l0_2 x12_1) - 1)), (true), (wrap64 (x12_1 + 1)), (t438), (t439), zrx, zrx, zrx, H', ⟨by have := HK1.out; omega⟩, ⟨zbp BK427.out⟩, ⟨zbp BK428.out⟩, ⟨zbp BK429.out⟩, ⟨zbp BK431.out⟩, ⟨zhB HB.out⟩⟩
           ·rw [if_neg c54] at H
            have c54b0 : decide ((wrap64 ((rd l0_2 x12_1) - 1)) < x9_1) = false := decide_eq_false c54
            clear c54
            focus
             have H' := Aside0.mk H
             clear H
             have hnb75 := NB427_428.out
             have hnc75 := NB428_427.out
             have hnb76 := NB427_429.out
             have hnc76 := NB429_427.out
             have hnb77 := NB427_431.out
             have hnc77 := NB431_427.out
             have hcz78_0 : wr.cell? ⟨gb427, 0, none⟩ = some (.int .i64 a0_0) := (blk_cell BK427.out 0).trans rfl
             have hcz78_1 : wr.cell? ⟨gb427, 1, none⟩ = some (.int .i64 a0_1) := (blk_cell BK427.out 1).trans rfl
             have hcz78_2 : wr.cell? ⟨gb427, 2, none⟩ = some (.slice A0_2 l0_2.length c0_2) := (blk_cell BK427.out 2).trans rfl
             have hfz78_0 := blk_frozen BK427.out 0
             have hfz78_1 := blk_frozen BK427.out 1
             have hfz78_2 := blk_frozen BK427.out 2
             have p432 : 0 ≤ (x12_1 : Int) := of_decide_eq_true zax
             have q432 : x12_1 < (l0_2.length : Int) := of_decide_eq_true zax
             obtain ⟨ad432, e432, hx432_0⟩ := Kd.at_int HR0_2.out x12_1 p432 q432
             cases e432
             replace hx432_0 := (HB.out.cell (World.block_lt_of_cell? w _ hx432_0)).trans hx432_0
             replace p432 := eq_true p432
             replace q432 := eq_true q432
             have p433 : 0 ≤ (x12_1 : Int) := of_decide_eq_true zax
             have q433 : x12_1 < (l0_2.length : Int) := of_decide_eq_true zax
             obtain ⟨ad433, e433, hx433_0⟩ := Kd.at_int HR0_2.out x12_1 p433 q433
             obtain rfl : ad432 = ad433 := (by injection e433)
             replace hx433_0 := (HB.out.cell (World.block_lt_of_cell? w _ hx433_0)).trans hx433_0
             replace p433 := eq_true p433
             replace q433 := eq_true q433
             have hnb79 := NB428_429.out
             have hnc79 := NB429_428.out
             have hnb80 := NB428_431.out
             have hnc80 := NB431_428.out
             have hcz81_0 : wr.cell? ⟨gb428, 0, none⟩ = some (.int .i64 a1_0) := (blk_cell BK428.out 0).trans rfl
             have hcz81_1 : wr.cell? ⟨gb428, 1, none⟩ = some (.int .i64 a1_1) := (blk_cell BK428.out 1).trans rfl
             have hcz81_2 : wr.cell? ⟨gb428, 2, none⟩ = some (.slice A1_2 l1_2.length c1_2) := (blk_cell BK428.out 2).trans rfl
             have hfz81_0 := blk_frozen BK428.out 0
             have hfz81_1 := blk_frozen BK428.out 1
             have hfz81_2 := blk_frozen BK428.out 2
             go_wp2_with (first | ((with_reducible refine gate_callee (f := 37) rfl ?_); refine goesL_ (some 46) rfl rfl Try.func37 (by kernel_rfl) rfl #[.agg #[.int .i64 a0_0, .int .i64 a0_1, .slice (some ad432) l0_2.length c0_2], .agg #[.int .i64 a1_0, .int .i64 a1_1, .slice A1_2 l1_2.length c1_2], .int .i64 (wrap64 ((rd l0_2 x12_1) - 1)), .int .i64 a2] rfl zlx ?_; (with_reducible refine (spec_l20Count.calls k1 a0_0 a0_1 _ _ l0_2 a1_0 a1_1 _ _ l1_2 (wrap64 ((rd l0_2 x12_1) - 1)) a2 t434 t435 t436 t437 _ ?side1 ?side2 ?side3 ?side4 A27.out).mono ?_); (case side1 => exact zCx (Kd.C_below HR0_2.out HB.out)); (case side2 => exact HC0_2.out); (case side3 => exact zCx (Kd.C_below HR1_2.out HB.out)); (case side4 => exact HC1_2.out); rintro e w82 ⟨rfl, hb⟩; refine ⟨_, rfl, ?_⟩; replace BK427 := zbl BK427.out hb; replace BK428 := zbl BK428.out hb; replace BK429 := zbl BK429.out hb; replace BK431 := zbl BK431.out hb; replace HB := Aside0.mk (below_step (zhB HB.out) hb); (try clear hb)) | ((with_reducible refine gate_callee (f := 16) rfl ?_); refine goesL_ (some 47) rfl rfl Try.func16 (by kernel_rfl) rfl #[.agg #[.int .i64 t434, .int .i64 t435, .int .i64 t436, .int .i64 t437]] rfl zlx ?_; (with_reducible refine (spec_ThreatScore.calls k1 t434 t435 t436 t437 t438 t439 true _ A28.out).mono ?_); rintro e w83 ⟨rfl, hb⟩; refine ⟨_, rfl, ?_⟩; replace BK427 := zbl BK427.out hb; replace BK428 := zbl BK428.out hb; replace BK429 := zbl BK429.out hb; replace BK431 := zbl BK431.out hb; replace HB := Aside0.mk (below_step (zhB HB.out) hb); (try clear hb)) | ((with_reducible refine gate_dst (N := 14) rfl ?_); refine box_event ?hg (N := 14) ?hd (cs := #[.int .i64 0, .int .i64 0]) (t := 37) ?hr ?_; (case hd => rfl); (case hg => rfl); (case hr => exact zsx); intro gb441 hg w84 hbox hb; have BK441 := Aside0.mk (hbox); have GW441 := zns hg HB.out; have GE441 := zns hg HB.out; replace HB := Aside0.mk (below_step (zhB HB.out) hb); have NB427_441 := znl hg BK427.out; have NB441_427 := zng hg BK427.out; replace BK427 := zbl BK427.out hb; have NB428_441 := znl hg BK428.out; have NB441_428 := zng hg BK428.out; replace BK428 := zbl BK428.out hb; have NB429_441 := znl hg BK429.out; have NB441_429 := zng hg BK429.out; replace BK429 := zbl BK429.out hb; have NB431_441 := znl hg BK431.out; have NB441_431 := zng hg BK431.out; replace BK431 := zbl BK431.out hb; clear hb hbox hg; have hnb85 := NB441_427.out; have hnc85 := NB427_441.out; have hnb86 := NB441_428.out; have hnc86 := NB428_441.out; have hnb87 := NB441_429.out; have hnc87 := NB429_441.out; have hnb88 := NB441_431.out; have hnc88 := NB431_441.out; have hcz89_0 : w84.cell? ⟨gb441, 0, none⟩ = some (.int .i64 0) := (blk_cell BK441.out 0).trans rfl; have hcz89_1 : w84.cell? ⟨gb441, 1, none⟩ = some (.int .i64 0) := (blk_cell BK441.out 1).trans rfl; have hfz89_0 := blk_frozen BK441.out 0; have hfz89_1 := blk_frozen BK441.out 1; have hnb90 := NB431_429.out; have hnc90 := NB429_431.out; have hcz91_0 : w84.cell? ⟨gb431, 0, none⟩ = some (.int .i64 x432000_1) := (blk_cell BK431.out 0).trans rfl; have hcz91_1 : w84.cell? ⟨gb431, 1, none⟩ = some (.int .i64 x432001_1) := (blk_cell BK431.out 1).trans rfl; have hfz91_0 := blk_frozen BK431.out 0; have hfz91_1 := blk_frozen BK431.out 1) | (go_at_call 48; (with_reducible refine (spec_l20Less.calls x432000_1 x432001_1 t438 t439 false _ A31.out).mono ?_); rintro e w92 ⟨rfl, hb⟩; replace BK427 := zbl BK427.out hb; replace BK428 := zbl BK428.out hb; replace BK429 := zbl BK429.out hb; replace BK431 := zbl BK431.out hb; replace BK441 := Aside0.mk (blk_below (g := gb441) (o := .cells #[.int .i64 t438, .int .i64 t439] 37 (0, 0)) (zbp BK441.out) hb); replace HB := Aside0.mk (below_step (zhB HB.out) hb); (try clear hb); have hcz93_0 : w92.cell? ⟨gb441, 0, none⟩ = some (.int .i64 t438) := (blk_cell BK441.out 0).trans rfl; have hcz93_1 : w92.cell? ⟨gb441, 1, none⟩ = some (.int .i64 t439) := (blk_cell BK441.out 1).trans rfl; have hfz93_0 := blk_frozen BK441.out 0; have hfz93_1 := blk_frozen BK441.out 1; have hcz94_0 : w92.cell? ⟨gb431, 0, none⟩ = some (.int .i64 x432000_1) := (blk_cell BK431.out 0).trans rfl; have hcz94_1 : w92.cell? ⟨gb431, 1, none⟩ = some (.int .i64 x432001_1) := (blk_cell BK431.out 1).trans rfl; have hfz94_0 := blk_frozen BK431.out 0; have hfz94_1 := blk_frozen BK431.out 1))
             go_roundg k1
             case measure => have := HK1.out; omega
             case rel => exact ⟨(x9_1), (true), (wrap64 (x12_1 + 1)), (x432000_1), (x432001_1), zrx, zrx, zrx, H', ⟨by have := HK1.out; omega⟩, ⟨by refine zbx ?_; exact BK427.out⟩, ⟨by refine zbx ?_; exact BK428.out⟩, ⟨by refine zbx ?_; exact BK429.out⟩, ⟨by refine zbx ?_; exact BK431.out⟩, ⟨zhB HB.out⟩⟩
          ·rw [if_neg c53] at H
           have c53b0 : (t438 == x432000_1 && (t439 == x432001_1)) = false := by simpa using c53
           (try (have c53b1 : decide (t438 = x432000_1 && (t439 == x432001_1)) = false := by simpa using c53))
           (try (have c53b2 : (t438 == x432000_1 && (t439 == x432001_1)) = false := by simpa using c53))
           (try (have c53b3 : ¬ (t438 = x432000_1 && (t439 == x432001_1)) := by simpa using c53))
           clear c53
           focus
            have H' := Aside0.mk H
            clear H
            have hnb95 := NB427_428.out
            have hnc95 := NB428_427.out
            have hnb96 := NB427_429.out
            have hnc96 := NB429_427.out
            have hnb97 := NB427_431.out
            have hnc97 := NB431_427.out
            have hcz98_0 : wr.cell? ⟨gb427, 0, none⟩ = some (.int .i64 a0_0) := (blk_cell BK427.out 0).trans rfl
            have hcz98_1 : wr.cell? ⟨gb427, 1, none⟩ = some (.int .i64 a0_1) := (blk_cell BK427.out 1).trans rfl
            have hcz98_2 : wr.cell? ⟨gb427, 2, none⟩ = some (.slice A0_2 l0_2.length c0_2) := (blk_cell BK427.out 2).trans rfl
            have hfz98_0 := blk_frozen BK427.out 0
            have hfz98_1 := blk_frozen BK427.out 1
            have hfz98_2 := blk_frozen BK427.out 2
            have p432 : 0 ≤ (x12_1 : Int) := of_decide_eq_true zax
            have q432 : x12_1 < (l0_2.length : Int) := of_decide_eq_true zax
            obtain ⟨ad432, e432, hx432_0⟩ := Kd.at_int HR0_2.out x12_1 p432 q432
            cases e432
            replace hx432_0 := (HB.out.cell (World.block_lt_of_cell? w _ hx432_0)).trans hx432_0
            replace p432 := eq_true p432
            replace q432 := eq_true q432
            have p433 : 0 ≤ (x12_1 : Int) := of_decide_eq_true zax
            have q433 : x12_1 < (l0_2.length : Int) := of_decide_eq_true zax
            obtain ⟨ad433, e433, hx433_0⟩ := Kd.at_int HR0_2.out x12_1 p433 q433
            obtain rfl : ad432 = ad433 := (by injection e433)
            replace hx433_0 := (HB.out.cell (World.block_lt_of_cell? w _ hx433_0)).trans hx433_0
            replace p433 := eq_true p433
            replace q433 := eq_true q433
            have hnb99 := NB428_429.out
            have hnc99 := NB429_428.out
            have hnb100 := NB428_431.out
            have hnc100 := NB431_428.out
            have hcz101_0 : wr.cell? ⟨gb428, 0, none⟩ = some (.int .i64 a1_0) := (blk_cell BK428.out 0).trans rfl
            have hcz101_1 : wr.cell? ⟨gb428, 1, none⟩ = some (.int .i64 a1_1) := (blk_cell BK428.out 1).trans rfl
            have hcz101_2 : wr.cell? ⟨gb428, 2, none⟩ = some (.slice A1_2 l1_2.length c1_2) := (blk_cell BK428.out 2).trans rfl
            have hfz101_0 := blk_frozen BK428.out 0
            have hfz101_1 := blk_frozen BK428.out 1
            have hfz101_2 := blk_frozen BK428.out 2
            go_wp2_with (first | ((with_reducible refine gate_callee (f := 37) rfl ?_); refine goesL_ (some 46) rfl rfl Try.func37 (by kernel_rfl) rfl #[.agg #[.int .i64 a0_0, .int .i64 a0_1, .slice (some ad432) l0_2.length c0_2], .agg #[.int .i64 a1_0, .int .i64 a1_1, .slice A1_2 l1_2.length c1_2], .int .i64 (wrap64 ((rd l0_2 x12_1) - 1)), .int .i64 a2] rfl zlx ?_; (with_reducible refine (spec_l20Count.calls k1 a0_0 a0_1 _ _ l0_2 a1_0 a1_1 _ _ l1_2 (wrap64 ((rd l0_2 x12_1) - 1)) a2 t434 t435 t436 t437 _ ?side1 ?side2 ?side3 ?side4 A27.out).mono ?_); (case side1 => exact zCx (Kd.C_below HR0_2.out HB.out)); (case side2 => exact HC0_2.out); (case side3 => exact zCx (Kd.C_below HR1_2.out HB.out)); (case side4 => exact HC1_2.out); rintro e w102 ⟨rfl, hb⟩; refine ⟨_, rfl, ?_⟩; replace BK427 := zbl BK427.out hb; replace BK428 := zbl BK428.out hb; replace BK429 := zbl BK429.out hb; replace BK431 := zbl BK431.out hb; replace HB := Aside0.mk (below_step (zhB HB.out) hb); (try clear hb)) | ((with_reducible refine gate_callee (f := 16) rfl ?_); refine goesL_ (some 47) rfl rfl Try.func16 (by kernel_rfl) rfl #[.agg #[.int .i64 t434, .int .i64 t435, .int .i64 t436, .int .i64 t437]] rfl zlx ?_; (with_reducible refine (spec_ThreatScore.calls k1 t434 t435 t436 t437 t438 t439 true _ A28.out).mono ?_); rintro e w103 ⟨rfl, hb⟩; refine ⟨_, rfl, ?_⟩; replace BK427 := zbl BK427.out hb; replace BK428 := zbl BK428.out hb; replace BK429 := zbl BK429.out hb; replace BK431 := zbl BK431.out hb; replace HB := Aside0.mk (below_step (zhB HB.out) hb); (try clear hb)) | ((with_reducible refine gate_dst (N := 14) rfl ?_); refine box_event ?hg (N := 14) ?hd (cs := #[.int .i64 0, .int .i64 0]) (t := 37) ?hr ?_; (case hd => rfl); (case hg => rfl); (case hr => exact zsx); intro gb441 hg w104 hbox hb; have BK441 := Aside0.mk (hbox); have GW441 := zns hg HB.out; have GE441 := zns hg HB.out; replace HB := Aside0.mk (below_step (zhB HB.out) hb); have NB427_441 := znl hg BK427.out; have NB441_427 := zng hg BK427.out; replace BK427 := zbl BK427.out hb; have NB428_441 := znl hg BK428.out; have NB441_428 := zng hg BK428.out; replace BK428 := zbl BK428.out hb; have NB429_441 := znl hg BK429.out; have NB441_429 := zng hg BK429.out; replace BK429 := zbl BK429.out hb; have NB431_441 := znl hg BK431.out; have NB441_431 := zng hg BK431.out; replace BK431 := zbl BK431.out hb; clear hb hbox hg; have hnb105 := NB441_427.out; have hnc105 := NB427_441.out; have hnb106 := NB441_428.out; have hnc106 := NB428_441.out; have hnb107 := NB441_429.out; have hnc107 := NB429_441.out; have hnb108 := NB441_431.out; have hnc108 := NB431_441.out; have hcz109_0 : w104.cell? ⟨gb441, 0, none⟩ = some (.int .i64 0) := (blk_cell BK441.out 0).trans rfl; have hcz109_1 : w104.cell? ⟨gb441, 1, none⟩ = some (.int .i64 0) := (blk_cell BK441.out 1).trans rfl; have hfz109_0 := blk_frozen BK441.out 0; have hfz109_1 := blk_frozen BK441.out 1; have hnb110 := NB431_429.out; have hnc110 := NB429_431.out; have hcz111_0 : w104.cell? ⟨gb431, 0, none⟩ = some (.int .i64 x432000_1) := (blk_cell BK431.out 0).trans rfl; have hcz111_1 : w104.cell? ⟨gb431, 1, none⟩ = some (.int .i64 x432001_1) := (blk_cell BK431.out 1).trans rfl; have hfz111_0 := blk_frozen BK431.out 0; have hfz111_1 := blk_frozen BK431.out 1) | (go_at_call 48; (with_reducible refine (spec_l20Less.calls x432000_1 x432001_1 t438 t439 false _ A31.out).mono ?_); rintro e w112 ⟨rfl, hb⟩; replace BK427 := zbl BK427.out hb; replace BK428 := zbl BK428.out hb; replace BK429 := zbl BK429.out hb; replace BK431 := zbl BK431.out hb; replace BK441 := Aside0.mk (blk_below (g := gb441) (o := .cells #[.int .i64 t438, .int .i64 t439] 37 (0, 0)) (zbp BK441.out) hb); replace HB := Aside0.mk (below_step (zhB HB.out) hb); (try clear hb); have hcz113_0 : w112.cell? ⟨gb441, 0, none⟩ = some (.int .i64 t438) := (blk_cell BK441.out 0).trans rfl; have hcz113_1 : w112.cell? ⟨gb441, 1, none⟩ = some (.int .i64 t439) := (blk_cell BK441.out 1).trans rfl; have hfz113_0 := blk_frozen BK441.out 0; have hfz113_1 := blk_frozen BK441.out 1; have hcz114_0 : w112.cell? ⟨gb431, 0, none⟩ = some (.int .i64 x432000_1) := (blk_cell BK431.out 0).trans rfl; have hcz114_1 : w112.cell? ⟨gb431, 1, none⟩ = some (.int .i64 x432001_1) := (blk_cell BK431.out 1).trans rfl; have hfz114_0 := blk_frozen BK431.out 0; have hfz114_1 := blk_frozen BK431.out 1))
            go_roundg k1
            case measure => have := HK1.out; omega
            case rel => exact ⟨(x9_1), (true), (wrap64 (x12_1 + 1)), (x432000_1), (x432001_1), zrx, zrx, zrx, H', ⟨by have := HK1.out; omega⟩, ⟨by refine zbx ?_; exact BK427.out⟩, ⟨by refine zbx ?_; exact BK428.out⟩, ⟨by refine zbx ?_; exact BK429.out⟩, ⟨by refine zbx ?_; exact BK431.out⟩, ⟨zhB HB.out⟩⟩
        ·replace c30 := Bool.eq_false_iff.mpr c30
         subst c30
         rw [if_neg (show ¬ (false = true) by decide)] at H
         focus
          have H' := Aside0.mk H
          clear H
          have hnb115 := NB427_428.out
          have hnc115 := NB428_427.out
          have hnb116 := NB427_429.out
          have hnc116 := NB429_427.out
          have hnb117 := NB427_431.out
          have hnc117 := NB431_427.out
          have hcz118_0 : wr.cell? ⟨gb427, 0, none⟩ = some (.int .i64 a0_0) := (blk_cell BK427.out 0).trans rfl
          have hcz118_1 : wr.cell? ⟨gb427, 1, none⟩ = some (.int .i64 a0_1) := (blk_cell BK427.out 1).trans rfl
          have hcz118_2 : wr.cell? ⟨gb427, 2, none⟩ = some (.slice A0_2 l0_2.length c0_2) := (blk_cell BK427.out 2).trans rfl
          have hfz118_0 := blk_frozen BK427.out 0
          have hfz118_1 := blk_frozen BK427.out 1
          have hfz118_2 := blk_frozen BK427.out 2
          have p432 : 0 ≤ (x12_1 : Int) := of_decide_eq_true zax
          have q432 : x12_1 < (l0_2.length : Int) := of_decide_eq_true zax
          obtain ⟨ad432, e432, hx432_0⟩ := Kd.at_int HR0_2.out x12_1 p432 q432
          cases e432
          replace hx432_0 := (HB.out.cell (World.block_lt_of_cell? w _ hx432_0)).trans hx432_0
          replace p432 := eq_true p432
          replace q432 := eq_true q432
          have p433 : 0 ≤ (x12_1 : Int) := of_decide_eq_true zax
          have q433 : x12_1 < (l0_2.length : Int) := of_decide_eq_true zax
          obtain ⟨ad433, e433, hx433_0⟩ := Kd.at_int HR0_2.out x12_1 p433 q433
          obtain rfl : ad432 = ad433 := (by injection e433)
          replace hx433_0 := (HB.out.cell (World.block_lt_of_cell? w _ hx433_0)).trans hx433_0
          replace p433 := eq_true p433
          replace q433 := eq_true q433
          have hnb119 := NB428_429.out
          have hnc119 := NB429_428.out
          have hnb120 := NB428_431.out
          have hnc120 := NB431_428.out
          have hcz121_0 : wr.cell? ⟨gb428, 0, none⟩ = some (.int .i64 a1_0) := (blk_cell BK428.out 0).trans rfl
          have hcz121_1 : wr.cell? ⟨gb428, 1, none⟩ = some (.int .i64 a1_1) := (blk_cell BK428.out 1).trans rfl
          have hcz121_2 : wr.cell? ⟨gb428, 2, none⟩ = some (.slice A1_2 l1_2.length c1_2) := (blk_cell BK428.out 2).trans rfl
          have hfz121_0 := blk_frozen BK428.out 0
          have hfz121_1 := blk_frozen BK428.out 1
          have hfz121_2 := blk_frozen BK428.out 2
          go_wp2_with (first | ((with_reducible refine gate_callee (f := 37) rfl ?_); refine goesL_ (some 46) rfl rfl Try.func37 (by kernel_rfl) rfl #[.agg #[.int .i64 a0_0, .int .i64 a0_1, .slice (some ad432) l0_2.length c0_2], .agg #[.int .i64 a1_0, .int .i64 a1_1, .slice A1_2 l1_2.length c1_2], .int .i64 (wrap64 ((rd l0_2 x12_1) - 1)), .int .i64 a2] rfl zlx ?_; (with_reducible refine (spec_l20Count.calls k1 a0_0 a0_1 _ _ l0_2 a1_0 a1_1 _ _ l1_2 (wrap64 ((rd l0_2 x12_1) - 1)) a2 t434 t435 t436 t437 _ ?side1 ?side2 ?side3 ?side4 A27.out).mono ?_); (case side1 => exact zCx (Kd.C_below HR0_2.out HB.out)); (case side2 => exact HC0_2.out); (case side3 => exact zCx (Kd.C_below HR1_2.out HB.out)); (case side4 => exact HC1_2.out); rintro e w122 ⟨rfl, hb⟩; refine ⟨_, rfl, ?_⟩; replace BK427 := zbl BK427.out hb; replace BK428 := zbl BK428.out hb; replace BK429 := zbl BK429.out hb; replace BK431 := zbl BK431.out hb; replace HB := Aside0.mk (below_step (zhB HB.out) hb); (try clear hb)) | ((with_reducible refine gate_callee (f := 16) rfl ?_); refine goesL_ (some 47) rfl rfl Try.func16 (by kernel_rfl) rfl #[.agg #[.int .i64 t434, .int .i64 t435, .int .i64 t436, .int .i64 t437]] rfl zlx ?_; (with_reducible refine (spec_ThreatScore.calls k1 t434 t435 t436 t437 t438 t439 true _ A28.out).mono ?_); rintro e w123 ⟨rfl, hb⟩; refine ⟨_, rfl, ?_⟩; replace BK427 := zbl BK427.out hb; replace BK428 := zbl BK428.out hb; replace BK429 := zbl BK429.out hb; replace BK431 := zbl BK431.out hb; replace HB := Aside0.mk (below_step (zhB HB.out) hb); (try clear hb)) | ((with_reducible refine gate_dst (N := 14) rfl ?_); refine box_event ?hg (N := 14) ?hd (cs := #[.int .i64 0, .int .i64 0]) (t := 37) ?hr ?_; (case hd => rfl); (case hg => rfl); (case hr => exact zsx); intro gb441 hg w124 hbox hb; have BK441 := Aside0.mk (hbox); have GW441 := zns hg HB.out; have GE441 := zns hg HB.out; replace HB := Aside0.mk (below_step (zhB HB.out) hb); have NB427_441 := znl hg BK427.out; have NB441_427 := zng hg BK427.out; replace BK427 := zbl BK427.out hb; have NB428_441 := znl hg BK428.out; have NB441_428 := zng hg BK428.out; replace BK428 := zbl BK428.out hb; have NB429_441 := znl hg BK429.out; have NB441_429 := zng hg BK429.out; replace BK429 := zbl BK429.out hb; have NB431_441 := znl hg BK431.out; have NB441_431 := zng hg BK431.out; replace BK431 := zbl BK431.out hb; clear hb hbox hg; have hnb125 := NB441_427.out; have hnc125 := NB427_441.out; have hnb126 := NB441_428.out; have hnc126 := NB428_441.out; have hnb127 := NB441_429.out; have hnc127 := NB429_441.out; have hnb128 := NB441_431.out; have hnc128 := NB431_441.out; have hcz129_0 : w124.cell? ⟨gb441, 0, none⟩ = some (.int .i64 0) := (blk_cell BK441.out 0).trans rfl; have hcz129_1 : w124.cell? ⟨gb441, 1, none⟩ = some (.int .i64 0) := (blk_cell BK441.out 1).trans rfl; have hfz129_0 := blk_frozen BK441.out 0; have hfz129_1 := blk_frozen BK441.out 1; have hnb130 := NB431_429.out; have hnc130 := NB429_431.out; have hcz131_0 : w124.cell? ⟨gb431, 0, none⟩ = some (.int .i64 x432000_1) := (blk_cell BK431.out 0).trans rfl; have hcz131_1 : w124.cell? ⟨gb431, 1, none⟩ = some (.int .i64 x432001_1) := (blk_cell BK431.out 1).trans rfl; have hfz131_0 := blk_frozen BK431.out 0; have hfz131_1 := blk_frozen BK431.out 1))
          go_roundg k1
          case measure => have := HK1.out; omega
          case rel => exact ⟨(wrap64 ((rd l0_2 x12_1) - 1)), (true), (wrap64 (x12_1 + 1)), (t438), (t439), zrx, zrx, zrx, H', ⟨by have := HK1.out; omega⟩, ⟨zbp BK427.out⟩, ⟨zbp BK428.out⟩, ⟨zbp BK429.out⟩, ⟨zbp BK431.out⟩, ⟨zhB HB.out⟩⟩
       ·replace c29 := Bool.eq_false_iff.mpr c29
        subst c29
        rw [if_neg (show ¬ (false = true) by decide)] at H
        focus
         have H' := Aside0.mk H
         clear H
         have hnb132 := NB427_428.out
         have hnc132 := NB428_427.out
         have hnb133 := NB427_429.out
         have hnc133 := NB429_427.out
         have hnb134 := NB427_431.out
         have hnc134 := NB431_427.out
         have hcz135_0 : wr.cell? ⟨gb427, 0, none⟩ = some (.int .i64 a0_0) := (blk_cell BK427.out 0).trans rfl
         have hcz135_1 : wr.cell? ⟨gb427, 1, none⟩ = some (.int .i64 a0_1) := (blk_cell BK427.out 1).trans rfl
         have hcz135_2 : wr.cell? ⟨gb427, 2, none⟩ = some (.slice A0_2 l0_2.length c0_2) := (blk_cell BK427.out 2).trans rfl
         have hfz135_0 := blk_frozen BK427.out 0
         have hfz135_1 := blk_frozen BK427.out 1
         have hfz135_2 := blk_frozen BK427.out 2
         have p432 : 0 ≤ (x12_1 : Int) := of_decide_eq_true zax
         have q432 : x12_1 < (l0_2.length : Int) := of_decide_eq_true zax
         obtain ⟨ad432, e432, hx432_0⟩ := Kd.at_int HR0_2.out x12_1 p432 q432
         cases e432
         replace hx432_0 := (HB.out.cell (World.block_lt_of_cell? w _ hx432_0)).trans hx432_0
         replace p432 := eq_true p432
         replace q432 := eq_true q432
         have p433 : 0 ≤ (x12_1 : Int) := of_decide_eq_true zax
         have q433 : x12_1 < (l0_2.length : Int) := of_decide_eq_true zax
         obtain ⟨ad433, e433, hx433_0⟩ := Kd.at_int HR0_2.out x12_1 p433 q433
         obtain rfl : ad432 = ad433 := (by injection e433)
         replace hx433_0 := (HB.out.cell (World.block_lt_of_cell? w _ hx433_0)).trans hx433_0
         replace p433 := eq_true p433
         replace q433 := eq_true q433
         have hnb136 := NB428_429.out
         have hnc136 := NB429_428.out
         have hnb137 := NB428_431.out
         have hnc137 := NB431_428.out
         have hcz138_0 : wr.cell? ⟨gb428, 0, none⟩ = some (.int .i64 a1_0) := (blk_cell BK428.out 0).trans rfl
         have hcz138_1 : wr.cell? ⟨gb428, 1, none⟩ = some (.int .i64 a1_1) := (blk_cell BK428.out 1).trans rfl
         have hcz138_2 : wr.cell? ⟨gb428, 2, none⟩ = some (.slice A1_2 l1_2.length c1_2) := (blk_cell BK428.out 2).trans rfl
         have hfz138_0 := blk_frozen BK428.out 0
         have hfz138_1 := blk_frozen BK428.out 1
         have hfz138_2 := blk_frozen BK428.out 2
         go_wp2_with (first | ((with_reducible refine gate_callee (f := 37) rfl ?_); refine goesL_ (some 46) rfl rfl Try.func37 (by kernel_rfl) rfl #[.agg #[.int .i64 a0_0, .int .i64 a0_1, .slice (some ad432) l0_2.length c0_2], .agg #[.int .i64 a1_0, .int .i64 a1_1, .slice A1_2 l1_2.length c1_2], .int .i64 (wrap64 ((rd l0_2 x12_1) - 1)), .int .i64 a2] rfl zlx ?_; (with_reducible refine (spec_l20Count.calls k1 a0_0 a0_1 _ _ l0_2 a1_0 a1_1 _ _ l1_2 (wrap64 ((rd l0_2 x12_1) - 1)) a2 t434 t435 t436 t437 _ ?side1 ?side2 ?side3 ?side4 A27.out).mono ?_); (case side1 => exact zCx (Kd.C_below HR0_2.out HB.out)); (case side2 => exact HC0_2.out); (case side3 => exact zCx (Kd.C_below HR1_2.out HB.out)); (case side4 => exact HC1_2.out); rintro e w139 ⟨rfl, hb⟩; refine ⟨_, rfl, ?_⟩; replace BK427 := zbl BK427.out hb; replace BK428 := zbl BK428.out hb; replace BK429 := zbl BK429.out hb; replace BK431 := zbl BK431.out hb; replace HB := Aside0.mk (below_step (zhB HB.out) hb); (try clear hb)) | ((with_reducible refine gate_callee (f := 16) rfl ?_); refine goesL_ (some 47) rfl rfl Try.func16 (by kernel_rfl) rfl #[.agg #[.int .i64 t434, .int .i64 t435, .int .i64 t436, .int .i64 t437]] rfl zlx ?_; (with_reducible refine (spec_ThreatScore.calls k1 t434 t435 t436 t437 t438 t439 false _ A28.out).mono ?_); rintro e w140 ⟨rfl, hb⟩; refine ⟨_, rfl, ?_⟩; replace BK427 := zbl BK427.out hb; replace BK428 := zbl BK428.out hb; replace BK429 := zbl BK429.out hb; replace BK431 := zbl BK431.out hb; replace HB := Aside0.mk (below_step (zhB HB.out) hb); (try clear hb)) | ((with_reducible refine gate_dst (N := 14) rfl ?_); refine box_event ?hg (N := 14) ?hd (cs := #[.int .i64 0, .int .i64 0]) (t := 37) ?hr ?_; (case hd => rfl); (case hg => rfl); (case hr => exact zsx); intro gb441 hg w141 hbox hb; have BK441 := Aside0.mk (hbox); have GW441 := zns hg HB.out; have GE441 := zns hg HB.out; replace HB := Aside0.mk (below_step (zhB HB.out) hb); have NB427_441 := znl hg BK427.out; have NB441_427 := zng hg BK427.out; replace BK427 := zbl BK427.out hb; have NB428_441 := znl hg BK428.out; have NB441_428 := zng hg BK428.out; replace BK428 := zbl BK428.out hb; have NB429_441 := znl hg BK429.out; have NB441_429 := zng hg BK429.out; replace BK429 := zbl BK429.out hb; have NB431_441 := znl hg BK431.out; have NB441_431 := zng hg BK431.out; replace BK431 := zbl BK431.out hb; clear hb hbox hg; have hnb142 := NB441_427.out; have hnc142 := NB427_441.out; have hnb143 := NB441_428.out; have hnc143 := NB428_441.out; have hnb144 := NB441_429.out; have hnc144 := NB429_441.out; have hnb145 := NB441_431.out; have hnc145 := NB431_441.out; have hcz146_0 : w141.cell? ⟨gb441, 0, none⟩ = some (.int .i64 0) := (blk_cell BK441.out 0).trans rfl; have hcz146_1 : w141.cell? ⟨gb441, 1, none⟩ = some (.int .i64 0) := (blk_cell BK441.out 1).trans rfl; have hfz146_0 := blk_frozen BK441.out 0; have hfz146_1 := blk_frozen BK441.out 1))
         go_roundg k1
         case measure => have := HK1.out; omega
         case rel => exact ⟨(x9_1), (x11_1), (wrap64 (x12_1 + 1)), (x432000_1), (x432001_1), zrx, zrx, zrx, H', ⟨by have := HK1.out; omega⟩, ⟨zbp BK427.out⟩, ⟨zbp BK428.out⟩, ⟨zbp BK429.out⟩, ⟨zbp BK431.out⟩, ⟨zhB HB.out⟩⟩
     ·rw [if_neg c21] at H
      exact absurd H (by simp)
    ·rw [if_neg c20] at H
     have c20b0 : decide (x12_1 < (l0_2.length : Int)) = false := decide_eq_false c20
     clear c20
     focus
      simp only [Option.some.injEq, Prod.mk.injEq] at H
      obtain ⟨rfl, rfl, rfl, rfl⟩ := H
      have hnb147 := NB427_428.out
      have hnc147 := NB428_427.out
      have hnb148 := NB427_429.out
      have hnc148 := NB429_427.out
      have hnb149 := NB427_431.out
      have hnc149 := NB431_427.out
      have hcz150_0 : wr.cell? ⟨gb427, 0, none⟩ = some (.int .i64 a0_0) := (blk_cell BK427.out 0).trans rfl
      have hcz150_1 : wr.cell? ⟨gb427, 1, none⟩ = some (.int .i64 a0_1) := (blk_cell BK427.out 1).trans rfl
      have hcz150_2 : wr.cell? ⟨gb427, 2, none⟩ = some (.slice A0_2 l0_2.length c0_2) := (blk_cell BK427.out 2).trans rfl
      have hfz150_0 := blk_frozen BK427.out 0
      have hfz150_1 := blk_frozen BK427.out 1
      have hfz150_2 := blk_frozen BK427.out 2
      try go_wp2
      replace BK427 := Aside0.mk (blk_drew BK427.out)
      replace BK428 := Aside0.mk (blk_drew BK428.out)
      replace BK429 := Aside0.mk (blk_drew BK429.out)
      replace BK431 := Aside0.mk (blk_drew BK431.out)
      replace HB := Aside0.mk (below_drew1 HB.out)
      refine start_ (n := 6) (S := fun w' => w'.cell? ⟨gb431, 0, none⟩ = some (.int .i64 x432000_1) ∧ w'.cell? ⟨gb431, 1, none⟩ = some (.int .i64 x432001_1)) (ds := []) #[F,F,F,F,F,F] (by kernel_rfl) rfl rfl ⟨(blk_cell BK431.out 0).trans rfl, (blk_cell BK431.out 1).trans rfl⟩ (fun hHeld => ?_)
      generalize wr.drew = w151 at BK427 BK428 BK429 BK431 HB hHeld ⊢
      refine pure_ (i := 0) (N := some 71) (v := ?_) (a' := ?_) #[T,F,F,F,F,F] rfl rfl (by kernel_rfl) (fun _ _ _ h => h) (Or.inl ⟨by rfl, ?_⟩) ?_ ?_
      rotate_left
      ·exact zwx
      rotate_left
      ·exact zpx
      refine pure_ (i := 2) (N := some 73) (v := ?_) (a' := ?_) #[T,F,T,F,F,F] rfl rfl (by kernel_rfl) (fun _ _ _ h => h) (Or.inl ⟨by rfl, ?_⟩) ?_ ?_
      rotate_left
      ·exact zwx
      rotate_left
      ·exact zpx
      refine pure_ (i := 3) (N := some 6) (v := ?_) (a' := ?_) #[T,F,T,T,F,F] rfl rfl (by kernel_rfl) (fun _ _ _ h => h) (Or.inl ⟨by rfl, ?_⟩) ?_ ?_
      rotate_left
      ·exact zwx
      rotate_left
      ·exact zpx
      refine take_ (i := 1) (N := some 72) (v := ?_) (a' := ?_) #[T,T,T,T,F,F] rfl rfl (by kernel_rfl) (fun _ _ _ h => h) (Or.inl ⟨by rfl, ?_⟩) hHeld ?_ ?_
      rotate_left
      ·rintro w' ⟨s0, s1⟩
       go_simp
       with_reducible rfl
      rotate_left
      ·exact zpx
      refine one_ (i := 4) (N := none) #[T,T,T,T,T,F] rfl rfl (by kernel_rfl) (by decide) (fun K hK => ?_)
      have hs152 : w151.cell? ⟨gb429, 0, none⟩ = some (.int .i64 0) := (blk_cell BK429.out 0).trans rfl
      have hfs152 := blk_frozen BK429.out 0
      have hns152_0 := NB427_429.out
      have hns152_1 := NB428_429.out
      have hns152_3 := NB431_429.out
      have hms152_0 := NB429_427.out
      have hms152_1 := NB429_428.out
      have hms152_3 := NB429_431.out
      have hs153 : w151.cell? ⟨gb429, 1, none⟩ = some (.int .i64 0) := (blk_cell BK429.out 1).trans rfl
      have hfs153 := blk_frozen BK429.out 1
      have hns153_0 := NB427_429.out
      have hns153_1 := NB428_429.out
      have hns153_3 := NB431_429.out
      have hms153_0 := NB429_427.out
      have hms153_1 := NB429_428.out
      have hms153_3 := NB429_431.out
      refine skip_ (w1 := ?_) (by rfl) rfl ?_ ?_
      rotate_left
      ·go_simp
       rfl
      refine hK.out _ _ ⟨((cell_far (p := ⟨gb429, _, none⟩) NB431_429.out _).trans (((cell_far (p := ⟨gb429, _, none⟩) NB431_429.out _).trans (hHeld.1)))), ((cell_far (p := ⟨gb429, _, none⟩) NB431_429.out _).trans (((cell_far (p := ⟨gb429, _, none⟩) NB431_429.out _).trans (hHeld.2))))⟩ (fun hHeld => ?_)
      clear hK K
      refine pure_ (i := 5) (N := some 8) (v := ?_) (a' := ?_) #[T,T,T,T,T,T] rfl rfl (by kernel_rfl) (fun _ _ _ h => h) (Or.inl ⟨by rfl, ?_⟩) ?_ ?_
      rotate_left
      ·exact zwx
      rotate_left
      ·exact zpx
      refine done_ (by kernel_rfl) ?_
      try go_wp2
      refine bodyPost_ret (results_list (rs := [.tmp 6, .cell 7 37, .tmp 8]) rfl (by simp) (.tmp (.cell gb429 37 #[.int .i64 x432000_1, .int .i64 x432001_1] (0, 0) _ rfl (zbp BK429.out) Try.underlying37 rfl (by kernel_rfl) (.tmp .nil)))) rfl ?_
      exact ⟨by first | rfl | (simp [errW_none, errW_some] <;> rfl) | (simp [*, errW_none, errW_some] <;> rfl), zhB HB.out⟩
 ·replace c5 := Bool.eq_false_iff.mpr c5
  subst c5
  rw [if_neg (show ¬ (false = true) by decide)] at H
  focus
   simp only [Option.some.injEq, Prod.mk.injEq] at H
   obtain ⟨rfl, rfl, rfl, rfl⟩ := H
   go_enter Try.func23, Try.ntmps23
   go_wp2_with (first | ((with_reducible refine gate_dst (N := 3) rfl ?_); refine box_event ?hg (N := 3) ?hd (cs := #[.int .i64 a0_0, .int .i64 a0_1, .slice A0_2 l0_2.length c0_2]) (t := 26) ?hr ?_; (case hd => rfl); (case hg => rfl); (case hr => exact zsx); intro gb427 hg w154 hbox hb; have BK427 := Aside0.mk (hbox); have GW427 := zns hg HB.out; have GE427 := zns hg HB.out; replace HB := Aside0.mk (below_step (zBx HB.out) hb); clear hb hbox hg) | ((with_reducible refine gate_dst (N := 4) rfl ?_); refine box_event ?hg (N := 4) ?hd (cs := #[.int .i64 a1_0, .int .i64 a1_1, .slice A1_2 l1_2.length c1_2]) (t := 26) ?hr ?_; (case hd => rfl); (case hg => rfl); (case hr => exact zsx); intro gb428 hg w155 hbox hb; have BK428 := Aside0.mk (hbox); have GW428 := zns hg HB.out; have GE428 := zns hg HB.out; replace HB := Aside0.mk (below_step (zBy HB.out GE427.out) hb); have NB427_428 := znl hg BK427.out; have NB428_427 := zng hg BK427.out; replace BK427 := zbl BK427.out hb; clear hb hbox hg) | ((with_reducible refine gate_dst (N := 7) rfl ?_); refine box_event ?hg (N := 7) ?hd (cs := #[.int .i64 0, .int .i64 0]) (t := 37) ?hr ?_; (case hd => rfl); (case hg => rfl); (case hr => exact zsx); intro gb429 hg w156 hbox hb; have BK429 := Aside0.mk (hbox); have GW429 := zns hg HB.out; have GE429 := zns hg HB.out; replace HB := Aside0.mk (below_step (zBz HB.out GE427.out GE428.out) hb); have NB427_429 := znl hg BK427.out; have NB429_427 := zng hg BK427.out; replace BK427 := zbl BK427.out hb; have NB428_429 := znl hg BK428.out; have NB429_428 := zng hg BK428.out; replace BK428 := zbl BK428.out hb; clear hb hbox hg; have hnb157 := NB427_428.out; have hnc157 := NB428_427.out; have hnb158 := NB427_429.out; have hnc158 := NB429_427.out; have hcz159_0 : w156.cell? ⟨gb427, 0, none⟩ = some (.int .i64 a0_0) := (blk_cell BK427.out 0).trans rfl; have hcz159_1 : w156.cell? ⟨gb427, 1, none⟩ = some (.int .i64 a0_1) := (blk_cell BK427.out 1).trans rfl; have hcz159_2 : w156.cell? ⟨gb427, 2, none⟩ = some (.slice A0_2 l0_2.length c0_2) := (blk_cell BK427.out 2).trans rfl; have hfz159_0 := blk_frozen BK427.out 0; have hfz159_1 := blk_frozen BK427.out 1; have hfz159_2 := blk_frozen BK427.out 2; have hnb160 := NB428_429.out; have hnc160 := NB429_428.out; have hcz161_0 : w156.cell? ⟨gb428, 0, none⟩ = some (.int .i64 a1_0) := (blk_cell BK428.out 0).trans rfl; have hcz161_1 : w156.cell? ⟨gb428, 1, none⟩ = some (.int .i64 a1_1) := (blk_cell BK428.out 1).trans rfl; have hcz161_2 : w156.cell? ⟨gb428, 2, none⟩ = some (.slice A1_2 l1_2.length c1_2) := (blk_cell BK428.out 2).trans rfl; have hfz161_0 := blk_frozen BK428.out 0; have hfz161_1 := blk_frozen BK428.out 1; have hfz161_2 := blk_frozen BK428.out 2) | ((with_reducible refine gate_callee (f := 36) rfl ?_); refine goesL_ (some 18) rfl rfl Try.func36 (by kernel_rfl) rfl #[.agg #[.int .i64 a0_0, .int .i64 a0_1, .slice A0_2 l0_2.length c0_2], .agg #[.int .i64 a1_0, .int .i64 a1_1, .slice A1_2 l1_2.length c1_2]] rfl zlx ?_; (with_reducible refine (spec_l2Same.calls k a0_0 a0_1 _ _ l0_2 a1_0 a1_1 _ _ l1_2 false _ ?side1 ?side2 ?side3 ?side4 A4.out).mono ?_); (case side1 => exact zCx (Kd.C_below HR0_2.out HB.out)); (case side2 => exact HC0_2.out); (case side3 => exact zCx (Kd.C_below HR1_2.out HB.out)); (case side4 => exact HC1_2.out); rintro e w162 ⟨rfl, hb⟩; refine ⟨_, rfl, ?_⟩; replace BK427 := zbl BK427.out hb; replace BK428 := zbl BK428.out hb; replace BK429 := zbl BK429.out hb; replace HB := Aside0.mk (below_step (zhB HB.out) hb); (try clear hb); have hcz163_0 : w162.cell? ⟨gb429, 0, none⟩ = some (.int .i64 0) := (blk_cell BK429.out 0).trans rfl; have hcz163_1 : w162.cell? ⟨gb429, 1, none⟩ = some (.int .i64 0) := (blk_cell BK429.out 1).trans rfl; have hfz163_0 := blk_frozen BK429.out 0; have hfz163_1 := blk_frozen BK429.out 1))
   refine bodyPost_ret (results_list (rs := [.tmp 6, .cell 7 37, .tmp 8]) rfl (by simp) (.tmp (.cell gb429 37 #[.int .i64 0, .int .i64 0] (0, 0) _ rfl (zbp BK429.out) Try.underlying37 rfl (by kernel_rfl) (.tmp .nil)))) rfl ?_
   exact ⟨by first | rfl | (simp [errW_none, errW_some] <;> rfl) | (simp [*, errW_none, errW_some] <;> rfl), zhB HB.out⟩

/-! ### laws_vHas: function 24 -/
def laws_vHas.l0 : Nat → List Int → Int → Int → Option (Bool)
 | 0, _, _, _ => none
 | k + 1, x0, x1, x5 => if x5 < (x0.length : Int) then (if 0 ≤ x5 then (if (rd x0 x5) = x1 then (some true) else (laws_vHas.l0 k x0 x1 (wrap64 (x5 + 1)))) else (none)) else (some false)
def laws_vHas.f (k : Nat) (l0 : List Int) (a1 : Int) : Option (Bool) := laws_vHas.l0 k l0 a1 0
theorem laws_vHas.mono_l : ∀ k, (∀ y0 y1 y2, LeO (laws_vHas.l0 k y0 y1 y2) (laws_vHas.l0 (k + 1) y0 y1 y2))
 | 0 => fun _ _ _ r h => by simp [laws_vHas.l0] at h
 | k + 1 => by
  have ih0 := laws_vHas.mono_l k
  ·intro y0 y1 y2
   unfold laws_vHas.l0
   repeat' first
   | (with_reducible exact ih0 _ _ _)
   | (with_reducible exact LeO.refl _)
   | (with_reducible exact LeO.none _)
   | (with_reducible refine LeO.ite ?_ ?_)
   | (with_reducible refine LeO.bind ?_ (fun _ => ?_))
   | exact ih0 _ _ _
   | exact LeO.none _
   | refine LeO.ite ?_ ?_
   | refine LeO.bind ?_ (fun _ => ?_)
theorem laws_vHas.mono : ∀ a0 a1 k, LeO (laws_vHas.f k a0 a1) (laws_vHas.f (k + 1) a0 a1) := by
 intro a0 a1 k
 have ih0 := laws_vHas.mono_l k
 unfold laws_vHas.f
 repeat' first
  | (with_reducible exact ih0 _ _ _)
  | (with_reducible exact LeO.refl _)
  | (with_reducible exact LeO.none _)
  | (with_reducible refine LeO.ite ?_ ?_)
  | (with_reducible refine LeO.bind ?_ (fun _ => ?_))
  | exact ih0 _ _ _
  | exact LeO.none _
  | refine LeO.ite ?_ ?_
  | refine LeO.bind ?_ (fun _ => ?_)
set_option maxHeartbeats 8000000 in
set_option maxRecDepth 100000 in
theorem laws_vHas.calls (k : Nat) (A0 : Option Addr) (c0 : Nat) (l0 : List Int) (a1 : Int) (r : Bool) (w : World) (hr0 : Kd.C (Kd.int .i64) w A0 l0.length l0) (hc0 : l0.length ≤ c0) (h : laws_vHas.f k l0 a1 = some r) :
 Calls Try.prog 24 #[.slice A0 l0.length c0, .int .i64 a1] w fun e w' => e = .returned (.bool r) ∧ Drawn0 w w' := by
 have HR0 := Aside0.mk hr0
 have HC0 := Aside0.mk hc0
 clear hr0 hc0
 have H : (laws_vHas.l0 k l0 a1 0) = some r := h
 clear h
 have H' := Aside0.mk H
 clear H
 go_enter Try.func24, Try.ntmps24
 go_wp2
 go_loopg [5] k (fun kq v5 w' => ∃ (x5_1 : Int), v5 = .int .i64 x5_1 ∧ Aside0 (laws_vHas.l0 kq l0 a1 x5_1 = some r) ∧ Aside0 (kq ≤ k) ∧ Drawn0 w w')
 case atStart => exact ⟨(0), zrx, H', ⟨Nat.le_refl _⟩, by repeat (first | exact Drawn0.refl _ | apply Drawn0.step)⟩
 case round =>
  clear H'
  try clear c2
  try clear p2
  obtain ⟨x5_1, rfl, HA, HK1, ⟨m1, rfl⟩⟩ := hrel
  cases gk with
  | zero => exact absurd HA.out (by simp [laws_vHas.l0])
  | succ k1 =>
   have H := HA.out
   clear HA
   simp only [laws_vHas.l0] at H
   by_cases c3 : x5_1 < (l0.length : Int)
   ·rw [if_pos c3] at H
    have c3b0 : decide (x5_1 < (l0.length : Int)) = true := decide_eq_true c3
    clear c3
    by_cases c4 : 0 ≤ x5_1
    ·rw [if_pos c4] at H
     have c4b0 : decide (0 ≤ x5_1) = true := decide_eq_true c4
     clear c4
     by_cases c5 : (rd l0 x5_1) = a1
     ·rw [if_pos c5] at H
      have c5b0 : ((rd l0 x5_1) == a1) = true := beq_iff_eq.mpr c5
      have c5b1 : ((rd l0 x5_1) != a1) = false := bne_eq_false_iff_eq.mpr c5
      clear c5
      focus
       obtain rfl := Option.some.inj H
       have p443 : 0 ≤ (x5_1 : Int) := of_decide_eq_true zax
       have q443 : x5_1 < (l0.length : Int) := of_decide_eq_true zax
       obtain ⟨ad443, e443, hx443_0⟩ := Kd.at_int HR0.out x5_1 p443 q443
       cases e443
       replace p443 := eq_true p443
       replace q443 := eq_true q443
       go_wp2
       go_ret
       exact ⟨by first | rfl | (simp; done) | (simp [*]; done), by repeat (first | exact Drawn0.refl _ | apply Drawn0.step)⟩
     ·rw [if_neg c5] at H
      have c5b0 : ((rd l0 x5_1) == a1) = false := beq_eq_false_iff_ne.mpr c5
      have c5b1 : ((rd l0 x5_1) != a1) = true := bne_iff_ne.mpr c5
      focus
       have H' := Aside0.mk H
       clear H
       have p443 : 0 ≤ (x5_1 : Int) := of_decide_eq_true zax
       have q443 : x5_1 < (l0.length : Int) := of_decide_eq_true zax
       obtain ⟨ad443, e443, hx443_0⟩ := Kd.at_int HR0.out x5_1 p443 q443
       cases e443
       replace p443 := eq_true p443
       replace q443 := eq_true q443
       go_wp2
       go_roundg k1
       case measure => have := HK1.out; omega
       case rel => exact ⟨(wrap64 (x5_1 + 1)), zrx, H', ⟨by have := HK1.out; omega⟩, by repeat (first | exact Drawn0.refl _ | apply Drawn0.step)⟩
    ·rw [if_neg c4] at H
     exact absurd H (by simp)
   ·rw [if_neg c3] at H
    have c3b0 : decide (x5_1 < (l0.length : Int)) = false := decide_eq_false c3
    clear c3
    focus
     obtain rfl := Option.some.inj H
     go_wp2
     go_ret
     exact ⟨by first | rfl | (simp; done) | (simp [*]; done), by repeat (first | exact Drawn0.refl _ | apply Drawn0.step)⟩

/-! ### spec_l1Cur_table: function 49 -/
def spec_l1Cur_table.f (s0_0 : List Int) (s0_1 : Int) (s0_2 : Int) : Option (Int × Int × Int × Int × Int × Int) := (spec_l1Cur_pick.f s0_0 s0_1 s0_2 12).bind fun bt445 => ((spec_l1Cur_pick.f s0_0 bt445.2.1 bt445.2.2 8).bind fun bt448 => ((spec_l1Cur_pick.f s0_0 bt448.2.1 bt448.2.2 8).bind fun bt451 => ((spec_l1Cur_pick.f s0_0 bt451.2.1 bt451.2.2 40).bind fun bt454 => ((spec_l1Cur_pick.f s0_0 bt454.2.1 bt454.2.2 16).bind fun bt458 => (if bt458.1 = 0 then ((spec_l1Cur_among.f s0_0 bt458.2.1 bt458.2.2 (([0, 1000000, 1000001, (-1)] : List Int))).bind fun bt464 => (some (bt464.1, bt448.1, bt451.1, bt454.1, bt464.2.1, bt464.2.2))) else (if bt458.1 = 1 then (some (bt445.1, 0, 0, bt454.1, bt458.2.1, bt458.2.2)) else (if bt458.1 = 2 then ((spec_l1Cur_among.f s0_0 bt458.2.1 bt458.2.2 (([0, 5, 1000000] : List Int))).bind fun bt470 => (some (0, 0, 0, bt470.1, bt470.2.1, bt470.2.2))) else (some (bt445.1, bt448.1, bt451.1, bt454.1, bt458.2.1, bt458.2.2)))))))))
set_option maxHeartbeats 8000000 in
set_option maxRecDepth 100000 in
theorem spec_l1Cur_table.calls (g : Nat) (s0_0 : List Int) (s0_1 : Int) (s0_2 : Int) (r1 : Int) (r2 : Int) (r3 : Int) (r4 : Int) (r5 : Int) (r6 : Int) (w0 w : World) (hI : IsS51 w0 w g s0_0 s0_1 s0_2) (hB : Below w0.heap.size w0 w) (h : spec_l1Cur_table.f s0_0 s0_1 s0_2 = some (r1, r2, r3, r4, r5, r6)) :
 Calls Try.prog 49 #[.pointer (some ⟨g, 0, none⟩)] w fun e w' => e = .returned (.agg #[.int .i64 r1, .int .i64 r2, .int .i64 r3, .int .i64 r4]) ∧ IsS51 w0 w' g s0_0 r5 r6 ∧ Below w0.heap.size w0 w' ∧ KeepBut w w' g none := by
 have hu30 := Try.underlying30
 have HI0 := Aside0.mk hI
 have HK := Aside0.mk (KeepBut.refl w g none)
 have HL := Aside0.mk hB.size
 clear hI
 have HW0 := Aside0.mk hB.size
 have HB := Aside0.mk hB
 clear hB
 have H : ((spec_l1Cur_pick.f s0_0 s0_1 s0_2 12).bind fun bt445 => ((spec_l1Cur_pick.f s0_0 bt445.2.1 bt445.2.2 8).bind fun bt448 => ((spec_l1Cur_pick.f s0_0 bt448.2.1 bt448.2.2 8).bind fun bt451 => ((spec_l1Cur_pick.f s0_0 bt451.2.1 bt451.2.2 40).bind fun bt454 => ((spec_l1Cur_pick.f s0_0 bt454.2.1 bt454.2.2 16).bind fun bt458 => (if bt458.1 = 0 then ((spec_l1Cur_among.f s0_0 bt458.2.1 bt458.2.2 (([0, 1000000, 1000001, (-1)] : List Int))).bind fun bt464 => (some (bt464.1, bt448.1, bt451.1, bt454.1, bt464.2.1, bt464.2.2))) else (if bt458.1 = 1 then (some (bt445.1, 0, 0, bt454.1, bt458.2.1, bt458.2.2)) else (if bt458.1 = 2 then ((spec_l1Cur_among.f s0_0 bt458.2.1 bt458.2.2 (([0, 5, 1000000] : List Int))).bind fun bt470 => (some (0, 0, 0, bt470.1, bt470.2.1, bt470.2.2))) else (some (bt445.1, bt448.1, bt451.1, bt454.1, bt458.2.1, bt458.2.2)))))))))) = some (r1, r2, r3, r4, r5, r6) := h
 clear h
 replace H := Option.bind_eq_some_iff.mp H
 obtain ⟨⟨t445, t446, t447⟩, A20, H⟩ := H
 replace H : ((spec_l1Cur_pick.f s0_0 t446 t447 8).bind fun bt448 => ((spec_l1Cur_pick.f s0_0 bt448.2.1 bt448.2.2 8).bind fun bt451 => ((spec_l1Cur_pick.f s0_0 bt451.2.1 bt451.2.2 40).bind fun bt454 => ((spec_l1Cur_pick.f s0_0 bt454.2.1 bt454.2.2 16).bind fun bt458 => (if bt458.1 = 0 then ((spec_l1Cur_among.f s0_0 bt458.2.1 bt458.2.2 (([0, 1000000, 1000001, (-1)] : List Int))).bind fun bt464 => (some (bt464.1, bt448.1, bt451.1, bt454.1, bt464.2.1, bt464.2.2))) else (if bt458.1 = 1 then (some (t445, 0, 0, bt454.1, bt458.2.1, bt458.2.2)) else (if bt458.1 = 2 then ((spec_l1Cur_among.f s0_0 bt458.2.1 bt458.2.2 (([0, 5, 1000000] : List Int))).bind fun bt470 => (some (0, 0, 0, bt470.1, bt470.2.1, bt470.2.2))) else (some (t445, bt448.1, bt451.1, bt454.1, bt458.2.1, bt458.2.2))))))))) = some (r1, r2, r3, r4, r5, r6) := H
 have A2 := Aside0.mk A20
 clear A20
 replace H := Option.bind_eq_some_iff.mp H
 obtain ⟨⟨t448, t449, t450⟩, A30, H⟩ := H
 replace H : ((spec_l1Cur_pick.f s0_0 t449 t450 8).bind fun bt451 => ((spec_l1Cur_pick.f s0_0 bt451.2.1 bt451.2.2 40).bind fun bt454 => ((spec_l1Cur_pick.f s0_0 bt454.2.1 bt454.2.2 16).bind fun bt458 => (if bt458.1 = 0 then ((spec_l1Cur_among.f s0_0 bt458.2.1 bt458.2.2 (([0, 1000000, 1000001, (-1)] : List Int))).bind fun bt464 => (some (bt464.1, t448, bt451.1, bt454.1, bt464.2.1, bt464.2.2))) else (if bt458.1 = 1 then (some (t445, 0, 0, bt454.1, bt458.2.1, bt458.2.2)) else (if bt458.1 = 2 then ((spec_l1Cur_among.f s0_0 bt458.2.1 bt458.2.2 (([0, 5, 1000000] : List Int))).bind fun bt470 => (some (0, 0, 0, bt470.1, bt470.2.1, bt470.2.2))) else (some (t445, t448, bt451.1, bt454.1, bt458.2.1, bt458.2.2)))))))) = some (r1, r2, r3, r4, r5, r6) := H
 have A3 := Aside0.mk A30
 clear A30
 replace H := Option.bind_eq_some_iff.mp H
 obtain ⟨⟨t451, t452, t453⟩, A40, H⟩ := H
 replace H : ((spec_l1Cur_pick.f s0_0 t452 t453 40).bind fun bt454 => ((spec_l1Cur_pick.f s0_0 bt454.2.1 bt454.2.2 16).bind fun bt458 => (if bt458.1 = 0 then ((spec_l1Cur_among.f s0_0 bt458.2.1 bt458.2.2 (([0, 1000000, 1000001, (-1)] : List Int))).bind fun bt464 => (some (bt464.1, t448, t451, bt454.1, bt464.2.1, bt464.2.2))) else (if bt458.1 = 1 then (some (t445, 0, 0, bt454.1, bt458.2.1, bt458.2.2)) else (if bt458.1 = 2 then ((spec_l1Cur_among.f s0_0 bt458.2.1 bt458.2.2 (([0, 5, 1000000] : List Int))).bind fun bt470 => (some (0, 0, 0, bt470.1, bt470.2.1, bt470.2.2))) else (some (t445, t448, t451, bt454.1, bt458.2.1, bt458.2.2))))))) = some (r1, r2, r3, r4, r5, r6) := H
 have A4 := Aside0.mk A40
 clear A40
 replace H := Option.bind_eq_some_iff.mp H
 obtain ⟨⟨t454, t455, t456⟩, A50, H⟩ := H
 replace H : ((spec_l1Cur_pick.f s0_0 t455 t456 16).bind fun bt458 => (if bt458.1 = 0 then ((spec_l1Cur_among.f s0_0 bt458.2.1 bt458.2.2 (([0, 1000000, 1000001, (-1)] : List Int))).bind fun bt464 => (some (bt464.1, t448, t451, t454, bt464.2.1, bt464.2.2))) else (if bt458.1 = 1 then (some (t445, 0, 0, t454, bt458.2.1, bt458.2.2)) else (if bt458.1 = 2 then ((spec_l1Cur_among.f s0_0 bt458.2.1 bt458.2.2 (([0, 5, 1000000] : List Int))).bind fun bt470 => (some (0, 0, 0, bt470.1, bt470.2.1, bt470.2.2))) else (some (t445, t448, t451, t454, bt458.2.1, bt458.2.2)))))) = some (r1, r2, r3, r4, r5, r6) := H
 have A5 := Aside0.mk A50
 clear A50
 replace H := Option.bind_eq_some_iff.mp H
 obtain ⟨⟨t458, t459, t460⟩, A60, H⟩ := H
 replace H : (if t458 = 0 then ((spec_l1Cur_among.f s0_0 t459 t460 (([0, 1000000, 1000001, (-1)] : List Int))).bind fun bt464 => (some (bt464.1, t448, t451, t454, bt464.2.1, bt464.2.2))) else (if t458 = 1 then (some (t445, 0, 0, t454, t459, t460)) else (if t458 = 2 then ((spec_l1Cur_among.f s0_0 t459 t460 (([0, 5, 1000000] : List Int))).bind fun bt470 => (some (0, 0, 0, bt470.1, bt470.2.1, bt470.2.2))) else (some (t445, t448, t451, t454, t459, t460))))) = some (r1, r2, r3, r4, r5, r6) := H
 have A6 := Aside0.mk A60
 clear A60
 by_cases c7 : t458 = 0
 ·rw [if_pos c7] at H
  have c7b0 : (t458 == 0) = true := beq_iff_eq.mpr c7
  have c7b1 : (t458 != 0) = false := bne_eq_false_iff_eq.mpr c7
  clear c7
  obtain ⟨y461, hy461⟩ : ∃ y_ : List Int, y_ = (([0, 1000000, 1000001, (-1)] : List Int)) := ⟨_, rfl⟩
  replace H : ((spec_l1Cur_among.f s0_0 t459 t460 y461).bind fun bt464 => (some (bt464.1, t448, t451, t454, bt464.2.1, bt464.2.2))) = some (r1, r2, r3, r4, r5, r6) := by first | (rw [hy461]; with_reducible exact H) | (have H2_ := (Option.bind_some _ _).symm.trans H; rw [hy461]; with_reducible exact H2_) | (have H2_ := (Option.bind_some _ _).symm.trans H; with_reducible exact H2_) | with_reducible exact H | (rw [hy461]; exact H) | exact H
  have Ny461 := Aside0.mk hy461
  clear hy461
  replace H := Option.bind_eq_some_iff.mp H
  obtain ⟨⟨t464, t465, t466⟩, A80, H⟩ := H
  replace H : (some (t464, t448, t451, t454, t465, t466)) = some (r1, r2, r3, r4, r5, r6) := H
  have A8 := Aside0.mk A80
  clear A80
  focus
   simp only [Option.some.injEq, Prod.mk.injEq] at H
   obtain ⟨rfl, rfl, rfl, rfl, rfl, rfl⟩ := H
   go_enter Try.func49, Try.ntmps49
   go_wp2_with (first | ((with_reducible refine gate_dst (N := 2) rfl ?_); refine box_event ?hg (N := 2) ?hd (cs := #[.int .i64 0, .int .i64 0, .int .i64 0, .int .i64 0]) (t := 30) ?hr ?_; (case hd => rfl); (case hg => rfl); (case hr => exact zsx); intro gb444 hg w9 hbox hb; replace HB := Aside0.mk (below_step (by first | exact zBy HB.out (IsS51.ge HI0.out) | exact zBx HB.out) hb); have BK444 := Aside0.mk (hbox); have GW444 := Aside0.mk ((by rw [hg]; exact (keep_size (w := w) (g := g) (row := none) (zKx HK.out)) : w.heap.size ≤ gb444)); have GE444 := Aside0.mk ((Nat.le_trans HW0.out (by rw [hg]; exact (keep_size (w := w) (g := g) (row := none) (zKx HK.out)) : w.heap.size ≤ gb444) : w0.heap.size ≤ gb444)); replace HK := Aside0.mk (KeepBut.trans (zKx HK.out) (KeepBut.of_below hb g none) (.inl rfl)); have NB0_444 := Aside0.mk ((by rw [hg]; exact Nat.ne_of_lt (IsS51.lt (show IsS51 w0 _ g s0_0 s0_1 s0_2 from IsS51.zI HI0.out)) : g ≠ gb444)); have NB444_0 := Aside0.mk ((by rw [hg]; exact Nat.ne_of_gt (IsS51.lt (show IsS51 w0 _ g s0_0 s0_1 s0_2 from IsS51.zI HI0.out)) : gb444 ≠ g)); replace HI0 := Aside0.mk (IsS51.below (IsS51.zI HI0.out) hb); clear hb hbox hg) | ((with_reducible refine gate_callee (f := 52) rfl ?_); refine goesL_ (some 5) rfl rfl Try.func52 (by kernel_rfl) rfl #[.pointer (some ⟨g, 0, none⟩), .int .i64 12] rfl zlx ?_; (with_reducible refine (spec_l1Cur_pick.calls g s0_0 s0_1 s0_2 12 t445 t446 t447 w0 _ ?side1 ?side2 A2.out).mono ?_); (case side1 => exact IsS51.zJ HI0.out NB0_444.out); (case side2 => first | exact zBz HB.out (IsS51.ge HI0.out) GE444.out | exact zBy HB.out GE444.out); rintro e w10 ⟨rfl, hi, hb, hk⟩; refine ⟨_, rfl, ?_⟩; replace BK444 := Aside0.mk (KeepBut.blk hk (g' := gb444) (o := .cells #[.int .i64 0, .int .i64 0, .int .i64 0, .int .i64 0] 30 (0, 0)) (zbx BK444.out) NB444_0.out (by simp)); replace HK := Aside0.mk (KeepBut.trans (zKy HK.out GW444.out) hk (.inl rfl)); replace HB := Aside0.mk (hb); replace HI0 := Aside0.mk (hi); (try clear hb); (try clear hk); (try clear hi)) | ((with_reducible refine gate_callee (f := 52) rfl ?_); refine goesL_ (some 7) rfl rfl Try.func52 (by kernel_rfl) rfl #[.pointer (some ⟨g, 0, none⟩), .int .i64 8] rfl zlx ?_; (with_reducible refine (spec_l1Cur_pick.calls g s0_0 t446 t447 8 t448 t449 t450 w0 _ ?side1 ?side2 A3.out).mono ?_); (case side1 => exact IsS51.zJ HI0.out NB0_444.out); (case side2 => first | exact zBz HB.out (IsS51.ge HI0.out) GE444.out | exact zBy HB.out GE444.out); rintro e w11 ⟨rfl, hi, hb, hk⟩; refine ⟨_, rfl, ?_⟩; replace BK444 := Aside0.mk (KeepBut.blk hk (g' := gb444) (o := .cells #[.int .i64 0, .int .i64 0, .int .i64 0, .int .i64 0] 30 (0, 0)) (zbx BK444.out) NB444_0.out (by simp)); replace HK := Aside0.mk (KeepBut.trans (zKy HK.out GW444.out) hk (.inl rfl)); replace HB := Aside0.mk (hb); replace HI0 := Aside0.mk (hi); (try clear hb); (try clear hk); (try clear hi)) | ((with_reducible refine gate_callee (f := 52) rfl ?_); refine goesL_ (some 9) rfl rfl Try.func52 (by kernel_rfl) rfl #[.pointer (some ⟨g, 0, none⟩), .int .i64 8] rfl zlx ?_; (with_reducible refine (spec_l1Cur_pick.calls g s0_0 t449 t450 8 t451 t452 t453 w0 _ ?side1 ?side2 A4.out).mono ?_); (case side1 => exact IsS51.zJ HI0.out NB0_444.out); (case side2 => first | exact zBz HB.out (IsS51.ge HI0.out) GE444.out | exact zBy HB.out GE444.out); rintro e w12 ⟨rfl, hi, hb, hk⟩; refine ⟨_, rfl, ?_⟩; replace BK444 := Aside0.mk (KeepBut.blk hk (g' := gb444) (o := .cells #[.int .i64 0, .int .i64 0, .int .i64 0, .int .i64 0] 30 (0, 0)) (zbx BK444.out) NB444_0.out (by simp)); replace HK := Aside0.mk (KeepBut.trans (zKy HK.out GW444.out) hk (.inl rfl)); replace HB := Aside0.mk (hb); replace HI0 := Aside0.mk (hi); (try clear hb); (try clear hk); (try clear hi)) | ((with_reducible refine gate_callee (f := 52) rfl ?_); refine goesL_ (some 11) rfl rfl Try.func52 (by kernel_rfl) rfl #[.pointer (some ⟨g, 0, none⟩), .int .i64 40] rfl zlx ?_; (with_reducible refine (spec_l1Cur_pick.calls g s0_0 t452 t453 40 t454 t455 t456 w0 _ ?side1 ?side2 A5.out).mono ?_); (case side1 => exact IsS51.zJ HI0.out NB0_444.out); (case side2 => first | exact zBz HB.out (IsS51.ge HI0.out) GE444.out | exact zBy HB.out GE444.out); rintro e w13 ⟨rfl, hi, hb, hk⟩; refine ⟨_, rfl, ?_⟩; replace BK444 := Aside0.mk (KeepBut.blk hk (g' := gb444) (o := .cells #[.int .i64 0, .int .i64 0, .int .i64 0, .int .i64 0] 30 (0, 0)) (zbx BK444.out) NB444_0.out (by simp)); replace HK := Aside0.mk (KeepBut.trans (zKy HK.out GW444.out) hk (.inl rfl)); replace HB := Aside0.mk (hb); replace HI0 := Aside0.mk (hi); (try clear hb); (try clear hk); (try clear hi)) | ((with_reducible refine gate_dst (N := 3) rfl ?_); refine box_event ?hg (N := 3) ?hd (cs := #[.int .i64 0, .int .i64 0, .int .i64 0, .int .i64 0]) (t := 30) ?hr ?_; (case hd => rfl); (case hg => rfl); (case hr => exact zsx); intro gb457 hg w14 hbox hb; replace HB := Aside0.mk (below_step (by first | exact zBz HB.out (IsS51.ge HI0.out) GE444.out | exact zBy HB.out GE444.out) hb); have BK457 := Aside0.mk (hbox); have GW457 := Aside0.mk ((by rw [hg]; exact (keep_size (w := w) (g := g) (row := none) (zKy HK.out GW444.out)) : w.heap.size ≤ gb457)); have GE457 := Aside0.mk ((Nat.le_trans HW0.out (by rw [hg]; exact (keep_size (w := w) (g := g) (row := none) (zKy HK.out GW444.out)) : w.heap.size ≤ gb457) : w0.heap.size ≤ gb457)); replace HK := Aside0.mk (KeepBut.trans (zKy HK.out GW444.out) (KeepBut.of_below hb g none) (.inl rfl)); have NB444_457 := znl hg BK444.out; have NB457_444 := zng hg BK444.out; replace BK444 := zbl BK444.out hb; have NB0_457 := Aside0.mk ((by rw [hg]; exact Nat.ne_of_lt (IsS51.lt (show IsS51 w0 _ g s0_0 t455 t456 from IsS51.zJ HI0.out NB0_444.out)) : g ≠ gb457)); have NB457_0 := Aside0.mk ((by rw [hg]; exact Nat.ne_of_gt (IsS51.lt (show IsS51 w0 _ g s0_0 t455 t456 from IsS51.zJ HI0.out NB0_444.out)) : gb457 ≠ g)); replace HI0 := Aside0.mk (IsS51.below (IsS51.zF HI0.out NB0_444.out) hb); clear hb hbox hg; have hnb15 := NB457_444.out; have hnc15 := NB444_457.out; have hnb16 := NB457_0.out; have hnc16 := NB0_457.out; have hcz17_0 : w14.cell? ⟨gb457, 0, none⟩ = some (.int .i64 0) := (blk_cell BK457.out 0).trans rfl; have hcz17_1 : w14.cell? ⟨gb457, 1, none⟩ = some (.int .i64 0) := (blk_cell BK457.out 1).trans rfl; have hcz17_2 : w14.cell? ⟨gb457, 2, none⟩ = some (.int .i64 0) := (blk_cell BK457.out 2).trans rfl; have hcz17_3 : w14.cell? ⟨gb457, 3, none⟩ = some (.int .i64 0) := (blk_cell BK457.out 3).trans rfl; have hfz17_0 := blk_frozen BK457.out 0; have hfz17_1 := blk_frozen BK457.out 1; have hfz17_2 := blk_frozen BK457.out 2; have hfz17_3 := blk_frozen BK457.out 3) | ((with_reducible refine gate_callee (f := 52) rfl ?_); refine goesL_ (some 14) rfl rfl Try.func52 (by kernel_rfl) rfl #[.pointer (some ⟨g, 0, none⟩), .int .i64 16] rfl zlx ?_; (with_reducible refine (spec_l1Cur_pick.calls g s0_0 t455 t456 16 t458 t459 t460 w0 _ ?side1 ?side2 A6.out).mono ?_); (case side1 => exact zhI51 HI0.out); (case side2 => exact zhB HB.out); rintro e w18 ⟨rfl, hi, hb, hk⟩; refine ⟨_, rfl, ?_⟩; replace BK444 := Aside0.mk (KeepBut.blk hk (g' := gb444) (o := .cells #[.int .i64 0, .int .i64 0, .int .i64 0, .int .i64 0] 30 (0, 0)) (zbq BK444.out) NB444_0.out (by simp)); replace BK457 := Aside0.mk (KeepBut.blk hk (g' := gb457) (o := .cells #[.int .i64 t445, .int .i64 t448, .int .i64 t451, .int .i64 t454] 30 (0, 0)) (zbp BK457.out) NB457_0.out (by simp)); replace HK := Aside0.mk (KeepBut.trans (zhK HK.out) hk (.inl rfl)); replace HB := Aside0.mk (hb); replace HI0 := Aside0.mk (hi); (try clear hb); (try clear hk); (try clear hi)) | ((with_reducible refine gate_dst (N := 18) rfl ?_); refine Kd.R_lit (Kd.int .i64) _ 3 ?hg (N := 18) ?hd (xs := ([0, 1000000, 1000001, (-1)] : List Int)) (inner := [.int .i64 0, .int .i64 1000000, .int .i64 1000001, .int .i64 (-1)]) (ok := fun _ => True) (okp := fun _ => True) ?hr ?hp (fun _ hk => hk) trivial (Below.refl _ _) (Nat.le_refl _) (by simp) ?_; (case hd => rfl); (case hg => rfl); (case hr => exact zsx); (case hp => exact (Reps.one (show Kd.M (Kd.int .i64) _ _ _ 0 [.int .i64 0] from rfl) (Reps.one (show Kd.M (Kd.int .i64) _ _ _ 1000000 [.int .i64 1000000] from rfl) (Reps.one (show Kd.M (Kd.int .i64) _ _ _ 1000001 [.int .i64 1000001] from rfl) (Reps.one (show Kd.M (Kd.int .i64) _ _ _ (-1) [.int .i64 (-1)] from rfl) (Reps.none _ _)))))); intro v462 w19 ho20 hb hg_ hnew_; clear hg_ hnew_; (first | rw [← Ny461.out] at ho20 | (simp only [Int.reduceToNat] at ho20; rw [← Ny461.out] at ho20)); have HO463 := Aside0.mk (Kd.R_lower ho20 (keep_size (w := w) (g := g) (row := none) (zhK HK.out))); replace HI0 := Aside0.mk (IsS51.below (zhI51 HI0.out) hb); replace BK444 := zbl BK444.out hb; replace BK457 := zbl BK457.out hb; replace HK := Aside0.mk (KeepBut.trans (zhK HK.out) (KeepBut.of_below hb g none) (.inl rfl)); replace HB := Aside0.mk (below_step (zhB HB.out) hb); clear hb ho20; obtain ⟨Ao21, co21, eo21⟩ := Kd.R_slice HO463.out; subst eo21) | ((with_reducible refine gate_callee (f := 33) rfl ?_); refine goesL_ (some 19) rfl rfl Try.func33 (by kernel_rfl) rfl #[.pointer (some ⟨g, 0, none⟩), .slice Ao21 y461.length co21] rfl zlx ?_; (with_reducible refine (spec_l1Cur_among.calls g s0_0 t459 t460 _ _ y461 t464 t465 t466 w0 _ ?side1 ?side2 ?side3 ?side4 ?side5 A8.out).mono ?_); (case side1 => exact zhI51 HI0.out); (case side2 => exact zhB HB.out); (case side3 => exact zCx (Kd.R_reads' HO463.out).2.2); (case side4 => exact (Kd.R_reads' HO463.out).2.1); (case side5 => exact far_slice (IsS51.own_ne HI0.out HO463.out (by decide))); rintro e w22 ⟨rfl, hi, hb, hk⟩; refine ⟨_, rfl, ?_⟩; replace BK444 := Aside0.mk (KeepBut.blk hk (g' := gb444) (o := .cells #[.int .i64 0, .int .i64 0, .int .i64 0, .int .i64 0] 30 (0, 0)) (zbx BK444.out) NB444_0.out (by simp)); replace BK457 := Aside0.mk (KeepBut.blk hk (g' := gb457) (o := .cells #[.int .i64 t445, .int .i64 t448, .int .i64 t451, .int .i64 t454] 30 (0, 0)) (zbx BK457.out) NB457_0.out (by simp)); replace HO463 := Aside0.mk (Kd.R_mono (Kd.R_keep (IsS51.apart (show IsS51 w0 _ g s0_0 t459 t460 from zhI51 HI0.out) (zRx HO463.out) (by decide)) hk (fun _ h => h.2)) (fun _ h => h.1)); replace HK := Aside0.mk (KeepBut.trans (zhK HK.out) hk (.inl rfl)); replace HB := Aside0.mk (hb); replace HI0 := Aside0.mk (hi); (try clear hb); (try clear hk); (try clear hi); have hcz23_0 : w22.cell? ⟨gb457, 0, none⟩ = some (.int .i64 t445) := (blk_cell BK457.out 0).trans rfl; have hcz23_1 : w22.cell? ⟨gb457, 1, none⟩ = some (.int .i64 t448) := (blk_cell BK457.out 1).trans rfl; have hcz23_2 : w22.cell? ⟨gb457, 2, none⟩ = some (.int .i64 t451) := (blk_cell BK457.out 2).trans rfl; have hcz23_3 : w22.cell? ⟨gb457, 3, none⟩ = some (.int .i64 t454) := (blk_cell BK457.out 3).trans rfl; have hfz23_0 := blk_frozen BK457.out 0; have hfz23_1 := blk_frozen BK457.out 1; have hfz23_2 := blk_frozen BK457.out 2; have hfz23_3 := blk_frozen BK457.out 3; have hnb24 := NB444_0.out; have hnc24 := NB0_444.out; have hcz25_0 : w22.cell? ⟨gb444, 0, none⟩ = some (.int .i64 0) := (blk_cell BK444.out 0).trans rfl; have hcz25_1 : w22.cell? ⟨gb444, 1, none⟩ = some (.int .i64 0) := (blk_cell BK444.out 1).trans rfl; have hcz25_2 : w22.cell? ⟨gb444, 2, none⟩ = some (.int .i64 0) := (blk_cell BK444.out 2).trans rfl; have hcz25_3 : w22.cell? ⟨gb444, 3, none⟩ = some (.int .i64 0) := (blk_cell BK444.out 3).trans rfl; have hfz25_0 := blk_frozen BK444.out 0; have hfz25_1 := blk_frozen BK444.out 1; have hfz25_2 := blk_frozen BK444.out 2; have hfz25_3 := blk_frozen BK444.out 3))
   refine bodyPost_ret (results_cell_row rfl _ _ gb444 30 #[.int .i64 t464, .int .i64 t448, .int .i64 t451, .int .i64 t454] (0, 0) _ rfl (zbp BK444.out) Try.underlying30 rfl (by kernel_rfl)) rfl ?_
   exact ⟨by first | rfl | (simp [errW_none, errW_some] <;> rfl) | (simp [*, errW_none, errW_some] <;> rfl), zhI51 HI0.out, zhB HB.out, zhK HK.out⟩
 ·rw [if_neg c7] at H
  have c7b0 : (t458 == 0) = false := beq_eq_false_iff_ne.mpr c7
  have c7b1 : (t458 != 0) = true := bne_iff_ne.mpr c7
  by_cases c26 : t458 = 1
  ·rw [if_pos c26] at H
   have c26b0 : (t458 == 1) = true := beq_iff_eq.mpr c26
   have c26b1 : (t458 != 1) = false := bne_eq_false_iff_eq.mpr c26
   clear c26
   focus
    simp only [Option.some.injEq, Prod.mk.injEq] at H
    obtain ⟨rfl, rfl, rfl, rfl, rfl, rfl⟩ := H
    go_enter Try.func49, Try.ntmps49
    go_wp2_with (first | ((with_reducible refine gate_dst (N := 2) rfl ?_); refine box_event ?hg (N := 2) ?hd (cs := #[.int .i64 0, .int .i64 0, .int .i64 0, .int .i64 0]) (t := 30) ?hr ?_; (case hd => rfl); (case hg => rfl); (case hr => exact zsx); intro gb444 hg w27 hbox hb; replace HB := Aside0.mk (below_step (by first | exact zBy HB.out (IsS51.ge HI0.out) | exact zBx HB.out) hb); have BK444 := Aside0.mk (hbox); have GW444 := Aside0.mk ((by rw [hg]; exact (keep_size (w := w) (g := g) (row := none) (zKx HK.out)) : w.heap.size ≤ gb444)); have GE444 := Aside0.mk ((Nat.le_trans HW0.out (by rw [hg]; exact (keep_size (w := w) (g := g) (row := none) (zKx HK.out)) : w.heap.size ≤ gb444) : w0.heap.size ≤ gb444)); replace HK := Aside0.mk (KeepBut.trans (zKx HK.out) (KeepBut.of_below hb g none) (.inl rfl)); have NB0_444 := Aside0.mk ((by rw [hg]; exact Nat.ne_of_lt (IsS51.lt (show IsS51 w0 _ g s0_0 s0_1 s0_2 from IsS51.zI HI0.out)) : g ≠ gb444)); have NB444_0 := Aside0.mk ((by rw [hg]; exact Nat.ne_of_gt (IsS51.lt (show IsS51 w0 _ g s0_0 s0_1 s0_2 from IsS51.zI HI0.out)) : gb444 ≠ g)); replace HI0 := Aside0.mk (IsS51.below (IsS51.zI HI0.out) hb); clear hb hbox hg) | ((with_reducible refine gate_callee (f := 52) rfl ?_); refine goesL_ (some 5) rfl rfl Try.func52 (by kernel_rfl) rfl #[.pointer (some ⟨g, 0, none⟩), .int .i64 12] rfl zlx ?_; (with_reducible refine (spec_l1Cur_pick.calls g s0_0 s0_1 s0_2 12 t445 t446 t447 w0 _ ?side1 ?side2 A2.out).mono ?_); (case side1 => exact IsS51.zJ HI0.out NB0_444.out); (case side2 => first | exact zBz HB.out (IsS51.ge HI0.out) GE444.out | exact zBy HB.out GE444.out); rintro e w28 ⟨rfl, hi, hb, hk⟩; refine ⟨_, rfl, ?_⟩; replace BK444 := Aside0.mk (KeepBut.blk hk (g' := gb444) (o := .cells #[.int .i64 0, .int .i64 0, .int .i64 0, .int .i64 0] 30 (0, 0)) (zbx BK444.out) NB444_0.out (by simp)); replace HK := Aside0.mk (KeepBut.trans (zKy HK.out GW444.out) hk (.inl rfl)); replace HB := Aside0.mk (hb); replace HI0 := Aside0.mk (hi); (try clear hb); (try clear hk); (try clear hi)) | ((with_reducible refine gate_callee (f := 52) rfl ?_); refine goesL_ (some 7) rfl rfl Try.func52 (by kernel_rfl) rfl #[.pointer (some ⟨g, 0, none⟩), .int .i64 8] rfl zlx ?_; (with_reducible refine (spec_l1Cur_pick.calls g s0_0 t446 t447 8 t448 t449 t450 w0 _ ?side1 ?side2 A3.out).mono ?_); (case side1 => exact IsS51.zJ HI0.out NB0_444.out); (case side2 => first | exact zBz HB.out (IsS51.ge HI0.out) GE444.out | exact zBy HB.out GE444.out); rintro e w29 ⟨rfl, hi, hb, hk⟩; refine ⟨_, rfl, ?_⟩; replace BK444 := Aside0.mk (KeepBut.blk hk (g' := gb444) (o := .cells #[.int .i64 0, .int .i64 0, .int .i64 0, .int .i64 0] 30 (0, 0)) (zbx BK444.out) NB444_0.out (by simp)); replace HK := Aside0.mk (KeepBut.trans (zKy HK.out GW444.out) hk (.inl rfl)); replace HB := Aside0.mk (hb); replace HI0 := Aside0.mk (hi); (try clear hb); (try clear hk); (try clear hi)) | ((with_reducible refine gate_callee (f := 52) rfl ?_); refine goesL_ (some 9) rfl rfl Try.func52 (by kernel_rfl) rfl #[.pointer (some ⟨g, 0, none⟩), .int .i64 8] rfl zlx ?_; (with_reducible refine (spec_l1Cur_pick.calls g s0_0 t449 t450 8 t451 t452 t453 w0 _ ?side1 ?side2 A4.out).mono ?_); (case side1 => exact IsS51.zJ HI0.out NB0_444.out); (case side2 => first | exact zBz HB.out (IsS51.ge HI0.out) GE444.out | exact zBy HB.out GE444.out); rintro e w30 ⟨rfl, hi, hb, hk⟩; refine ⟨_, rfl, ?_⟩; replace BK444 := Aside0.mk (KeepBut.blk hk (g' := gb444) (o := .cells #[.int .i64 0, .int .i64 0, .int .i64 0, .int .i64 0] 30 (0, 0)) (zbx BK444.out) NB444_0.out (by simp)); replace HK := Aside0.mk (KeepBut.trans (zKy HK.out GW444.out) hk (.inl rfl)); replace HB := Aside0.mk (hb); replace HI0 := Aside0.mk (hi); (try clear hb); (try clear hk); (try clear hi)) | ((with_reducible refine gate_callee (f := 52) rfl ?_); refine goesL_ (some 11) rfl rfl Try.func52 (by kernel_rfl) rfl #[.pointer (some ⟨g, 0, none⟩), .int .i64 40] rfl zlx ?_; (with_reducible refine (spec_l1Cur_pick.calls g s0_0 t452 t453 40 t454 t455 t456 w0 _ ?side1 ?side2 A5.out).mono ?_); (case side1 => exact IsS51.zJ HI0.out NB0_444.out); (case side2 => first | exact zBz HB.out (IsS51.ge HI0.out) GE444.out | exact zBy HB.out GE444.out); rintro e w31 ⟨rfl, hi, hb, hk⟩; refine ⟨_, rfl, ?_⟩; replace BK444 := Aside0.mk (KeepBut.blk hk (g' := gb444) (o := .cells #[.int .i64 0, .int .i64 0, .int .i64 0, .int .i64 0] 30 (0, 0)) (zbx BK444.out) NB444_0.out (by simp)); replace HK := Aside0.mk (KeepBut.trans (zKy HK.out GW444.out) hk (.inl rfl)); replace HB := Aside0.mk (hb); replace HI0 := Aside0.mk (hi); (try clear hb); (try clear hk); (try clear hi)) | ((with_reducible refine gate_dst (N := 3) rfl ?_); refine box_event ?hg (N := 3) ?hd (cs := #[.int .i64 0, .int .i64 0, .int .i64 0, .int .i64 0]) (t := 30) ?hr ?_; (case hd => rfl); (case hg => rfl); (case hr => exact zsx); intro gb457 hg w32 hbox hb; replace HB := Aside0.mk (below_step (by first | exact zBz HB.out (IsS51.ge HI0.out) GE444.out | exact zBy HB.out GE444.out) hb); have BK457 := Aside0.mk (hbox); have GW457 := Aside0.mk ((by rw [hg]; exact (keep_size (w := w) (g := g) (row := none) (zKy HK.out GW444.out)) : w.heap.size ≤ gb457)); have GE457 := Aside0.mk ((Nat.le_trans HW0.out (by rw [hg]; exact (keep_size (w := w) (g := g) (row := none) (zKy HK.out GW444.out)) : w.heap.size ≤ gb457) : w0.heap.size ≤ gb457)); replace HK := Aside0.mk (KeepBut.trans (zKy HK.out GW444.out) (KeepBut.of_below hb g none) (.inl rfl)); have NB444_457 := znl hg BK444.out; have NB457_444 := zng hg BK444.out; replace BK444 := zbl BK444.out hb; have NB0_457 := Aside0.mk ((by rw [hg]; exact Nat.ne_of_lt (IsS51.lt (show IsS51 w0 _ g s0_0 t455 t456 from IsS51.zJ HI0.out NB0_444.out)) : g ≠ gb457)); have NB457_0 := Aside0.mk ((by rw [hg]; exact Nat.ne_of_gt (IsS51.lt (show IsS51 w0 _ g s0_0 t455 t456 from IsS51.zJ HI0.out NB0_444.out)) : gb457 ≠ g)); replace HI0 := Aside0.mk (IsS51.below (IsS51.zF HI0.out NB0_444.out) hb); clear hb hbox hg; have hnb33 := NB457_444.out; have hnc33 := NB444_457.out; have hnb34 := NB457_0.out; have hnc34 := NB0_457.out; have hcz35_0 : w32.cell? ⟨gb457, 0, none⟩ = some (.int .i64 0) := (blk_cell BK457.out 0).trans rfl; have hcz35_1 : w32.cell? ⟨gb457, 1, none⟩ = some (.int .i64 0) := (blk_cell BK457.out 1).trans rfl; have hcz35_2 : w32.cell? ⟨gb457, 2, none⟩ = some (.int .i64 0) := (blk_cell BK457.out 2).trans rfl; have hcz35_3 : w32.cell? ⟨gb457, 3, none⟩ = some (.int .i64 0) := (blk_cell BK457.out 3).trans rfl; have hfz35_0 := blk_frozen BK457.out 0; have hfz35_1 := blk_frozen BK457.out 1; have hfz35_2 := blk_frozen BK457.out 2; have hfz35_3 := blk_frozen BK457.out 3) | ((with_reducible refine gate_callee (f := 52) rfl ?_); refine goesL_ (some 14) rfl rfl Try.func52 (by kernel_rfl) rfl #[.pointer (some ⟨g, 0, none⟩), .int .i64 16] rfl zlx ?_; (with_reducible refine (spec_l1Cur_pick.calls g s0_0 t455 t456 16 t458 t459 t460 w0 _ ?side1 ?side2 A6.out).mono ?_); (case side1 => exact zhI51 HI0.out); (case side2 => exact zhB HB.out); rintro e w36 ⟨rfl, hi, hb, hk⟩; refine ⟨_, rfl, ?_⟩; replace BK444 := Aside0.mk (KeepBut.blk hk (g' := gb444) (o := .cells #[.int .i64 0, .int .i64 0, .int .i64 0, .int .i64 0] 30 (0, 0)) (zbq BK444.out) NB444_0.out (by simp)); replace BK457 := Aside0.mk (KeepBut.blk hk (g' := gb457) (o := .cells #[.int .i64 t445, .int .i64 t448, .int .i64 t451, .int .i64 t454] 30 (0, 0)) (zbp BK457.out) NB457_0.out (by simp)); replace HK := Aside0.mk (KeepBut.trans (zhK HK.out) hk (.inl rfl)); replace HB := Aside0.mk (hb); replace HI0 := Aside0.mk (hi); (try clear hb); (try clear hk); (try clear hi); have hcz37_0 : w36.cell? ⟨gb457, 0, none⟩ = some (.int .i64 t445) := (blk_cell BK457.out 0).trans rfl; have hcz37_1 : w36.cell? ⟨gb457, 1, none⟩ = some (.int .i64 t448) := (blk_cell BK457.out 1).trans rfl; have hcz37_2 : w36.cell? ⟨gb457, 2, none⟩ = some (.int .i64 t451) := (blk_cell BK457.out 2).trans rfl; have hcz37_3 : w36.cell? ⟨gb457, 3, none⟩ = some (.int .i64 t454) := (blk_cell BK457.out 3).trans rfl; have hfz37_0 := blk_frozen BK457.out 0; have hfz37_1 := blk_frozen BK457.out 1; have hfz37_2 := blk_frozen BK457.out 2; have hfz37_3 := blk_frozen BK457.out 3; have hnb38 := NB444_0.out; have hnc38 := NB0_444.out; have hcz39_0 : w36.cell? ⟨gb444, 0, none⟩ = some (.int .i64 0) := (blk_cell BK444.out 0).trans rfl; have hcz39_1 : w36.cell? ⟨gb444, 1, none⟩ = some (.int .i64 0) := (blk_cell BK444.out 1).trans rfl; have hcz39_2 : w36.cell? ⟨gb444, 2, none⟩ = some (.int .i64 0) := (blk_cell BK444.out 2).trans rfl; have hcz39_3 : w36.cell? ⟨gb444, 3, none⟩ = some (.int .i64 0) := (blk_cell BK444.out 3).trans rfl; have hfz39_0 := blk_frozen BK444.out 0; have hfz39_1 := blk_frozen BK444.out 1; have hfz39_2 := blk_frozen BK444.out 2; have hfz39_3 := blk_frozen BK444.out 3))
    refine bodyPost_ret (results_cell_row rfl _ _ gb444 30 #[.int .i64 t445, .int .i64 0, .int .i64 0, .int .i64 t454] (0, 0) _ rfl (zbp BK444.out) Try.underlying30 rfl (by kernel_rfl)) rfl ?_
    exact ⟨by first | rfl | (simp [errW_none, errW_some] <;> rfl) | (simp [*, errW_none, errW_some] <;> rfl), zhI51 HI0.out, zhB HB.out, zhK HK.out⟩
  ·rw [if_neg c26] at H
   have c26b0 : (t458 == 1) = false := beq_eq_false_iff_ne.mpr c26
   have c26b1 : (t458 != 1) = true := bne_iff_ne.mpr c26
   by_cases c40 : t458 = 2
   ·rw [if_pos c40] at H
    have c40b0 : (t458 == 2) = true := beq_iff_eq.mpr c40
    have c40b1 : (t458 != 2) = false := bne_eq_false_iff_eq.mpr c40
    clear c40
    obtain ⟨y467, hy467⟩ : ∃ y_ : List Int, y_ = (([0, 5, 1000000] : List Int)) := ⟨_, rfl⟩
    replace H : ((spec_l1Cur_among.f s0_0 t459 t460 y467).bind fun bt470 => (some (0, 0, 0, bt470.1, bt470.2.1, bt470.2.2))) = some (r1, r2, r3, r4, r5, r6) := by first | (rw [hy467]; with_reducible exact H) | (have H2_ := (Option.bind_some _ _).symm.trans H; rw [hy467]; with_reducible exact H2_) | (have H2_ := (Option.bind_some _ _).symm.trans H; with_reducible exact H2_) | with_reducible exact H | (rw [hy467]; exact H) | exact H
    have Ny467 := Aside0.mk hy467
    clear hy467
    replace H := Option.bind_eq_some_iff.mp H
    obtain ⟨⟨t470, t471, t472⟩, A410, H⟩ := H
    replace H : (some (0, 0, 0, t470, t471, t472)) = some (r1, r2, r3, r4, r5, r6) := H
    have A41 := Aside0.mk A410
    clear A410
    focus
     simp only [Option.some.injEq, Prod.mk.injEq] at H
     obtain ⟨rfl, rfl, rfl, rfl, rfl, rfl⟩ := H
     go_enter Try.func49, Try.ntmps49
     go_wp2_with (first | ((with_reducible refine gate_dst (N := 2) rfl ?_); refine box_event ?hg (N := 2) ?hd (cs := #[.int .i64 0, .int .i64 0, .int .i64 0, .int .i64 0]) (t := 30) ?hr ?_; (case hd => rfl); (case hg => rfl); (case hr => exact zsx); intro gb444 hg w42 hbox hb; replace HB := Aside0.mk (below_step (by first | exact zBy HB.out (IsS51.ge HI0.out) | exact zBx HB.out) hb); have BK444 := Aside0.mk (hbox); have GW444 := Aside0.mk ((by rw [hg]; exact (keep_size (w := w) (g := g) (row := none) (zKx HK.out)) : w.heap.size ≤ gb444)); have GE444 := Aside0.mk ((Nat.le_trans HW0.out (by rw [hg]; exact (keep_size (w := w) (g := g) (row := none) (zKx HK.out)) : w.heap.size ≤ gb444) : w0.heap.size ≤ gb444)); replace HK := Aside0.mk (KeepBut.trans (zKx HK.out) (KeepBut.of_below hb g none) (.inl rfl)); have NB0_444 := Aside0.mk ((by rw [hg]; exact Nat.ne_of_lt (IsS51.lt (show IsS51 w0 _ g s0_0 s0_1 s0_2 from IsS51.zI HI0.out)) : g ≠ gb444)); have NB444_0 := Aside0.mk ((by rw [hg]; exact Nat.ne_of_gt (IsS51.lt (show IsS51 w0 _ g s0_0 s0_1 s0_2 from IsS51.zI HI0.out)) : gb444 ≠ g)); replace HI0 := Aside0.mk (IsS51.below (IsS51.zI HI0.out) hb); clear hb hbox hg) | ((with_reducible refine gate_callee (f := 52) rfl ?_); refine goesL_ (some 5) rfl rfl Try.func52 (by kernel_rfl) rfl #[.pointer (some ⟨g, 0, none⟩), .int .i64 12] rfl zlx ?_; (with_reducible refine (spec_l1Cur_pick.calls g s0_0 s0_1 s0_2 12 t445 t446 t447 w0 _ ?side1 ?side2 A2.out).mono ?_); (case side1 => exact IsS51.zJ HI0.out NB0_444.out); (case side2 => first | exact zBz HB.out (IsS51.ge HI0.out) GE444.out | exact zBy HB.out GE444.out); rintro e w43 ⟨rfl, hi, hb, hk⟩; refine ⟨_, rfl, ?_⟩; replace BK444 := Aside0.mk (KeepBut.blk hk (g' := gb444) (o := .cells #[.int .i64 0, .int .i64 0, .int .i64 0, .int .i64 0] 30 (0, 0)) (zbx BK444.out) NB444_0.out (by simp)); replace HK := Aside0.mk (KeepBut.trans (zKy HK.out GW444.out) hk (.inl rfl)); replace HB := Aside0.mk (hb); replace HI0 := Aside0.mk (hi); (try clear hb); (try clear hk); (try clear hi)) | ((with_reducible refine gate_callee (f := 52) rfl ?_); refine goesL_ (some 7) rfl rfl Try.func52 (by kernel_rfl) rfl #[.pointer (some ⟨g, 0, none⟩), .int .i64 8] rfl zlx ?_; (with_reducible refine (spec_l1Cur_pick.calls g s0_0 t446 t447 8 t448 t449 t450 w0 _ ?side1 ?side2 A3.out).mono ?_); (case side1 => exact IsS51.zJ HI0.out NB0_444.out); (case side2 => first | exact zBz HB.out (IsS51.ge HI0.out) GE444.out | exact zBy HB.out GE444.out); rintro e w44 ⟨rfl, hi, hb, hk⟩; refine ⟨_, rfl, ?_⟩; replace BK444 := Aside0.mk (KeepBut.blk hk (g' := gb444) (o := .cells #[.int .i64 0, .int .i64 0, .int .i64 0, .int .i64 0] 30 (0, 0)) (zbx BK444.out) NB444_0.out (by simp)); replace HK := Aside0.mk (KeepBut.trans (zKy HK.out GW444.out) hk (.inl rfl)); replace HB := Aside0.mk (hb); replace HI0 := Aside0.mk (hi); (try clear hb); (try clear hk); (try clear hi)) | ((with_reducible refine gate_callee (f := 52) rfl ?_); refine goesL_ (some 9) rfl rfl Try.func52 (by kernel_rfl) rfl #[.pointer (some ⟨g, 0, none⟩), .int .i64 8] rfl zlx ?_; (with_reducible refine (spec_l1Cur_pick.calls g s0_0 t449 t450 8 t451 t452 t453 w0 _ ?side1 ?side2 A4.out).mono ?_); (case side1 => exact IsS51.zJ HI0.out NB0_444.out); (case side2 => first | exact zBz HB.out (IsS51.ge HI0.out) GE444.out | exact zBy HB.out GE444.out); rintro e w45 ⟨rfl, hi, hb, hk⟩; refine ⟨_, rfl, ?_⟩; replace BK444 := Aside0.mk (KeepBut.blk hk (g' := gb444) (o := .cells #[.int .i64 0, .int .i64 0, .int .i64 0, .int .i64 0] 30 (0, 0)) (zbx BK444.out) NB444_0.out (by simp)); replace HK := Aside0.mk (KeepBut.trans (zKy HK.out GW444.out) hk (.inl rfl)); replace HB := Aside0.mk (hb); replace HI0 := Aside0.mk (hi); (try clear hb); (try clear hk); (try clear hi)) | ((with_reducible refine gate_callee (f := 52) rfl ?_); refine goesL_ (some 11) rfl rfl Try.func52 (by kernel_rfl) rfl #[.pointer (some ⟨g, 0, none⟩), .int .i64 40] rfl zlx ?_; (with_reducible refine (spec_l1Cur_pick.calls g s0_0 t452 t453 40 t454 t455 t456 w0 _ ?side1 ?side2 A5.out).mono ?_); (case side1 => exact IsS51.zJ HI0.out NB0_444.out); (case side2 => first | exact zBz HB.out (IsS51.ge HI0.out) GE444.out | exact zBy HB.out GE444.out); rintro e w46 ⟨rfl, hi, hb, hk⟩; refine ⟨_, rfl, ?_⟩; replace BK444 := Aside0.mk (KeepBut.blk hk (g' := gb444) (o := .cells #[.int .i64 0, .int .i64 0, .int .i64 0, .int .i64 0] 30 (0, 0)) (zbx BK444.out) NB444_0.out (by simp)); replace HK := Aside0.mk (KeepBut.trans (zKy HK.out GW444.out) hk (.inl rfl)); replace HB := Aside0.mk (hb); replace HI0 := Aside0.mk (hi); (try clear hb); (try clear hk); (try clear hi)) | ((with_reducible refine gate_dst (N := 3) rfl ?_); refine box_event ?hg (N := 3) ?hd (cs := #[.int .i64 0, .int .i64 0, .int .i64 0, .int .i64 0]) (t := 30) ?hr ?_; (case hd => rfl); (case hg => rfl); (case hr => exact zsx); intro gb457 hg w47 hbox hb; replace HB := Aside0.mk (below_step (by first | exact zBz HB.out (IsS51.ge HI0.out) GE444.out | exact zBy HB.out GE444.out) hb); have BK457 := Aside0.mk (hbox); have GW457 := Aside0.mk ((by rw [hg]; exact (keep_size (w := w) (g := g) (row := none) (zKy HK.out GW444.out)) : w.heap.size ≤ gb457)); have GE457 := Aside0.mk ((Nat.le_trans HW0.out (by rw [hg]; exact (keep_size (w := w) (g := g) (row := none) (zKy HK.out GW444.out)) : w.heap.size ≤ gb457) : w0.heap.size ≤ gb457)); replace HK := Aside0.mk (KeepBut.trans (zKy HK.out GW444.out) (KeepBut.of_below hb g none) (.inl rfl)); have NB444_457 := znl hg BK444.out; have NB457_444 := zng hg BK444.out; replace BK444 := zbl BK444.out hb; have NB0_457 := Aside0.mk ((by rw [hg]; exact Nat.ne_of_lt (IsS51.lt (show IsS51 w0 _ g s0_0 t455 t456 from IsS51.zJ HI0.out NB0_444.out)) : g ≠ gb457)); have NB457_0 := Aside0.mk ((by rw [hg]; exact Nat.ne_of_gt (IsS51.lt (show IsS51 w0 _ g s0_0 t455 t456 from IsS51.zJ HI0.out NB0_444.out)) : gb457 ≠ g)); replace HI0 := Aside0.mk (IsS51.below (IsS51.zF HI0.out NB0_444.out) hb); clear hb hbox hg; have hnb48 := NB457_444.out; have hnc48 := NB444_457.out; have hnb49 := NB457_0.out; have hnc49 := NB0_457.out; have hcz50_0 : w47.cell? ⟨gb457, 0, none⟩ = some (.int .i64 0) := (blk_cell BK457.out 0).trans rfl; have hcz50_1 : w47.cell? ⟨gb457, 1, none⟩ = some (.int .i64 0) := (blk_cell BK457.out 1).trans rfl; have hcz50_2 : w47.cell? ⟨gb457, 2, none⟩ = some (.int .i64 0) := (blk_cell BK457.out 2).trans rfl; have hcz50_3 : w47.cell? ⟨gb457, 3, none⟩ = some (.int .i64 0) := (blk_cell BK457.out 3).trans rfl; have hfz50_0 := blk_frozen BK457.out 0; have hfz50_1 := blk_frozen BK457.out 1; have hfz50_2 := blk_frozen BK457.out 2; have hfz50_3 := blk_frozen BK457.out 3) | ((with_reducible refine gate_callee (f := 52) rfl ?_); refine goesL_ (some 14) rfl rfl Try.func52 (by kernel_rfl) rfl #[.pointer (some ⟨g, 0, none⟩), .int .i64 16] rfl zlx ?_; (with_reducible refine (spec_l1Cur_pick.calls g s0_0 t455 t456 16 t458 t459 t460 w0 _ ?side1 ?side2 A6.out).mono ?_); (case side1 => exact zhI51 HI0.out); (case side2 => exact zhB HB.out); rintro e w51 ⟨rfl, hi, hb, hk⟩; refine ⟨_, rfl, ?_⟩; replace BK444 := Aside0.mk (KeepBut.blk hk (g' := gb444) (o := .cells #[.int .i64 0, .int .i64 0, .int .i64 0, .int .i64 0] 30 (0, 0)) (zbq BK444.out) NB444_0.out (by simp)); replace BK457 := Aside0.mk (KeepBut.blk hk (g' := gb457) (o := .cells #[.int .i64 t445, .int .i64 t448, .int .i64 t451, .int .i64 t454] 30 (0, 0)) (zbp BK457.out) NB457_0.out (by simp)); replace HK := Aside0.mk (KeepBut.trans (zhK HK.out) hk (.inl rfl)); replace HB := Aside0.mk (hb); replace HI0 := Aside0.mk (hi); (try clear hb); (try clear hk); (try clear hi)) | ((with_reducible refine gate_dst (N := 28) rfl ?_); refine Kd.R_lit (Kd.int .i64) _ 3 ?hg (N := 28) ?hd (xs := ([0, 5, 1000000] : List Int)) (inner := [.int .i64 0, .int .i64 5, .int .i64 1000000]) (ok := fun _ => True) (okp := fun _ => True) ?hr ?hp (fun _ hk => hk) trivial (Below.refl _ _) (Nat.le_refl _) (by simp) ?_; (case hd => rfl); (case hg => rfl); (case hr => exact zsx); (case hp => exact (Reps.one (show Kd.M (Kd.int .i64) _ _ _ 0 [.int .i64 0] from rfl) (Reps.one (show Kd.M (Kd.int .i64) _ _ _ 5 [.int .i64 5] from rfl) (Reps.one (show Kd.M (Kd.int .i64) _ _ _ 1000000 [.int .i64 1000000] from rfl) (Reps.none _ _))))); intro v468 w52 ho53 hb hg_ hnew_; clear hg_ hnew_; (first | rw [← Ny467.out] at ho53 | (simp only [Int.reduceToNat] at ho53; rw [← Ny467.out] at ho53)); have HO469 := Aside0.mk (Kd.R_lower ho53 (keep_size (w := w) (g := g) (row := none) (zhK HK.out))); replace HI0 := Aside0.mk (IsS51.below (zhI51 HI0.out) hb); replace BK444 := zbl BK444.out hb; replace BK457 := zbl BK457.out hb; replace HK := Aside0.mk (KeepBut.trans (zhK HK.out) (KeepBut.of_below hb g none) (.inl rfl)); replace HB := Aside0.mk (below_step (zhB HB.out) hb); clear hb ho53; obtain ⟨Ao54, co54, eo54⟩ := Kd.R_slice HO469.out; subst eo54) | ((with_reducible refine gate_callee (f := 33) rfl ?_); refine goesL_ (some 29) rfl rfl Try.func33 (by kernel_rfl) rfl #[.pointer (some ⟨g, 0, none⟩), .slice Ao54 y467.length co54] rfl zlx ?_; (with_reducible refine (spec_l1Cur_among.calls g s0_0 t459 t460 _ _ y467 t470 t471 t472 w0 _ ?side1 ?side2 ?side3 ?side4 ?side5 A41.out).mono ?_); (case side1 => exact zhI51 HI0.out); (case side2 => exact zhB HB.out); (case side3 => exact zCx (Kd.R_reads' HO469.out).2.2); (case side4 => exact (Kd.R_reads' HO469.out).2.1); (case side5 => exact far_slice (IsS51.own_ne HI0.out HO469.out (by decide))); rintro e w55 ⟨rfl, hi, hb, hk⟩; refine ⟨_, rfl, ?_⟩; replace BK444 := Aside0.mk (KeepBut.blk hk (g' := gb444) (o := .cells #[.int .i64 0, .int .i64 0, .int .i64 0, .int .i64 0] 30 (0, 0)) (zbx BK444.out) NB444_0.out (by simp)); replace BK457 := Aside0.mk (KeepBut.blk hk (g' := gb457) (o := .cells #[.int .i64 t445, .int .i64 t448, .int .i64 t451, .int .i64 t454] 30 (0, 0)) (zbx BK457.out) NB457_0.out (by simp)); replace HO469 := Aside0.mk (Kd.R_mono (Kd.R_keep (IsS51.apart (show IsS51 w0 _ g s0_0 t459 t460 from zhI51 HI0.out) (zRx HO469.out) (by decide)) hk (fun _ h => h.2)) (fun _ h => h.1)); replace HK := Aside0.mk (KeepBut.trans (zhK HK.out) hk (.inl rfl)); replace HB := Aside0.mk (hb); replace HI0 := Aside0.mk (hi); (try clear hb); (try clear hk); (try clear hi); have hcz56_0 : w55.cell? ⟨gb457, 0, none⟩ = some (.int .i64 t445) := (blk_cell BK457.out 0).trans rfl; have hcz56_1 : w55.cell? ⟨gb457, 1, none⟩ = some (.int .i64 t448) := (blk_cell BK457.out 1).trans rfl; have hcz56_2 : w55.cell? ⟨gb457, 2, none⟩ = some (.int .i64 t451) := (blk_cell BK457.out 2).trans rfl; have hcz56_3 : w55.cell? ⟨gb457, 3, none⟩ = some (.int .i64 t454) := (blk_cell BK457.out 3).trans rfl; have hfz56_0 := blk_frozen BK457.out 0; have hfz56_1 := blk_frozen BK457.out 1; have hfz56_2 := blk_frozen BK457.out 2; have hfz56_3 := blk_frozen BK457.out 3; have hnb57 := NB444_0.out; have hnc57 := NB0_444.out; have hcz58_0 : w55.cell? ⟨gb444, 0, none⟩ = some (.int .i64 0) := (blk_cell BK444.out 0).trans rfl; have hcz58_1 : w55.cell? ⟨gb444, 1, none⟩ = some (.int .i64 0) := (blk_cell BK444.out 1).trans rfl; have hcz58_2 : w55.cell? ⟨gb444, 2, none⟩ = some (.int .i64 0) := (blk_cell BK444.out 2).trans rfl; have hcz58_3 : w55.cell? ⟨gb444, 3, none⟩ = some (.int .i64 0) := (blk_cell BK444.out 3).trans rfl; have hfz58_0 := blk_frozen BK444.out 0; have hfz58_1 := blk_frozen BK444.out 1; have hfz58_2 := blk_frozen BK444.out 2; have hfz58_3 := blk_frozen BK444.out 3))
     refine bodyPost_ret (results_cell_row rfl _ _ gb444 30 #[.int .i64 0, .int .i64 0, .int .i64 0, .int .i64 t470] (0, 0) _ rfl (zbp BK444.out) Try.underlying30 rfl (by kernel_rfl)) rfl ?_
     exact ⟨by first | rfl | (simp [errW_none, errW_some] <;> rfl) | (simp [*, errW_none, errW_some] <;> rfl), zhI51 HI0.out, zhB HB.out, zhK HK.out⟩
   ·rw [if_neg c40] at H
    have c40b0 : (t458 == 2) = false := beq_eq_false_iff_ne.mpr c40
    have c40b1 : (t458 != 2) = true := bne_iff_ne.mpr c40
    focus
     simp only [Option.some.injEq, Prod.mk.injEq] at H
     obtain ⟨rfl, rfl, rfl, rfl, rfl, rfl⟩ := H
     go_enter Try.func49, Try.ntmps49
     go_wp2_with (first | ((with_reducible refine gate_dst (N := 2) rfl ?_); refine box_event ?hg (N := 2) ?hd (cs := #[.int .i64 0, .int .i64 0, .int .i64 0, .int .i64 0]) (t := 30) ?hr ?_; (case hd => rfl); (case hg => rfl); (case hr => exact zsx); intro gb444 hg w59 hbox hb; replace HB := Aside0.mk (below_step (by first | exact zBy HB.out (IsS51.ge HI0.out) | exact zBx HB.out) hb); have BK444 := Aside0.mk (hbox); have GW444 := Aside0.mk ((by rw [hg]; exact (keep_size (w := w) (g := g) (row := none) (zKx HK.out)) : w.heap.size ≤ gb444)); have GE444 := Aside0.mk ((Nat.le_trans HW0.out (by rw [hg]; exact (keep_size (w := w) (g := g) (row := none) (zKx HK.out)) : w.heap.size ≤ gb444) : w0.heap.size ≤ gb444)); replace HK := Aside0.mk (KeepBut.trans (zKx HK.out) (KeepBut.of_below hb g none) (.inl rfl)); have NB0_444 := Aside0.mk ((by rw [hg]; exact Nat.ne_of_lt (IsS51.lt (show IsS51 w0 _ g s0_0 s0_1 s0_2 from IsS51.zI HI0.out)) : g ≠ gb444)); have NB444_0 := Aside0.mk ((by rw [hg]; exact Nat.ne_of_gt (IsS51.lt (show IsS51 w0 _ g s0_0 s0_1 s0_2 from IsS51.zI HI0.out)) : gb444 ≠ g)); replace HI0 := Aside0.mk (IsS51.below (IsS51.zI HI0.out) hb); clear hb hbox hg) | ((with_reducible refine gate_callee (f := 52) rfl ?_); refine goesL_ (some 5) rfl rfl Try.func52 (by kernel_rfl) rfl #[.pointer (some ⟨g, 0, none⟩), .int .i64 12] rfl zlx ?_; (with_reducible refine (spec_l1Cur_pick.calls g s0_0 s0_1 s0_2 12 t445 t446 t447 w0 _ ?side1 ?side2 A2.out).mono ?_); (case side1 => exact IsS51.zJ HI0.out NB0_444.out); (case side2 => first | exact zBz HB.out (IsS51.ge HI0.out) GE444.out | exact zBy HB.out GE444.out); rintro e w60 ⟨rfl, hi, hb, hk⟩; refine ⟨_, rfl, ?_⟩; replace BK444 := Aside0.mk (KeepBut.blk hk (g' := gb444) (o := .cells #[.int .i64 0, .int .i64 0, .int .i64 0, .int .i64 0] 30 (0, 0)) (zbx BK444.out) NB444_0.out (by simp)); replace HK := Aside0.mk (KeepBut.trans (zKy HK.out GW444.out) hk (.inl rfl)); replace HB := Aside0.mk (hb); replace HI0 := Aside0.mk (hi); (try clear hb); (try clear hk); (try clear hi)) | ((with_reducible refine gate_callee (f := 52) rfl ?_); refine goesL_ (some 7) rfl rfl Try.func52 (by kernel_rfl) rfl #[.pointer (some ⟨g, 0, none⟩), .int .i64 8] rfl zlx ?_; (with_reducible refine (spec_l1Cur_pick.calls g s0_0 t446 t447 8 t448 t449 t450 w0 _ ?side1 ?side2 A3.out).mono ?_); (case side1 => exact IsS51.zJ HI0.out NB0_444.out); (case side2 => first | exact zBz HB.out (IsS51.ge HI0.out) GE444.out | exact zBy HB.out GE444.out); rintro e w61 ⟨rfl, hi, hb, hk⟩; refine ⟨_, rfl, ?_⟩; replace BK444 := Aside0.mk (KeepBut.blk hk (g' := gb444) (o := .cells #[.int .i64 0, .int .i64 0, .int .i64 0, .int .i64 0] 30 (0, 0)) (zbx BK444.out) NB444_0.out (by simp)); replace HK := Aside0.mk (KeepBut.trans (zKy HK.out GW444.out) hk (.inl rfl)); replace HB := Aside0.mk (hb); replace HI0 := Aside0.mk (hi); (try clear hb); (try clear hk); (try clear hi)) | ((with_reducible refine gate_callee (f := 52) rfl ?_); refine goesL_ (some 9) rfl rfl Try.func52 (by kernel_rfl) rfl #[.pointer (some ⟨g, 0, none⟩), .int .i64 8] rfl zlx ?_; (with_reducible refine (spec_l1Cur_pick.calls g s0_0 t449 t450 8 t451 t452 t453 w0 _ ?side1 ?side2 A4.out).mono ?_); (case side1 => exact IsS51.zJ HI0.out NB0_444.out); (case side2 => first | exact zBz HB.out (IsS51.ge HI0.out) GE444.out | exact zBy HB.out GE444.out); rintro e w62 ⟨rfl, hi, hb, hk⟩; refine ⟨_, rfl, ?_⟩; replace BK444 := Aside0.mk (KeepBut.blk hk (g' := gb444) (o := .cells #[.int .i64 0, .int .i64 0, .int .i64 0, .int .i64 0] 30 (0, 0)) (zbx BK444.out) NB444_0.out (by simp)); replace HK := Aside0.mk (KeepBut.trans (zKy HK.out GW444.out) hk (.inl rfl)); replace HB := Aside0.mk (hb); replace HI0 := Aside0.mk (hi); (try clear hb); (try clear hk); (try clear hi)) | ((with_reducible refine gate_callee (f := 52) rfl ?_); refine goesL_ (some 11) rfl rfl Try.func52 (by kernel_rfl) rfl #[.pointer (some ⟨g, 0, none⟩), .int .i64 40] rfl zlx ?_; (with_reducible refine (spec_l1Cur_pick.calls g s0_0 t452 t453 40 t454 t455 t456 w0 _ ?side1 ?side2 A5.out).mono ?_); (case side1 => exact IsS51.zJ HI0.out NB0_444.out); (case side2 => first | exact zBz HB.out (IsS51.ge HI0.out) GE444.out | exact zBy HB.out GE444.out); rintro e w63 ⟨rfl, hi, hb, hk⟩; refine ⟨_, rfl, ?_⟩; replace BK444 := Aside0.mk (KeepBut.blk hk (g' := gb444) (o := .cells #[.int .i64 0, .int .i64 0, .int .i64 0, .int .i64 0] 30 (0, 0)) (zbx BK444.out) NB444_0.out (by simp)); replace HK := Aside0.mk (KeepBut.trans (zKy HK.out GW444.out) hk (.inl rfl)); replace HB := Aside0.mk (hb); replace HI0 := Aside0.mk (hi); (try clear hb); (try clear hk); (try clear hi)) | ((with_reducible refine gate_dst (N := 3) rfl ?_); refine box_event ?hg (N := 3) ?hd (cs := #[.int .i64 0, .int .i64 0, .int .i64 0, .int .i64 0]) (t := 30) ?hr ?_; (case hd => rfl); (case hg => rfl); (case hr => exact zsx); intro gb457 hg w64 hbox hb; replace HB := Aside0.mk (below_step (by first | exact zBz HB.out (IsS51.ge HI0.out) GE444.out | exact zBy HB.out GE444.out) hb); have BK457 := Aside0.mk (hbox); have GW457 := Aside0.mk ((by rw [hg]; exact (keep_size (w := w) (g := g) (row := none) (zKy HK.out GW444.out)) : w.heap.size ≤ gb457)); have GE457 := Aside0.mk ((Nat.le_trans HW0.out (by rw [hg]; exact (keep_size (w := w) (g := g) (row := none) (zKy HK.out GW444.out)) : w.heap.size ≤ gb457) : w0.heap.size ≤ gb457)); replace HK := Aside0.mk (KeepBut.trans (zKy HK.out GW444.out) (KeepBut.of_below hb g none) (.inl rfl)); have NB444_457 := znl hg BK444.out; have NB457_444 := zng hg BK444.out; replace BK444 := zbl BK444.out hb; have NB0_457 := Aside0.mk ((by rw [hg]; exact Nat.ne_of_lt (IsS51.lt (show IsS51 w0 _ g s0_0 t455 t456 from IsS51.zJ HI0.out NB0_444.out)) : g ≠ gb457)); have NB457_0 := Aside0.mk ((by rw [hg]; exact Nat.ne_of_gt (IsS51.lt (show IsS51 w0 _ g s0_0 t455 t456 from IsS51.zJ HI0.out NB0_444.out)) : gb457 ≠ g)); replace HI0 := Aside0.mk (IsS51.below (IsS51.zF HI0.out NB0_444.out) hb); clear hb hbox hg; have hnb65 := NB457_444.out; have hnc65 := NB444_457.out; have hnb66 := NB457_0.out; have hnc66 := NB0_457.out; have hcz67_0 : w64.cell? ⟨gb457, 0, none⟩ = some (.int .i64 0) := (blk_cell BK457.out 0).trans rfl; have hcz67_1 : w64.cell? ⟨gb457, 1, none⟩ = some (.int .i64 0) := (blk_cell BK457.out 1).trans rfl; have hcz67_2 : w64.cell? ⟨gb457, 2, none⟩ = some (.int .i64 0) := (blk_cell BK457.out 2).trans rfl; have hcz67_3 : w64.cell? ⟨gb457, 3, none⟩ = some (.int .i64 0) := (blk_cell BK457.out 3).trans rfl; have hfz67_0 := blk_frozen BK457.out 0; have hfz67_1 := blk_frozen BK457.out 1; have hfz67_2 := blk_frozen BK457.out 2; have hfz67_3 := blk_frozen BK457.out 3) | ((with_reducible refine gate_callee (f := 52) rfl ?_); refine goesL_ (some 14) rfl rfl Try.func52 (by kernel_rfl) rfl #[.pointer (some ⟨g, 0, none⟩), .int .i64 16] rfl zlx ?_; (with_reducible refine (spec_l1Cur_pick.calls g s0_0 t455 t456 16 t458 t459 t460 w0 _ ?side1 ?side2 A6.out).mono ?_); (case side1 => exact zhI51 HI0.out); (case side2 => exact zhB HB.out); rintro e w68 ⟨rfl, hi, hb, hk⟩; refine ⟨_, rfl, ?_⟩; replace BK444 := Aside0.mk (KeepBut.blk hk (g' := gb444) (o := .cells #[.int .i64 0, .int .i64 0, .int .i64 0, .int .i64 0] 30 (0, 0)) (zbq BK444.out) NB444_0.out (by simp)); replace BK457 := Aside0.mk (KeepBut.blk hk (g' := gb457) (o := .cells #[.int .i64 t445, .int .i64 t448, .int .i64 t451, .int .i64 t454] 30 (0, 0)) (zbp BK457.out) NB457_0.out (by simp)); replace HK := Aside0.mk (KeepBut.trans (zhK HK.out) hk (.inl rfl)); replace HB := Aside0.mk (hb); replace HI0 := Aside0.mk (hi); (try clear hb); (try clear hk); (try clear hi); have hcz69_0 : w68.cell? ⟨gb457, 0, none⟩ = some (.int .i64 t445) := (blk_cell BK457.out 0).trans rfl; have hcz69_1 : w68.cell? ⟨gb457, 1, none⟩ = some (.int .i64 t448) := (blk_cell BK457.out 1).trans rfl; have hcz69_2 : w68.cell? ⟨gb457, 2, none⟩ = some (.int .i64 t451) := (blk_cell BK457.out 2).trans rfl; have hcz69_3 : w68.cell? ⟨gb457, 3, none⟩ = some (.int .i64 t454) := (blk_cell BK457.out 3).trans rfl; have hfz69_0 := blk_frozen BK457.out 0; have hfz69_1 := blk_frozen BK457.out 1; have hfz69_2 := blk_frozen BK457.out 2; have hfz69_3 := blk_frozen BK457.out 3; have hnb70 := NB444_0.out; have hnc70 := NB0_444.out; have hcz71_0 : w68.cell? ⟨gb444, 0, none⟩ = some (.int .i64 0) := (blk_cell BK444.out 0).trans rfl; have hcz71_1 : w68.cell? ⟨gb444, 1, none⟩ = some (.int .i64 0) := (blk_cell BK444.out 1).trans rfl; have hcz71_2 : w68.cell? ⟨gb444, 2, none⟩ = some (.int .i64 0) := (blk_cell BK444.out 2).trans rfl; have hcz71_3 : w68.cell? ⟨gb444, 3, none⟩ = some (.int .i64 0) := (blk_cell BK444.out 3).trans rfl; have hfz71_0 := blk_frozen BK444.out 0; have hfz71_1 := blk_frozen BK444.out 1; have hfz71_2 := blk_frozen BK444.out 2; have hfz71_3 := blk_frozen BK444.out 3))
     refine bodyPost_ret (results_cell_row rfl _ _ gb444 30 #[.int .i64 t445, .int .i64 t448, .int .i64 t451, .int .i64 t454] (0, 0) _ rfl (zbp BK444.out) Try.underlying30 rfl (by kernel_rfl)) rfl ?_
     exact ⟨by first | rfl | (simp [errW_none, errW_some] <;> rfl) | (simp [*, errW_none, errW_some] <;> rfl), zhI51 HI0.out, zhB HB.out, zhK HK.out⟩

/-! ### spec_DrawAddTables: function 28 -/
def spec_DrawAddTables.f (l0 : List Int) : Option (Int × Int × Int × Int × Int × Int × Int × Int) := (spec_l1Cur_table.f l0 0 0).bind fun bt476 => ((spec_l1Cur_table.f l0 bt476.2.2.2.2.1 bt476.2.2.2.2.2).bind fun bt482 => (some (bt476.1, bt476.2.1, bt476.2.2.1, bt476.2.2.2.1, bt482.1, bt482.2.1, bt482.2.2.1, bt482.2.2.2.1)))
set_option maxHeartbeats 8000000 in
set_option maxRecDepth 100000 in
theorem spec_DrawAddTables.calls (A0 : Option Addr) (c0 : Nat) (l0 : List Int) (r1 : Int) (r2 : Int) (r3 : Int) (r4 : Int) (r5 : Int) (r6 : Int) (r7 : Int) (r8 : Int) (w : World) (hr0 : Kd.C (Kd.int .u8) w A0 l0.length l0) (hc0 : l0.length ≤ c0) (h : spec_DrawAddTables.f l0 = some (r1, r2, r3, r4, r5, r6, r7, r8)) :
 Calls Try.prog 28 #[.slice A0 l0.length c0] w fun e w' => e = .returned (.tuple #[.agg #[.int .i64 r1, .int .i64 r2, .int .i64 r3, .int .i64 r4], .agg #[.int .i64 r5, .int .i64 r6, .int .i64 r7, .int .i64 r8]]) ∧ Below w.heap.size w w' := by
 have hu30 := Try.underlying30
 have hu51 := Try.underlying51
 have HR0 := Aside0.mk hr0
 have HC0 := Aside0.mk hc0
 clear hr0 hc0
 have HB := Aside0.mk (Below.refl w.heap.size w)
 have H : ((spec_l1Cur_table.f l0 0 0).bind fun bt476 => ((spec_l1Cur_table.f l0 bt476.2.2.2.2.1 bt476.2.2.2.2.2).bind fun bt482 => (some (bt476.1, bt476.2.1, bt476.2.2.1, bt476.2.2.2.1, bt482.1, bt482.2.1, bt482.2.2.1, bt482.2.2.2.1)))) = some (r1, r2, r3, r4, r5, r6, r7, r8) := h
 clear h
 replace H := Option.bind_eq_some_iff.mp H
 obtain ⟨⟨t476, t477, t478, t479, t480, t481⟩, A20, H⟩ := H
 replace H : ((spec_l1Cur_table.f l0 t480 t481).bind fun bt482 => (some (t476, t477, t478, t479, bt482.1, bt482.2.1, bt482.2.2.1, bt482.2.2.2.1))) = some (r1, r2, r3, r4, r5, r6, r7, r8) := H
 have A2 := Aside0.mk A20
 clear A20
 replace H := Option.bind_eq_some_iff.mp H
 obtain ⟨⟨t482, t483, t484, t485, t486, t487⟩, A30, H⟩ := H
 replace H : (some (t476, t477, t478, t479, t482, t483, t484, t485)) = some (r1, r2, r3, r4, r5, r6, r7, r8) := H
 have A3 := Aside0.mk A30
 clear A30
 focus
  simp only [Option.some.injEq, Prod.mk.injEq] at H
  obtain ⟨rfl, rfl, rfl, rfl, rfl, rfl, rfl, rfl⟩ := H
  go_enter Try.func28, Try.ntmps28
  go_wp2_with (first | ((with_reducible refine gate_dst (N := 2) rfl ?_); refine box_event ?hg (N := 2) ?hd (cs := #[.int .i64 0, .int .i64 0, .int .i64 0, .int .i64 0]) (t := 30) ?hr ?_; (case hd => rfl); (case hg => rfl); (case hr => exact zsx); intro gb473 hg w4 hbox hb; have BK473 := Aside0.mk (hbox); have GW473 := zns hg HB.out; have GE473 := zns hg HB.out; replace HB := Aside0.mk (below_step (zBx HB.out) hb); clear hb hbox hg) | ((with_reducible refine gate_dst (N := 3) rfl ?_); refine box_event ?hg (N := 3) ?hd (cs := #[.int .i64 0, .int .i64 0, .int .i64 0, .int .i64 0]) (t := 30) ?hr ?_; (case hd => rfl); (case hg => rfl); (case hr => exact zsx); intro gb474 hg w5 hbox hb; have BK474 := Aside0.mk (hbox); have GW474 := zns hg HB.out; have GE474 := zns hg HB.out; replace HB := Aside0.mk (below_step (zBy HB.out GE473.out) hb); have NB473_474 := znl hg BK473.out; have NB474_473 := zng hg BK473.out; replace BK473 := zbl BK473.out hb; clear hb hbox hg) | ((with_reducible refine gate_dst (N := 7) rfl ?_); refine box_event ?hg (N := 7) ?hd (cs := #[.slice A0 l0.length c0, .int .i64 0, .int .u64 0]) (t := 51) ?hr ?_; (case hd => rfl); (case hg => rfl); (case hr => exact zsx); intro gb475 hg w6 hbox hb; have BK475 := Aside0.mk (hbox); have GW475 := zns hg HB.out; have GE475 := zns hg HB.out; replace HB := Aside0.mk (below_step (zBz HB.out GE473.out GE474.out) hb); have NB473_475 := znl hg BK473.out; have NB475_473 := zng hg BK473.out; replace BK473 := zbl BK473.out hb; have NB474_475 := znl hg BK474.out; have NB475_474 := zng hg BK474.out; replace BK474 := zbl BK474.out hb; clear hb hbox hg) | ((with_reducible refine gate_callee (f := 49) rfl ?_); refine goesL_ (some 9) rfl rfl Try.func49 (by kernel_rfl) rfl #[.pointer (some ⟨gb475, 0, none⟩)] rfl zlx ?_; (with_reducible refine (spec_l1Cur_table.calls gb475 l0 0 0 t476 t477 t478 t479 t480 t481 w _ ?side1 ?side2 A2.out).mono ?_); (case side1 => first | exact ⟨_, _, (zbx BK475.out), GE475.out, HR0.out⟩); (case side2 => exact zhB HB.out); rintro e w7 ⟨rfl, hi, hb, hk⟩; refine ⟨_, rfl, ?_⟩; replace BK473 := Aside0.mk (KeepBut.blk hk (g' := gb473) (o := .cells #[.int .i64 0, .int .i64 0, .int .i64 0, .int .i64 0] 30 (0, 0)) (zbx BK473.out) NB473_475.out (by simp)); replace BK474 := Aside0.mk (KeepBut.blk hk (g' := gb474) (o := .cells #[.int .i64 0, .int .i64 0, .int .i64 0, .int .i64 0] 30 (0, 0)) (zbx BK474.out) NB474_475.out (by simp)); replace HB := Aside0.mk (hb); have HI475 := Aside0.mk (hi); (try clear hb); (try clear hk); (try clear hi)) | ((with_reducible refine gate_callee (f := 49) rfl ?_); refine goesL_ (some 11) rfl rfl Try.func49 (by kernel_rfl) rfl #[.pointer (some ⟨gb475, 0, none⟩)] rfl zlx ?_; (with_reducible refine (spec_l1Cur_table.calls gb475 l0 t480 t481 t482 t483 t484 t485 t486 t487 w _ ?side1 ?side2 A3.out).mono ?_); (case side1 => exact zhI51 HI475.out); (case side2 => exact zhB HB.out); rintro e w8 ⟨rfl, hi, hb, hk⟩; refine ⟨_, rfl, ?_⟩; replace BK473 := Aside0.mk (KeepBut.blk hk (g' := gb473) (o := .cells #[.int .i64 0, .int .i64 0, .int .i64 0, .int .i64 0] 30 (0, 0)) (zbx BK473.out) NB473_475.out (by simp)); replace BK474 := Aside0.mk (KeepBut.blk hk (g' := gb474) (o := .cells #[.int .i64 0, .int .i64 0, .int .i64 0, .int .i64 0] 30 (0, 0)) (zbx BK474.out) NB474_475.out (by simp)); replace HB := Aside0.mk (hb); replace HI475 := Aside0.mk (hi); (try clear hb); (try clear hk); (try clear hi); have hnb9 := NB473_474.out; have hnc9 := NB474_473.out; have hnb10 := NB473_475.out; have hnc10 := NB475_473.out; have hcz11_0 : w8.cell? ⟨gb473, 0, none⟩ = some (.int .i64 0) := (blk_cell BK473.out 0).trans rfl; have hcz11_1 : w8.cell? ⟨gb473, 1, none⟩ = some (.int .i64 0) := (blk_cell BK473.out 1).trans rfl; have hcz11_2 : w8.cell? ⟨gb473, 2, none⟩ = some (.int .i64 0) := (blk_cell BK473.out 2).trans rfl; have hcz11_3 : w8.cell? ⟨gb473, 3, none⟩ = some (.int .i64 0) := (blk_cell BK473.out 3).trans rfl; have hfz11_0 := blk_frozen BK473.out 0; have hfz11_1 := blk_frozen BK473.out 1; have hfz11_2 := blk_frozen BK473.out 2; have hfz11_3 := blk_frozen BK473.out 3; have hnb12 := NB474_475.out; have hnc12 := NB475_474.out; have hcz13_0 : w8.cell? ⟨gb474, 0, none⟩ = some (.int .i64 0) := (blk_cell BK474.out 0).trans rfl; have hcz13_1 : w8.cell? ⟨gb474, 1, none⟩ = some (.int .i64 0) := (blk_cell BK474.out 1).trans rfl; have hcz13_2 : w8.cell? ⟨gb474, 2, none⟩ = some (.int .i64 0) := (blk_cell BK474.out 2).trans rfl; have hcz13_3 : w8.cell? ⟨gb474, 3, none⟩ = some (.int .i64 0) := (blk_cell BK474.out 3).trans rfl; have hfz13_0 := blk_frozen BK474.out 0; have hfz13_1 := blk_frozen BK474.out 1; have hfz13_2 := blk_frozen BK474.out 2; have hfz13_3 := blk_frozen BK474.out 3))
  refine bodyPost_ret (results_cc rfl _ _ gb473 gb474 30 30 #[.int .i64 t476, .int .i64 t477, .int .i64 t478, .int .i64 t479] #[.int .i64 t482, .int .i64 t483, .int .i64 t484, .int .i64 t485] (0, 0) (0, 0) _ _ rfl (zbp BK473.out) Try.underlying30 rfl (by kernel_rfl) rfl (zbp BK474.out) Try.underlying30 rfl (by kernel_rfl)) rfl ?_
  exact ⟨by first | rfl | (simp [errW_none, errW_some] <;> rfl) | (simp [*, errW_none, errW_some] <;> rfl), zhB HB.out⟩

/-! ### spec_DrawCompareTables: function 25 -/
def spec_DrawCompareTables.f (l0 : List Int) : Option (Int × Int × Int × Int × Int × Int × Int × Int) := (spec_DrawAddTables.f l0).bind fun bt490 => (some (bt490.1, bt490.2.1, bt490.2.2.1, bt490.2.2.2.1, bt490.2.2.2.2.1, bt490.2.2.2.2.2.1, bt490.2.2.2.2.2.2.1, bt490.2.2.2.2.2.2.2))
set_option maxHeartbeats 8000000 in
set_option maxRecDepth 100000 in
theorem spec_DrawCompareTables.calls (A0 : Option Addr) (c0 : Nat) (l0 : List Int) (r1 : Int) (r2 : Int) (r3 : Int) (r4 : Int) (r5 : Int) (r6 : Int) (r7 : Int) (r8 : Int) (w : World) (hr0 : Kd.C (Kd.int .u8) w A0 l0.length l0) (hc0 : l0.length ≤ c0) (h : spec_DrawCompareTables.f l0 = some (r1, r2, r3, r4, r5, r6, r7, r8)) :
 Calls Try.prog 25 #[.slice A0 l0.length c0] w fun e w' => e = .returned (.tuple #[.agg #[.int .i64 r1, .int .i64 r2, .int .i64 r3, .int .i64 r4], .agg #[.int .i64 r5, .int .i64 r6, .int .i64 r7, .int .i64 r8]]) ∧ Below w.heap.size w w' := by
 have hu30 := Try.underlying30
 have HR0 := Aside0.mk hr0
 have HC0 := Aside0.mk hc0
 clear hr0 hc0
 have HB := Aside0.mk (Below.refl w.heap.size w)
 have H : ((spec_DrawAddTables.f l0).bind fun bt490 => (some (bt490.1, bt490.2.1, bt490.2.2.1, bt490.2.2.2.1, bt490.2.2.2.2.1, bt490.2.2.2.2.2.1, bt490.2.2.2.2.2.2.1, bt490.2.2.2.2.2.2.2))) = some (r1, r2, r3, r4, r5, r6, r7, r8) := h
 clear h
 replace H := Option.bind_eq_some_iff.mp H
 obtain ⟨⟨t490, t491, t492, t493, t494, t495, t496, t497⟩, A20, H⟩ := H
 replace H : (some (t490, t491, t492, t493, t494, t495, t496, t497)) = some (r1, r2, r3, r4, r5, r6, r7, r8) := H
 have A2 := Aside0.mk A20
 clear A20
 focus
  simp only [Option.some.injEq, Prod.mk.injEq] at H
  obtain ⟨rfl, rfl, rfl, rfl, rfl, rfl, rfl, rfl⟩ := H
  go_enter Try.func25, Try.ntmps25
  go_wp2_with (first | ((with_reducible refine gate_dst (N := 2) rfl ?_); refine box_event ?hg (N := 2) ?hd (cs := #[.int .i64 0, .int .i64 0, .int .i64 0, .int .i64 0]) (t := 30) ?hr ?_; (case hd => rfl); (case hg => rfl); (case hr => exact zsx); intro gb488 hg w3 hbox hb; have BK488 := Aside0.mk (hbox); have GW488 := zns hg HB.out; have GE488 := zns hg HB.out; replace HB := Aside0.mk (below_step (zBx HB.out) hb); clear hb hbox hg) | ((with_reducible refine gate_dst (N := 3) rfl ?_); refine box_event ?hg (N := 3) ?hd (cs := #[.int .i64 0, .int .i64 0, .int .i64 0, .int .i64 0]) (t := 30) ?hr ?_; (case hd => rfl); (case hg => rfl); (case hr => exact zsx); intro gb489 hg w4 hbox hb; have BK489 := Aside0.mk (hbox); have GW489 := zns hg HB.out; have GE489 := zns hg HB.out; replace HB := Aside0.mk (below_step (zBy HB.out GE488.out) hb); have NB488_489 := znl hg BK488.out; have NB489_488 := zng hg BK488.out; replace BK488 := zbl BK488.out hb; clear hb hbox hg) | ((with_reducible refine gate_callee (f := 28) rfl ?_); refine goesL_ (some 5) rfl rfl Try.func28 (by kernel_rfl) rfl #[.slice A0 l0.length c0] rfl zlx ?_; (with_reducible refine (spec_DrawAddTables.calls _ _ l0 t490 t491 t492 t493 t494 t495 t496 t497 _ ?side1 ?side2 A2.out).mono ?_); (case side1 => exact zCx (Kd.C_below HR0.out HB.out)); (case side2 => exact HC0.out); rintro e w5 ⟨rfl, hb⟩; refine ⟨_, rfl, ?_⟩; replace BK488 := zbl BK488.out hb; replace BK489 := zbl BK489.out hb; replace HB := Aside0.mk (below_step (zBz HB.out GE488.out GE489.out) hb); (try clear hb); have hnb6 := NB488_489.out; have hnc6 := NB489_488.out; have hcz7_0 : w5.cell? ⟨gb488, 0, none⟩ = some (.int .i64 0) := (blk_cell BK488.out 0).trans rfl; have hcz7_1 : w5.cell? ⟨gb488, 1, none⟩ = some (.int .i64 0) := (blk_cell BK488.out 1).trans rfl; have hcz7_2 : w5.cell? ⟨gb488, 2, none⟩ = some (.int .i64 0) := (blk_cell BK488.out 2).trans rfl; have hcz7_3 : w5.cell? ⟨gb488, 3, none⟩ = some (.int .i64 0) := (blk_cell BK488.out 3).trans rfl; have hfz7_0 := blk_frozen BK488.out 0; have hfz7_1 := blk_frozen BK488.out 1; have hfz7_2 := blk_frozen BK488.out 2; have hfz7_3 := blk_frozen BK488.out 3; have hcz8_0 : w5.cell? ⟨gb489, 0, none⟩ = some (.int .i64 0) := (blk_cell BK489.out 0).trans rfl; have hcz8_1 : w5.cell? ⟨gb489, 1, none⟩ = some (.int .i64 0) := (blk_cell BK489.out 1).trans rfl; have hcz8_2 : w5.cell? ⟨gb489, 2, none⟩ = some (.int .i64 0) := (blk_cell BK489.out 2).trans rfl; have hcz8_3 : w5.cell? ⟨gb489, 3, none⟩ = some (.int .i64 0) := (blk_cell BK489.out 3).trans rfl; have hfz8_0 := blk_frozen BK489.out 0; have hfz8_1 := blk_frozen BK489.out 1; have hfz8_2 := blk_frozen BK489.out 2; have hfz8_3 := blk_frozen BK489.out 3))
  refine bodyPost_ret (results_cc rfl _ _ gb488 gb489 30 30 #[.int .i64 t490, .int .i64 t491, .int .i64 t492, .int .i64 t493] #[.int .i64 t494, .int .i64 t495, .int .i64 t496, .int .i64 t497] (0, 0) (0, 0) _ _ rfl (zbp BK488.out) Try.underlying30 rfl (by kernel_rfl) rfl (zbp BK489.out) Try.underlying30 rfl (by kernel_rfl)) rfl ?_
  exact ⟨by first | rfl | (simp [errW_none, errW_some] <;> rfl) | (simp [*, errW_none, errW_some] <;> rfl), by exact zBz HB.out GE488.out GE489.out⟩

end Go.Proofs.Ytddgbaohepfekaa.XFnLimits
