-- written by wip/tools/xprint.py (a program of this project) out of the translation
import Derived.Test.YtddgbaohepfekaaXFnLimitsx0
import Derived.Test.YtddgbaohepfekaaXFnLimitsx3
import Derived.Test.YtddgbaohepfekaaXFnLimitsx4
namespace Go.Proofs.Ytddgbaohepfekaa.XFnLimits
open Go.RowKit Go.Proofs.YtddgbaohepfekaaW.PrintWords Go.Proofs.YtddgbaohepfekaaW.PrintLast Go.Proofs.YtddgbaohepfekaaW.PrintMore
attribute [local go_sem] max2_int min2_int max_two min_two max_three min_three max_four min_four   -- for this text's walks alone
set_option linter.unusedVariables false
set_option linter.unusedSimpArgs false

/-! ### impl_countTable: function 35 -/
mutual
def impl_countTable.l0 : Nat → Int → Int → List Int → Int → Int → Int → Int → List Int → Int → Int → Int → Int → Option (Int × Int × Int × Int)
 | 0, _, _, _, _, _, _, _, _, _, _, _, _ => none
 | k + 1, x2, x3, x14, x15, x16, x121000, x121001, x121002, x123000, x123001, x123002, x123003 => if x16 < x15 then (if 0 ≤ x16 then (if x16 < (x14.length : Int) then (if x16 < (x121002.length : Int) then (if (rd x14 x16) = (-9999) then (impl_countTable.j1 k x2 x3 (rd x14 x16) (rd x121002 x16) x14 x15 x16 true x121000 x121001 x121002 x123000 x123001 x123002 x123003) else (impl_countTable.j1 k x2 x3 (rd x14 x16) (rd x121002 x16) x14 x15 x16 ((rd x121002 x16) == (-9999)) x121000 x121001 x121002 x123000 x123001 x123002 x123003)) else (none)) else (none)) else (none)) else (some (x123000, x123001, x123002, x123003))
def impl_countTable.j1 : Nat → Int → Int → Int → Int → List Int → Int → Int → Bool → Int → Int → List Int → Int → Int → Int → Int → Option (Int × Int × Int × Int)
 | 0, _, _, _, _, _, _, _, _, _, _, _, _, _, _, _ => none
 | k + 1, x2, x3, x11, x12, x14, x15, x16, x30, x121000, x121001, x121002, x123000, x123001, x123002, x123003 => if x30 = true then (impl_countTable.l0 k x2 x3 x14 x15 (wrap64 (x16 + 1)) x121000 x121001 x121002 x123000 x123001 x123002 x123003) else (if x11 > x2 then (impl_countTable.j2 k x2 x3 x11 x12 x14 x15 x16 (decide (x12 > x3)) x121000 x121001 x121002 x123000 x123001 x123002 x123003) else (impl_countTable.j2 k x2 x3 x11 x12 x14 x15 x16 false x121000 x121001 x121002 x123000 x123001 x123002 x123003))
def impl_countTable.j2 : Nat → Int → Int → Int → Int → List Int → Int → Int → Bool → Int → Int → List Int → Int → Int → Int → Int → Option (Int × Int × Int × Int)
 | 0, _, _, _, _, _, _, _, _, _, _, _, _, _, _, _ => none
 | k + 1, x2, x3, x11, x12, x14, x15, x16, x37, x121000, x121001, x121002, x123000, x123001, x123002, x123003 => if x37 = true then (impl_countTable.l0 k x2 x3 x14 x15 (wrap64 (x16 + 1)) x121000 x121001 x121002 (wrap64 (x123000 + 1)) x123001 x123002 x123003) else (if x11 > x2 then (impl_countTable.l0 k x2 x3 x14 x15 (wrap64 (x16 + 1)) x121000 x121001 x121002 x123000 x123001 (wrap64 (x123002 + 1)) x123003) else (if x12 > x3 then (impl_countTable.l0 k x2 x3 x14 x15 (wrap64 (x16 + 1)) x121000 x121001 x121002 x123000 (wrap64 (x123001 + 1)) x123002 x123003) else (impl_countTable.l0 k x2 x3 x14 x15 (wrap64 (x16 + 1)) x121000 x121001 x121002 x123000 x123001 x123002 (wrap64 (x123003 + 1)))))
end
def impl_countTable.f (k : Nat) (a0_0 : Int) (a0_1 : Int) (l0_2 : List Int) (a1_0 : Int) (a1_1 : Int) (l1_2 : List Int) (a2 : Int) (a3 : Int) : Option (Int × Int × Int × Int) := impl_countTable.l0 k a2 a3 l0_2 (l0_2.length : Int) 0 a1_0 a1_1 l1_2 0 0 0 0
theorem impl_countTable.mono_l : ∀ k, (∀ y0 y1 y2 y3 y4 y5 y6 y7 y8 y9 y10 y11, LeO (impl_countTable.l0 k y0 y1 y2 y3 y4 y5 y6 y7 y8 y9 y10 y11) (impl_countTable.l0 (k + 1) y0 y1 y2 y3 y4 y5 y6 y7 y8 y9 y10 y11)) ∧ (∀ y0 y1 y2 y3 y4 y5 y6 y7 y8 y9 y10 y11 y12 y13 y14, LeO (impl_countTable.j1 k y0 y1 y2 y3 y4 y5 y6 y7 y8 y9 y10 y11 y12 y13 y14) (impl_countTable.j1 (k + 1) y0 y1 y2 y3 y4 y5 y6 y7 y8 y9 y10 y11 y12 y13 y14)) ∧ (∀ y0 y1 y2 y3 y4 y5 y6 y7 y8 y9 y10 y11 y12 y13 y14, LeO (impl_countTable.j2 k y0 y1 y2 y3 y4 y5 y6 y7 y8 y9 y10 y11 y12 y13 y14) (impl_countTable.j2 (k + 1) y0 y1 y2 y3 y4 y5 y6 y7 y8 y9 y10 y11 y12 y13 y14))
 | 0 => ⟨fun _ _ _ _ _ _ _ _ _ _ _ _ r h => by simp [impl_countTable.l0] at h, fun _ _ _ _ _ _ _ _ _ _ _ _ _ _ _ r h => by simp [impl_countTable.j1] at h, fun _ _ _ _ _ _ _ _ _ _ _ _ _ _ _ r h => by simp [impl_countTable.j2] at h⟩
 | k + 1 => by
  obtain ⟨ih0, ih1, ih2⟩ := impl_countTable.mono_l k
  refine ⟨?_, ?_, ?_⟩
  ·intro y0 y1 y2 y3 y4 y5 y6 y7 y8 y9 y10 y11
   unfold impl_countTable.l0
   repeat' first
   | (with_reducible exact ih0 _ _ _ _ _ _ _ _ _ _ _ _)
   | (with_reducible exact ih1 _ _ _ _ _ _ _ _ _ _ _ _ _ _ _)
   | (with_reducible exact ih2 _ _ _ _ _ _ _ _ _ _ _ _ _ _ _)
   | (with_reducible exact LeO.refl _)
   | (with_reducible exact LeO.none _)
   | (with_reducible refine LeO.ite ?_ ?_)
   | (with_reducible refine LeO.bind ?_ (fun _ => ?_))
   | exact ih0 _ _ _ _ _ _ _ _ _ _ _ _
   | exact ih1 _ _ _ _ _ _ _ _ _ _ _ _ _ _ _
   | exact ih2 _ _ _ _ _ _ _ _ _ _ _ _ _ _ _
   | exact LeO.none _
   | refine LeO.ite ?_ ?_
   | refine LeO.bind ?_ (fun _ => ?_)
  ·intro y0 y1 y2 y3 y4 y5 y6 y7 y8 y9 y10 y11 y12 y13 y14
   unfold impl_countTable.j1
   repeat' first
   | (with_reducible exact ih0 _ _ _ _ _ _ _ _ _ _ _ _)
   | (with_reducible exact ih1 _ _ _ _ _ _ _ _ _ _ _ _ _ _ _)
   | (with_reducible exact ih2 _ _ _ _ _ _ _ _ _ _ _ _ _ _ _)
   | (with_reducible exact LeO.refl _)
   | (with_reducible exact LeO.none _)
   | (with_reducible refine LeO.ite ?_ ?_)
   | (with_reducible refine LeO.bind ?_ (fun _ => ?_))
   | exact ih0 _ _ _ _ _ _ _ _ _ _ _ _
   | exact ih1 _ _ _ _ _ _ _ _ _ _ _ _ _ _ _
   | exact ih2 _ _ _ _ _ _ _ _ _ _ _ _ _ _ _
   | exact LeO.none _
   | refine LeO.ite ?_ ?_
   | refine LeO.bind ?_ (fun _ => ?_)
  ·intro y0 y1 y2 y3 y4 y5 y6 y7 y8 y9 y10 y11 y12 y13 y14
   unfold impl_countTable.j2
   repeat' first
   | (with_reducible exact ih0 _ _ _ _ _ _ _ _ _ _ _ _)
   | (with_reducible exact ih1 _ _ _ _ _ _ _ _ _ _ _ _ _ _ _)
   | (with_reducible exact ih2 _ _ _ _ _ _ _ _ _ _ _ _ _ _ _)
   | (with_reducible exact LeO.refl _)
   | (with_reducible exact LeO.none _)
   | (with_reducible refine LeO.ite ?_ ?_)
   | (with_reducible refine LeO.bind ?_ (fun _ => ?_))
   | exact ih0 _ _ _ _ _ _ _ _ _ _ _ _
   | exact ih1 _ _ _ _ _ _ _ _ _ _ _ _ _ _ _
   | exact ih2 _ _ _ _ _ _ _ _ _ _ _ _ _ _ _
   | exact LeO.none _
   | refine LeO.ite ?_ ?_
   | refine LeO.bind ?_ (fun _ => ?_)
theorem impl_countTable.mono : ∀ a0 a1 a2 a3 a4 a5 a6 a7 k, LeO (impl_countTable.f k a0 a1 a2 a3 a4 a5 a6 a7) (impl_countTable.f (k + 1) a0 a1 a2 a3 a4 a5 a6 a7) := by
 intro a0 a1 a2 a3 a4 a5 a6 a7 k
 obtain ⟨ih0, ih1, ih2⟩ := impl_countTable.mono_l k
 unfold impl_countTable.f
 repeat' first
  | (with_reducible exact ih0 _ _ _ _ _ _ _ _ _ _ _ _)
  | (with_reducible exact ih1 _ _ _ _ _ _ _ _ _ _ _ _ _ _ _)
  | (with_reducible exact ih2 _ _ _ _ _ _ _ _ _ _ _ _ _ _ _)
  | (with_reducible exact LeO.refl _)
  | (with_reducible exact LeO.none _)
  | (with_reducible refine LeO.ite ?_ ?_)
  | (with_reducible refine LeO.bind ?_ (fun _ => ?_))
  | exact ih0 _ _ _ _ _ _ _ _ _ _ _ _
  | exact ih1 _ _ _ _ _ _ _ _ _ _ _ _ _ _ _
  | exact ih2 _ _ _ _ _ _ _ _ _ _ _ _ _ _ _
  | exact LeO.none _
  | refine LeO.ite ?_ ?_
  | refine LeO.bind ?_ (fun _ => ?_)
set_option maxHeartbeats 8000000 in
set_option maxRecDepth 100000 in
theorem impl_countTable.calls (k : Nat) (a0_0 : Int) (a0_1 : Int) (A0_2 : Option Addr) (c0_2 : Nat) (l0_2 : List Int) (a1_0 : Int) (a1_1 : Int) (A1_2 : Option Addr) (c1_2 : Nat) (l1_2 : List Int) (a2 : Int) (a3 : Int) (r1 : Int) (r2 : Int) (r3 : Int) (r4 : Int) (w : World) (hr0_2 : Kd.C (Kd.int .i64) w A0_2 l0_2.length l0_2) (hc0_2 : l0_2.length ≤ c0_2) (hr1_2 : Kd.C (Kd.int .i64) w A1_2 l1_2.length l1_2) (hc1_2 : l1_2.length ≤ c1_2) (h : impl_countTable.f k a0_0 a0_1 l0_2 a1_0 a1_1 l1_2 a2 a3 = some (r1, r2, r3, r4)) :
 Calls Try.prog 35 #[.agg #[.int .i64 a0_0, .int .i64 a0_1, .slice A0_2 l0_2.length c0_2], .agg #[.int .i64 a1_0, .int .i64 a1_1, .slice A1_2 l1_2.length c1_2], .int .i64 a2, .int .i64 a3] w fun e w' => e = .returned (.agg #[.int .i64 r1, .int .i64 r2, .int .i64 r3, .int .i64 r4]) ∧ Below w.heap.size w w' := by
 have hu26 := Try.underlying26
 have hu30 := Try.underlying30
 have HR0_2 := Aside0.mk hr0_2
 have HC0_2 := Aside0.mk hc0_2
 clear hr0_2 hc0_2
 have HR1_2 := Aside0.mk hr1_2
 have HC1_2 := Aside0.mk hc1_2
 clear hr1_2 hc1_2
 have HB := Aside0.mk (Below.refl w.heap.size w)
 have H : (impl_countTable.l0 k a2 a3 l0_2 (l0_2.length : Int) 0 a1_0 a1_1 l1_2 0 0 0 0) = some (r1, r2, r3, r4) := h
 clear h
 have H' := Aside0.mk H
 clear H
 go_enter Try.func35, Try.ntmps35
 go_wp2_with (first | ((with_reducible refine gate_dst (N := 4) rfl ?_); refine box_event ?hg (N := 4) ?hd (cs := #[.int .i64 a0_0, .int .i64 a0_1, .slice A0_2 l0_2.length c0_2]) (t := 26) ?hr ?_; (case hd => rfl); (case hg => rfl); (case hr => exact zsx); intro gb119 hg w5 hbox hb; have BK119 := Aside0.mk (hbox); have GW119 := zns hg HB.out; have GE119 := zns hg HB.out; replace HB := Aside0.mk (below_step (zBx HB.out) hb); clear hb hbox hg) | ((with_reducible refine gate_dst (N := 5) rfl ?_); refine box_event ?hg (N := 5) ?hd (cs := #[.int .i64 a1_0, .int .i64 a1_1, .slice A1_2 l1_2.length c1_2]) (t := 26) ?hr ?_; (case hd => rfl); (case hg => rfl); (case hr => exact zsx); intro gb120 hg w6 hbox hb; have BK120 := Aside0.mk (hbox); have GW120 := zns hg HB.out; have GE120 := zns hg HB.out; replace HB := Aside0.mk (below_step (zBy HB.out GE119.out) hb); have NB119_120 := znl hg BK119.out; have NB120_119 := zng hg BK119.out; replace BK119 := zbl BK119.out hb; clear hb hbox hg) | ((with_reducible refine gate_dst (N := 8) rfl ?_); refine box_event ?hg (N := 8) ?hd (cs := #[.int .i64 0, .int .i64 0, .int .i64 0, .int .i64 0]) (t := 30) ?hr ?_; (case hd => rfl); (case hg => rfl); (case hr => exact zsx); intro gb121 hg w7 hbox hb; have BK121 := Aside0.mk (hbox); have GW121 := zns hg HB.out; have GE121 := zns hg HB.out; replace HB := Aside0.mk (below_step (zBz HB.out GE119.out GE120.out) hb); have NB119_121 := znl hg BK119.out; have NB121_119 := zng hg BK119.out; replace BK119 := zbl BK119.out hb; have NB120_121 := znl hg BK120.out; have NB121_120 := zng hg BK120.out; replace BK120 := zbl BK120.out hb; clear hb hbox hg) | ((with_reducible refine gate_dst (N := 9) rfl ?_); refine box_event ?hg (N := 9) ?hd (cs := #[.int .i64 0, .int .i64 0, .int .i64 0, .int .i64 0]) (t := 30) ?hr ?_; (case hd => rfl); (case hg => rfl); (case hr => exact zsx); intro gb122 hg w8 hbox hb; have BK122 := Aside0.mk (hbox); have GW122 := zns hg HB.out; have GE122 := zns hg HB.out; replace HB := Aside0.mk (below_step (zhB HB.out) hb); have NB119_122 := znl hg BK119.out; have NB122_119 := zng hg BK119.out; replace BK119 := zbl BK119.out hb; have NB120_122 := znl hg BK120.out; have NB122_120 := zng hg BK120.out; replace BK120 := zbl BK120.out hb; have NB121_122 := znl hg BK121.out; have NB122_121 := zng hg BK121.out; replace BK121 := zbl BK121.out hb; clear hb hbox hg; have hnb9 := NB119_120.out; have hnc9 := NB120_119.out; have hnb10 := NB119_121.out; have hnc10 := NB121_119.out; have hnb11 := NB119_122.out; have hnc11 := NB122_119.out; have hcz12_0 : w8.cell? ⟨gb119, 0, none⟩ = some (.int .i64 a0_0) := (blk_cell BK119.out 0).trans rfl; have hcz12_1 : w8.cell? ⟨gb119, 1, none⟩ = some (.int .i64 a0_1) := (blk_cell BK119.out 1).trans rfl; have hcz12_2 : w8.cell? ⟨gb119, 2, none⟩ = some (.slice A0_2 l0_2.length c0_2) := (blk_cell BK119.out 2).trans rfl; have hfz12_0 := blk_frozen BK119.out 0; have hfz12_1 := blk_frozen BK119.out 1; have hfz12_2 := blk_frozen BK119.out 2))
 go_loopg [16] k (fun kq v16 w' => ∃ (x16_1 : Int) (x123000_1 : Int) (x123001_1 : Int) (x123002_1 : Int) (x123003_1 : Int), v16 = .int .i64 x16_1 ∧ Aside0 (impl_countTable.l0 kq a2 a3 l0_2 (l0_2.length : Int) x16_1 a1_0 a1_1 l1_2 x123000_1 x123001_1 x123002_1 x123003_1 = some (r1, r2, r3, r4)) ∧ Aside0 (kq ≤ k) ∧ Aside0 (w'.heap[gb119]? = some (.cells #[.int .i64 a0_0, .int .i64 a0_1, (.slice A0_2 l0_2.length c0_2)] 26 (0, 0))) ∧ Aside0 (w'.heap[gb120]? = some (.cells #[.int .i64 a1_0, .int .i64 a1_1, (.slice A1_2 l1_2.length c1_2)] 26 (0, 0))) ∧ Aside0 (w'.heap[gb121]? = some (.cells #[.int .i64 0, .int .i64 0, .int .i64 0, .int .i64 0] 30 (0, 0))) ∧ Aside0 (w'.heap[gb122]? = some (.cells #[.int .i64 x123000_1, .int .i64 x123001_1, .int .i64 x123002_1, .int .i64 x123003_1] 30 (0, 0))) ∧ Aside0 (Below w.heap.size w w'))
 case atStart => exact ⟨(0), (0), (0), (0), (0), zrx, H', ⟨Nat.le_refl _⟩, ⟨by refine zbx ?_; exact BK119.out⟩, ⟨by refine zbx ?_; exact BK120.out⟩, ⟨by refine zbx ?_; exact BK121.out⟩, ⟨by refine zbx ?_; exact BK122.out⟩, ⟨zhB HB.out⟩⟩
 case round =>
  clear H'
  try clear c1
  try clear p2
  try clear c3
  try clear c9
  try clear c10
  try clear c11
  try clear hcz12_0
  try clear hcz12_1
  try clear hcz12_2
  try clear hfz12_0
  try clear hfz12_1
  try clear hfz12_2
  obtain ⟨x16_1, x123000_1, x123001_1, x123002_1, x123003_1, rfl, HA, HK1, BK119, BK120, BK121, BK122, HB⟩ := hrel
  cases gk with
  | zero => exact absurd HA.out (by simp [impl_countTable.l0])
  | succ k1 =>
   have H := HA.out
   clear HA
   simp only [impl_countTable.l0] at H
   by_cases c13 : x16_1 < (l0_2.length : Int)
   ·rw [if_pos c13] at H
    have c13b0 : decide (x16_1 < (l0_2.length : Int)) = true := decide_eq_true c13
    clear c13
    by_cases c14 : 0 ≤ x16_1
    ·rw [if_pos c14] at H
     have c14b0 : decide (0 ≤ x16_1) = true := decide_eq_true c14
     clear c14
     by_cases c15 : x16_1 < (l0_2.length : Int)
     ·rw [if_pos c15] at H
      have c15b0 : decide (x16_1 < (l0_2.length : Int)) = true := decide_eq_true c15
      clear c15
      by_cases c16 : x16_1 < (l1_2.length : Int)
      ·rw [if_pos c16] at H
       have c16b0 : decide (x16_1 < (l1_2.length : Int)) = true := decide_eq_true c16
       clear c16
       have HC17 := Aside0.mk H
       clear H
       have p123 : 0 ≤ (x16_1 : Int) := of_decide_eq_true zax
       have q123 : x16_1 < (l0_2.length : Int) := of_decide_eq_true zax
       obtain ⟨ad123, e123, hx123_0⟩ := Kd.at_int HR0_2.out x16_1 p123 q123
       cases e123
       replace hx123_0 := (HB.out.cell (World.block_lt_of_cell? w _ hx123_0)).trans hx123_0
       replace p123 := eq_true p123
       replace q123 := eq_true q123
       have hnb18 := NB120_119.out
       have hnc18 := NB119_120.out
       have hnb19 := NB120_121.out
       have hnc19 := NB121_120.out
       have hnb20 := NB120_122.out
       have hnc20 := NB122_120.out
       have hcz21_0 : wr.cell? ⟨gb120, 0, none⟩ = some (.int .i64 a1_0) := (blk_cell BK120.out 0).trans rfl
       have hcz21_1 : wr.cell? ⟨gb120, 1, none⟩ = some (.int .i64 a1_1) := (blk_cell BK120.out 1).trans rfl
       have hcz21_2 : wr.cell? ⟨gb120, 2, none⟩ = some (.slice A1_2 l1_2.length c1_2) := (blk_cell BK120.out 2).trans rfl
       have hfz21_0 := blk_frozen BK120.out 0
       have hfz21_1 := blk_frozen BK120.out 1
       have hfz21_2 := blk_frozen BK120.out 2
       have p124 : 0 ≤ (x16_1 : Int) := of_decide_eq_true zax
       have q124 : x16_1 < (l1_2.length : Int) := of_decide_eq_true zax
       obtain ⟨ad124, e124, hx124_0⟩ := Kd.at_int HR1_2.out x16_1 p124 q124
       cases e124
       replace hx124_0 := (HB.out.cell (World.block_lt_of_cell? w _ hx124_0)).trans hx124_0
       replace p124 := eq_true p124
       replace q124 := eq_true q124
       go_upto_region 7 with (fail)
       go_cut [30] (fun v30 wc => ∃ (kq : Nat) (x30_16 : Bool), v30 = .bool x30_16 ∧ Aside0 (impl_countTable.j1 kq a2 a3 (rd l0_2 x16_1) (rd l1_2 x16_1) l0_2 (l0_2.length : Int) x16_1 x30_16 a1_0 a1_1 l1_2 x123000_1 x123001_1 x123002_1 x123003_1 = some (r1, r2, r3, r4)) ∧ Aside0 (kq ≤ k1) ∧ Aside0 (wc.heap[gb119]? = some (.cells #[.int .i64 a0_0, .int .i64 a0_1, (.slice (some ad123) l0_2.length c0_2)] 26 (0, 0))) ∧ Aside0 (wc.heap[gb120]? = some (.cells #[.int .i64 a1_0, .int .i64 a1_1, (.slice (some ad124) l1_2.length c1_2)] 26 (0, 0))) ∧ Aside0 (wc.heap[gb121]? = some (.cells #[.int .i64 0, .int .i64 0, .int .i64 0, .int .i64 0] 30 (0, 0))) ∧ Aside0 (wc.heap[gb122]? = some (.cells #[.int .i64 x123000_1, .int .i64 x123001_1, .int .i64 x123002_1, .int .i64 x123003_1] 30 (0, 0))) ∧ Aside0 (Below w.heap.size w wc))
       case first =>
        have H := HC17.out
        clear HC17
        by_cases c22 : (rd l0_2 x16_1) = (-9999)
        ·rw [if_pos c22] at H
         have c22b0 : ((rd l0_2 x16_1) == (-9999)) = true := beq_iff_eq.mpr c22
         have c22b1 : ((rd l0_2 x16_1) != (-9999)) = false := bne_eq_false_iff_eq.mpr c22
         clear c22
         (first | rw [c22b0] | (simp only [i64_w, i32_w]; rw [c22b0]) | skip)
         focus
          have H' := Aside0.mk H
          clear H
          go_wp2
          go_meet
          case rel => exact ⟨_, (true), zrx, H', ⟨by have := HK1.out; first | omega | exact Nat.le_refl _⟩, ⟨by refine zbx ?_; exact BK119.out⟩, ⟨by refine zbx ?_; exact BK120.out⟩, ⟨by refine zbx ?_; exact BK121.out⟩, ⟨by refine zbx ?_; exact BK122.out⟩, ⟨zhB HB.out⟩⟩
        ·rw [if_neg c22] at H
         have c22b0 : ((rd l0_2 x16_1) == (-9999)) = false := beq_eq_false_iff_ne.mpr c22
         have c22b1 : ((rd l0_2 x16_1) != (-9999)) = true := bne_iff_ne.mpr c22
         (first | rw [c22b0] | (simp only [i64_w, i32_w]; rw [c22b0]) | skip)
         focus
          have H' := Aside0.mk H
          clear H
          go_wp2
          go_meet
          case rel => exact ⟨_, (((rd l1_2 x16_1) == (-9999))), zrx, H', ⟨by have := HK1.out; first | omega | exact Nat.le_refl _⟩, ⟨by refine zbx ?_; exact BK119.out⟩, ⟨by refine zbx ?_; exact BK120.out⟩, ⟨by refine zbx ?_; exact BK121.out⟩, ⟨by refine zbx ?_; exact BK122.out⟩, ⟨zhB HB.out⟩⟩
       case rest =>
        clear HC17
        try clear c1
        try clear p1
        try clear q1
        try clear hx1
        try clear c2
        try clear p2
        try clear c3
        try clear c9
        try clear c10
        try clear c11
        try clear p12
        try clear q12
        try clear hx12
        try clear c13
        try clear c13b0
        try clear c14
        try clear c14b0
        try clear c15
        try clear c15b0
        try clear c16
        try clear c16b0
        try clear c18
        try clear c19
        try clear c20
        try clear c22
        try clear c22b0
        try clear c22b1
        try clear hcz12_0
        try clear hcz12_1
        try clear hcz12_2
        try clear hcz21_0
        try clear hcz21_1
        try clear hcz21_2
        try clear hfz12_0
        try clear hfz12_1
        try clear hfz12_2
        try clear hfz21_0
        try clear hfz21_1
        try clear hfz21_2
        try clear hx123_0
        try clear hx124_0
        try clear p123
        try clear p124
        try clear p2
        try clear q123
        try clear q124
        obtain ⟨kq, x30_16, rfl, HA, HJ16, BK119, BK120, BK121, BK122, HB⟩ := hcut
        cases kq with
        | zero => exact absurd HA.out (by simp [impl_countTable.j1])
        | succ kj16 =>
         have H := HA.out
         clear HA
         simp only [impl_countTable.j1] at H
         by_cases c23 : x30_16 = true
         ·subst c23
          rw [if_pos rfl] at H
          focus
           have H' := Aside0.mk H
           clear H
           go_wp2
           go_roundg kj16
           case measure => have := HK1.out; have := HJ16.out; omega
           case rel => exact ⟨(wrap64 (x16_1 + 1)), (x123000_1), (x123001_1), (x123002_1), (x123003_1), zrx, H', ⟨by have := HK1.out; have := HJ16.out; omega⟩, ⟨by refine zbx ?_; exact BK119.out⟩, ⟨by refine zbx ?_; exact BK120.out⟩, ⟨by refine zbx ?_; exact BK121.out⟩, ⟨by refine zbx ?_; exact BK122.out⟩, ⟨zhB HB.out⟩⟩
         ·replace c23 := Bool.eq_false_iff.mpr c23
          subst c23
          rw [if_neg (show ¬ (false = true) by decide)] at H
          have HC24 := Aside0.mk H
          clear H
          go_upto_region 8 with (fail)
          go_cut [37] (fun v37 wc => ∃ (kq : Nat) (x37_23 : Bool), v37 = .bool x37_23 ∧ Aside0 (impl_countTable.j2 kq a2 a3 (rd l0_2 x16_1) (rd l1_2 x16_1) l0_2 (l0_2.length : Int) x16_1 x37_23 a1_0 a1_1 l1_2 x123000_1 x123001_1 x123002_1 x123003_1 = some (r1, r2, r3, r4)) ∧ Aside0 (kq ≤ kj16) ∧ Aside0 (wc.heap[gb119]? = some (.cells #[.int .i64 a0_0, .int .i64 a0_1, (.slice (some ad123) l0_2.length c0_2)] 26 (0, 0))) ∧ Aside0 (wc.heap[gb120]? = some (.cells #[.int .i64 a1_0, .int .i64 a1_1, (.slice (some ad124) l1_2.length c1_2)] 26 (0, 0))) ∧ Aside0 (wc.heap[gb121]? = some (.cells #[.int .i64 0, .int .i64 0, .int .i64 0, .int .i64 0] 30 (0, 0))) ∧ Aside0 (wc.heap[gb122]? = some (.cells #[.int .i64 x123000_1, .int .i64 x123001_1, .int .i64 x123002_1, .int .i64 x123003_1] 30 (0, 0))) ∧ Aside0 (Below w.heap.size w wc))
          case first =>
           have H := HC24.out
           clear HC24
           by_cases c25 : (rd l0_2 x16_1) > a2
           ·rw [if_pos c25] at H
            have c25b0 : decide (a2 < (rd l0_2 x16_1)) = true := decide_eq_true c25
            clear c25
            (first | rw [c25b0] | (simp only [i64_w, i32_w]; rw [c25b0]) | skip)
            focus
             have H' := Aside0.mk H
             clear H
             go_wp2
             go_meet
             case rel => exact ⟨_, (decide ((rd l1_2 x16_1) > a3)), zrx, H', ⟨by have := HK1.out; have := HJ16.out; first | omega | exact Nat.le_refl _⟩, ⟨by refine zbx ?_; exact BK119.out⟩, ⟨by refine zbx ?_; exact BK120.out⟩, ⟨by refine zbx ?_; exact BK121.out⟩, ⟨by refine zbx ?_; exact BK122.out⟩, ⟨zhB HB.out⟩⟩
           ·rw [if_neg c25] at H
            have c25b0 : decide (a2 < (rd l0_2 x16_1)) = false := decide_eq_false c25
            clear c25
            (first | rw [c25b0] | (simp only [i64_w, i32_w]; rw [c25b0]) | skip)
            focus
             have H' := Aside0.mk H
             clear H
             go_wp2
             go_meet
             case rel => exact ⟨_, (false), zrx, H', ⟨by have := HK1.out; have := HJ16.out; first | omega | exact Nat.le_refl _⟩, ⟨by refine zbx ?_; exact BK119.out⟩, ⟨by refine zbx ?_; exact BK120.out⟩, ⟨by refine zbx ?_; exact BK121.out⟩, ⟨by refine zbx ?_; exact BK122.out⟩, ⟨zhB HB.out⟩⟩
          case rest =>
           clear HC24
           try clear c1
           try clear p1
           try clear q1
           try clear hx1
           try clear c2
           try clear p2
           try clear c3
           try clear p6
           try clear c9
           try clear c10
           try clear c11
           try clear p12
           try clear q12
           try clear hx12
           try clear c13
           try clear c13b0
           try clear c14
           try clear c14b0
           try clear c15
           try clear c15b0
           try clear c16
           try clear c16b0
           try clear c18
           try clear c19
           try clear c20
           try clear c22
           try clear c22b0
           try clear c22b1
           try clear c23
           try clear c25
           try clear c25b0
           try clear hcz12_0
           try clear hcz12_1
           try clear hcz12_2
           try clear hcz21_0
           try clear hcz21_1
           try clear hcz21_2
           try clear hfz12_0
           try clear hfz12_1
           try clear hfz12_2
           try clear hfz21_0
           try clear hfz21_1
           try clear hfz21_2
           try clear hx123_0
           try clear hx124_0
           try clear p1
           try clear p12
           try clear p123
           try clear p124
           try clear p2
           try clear q1
           try clear q12
           try clear q123
           try clear q124
           obtain ⟨kq, x37_23, rfl, HA, HJ23, BK119, BK120, BK121, BK122, HB⟩ := hcut
           cases kq with
           | zero => exact absurd HA.out (by simp [impl_countTable.j2])
           | succ kj23 =>
            have H := HA.out
            clear HA
            simp only [impl_countTable.j2] at H
            by_cases c26 : x37_23 = true
            ·subst c26
             rw [if_pos rfl] at H
             focus
              have H' := Aside0.mk H
              clear H
              have hnb27 := NB122_119.out
              have hnc27 := NB119_122.out
              have hnb28 := NB122_120.out
              have hnc28 := NB120_122.out
              have hnb29 := NB122_121.out
              have hnc29 := NB121_122.out
              have hcz30_0 : wc.cell? ⟨gb122, 0, none⟩ = some (.int .i64 x123000_1) := (blk_cell BK122.out 0).trans rfl
              have hcz30_1 : wc.cell? ⟨gb122, 1, none⟩ = some (.int .i64 x123001_1) := (blk_cell BK122.out 1).trans rfl
              have hcz30_2 : wc.cell? ⟨gb122, 2, none⟩ = some (.int .i64 x123002_1) := (blk_cell BK122.out 2).trans rfl
              have hcz30_3 : wc.cell? ⟨gb122, 3, none⟩ = some (.int .i64 x123003_1) := (blk_cell BK122.out 3).trans rfl
              have hfz30_0 := blk_frozen BK122.out 0
              have hfz30_1 := blk_frozen BK122.out 1
              have hfz30_2 := blk_frozen BK122.out 2
              have hfz30_3 := blk_frozen BK122.out 3
              go_wp2
              go_roundg kj23
              case measure => have := HK1.out; have := HJ16.out; have := HJ23.out; omega
              case rel => exact ⟨(wrap64 (x16_1 + 1)), (wrap64 (x123000_1 + 1)), (x123001_1), (x123002_1), (x123003_1), zrx, H', ⟨by have := HK1.out; have := HJ16.out; have := HJ23.out; omega⟩, ⟨zbp BK119.out⟩, ⟨zbp BK120.out⟩, ⟨zbp BK121.out⟩, ⟨zbp BK122.out⟩, ⟨zhB HB.out⟩⟩
            ·replace c26 := Bool.eq_false_iff.mpr c26
             subst c26
             rw [if_neg (show ¬ (false = true) by decide)] at H
             by_cases c31 : (rd l0_2 x16_1) > a2
             ·rw [if_pos c31] at H
              have c31b0 : decide (a2 < (rd l0_2 x16_1)) = true := decide_eq_true c31
              clear c31
              focus
               have H' := Aside0.mk H
               clear H
               have hnb32 := NB122_119.out
               have hnc32 := NB119_122.out
               have hnb33 := NB122_120.out
               have hnc33 := NB120_122.out
               have hnb34 := NB122_121.out
               have hnc34 := NB121_122.out
               have hcz35_0 : wc.cell? ⟨gb122, 0, none⟩ = some (.int .i64 x123000_1) := (blk_cell BK122.out 0).trans rfl
               have hcz35_1 : wc.cell? ⟨gb122, 1, none⟩ = some (.int .i64 x123001_1) := (blk_cell BK122.out 1).trans rfl
               have hcz35_2 : wc.cell? ⟨gb122, 2, none⟩ = some (.int .i64 x123002_1) := (blk_cell BK122.out 2).trans rfl
               have hcz35_3 : wc.cell? ⟨gb122, 3, none⟩ = some (.int .i64 x123003_1) := (blk_cell BK122.out 3).trans rfl
               have hfz35_0 := blk_frozen BK122.out 0
               have hfz35_1 := blk_frozen BK122.out 1
               have hfz35_2 := blk_frozen BK122.out 2
               have hfz35_3 := blk_frozen BK122.out 3
               go_wp2
               go_roundg kj23
               case measure => have := HK1.out; have := HJ16.out; have := HJ23.out; omega
               case rel => exact ⟨(wrap64 (x16_1 + 1)), (x123000_1), (x123001_1), (wrap64 (x123002_1 + 1)), (x123003_1), zrx, H', ⟨by have := HK1.out; have := HJ16.out; have := HJ23.out; omega⟩, ⟨zbp BK119.out⟩, ⟨zbp BK120.out⟩, ⟨zbp BK121.out⟩, ⟨zbp BK122.out⟩, ⟨zhB HB.out⟩⟩
             ·rw [if_neg c31] at H
              have c31b0 : decide (a2 < (rd l0_2 x16_1)) = false := decide_eq_false c31
              clear c31
              by_cases c36 : (rd l1_2 x16_1) > a3
              ·rw [if_pos c36] at H
               have c36b0 : decide (a3 < (rd l1_2 x16_1)) = true := decide_eq_true c36
               clear c36
               focus
                have H' := Aside0.mk H
                clear H
                have hnb37 := NB122_119.out
                have hnc37 := NB119_122.out
                have hnb38 := NB122_120.out
                have hnc38 := NB120_122.out
                have hnb39 := NB122_121.out
                have hnc39 := NB121_122.out
                have hcz40_0 : wc.cell? ⟨gb122, 0, none⟩ = some (.int .i64 x123000_1) := (blk_cell BK122.out 0).trans rfl
                have hcz40_1 : wc.cell? ⟨gb122, 1, none⟩ = some (.int .i64 x123001_1) := (blk_cell BK122.out 1).trans rfl
                have hcz40_2 : wc.cell? ⟨gb122, 2, none⟩ = some (.int .i64 x123002_1) := (blk_cell BK122.out 2).trans rfl
                have hcz40_3 : wc.cell? ⟨gb122, 3, none⟩ = some (.int .i64 x123003_1) := (blk_cell BK122.out 3).trans rfl
                have hfz40_0 := blk_frozen BK122.out 0
                have hfz40_1 := blk_frozen BK122.out 1
                have hfz40_2 := blk_frozen BK122.out 2
                have hfz40_3 := blk_frozen BK122.out 3
                go_wp2
                go_roundg kj23
                case measure => have := HK1.out; have := HJ16.out; have := HJ23.out; omega
                case rel => exact ⟨(wrap64 (x16_1 + 1)), (x123000_1), (wrap64 (x123001_1 + 1)), (x123002_1), (x123003_1), zrx, H', ⟨by have := HK1.out; have := HJ16.out; have := HJ23.out; omega⟩, ⟨zbp BK119.out⟩, ⟨zbp BK120.out⟩, ⟨zbp BK121.out⟩, ⟨zbp BK122.out⟩, ⟨zhB HB.out⟩⟩
              ·rw [if_neg c36] at H
               have c36b0 : decide (a3 < (rd l1_2 x16_1)) = false := decide_eq_false c36
               clear c36
               focus
                have H' := Aside0.mk H
                clear H
                have hnb41 := NB122_119.out
                have hnc41 := NB119_122.out
                have hnb42 := NB122_120.out
                have hnc42 := NB120_122.out
                have hnb43 := NB122_121.out
                have hnc43 := NB121_122.out
                have hcz44_0 : wc.cell? ⟨gb122, 0, none⟩ = some (.int .i64 x123000_1) := (blk_cell BK122.out 0).trans rfl
                have hcz44_1 : wc.cell? ⟨gb122, 1, none⟩ = some (.int .i64 x123001_1) := (blk_cell BK122.out 1).trans rfl
                have hcz44_2 : wc.cell? ⟨gb122, 2, none⟩ = some (.int .i64 x123002_1) := (blk_cell BK122.out 2).trans rfl
                have hcz44_3 : wc.cell? ⟨gb122, 3, none⟩ = some (.int .i64 x123003_1) := (blk_cell BK122.out 3).trans rfl
                have hfz44_0 := blk_frozen BK122.out 0
                have hfz44_1 := blk_frozen BK122.out 1
                have hfz44_2 := blk_frozen BK122.out 2
                have hfz44_3 := blk_frozen BK122.out 3
                go_wp2
                go_roundg kj23
                case measure => have := HK1.out; have := HJ16.out; have := HJ23.out; omega
                case rel => exact ⟨(wrap64 (x16_1 + 1)), (x123000_1), (x123001_1), (x123002_1), (wrap64 (x123003_1 + 1)), zrx, H', ⟨by have := HK1.out; have := HJ16.out; have := HJ23.out; omega⟩, ⟨zbp BK119.out⟩, ⟨zbp BK120.out⟩, ⟨zbp BK121.out⟩, ⟨zbp BK122.out⟩, ⟨zhB HB.out⟩⟩
      ·rw [if_neg c16] at H
       exact absurd H (by simp)
     ·rw [if_neg c15] at H
      exact absurd H (by simp)
    ·rw [if_neg c14] at H
     exact absurd H (by simp)
   ·rw [if_neg c13] at H
    have c13b0 : decide (x16_1 < (l0_2.length : Int)) = false := decide_eq_false c13
    clear c13
    focus
     simp only [Option.some.injEq, Prod.mk.injEq] at H
     obtain ⟨rfl, rfl, rfl, rfl⟩ := H
     have hnb45 := NB122_119.out
     have hnc45 := NB119_122.out
     have hnb46 := NB122_120.out
     have hnc46 := NB120_122.out
     have hnb47 := NB122_121.out
     have hnc47 := NB121_122.out
     have hcz48_0 : wr.cell? ⟨gb122, 0, none⟩ = some (.int .i64 x123000_1) := (blk_cell BK122.out 0).trans rfl
     have hcz48_1 : wr.cell? ⟨gb122, 1, none⟩ = some (.int .i64 x123001_1) := (blk_cell BK122.out 1).trans rfl
     have hcz48_2 : wr.cell? ⟨gb122, 2, none⟩ = some (.int .i64 x123002_1) := (blk_cell BK122.out 2).trans rfl
     have hcz48_3 : wr.cell? ⟨gb122, 3, none⟩ = some (.int .i64 x123003_1) := (blk_cell BK122.out 3).trans rfl
     have hfz48_0 := blk_frozen BK122.out 0
     have hfz48_1 := blk_frozen BK122.out 1
     have hfz48_2 := blk_frozen BK122.out 2
     have hfz48_3 := blk_frozen BK122.out 3
     have hnb49 := NB121_119.out
     have hnc49 := NB119_121.out
     have hnb50 := NB121_120.out
     have hnc50 := NB120_121.out
     have hcz51_0 : wr.cell? ⟨gb121, 0, none⟩ = some (.int .i64 0) := (blk_cell BK121.out 0).trans rfl
     have hcz51_1 : wr.cell? ⟨gb121, 1, none⟩ = some (.int .i64 0) := (blk_cell BK121.out 1).trans rfl
     have hcz51_2 : wr.cell? ⟨gb121, 2, none⟩ = some (.int .i64 0) := (blk_cell BK121.out 2).trans rfl
     have hcz51_3 : wr.cell? ⟨gb121, 3, none⟩ = some (.int .i64 0) := (blk_cell BK121.out 3).trans rfl
     have hfz51_0 := blk_frozen BK121.out 0
     have hfz51_1 := blk_frozen BK121.out 1
     have hfz51_2 := blk_frozen BK121.out 2
     have hfz51_3 := blk_frozen BK121.out 3
     go_wp2
     refine bodyPost_ret (results_cell_row rfl _ _ gb121 30 #[.int .i64 x123000_1, .int .i64 x123001_1, .int .i64 x123002_1, .int .i64 x123003_1] (0, 0) _ rfl (zbp BK121.out) Try.underlying30 rfl (by kernel_rfl)) rfl ?_
     exact ⟨by first | rfl | (simp [errW_none, errW_some] <;> rfl) | (simp [*, errW_none, errW_some] <;> rfl), zhB HB.out⟩

/-! ### impl_CountTable: function 7 -/
def impl_CountTable.f (k : Nat) (a0_0 : Int) (a0_1 : Int) (l0_2 : List Int) (a1_0 : Int) (a1_1 : Int) (l1_2 : List Int) (a2 : Int) : Option (Int × Int × Int × Int × Bool) := (impl_areAlike.f k (([(⟨a0_0, a0_1, l0_2⟩ : S26), (⟨a1_0, a1_1, l1_2⟩ : S26)] : List (S26)))).bind fun t131 => (if t131 = true then ((impl_countTable.f k a0_0 a0_1 l0_2 a1_0 a1_1 l1_2 a2 a2).bind fun bt132 => (some (bt132.1, bt132.2.1, bt132.2.2.1, bt132.2.2.2, true))) else (some (0, 0, 0, 0, false)))
theorem impl_CountTable.mono : ∀ a0 a1 a2 a3 a4 a5 a6 k, LeO (impl_CountTable.f k a0 a1 a2 a3 a4 a5 a6) (impl_CountTable.f (k + 1) a0 a1 a2 a3 a4 a5 a6) := by
 intro a0 a1 a2 a3 a4 a5 a6 k
 unfold impl_CountTable.f
 repeat' first
  | (with_reducible exact impl_areAlike.mono _ _)
  | (with_reducible exact impl_countTable.mono _ _ _ _ _ _ _ _ _)
  | (with_reducible exact LeO.refl _)
  | (with_reducible exact LeO.none _)
  | (with_reducible refine LeO.ite ?_ ?_)
  | (with_reducible refine LeO.bind ?_ (fun _ => ?_))
  | exact impl_areAlike.mono _ _
  | exact impl_countTable.mono _ _ _ _ _ _ _ _ _
  | exact LeO.none _
  | refine LeO.ite ?_ ?_
  | refine LeO.bind ?_ (fun _ => ?_)
set_option maxHeartbeats 8000000 in
set_option maxRecDepth 100000 in
theorem impl_CountTable.calls (k : Nat) (a0_0 : Int) (a0_1 : Int) (P0_2_ : Nat → Prop) (A0_2 : Option Addr) (c0_2 : Nat) (l0_2 : List Int) (a1_0 : Int) (a1_1 : Int) (P1_2_ : Nat → Prop) (A1_2 : Option Addr) (c1_2 : Nat) (l1_2 : List Int) (a2 : Int) (r1 : Int) (r2 : Int) (r3 : Int) (r4 : Int) (r5 : Bool) (w : World) (hs0_2 : Kd.V (Kd.int .i64) 3 w w.heap.size (fun k_ => P0_2_ k_) (.slice A0_2 l0_2.length c0_2) l0_2) (hs1_2 : Kd.V (Kd.int .i64) 3 w w.heap.size (fun k_ => P1_2_ k_) (.slice A1_2 l1_2.length c1_2) l1_2) (h : impl_CountTable.f k a0_0 a0_1 l0_2 a1_0 a1_1 l1_2 a2 = some (r1, r2, r3, r4, r5)) :
 Calls Try.prog 7 #[.agg #[.int .i64 a0_0, .int .i64 a0_1, .slice A0_2 l0_2.length c0_2], .agg #[.int .i64 a1_0, .int .i64 a1_1, .slice A1_2 l1_2.length c1_2], .int .i64 a2] w fun e w' => e = .returned (.tuple #[.agg #[.int .i64 r1, .int .i64 r2, .int .i64 r3, .int .i64 r4], .bool r5]) ∧ Below w.heap.size w w' := by
 have hu26 := Try.underlying26
 have hu30 := Try.underlying30
 have HO0_2 := Aside0.mk (show Kd.V (Kd.int .i64) 3 w w.heap.size (fun k_ => ((P0_2_ k_ ∨ P1_2_ k_) ∨ w.heap.size ≤ k_)) (.slice A0_2 l0_2.length c0_2) l0_2 from Kd.V_mono hs0_2 (fun k_ hk => .inl (.inl hk)))
 have HO1_2 := Aside0.mk (show Kd.V (Kd.int .i64) 3 w w.heap.size (fun k_ => ((P0_2_ k_ ∨ P1_2_ k_) ∨ w.heap.size ≤ k_)) (.slice A1_2 l1_2.length c1_2) l1_2 from Kd.V_mono hs1_2 (fun k_ hk => .inl (.inr hk)))
 have HB := Aside0.mk (Below.refl w.heap.size w)
 have H : ((impl_areAlike.f k (([(⟨a0_0, a0_1, l0_2⟩ : S26), (⟨a1_0, a1_1, l1_2⟩ : S26)] : List (S26)))).bind fun t131 => (if t131 = true then ((impl_countTable.f k a0_0 a0_1 l0_2 a1_0 a1_1 l1_2 a2 a2).bind fun bt132 => (some (bt132.1, bt132.2.1, bt132.2.2.1, bt132.2.2.2, true))) else (some (0, 0, 0, 0, false)))) = some (r1, r2, r3, r4, r5) := h
 clear h
 obtain ⟨y128, hy128⟩ : ∃ y_ : List (S26), y_ = (([(⟨a0_0, a0_1, l0_2⟩ : S26), (⟨a1_0, a1_1, l1_2⟩ : S26)] : List (S26))) := ⟨_, rfl⟩
 replace H : ((impl_areAlike.f k y128).bind fun t131 => (if t131 = true then ((impl_countTable.f k a0_0 a0_1 l0_2 a1_0 a1_1 l1_2 a2 a2).bind fun bt132 => (some (bt132.1, bt132.2.1, bt132.2.2.1, bt132.2.2.2, true))) else (some (0, 0, 0, 0, false)))) = some (r1, r2, r3, r4, r5) := by first | (rw [hy128]; with_reducible exact H) | (have H2_ := (Option.bind_some _ _).symm.trans H; rw [hy128]; with_reducible exact H2_) | (have H2_ := (Option.bind_some _ _).symm.trans H; with_reducible exact H2_) | with_reducible exact H | (rw [hy128]; exact H) | exact H
 have Ny128 := Aside0.mk hy128
 clear hy128
 replace H := Option.bind_eq_some_iff.mp H
 obtain ⟨t131, A40, H⟩ := H
 replace H : (if t131 = true then ((impl_countTable.f k a0_0 a0_1 l0_2 a1_0 a1_1 l1_2 a2 a2).bind fun bt132 => (some (bt132.1, bt132.2.1, bt132.2.2.1, bt132.2.2.2, true))) else (some (0, 0, 0, 0, false))) = some (r1, r2, r3, r4, r5) := H
 have A4 := Aside0.mk A40
 clear A40
 by_cases c5 : t131 = true
 ·subst c5
  rw [if_pos rfl] at H
  replace H := Option.bind_eq_some_iff.mp H
  obtain ⟨⟨t132, t133, t134, t135⟩, A60, H⟩ := H
  replace H : (some (t132, t133, t134, t135, true)) = some (r1, r2, r3, r4, r5) := H
  have A6 := Aside0.mk A60
  clear A60
  focus
   simp only [Option.some.injEq, Prod.mk.injEq] at H
   obtain ⟨rfl, rfl, rfl, rfl, rfl⟩ := H
   go_enter Try.func7, Try.ntmps7
   go_wp2_with (first | ((with_reducible refine gate_dst (N := 3) rfl ?_); refine box_event ?hg (N := 3) ?hd (cs := #[.int .i64 a0_0, .int .i64 a0_1, .slice A0_2 l0_2.length c0_2]) (t := 26) ?hr ?_; (case hd => rfl); (case hg => rfl); (case hr => exact zsx); intro gb125 hg w7 hbox hb; replace HO0_2 := Aside0.mk (Kd.V_below (Kd.V_elderB (by refine zDV ?_; exact HO0_2.out) gb125 (Nat.le_of_eq hg.symm)) hb); replace HO1_2 := Aside0.mk (Kd.V_below (Kd.V_elderB (by refine zDV ?_; exact HO1_2.out) gb125 (Nat.le_of_eq hg.symm)) hb); have BK125 := Aside0.mk (hbox); have GW125 := zns hg HB.out; have GE125 := zns hg HB.out; replace HB := Aside0.mk (below_step (zBx HB.out) hb); clear hb hbox hg) | ((with_reducible refine gate_dst (N := 4) rfl ?_); refine box_event ?hg (N := 4) ?hd (cs := #[.int .i64 a1_0, .int .i64 a1_1, .slice A1_2 l1_2.length c1_2]) (t := 26) ?hr ?_; (case hd => rfl); (case hg => rfl); (case hr => exact zsx); intro gb126 hg w8 hbox hb; replace HO0_2 := Aside0.mk (Kd.V_below (Kd.V_elderB (by refine zDV ?_; exact HO0_2.out) gb126 (Nat.le_of_eq hg.symm)) hb); replace HO1_2 := Aside0.mk (Kd.V_below (Kd.V_elderB (by refine zDV ?_; exact HO1_2.out) gb126 (Nat.le_of_eq hg.symm)) hb); have BK126 := Aside0.mk (hbox); have GW126 := zns hg HB.out; have GE126 := zns hg HB.out; replace HB := Aside0.mk (below_step (zBy HB.out GE125.out) hb); have NB125_126 := znl hg BK125.out; have NB126_125 := zng hg BK125.out; replace BK125 := zbl BK125.out hb; clear hb hbox hg) | ((with_reducible refine gate_dst (N := 6) rfl ?_); refine box_event ?hg (N := 6) ?hd (cs := #[.int .i64 0, .int .i64 0, .int .i64 0, .int .i64 0]) (t := 30) ?hr ?_; (case hd => rfl); (case hg => rfl); (case hr => exact zsx); intro gb127 hg w9 hbox hb; replace HO0_2 := Aside0.mk (Kd.V_below (Kd.V_elderB (by refine zDV ?_; exact HO0_2.out) gb127 (Nat.le_of_eq hg.symm)) hb); replace HO1_2 := Aside0.mk (Kd.V_below (Kd.V_elderB (by refine zDV ?_; exact HO1_2.out) gb127 (Nat.le_of_eq hg.symm)) hb); have BK127 := Aside0.mk (hbox); have GW127 := zns hg HB.out; have GE127 := zns hg HB.out; replace HB := Aside0.mk (below_step (zBz HB.out GE125.out GE126.out) hb); have NB125_127 := znl hg BK125.out; have NB127_125 := zng hg BK125.out; replace BK125 := zbl BK125.out hb; have NB126_127 := znl hg BK126.out; have NB127_126 := zng hg BK126.out; replace BK126 := zbl BK126.out hb; clear hb hbox hg; have hnb10 := NB125_126.out; have hnc10 := NB126_125.out; have hnb11 := NB125_127.out; have hnc11 := NB127_125.out; have hcz12_0 : w9.cell? ⟨gb125, 0, none⟩ = some (.int .i64 a0_0) := (blk_cell BK125.out 0).trans rfl; have hcz12_1 : w9.cell? ⟨gb125, 1, none⟩ = some (.int .i64 a0_1) := (blk_cell BK125.out 1).trans rfl; have hcz12_2 : w9.cell? ⟨gb125, 2, none⟩ = some (.slice A0_2 l0_2.length c0_2) := (blk_cell BK125.out 2).trans rfl; have hfz12_0 := blk_frozen BK125.out 0; have hfz12_1 := blk_frozen BK125.out 1; have hfz12_2 := blk_frozen BK125.out 2; have hnb13 := NB126_127.out; have hnc13 := NB127_126.out; have hcz14_0 : w9.cell? ⟨gb126, 0, none⟩ = some (.int .i64 a1_0) := (blk_cell BK126.out 0).trans rfl; have hcz14_1 : w9.cell? ⟨gb126, 1, none⟩ = some (.int .i64 a1_1) := (blk_cell BK126.out 1).trans rfl; have hcz14_2 : w9.cell? ⟨gb126, 2, none⟩ = some (.slice A1_2 l1_2.length c1_2) := (blk_cell BK126.out 2).trans rfl; have hfz14_0 := blk_frozen BK126.out 0; have hfz14_1 := blk_frozen BK126.out 1; have hfz14_2 := blk_frozen BK126.out 2) | ((with_reducible refine gate_dst (N := 10) rfl ?_); refine Kd.N_lit k26 _ 26 ?hg (N' := 10) ?hd (xs := ([(⟨a0_0, a0_1, l0_2⟩ : S26), (⟨a1_0, a1_1, l1_2⟩ : S26)] : List (S26))) (inner := [.int .i64 a0_0, .int .i64 a0_1, .slice A0_2 l0_2.length c0_2, .int .i64 a1_0, .int .i64 a1_1, .slice A1_2 l1_2.length c1_2]) (ok := (fun k_ => ((P0_2_ k_ ∨ P1_2_ k_) ∨ w.heap.size ≤ k_) ∧ k_ ≠ gb125 ∧ k_ ≠ gb126 ∧ k_ ≠ gb127)) (okp := (fun k_ => ((P0_2_ k_ ∨ P1_2_ k_) ∨ w.heap.size ≤ k_) ∧ k_ ≠ gb125 ∧ k_ ≠ gb126 ∧ k_ ≠ gb127)) ?hr ?hp (fun _ hk => hk) ((show ∀ k_, w9.heap.size ≤ k_ → (fun k_ => ((P0_2_ k_ ∨ P1_2_ k_) ∨ w.heap.size ≤ k_) ∧ k_ ≠ gb125 ∧ k_ ≠ gb126 ∧ k_ ≠ gb127) k_ from fun k_ hk => ⟨(.inr (Nat.le_trans (below_size (zhB HB.out)) hk)), Kd.freshB (g := gb125) (o := .cells #[.int .i64 a0_0, .int .i64 a0_1, .slice A0_2 l0_2.length c0_2] 26 (0, 0)) (zbx BK125.out) k_ hk, Kd.freshB (g := gb126) (o := .cells #[.int .i64 a1_0, .int .i64 a1_1, .slice A1_2 l1_2.length c1_2] 26 (0, 0)) (zbx BK126.out) k_ hk, Kd.freshB (g := gb127) (o := .cells #[.int .i64 0, .int .i64 0, .int .i64 0, .int .i64 0] 30 (0, 0)) (zbx BK127.out) k_ hk⟩) _ (Nat.le_refl _)) (Below.refl _ _) (Nat.le_refl _) (by simp) ?_; (case hd => rfl); (case hg => rfl); (case hr => exact zsx); (case hp => exact (Reps.c3 (show Kd.FK k26 _ _ (⟨a0_0, a0_1, l0_2⟩ : S26) [.int .i64 a0_0, .int .i64 a0_1, .slice A0_2 l0_2.length c0_2] from (k26_mkF _ _ (⟨a0_0, a0_1, l0_2⟩ : S26) (Kd.V_reads' (Kd.V_mono (ok' := (fun k_ => ((P0_2_ k_ ∨ P1_2_ k_) ∨ w.heap.size ≤ k_) ∧ k_ ≠ gb125 ∧ k_ ≠ gb126 ∧ k_ ≠ gb127)) (HO0_2.out) (fun k_ hk => ⟨hk.1.1.1, ⟨hk.1.1.2, ⟨hk.1.2, hk.2⟩⟩⟩))).2.1 (Kd.V_F (Kd.V_mono (ok' := (fun k_ => ((P0_2_ k_ ∨ P1_2_ k_) ∨ w.heap.size ≤ k_) ∧ k_ ≠ gb125 ∧ k_ ≠ gb126 ∧ k_ ≠ gb127)) (HO0_2.out) (fun k_ hk => ⟨hk.1.1.1, ⟨hk.1.1.2, ⟨hk.1.2, hk.2⟩⟩⟩))))) (Reps.c3 (show Kd.FK k26 _ _ (⟨a1_0, a1_1, l1_2⟩ : S26) [.int .i64 a1_0, .int .i64 a1_1, .slice A1_2 l1_2.length c1_2] from (k26_mkF _ _ (⟨a1_0, a1_1, l1_2⟩ : S26) (Kd.V_reads' (Kd.V_mono (ok' := (fun k_ => ((P0_2_ k_ ∨ P1_2_ k_) ∨ w.heap.size ≤ k_) ∧ k_ ≠ gb125 ∧ k_ ≠ gb126 ∧ k_ ≠ gb127)) (HO1_2.out) (fun k_ hk => ⟨hk.1.1.1, ⟨hk.1.1.2, ⟨hk.1.2, hk.2⟩⟩⟩))).2.1 (Kd.V_F (Kd.V_mono (ok' := (fun k_ => ((P0_2_ k_ ∨ P1_2_ k_) ∨ w.heap.size ≤ k_) ∧ k_ ≠ gb125 ∧ k_ ≠ gb126 ∧ k_ ≠ gb127)) (HO1_2.out) (fun k_ hk => ⟨hk.1.1.1, ⟨hk.1.1.2, ⟨hk.1.2, hk.2⟩⟩⟩))))) (Reps.none _ _)))); intro v129 w15 ho16 hb hg_ hnew_; clear hg_ hnew_; (first | rw [← Ny128.out] at ho16 | (simp only [Int.reduceToNat] at ho16; rw [← Ny128.out] at ho16)); replace HO0_2 := Aside0.mk (Kd.V_elder' (by refine zDV ?_; exact HO0_2.out) (Kd.N_base ho16) hb); replace HO1_2 := Aside0.mk (Kd.V_elder' (by refine zDV ?_; exact HO1_2.out) (Kd.N_base ho16) hb); have HO130 := Aside0.mk (Kd.N_lower ho16 (below_size (zhB HB.out))); replace BK125 := zbl BK125.out hb; replace BK126 := zbl BK126.out hb; replace BK127 := zbl BK127.out hb; replace HB := Aside0.mk (below_step (zhB HB.out) hb); clear hb ho16; obtain ⟨Ao17, co17, eo17⟩ := Kd.N_slice HO130.out; subst eo17) | ((with_reducible refine gate_callee (f := 34) rfl ?_); refine goesL_ (some 11) rfl rfl Try.func34 (by kernel_rfl) rfl #[.slice Ao17 y128.length co17] rfl zlx ?_; (with_reducible refine (impl_areAlike.calls k _ _ y128 true _ ?side1 ?side2 A4.out).mono ?_); (case side1 => repeat (first | exact (Kd.N_reads' HO130.out).2.2 | (with_reducible refine Kd.C_alloc ?_ _) | (with_reducible refine Kd.C_drewN ?_ _) | (with_reducible refine Kd.C_drew ?_))); (case side2 => exact (Kd.N_reads' HO130.out).2.1); rintro e w18 ⟨rfl, hb⟩; refine ⟨_, rfl, ?_⟩; replace HO0_2 := Aside0.mk (Kd.V_below (by refine zDV ?_; exact HO0_2.out) hb); replace HO1_2 := Aside0.mk (Kd.V_below (by refine zDV ?_; exact HO1_2.out) hb); replace HO130 := Aside0.mk (Kd.N_below (by (with_reducible repeat (first | apply Kd.N_alloc | apply Kd.N_drewN | apply Kd.N_drew)); exact HO130.out) hb); replace BK125 := zbl BK125.out hb; replace BK126 := zbl BK126.out hb; replace BK127 := zbl BK127.out hb; replace HB := Aside0.mk (below_step (zhB HB.out) hb); (try clear hb); have hcz19_0 : w18.cell? ⟨gb125, 0, none⟩ = some (.int .i64 a0_0) := (blk_cell BK125.out 0).trans rfl; have hcz19_1 : w18.cell? ⟨gb125, 1, none⟩ = some (.int .i64 a0_1) := (blk_cell BK125.out 1).trans rfl; have hcz19_2 : w18.cell? ⟨gb125, 2, none⟩ = some (.slice A0_2 l0_2.length c0_2) := (blk_cell BK125.out 2).trans rfl; have hfz19_0 := blk_frozen BK125.out 0; have hfz19_1 := blk_frozen BK125.out 1; have hfz19_2 := blk_frozen BK125.out 2; have hcz20_0 : w18.cell? ⟨gb126, 0, none⟩ = some (.int .i64 a1_0) := (blk_cell BK126.out 0).trans rfl; have hcz20_1 : w18.cell? ⟨gb126, 1, none⟩ = some (.int .i64 a1_1) := (blk_cell BK126.out 1).trans rfl; have hcz20_2 : w18.cell? ⟨gb126, 2, none⟩ = some (.slice A1_2 l1_2.length c1_2) := (blk_cell BK126.out 2).trans rfl; have hfz20_0 := blk_frozen BK126.out 0; have hfz20_1 := blk_frozen BK126.out 1; have hfz20_2 := blk_frozen BK126.out 2) | ((with_reducible refine gate_callee (f := 35) rfl ?_); refine goesL_ (some 18) rfl rfl Try.func35 (by kernel_rfl) rfl #[.agg #[.int .i64 a0_0, .int .i64 a0_1, .slice A0_2 l0_2.length c0_2], .agg #[.int .i64 a1_0, .int .i64 a1_1, .slice A1_2 l1_2.length c1_2], .int .i64 a2, .int .i64 a2] rfl zlx ?_; (with_reducible refine (impl_countTable.calls k a0_0 a0_1 _ _ l0_2 a1_0 a1_1 _ _ l1_2 a2 a2 t132 t133 t134 t135 _ ?side1 ?side2 ?side3 ?side4 A6.out).mono ?_); (case side1 => exact zCx (Kd.V_reads' HO0_2.out).2.2); (case side2 => exact (Kd.V_reads' HO0_2.out).2.1); (case side3 => exact zCx (Kd.V_reads' HO1_2.out).2.2); (case side4 => exact (Kd.V_reads' HO1_2.out).2.1); rintro e w21 ⟨rfl, hb⟩; refine ⟨_, rfl, ?_⟩; replace HO0_2 := Aside0.mk (Kd.V_below (by refine zDV ?_; exact HO0_2.out) hb); replace HO1_2 := Aside0.mk (Kd.V_below (by refine zDV ?_; exact HO1_2.out) hb); replace HO130 := Aside0.mk (Kd.N_below (by (with_reducible repeat (first | apply Kd.N_alloc | apply Kd.N_drewN | apply Kd.N_drew)); exact HO130.out) hb); replace BK125 := zbl BK125.out hb; replace BK126 := zbl BK126.out hb; replace BK127 := zbl BK127.out hb; replace HB := Aside0.mk (below_step (zhB HB.out) hb); (try clear hb); have hcz22_0 : w21.cell? ⟨gb127, 0, none⟩ = some (.int .i64 0) := (blk_cell BK127.out 0).trans rfl; have hcz22_1 : w21.cell? ⟨gb127, 1, none⟩ = some (.int .i64 0) := (blk_cell BK127.out 1).trans rfl; have hcz22_2 : w21.cell? ⟨gb127, 2, none⟩ = some (.int .i64 0) := (blk_cell BK127.out 2).trans rfl; have hcz22_3 : w21.cell? ⟨gb127, 3, none⟩ = some (.int .i64 0) := (blk_cell BK127.out 3).trans rfl; have hfz22_0 := blk_frozen BK127.out 0; have hfz22_1 := blk_frozen BK127.out 1; have hfz22_2 := blk_frozen BK127.out 2; have hfz22_3 := blk_frozen BK127.out 3))
   refine bodyPost_ret (results_ct rfl _ _ gb127 30 #[.int .i64 t132, .int .i64 t133, .int .i64 t134, .int .i64 t135] (0, 0) _ rfl (zbp BK127.out) Try.underlying30 rfl (by kernel_rfl)) rfl ?_
   exact ⟨by first | rfl | (simp [errW_none, errW_some] <;> rfl) | (simp [*, errW_none, errW_some] <;> rfl), zhB HB.out⟩
 ·replace c5 := Bool.eq_false_iff.mpr c5
  subst c5
  rw [if_neg (show ¬ (false = true) by decide)] at H
  focus
   simp only [Option.some.injEq, Prod.mk.injEq] at H
   obtain ⟨rfl, rfl, rfl, rfl, rfl⟩ := H
   go_enter Try.func7, Try.ntmps7
   go_wp2_with (first | ((with_reducible refine gate_dst (N := 3) rfl ?_); refine box_event ?hg (N := 3) ?hd (cs := #[.int .i64 a0_0, .int .i64 a0_1, .slice A0_2 l0_2.length c0_2]) (t := 26) ?hr ?_; (case hd => rfl); (case hg => rfl); (case hr => exact zsx); intro gb125 hg w23 hbox hb; replace HO0_2 := Aside0.mk (Kd.V_below (Kd.V_elderB (by refine zDV ?_; exact HO0_2.out) gb125 (Nat.le_of_eq hg.symm)) hb); replace HO1_2 := Aside0.mk (Kd.V_below (Kd.V_elderB (by refine zDV ?_; exact HO1_2.out) gb125 (Nat.le_of_eq hg.symm)) hb); have BK125 := Aside0.mk (hbox); have GW125 := zns hg HB.out; have GE125 := zns hg HB.out; replace HB := Aside0.mk (below_step (zBx HB.out) hb); clear hb hbox hg) | ((with_reducible refine gate_dst (N := 4) rfl ?_); refine box_event ?hg (N := 4) ?hd (cs := #[.int .i64 a1_0, .int .i64 a1_1, .slice A1_2 l1_2.length c1_2]) (t := 26) ?hr ?_; (case hd => rfl); (case hg => rfl); (case hr => exact zsx); intro gb126 hg w24 hbox hb; replace HO0_2 := Aside0.mk (Kd.V_below (Kd.V_elderB (by refine zDV ?_; exact HO0_2.out) gb126 (Nat.le_of_eq hg.symm)) hb); replace HO1_2 := Aside0.mk (Kd.V_below (Kd.V_elderB (by refine zDV ?_; exact HO1_2.out) gb126 (Nat.le_of_eq hg.symm)) hb); have BK126 := Aside0.mk (hbox); have GW126 := zns hg HB.out; have GE126 := zns hg HB.out; replace HB := Aside0.mk (below_step (zBy HB.out GE125.out) hb); have NB125_126 := znl hg BK125.out; have NB126_125 := zng hg BK125.out; replace BK125 := zbl BK125.out hb; clear hb hbox hg) | ((with_reducible refine gate_dst (N := 6) rfl ?_); refine box_event ?hg (N := 6) ?hd (cs := #[.int .i64 0, .int .i64 0, .int .i64 0, .int .i64 0]) (t := 30) ?hr ?_; (case hd => rfl); (case hg => rfl); (case hr => exact zsx); intro gb127 hg w25 hbox hb; replace HO0_2 := Aside0.mk (Kd.V_below (Kd.V_elderB (by refine zDV ?_; exact HO0_2.out) gb127 (Nat.le_of_eq hg.symm)) hb); replace HO1_2 := Aside0.mk (Kd.V_below (Kd.V_elderB (by refine zDV ?_; exact HO1_2.out) gb127 (Nat.le_of_eq hg.symm)) hb); have BK127 := Aside0.mk (hbox); have GW127 := zns hg HB.out; have GE127 := zns hg HB.out; replace HB := Aside0.mk (below_step (zBz HB.out GE125.out GE126.out) hb); have NB125_127 := znl hg BK125.out; have NB127_125 := zng hg BK125.out; replace BK125 := zbl BK125.out hb; have NB126_127 := znl hg BK126.out; have NB127_126 := zng hg BK126.out; replace BK126 := zbl BK126.out hb; clear hb hbox hg; have hnb26 := NB125_126.out; have hnc26 := NB126_125.out; have hnb27 := NB125_127.out; have hnc27 := NB127_125.out; have hcz28_0 : w25.cell? ⟨gb125, 0, none⟩ = some (.int .i64 a0_0) := (blk_cell BK125.out 0).trans rfl; have hcz28_1 : w25.cell? ⟨gb125, 1, none⟩ = some (.int .i64 a0_1) := (blk_cell BK125.out 1).trans rfl; have hcz28_2 : w25.cell? ⟨gb125, 2, none⟩ = some (.slice A0_2 l0_2.length c0_2) := (blk_cell BK125.out 2).trans rfl; have hfz28_0 := blk_frozen BK125.out 0; have hfz28_1 := blk_frozen BK125.out 1; have hfz28_2 := blk_frozen BK125.out 2; have hnb29 := NB126_127.out; have hnc29 := NB127_126.out; have hcz30_0 : w25.cell? ⟨gb126, 0, none⟩ = some (.int .i64 a1_0) := (blk_cell BK126.out 0).trans rfl; have hcz30_1 : w25.cell? ⟨gb126, 1, none⟩ = some (.int .i64 a1_1) := (blk_cell BK126.out 1).trans rfl; have hcz30_2 : w25.cell? ⟨gb126, 2, none⟩ = some (.slice A1_2 l1_2.length c1_2) := (blk_cell BK126.out 2).trans rfl; have hfz30_0 := blk_frozen BK126.out 0; have hfz30_1 := blk_frozen BK126.out 1; have hfz30_2 := blk_frozen BK126.out 2) | ((with_reducible refine gate_dst (N := 10) rfl ?_); refine Kd.N_lit k26 _ 26 ?hg (N' := 10) ?hd (xs := ([(⟨a0_0, a0_1, l0_2⟩ : S26), (⟨a1_0, a1_1, l1_2⟩ : S26)] : List (S26))) (inner := [.int .i64 a0_0, .int .i64 a0_1, .slice A0_2 l0_2.length c0_2, .int .i64 a1_0, .int .i64 a1_1, .slice A1_2 l1_2.length c1_2]) (ok := (fun k_ => ((P0_2_ k_ ∨ P1_2_ k_) ∨ w.heap.size ≤ k_) ∧ k_ ≠ gb125 ∧ k_ ≠ gb126 ∧ k_ ≠ gb127)) (okp := (fun k_ => ((P0_2_ k_ ∨ P1_2_ k_) ∨ w.heap.size ≤ k_) ∧ k_ ≠ gb125 ∧ k_ ≠ gb126 ∧ k_ ≠ gb127)) ?hr ?hp (fun _ hk => hk) ((show ∀ k_, w25.heap.size ≤ k_ → (fun k_ => ((P0_2_ k_ ∨ P1_2_ k_) ∨ w.heap.size ≤ k_) ∧ k_ ≠ gb125 ∧ k_ ≠ gb126 ∧ k_ ≠ gb127) k_ from fun k_ hk => ⟨(.inr (Nat.le_trans (below_size (zhB HB.out)) hk)), Kd.freshB (g := gb125) (o := .cells #[.int .i64 a0_0, .int .i64 a0_1, .slice A0_2 l0_2.length c0_2] 26 (0, 0)) (zbx BK125.out) k_ hk, Kd.freshB (g := gb126) (o := .cells #[.int .i64 a1_0, .int .i64 a1_1, .slice A1_2 l1_2.length c1_2] 26 (0, 0)) (zbx BK126.out) k_ hk, Kd.freshB (g := gb127) (o := .cells #[.int .i64 0, .int .i64 0, .int .i64 0, .int .i64 0] 30 (0, 0)) (zbx BK127.out) k_ hk⟩) _ (Nat.le_refl _)) (Below.refl _ _) (Nat.le_refl _) (by simp) ?_; (case hd => rfl); (case hg => rfl); (case hr => exact zsx); (case hp => exact (Reps.c3 (show Kd.FK k26 _ _ (⟨a0_0, a0_1, l0_2⟩ : S26) [.int .i64 a0_0, .int .i64 a0_1, .slice A0_2 l0_2.length c0_2] from (k26_mkF _ _ (⟨a0_0, a0_1, l0_2⟩ : S26) (Kd.V_reads' (Kd.V_mono (ok' := (fun k_ => ((P0_2_ k_ ∨ P1_2_ k_) ∨ w.heap.size ≤ k_) ∧ k_ ≠ gb125 ∧ k_ ≠ gb126 ∧ k_ ≠ gb127)) (HO0_2.out) (fun k_ hk => ⟨hk.1.1.1, ⟨hk.1.1.2, ⟨hk.1.2, hk.2⟩⟩⟩))).2.1 (Kd.V_F (Kd.V_mono (ok' := (fun k_ => ((P0_2_ k_ ∨ P1_2_ k_) ∨ w.heap.size ≤ k_) ∧ k_ ≠ gb125 ∧ k_ ≠ gb126 ∧ k_ ≠ gb127)) (HO0_2.out) (fun k_ hk => ⟨hk.1.1.1, ⟨hk.1.1.2, ⟨hk.1.2, hk.2⟩⟩⟩))))) (Reps.c3 (show Kd.FK k26 _ _ (⟨a1_0, a1_1, l1_2⟩ : S26) [.int .i64 a1_0, .int .i64 a1_1, .slice A1_2 l1_2.length c1_2] from (k26_mkF _ _ (⟨a1_0, a1_1, l1_2⟩ : S26) (Kd.V_reads' (Kd.V_mono (ok' := (fun k_ => ((P0_2_ k_ ∨ P1_2_ k_) ∨ w.heap.size ≤ k_) ∧ k_ ≠ gb125 ∧ k_ ≠ gb126 ∧ k_ ≠ gb127)) (HO1_2.out) (fun k_ hk => ⟨hk.1.1.1, ⟨hk.1.1.2, ⟨hk.1.2, hk.2⟩⟩⟩))).2.1 (Kd.V_F (Kd.V_mono (ok' := (fun k_ => ((P0_2_ k_ ∨ P1_2_ k_) ∨ w.heap.size ≤ k_) ∧ k_ ≠ gb125 ∧ k_ ≠ gb126 ∧ k_ ≠ gb127)) (HO1_2.out) (fun k_ hk => ⟨hk.1.1.1, ⟨hk.1.1.2, ⟨hk.1.2, hk.2⟩⟩⟩))))) (Reps.none _ _)))); intro v129 w31 ho32 hb hg_ hnew_; clear hg_ hnew_; (first | rw [← Ny128.out] at ho32 | (simp only [Int.reduceToNat] at ho32; rw [← Ny128.out] at ho32)); replace HO0_2 := Aside0.mk (Kd.V_elder' (by refine zDV ?_; exact HO0_2.out) (Kd.N_base ho32) hb); replace HO1_2 := Aside0.mk (Kd.V_elder' (by refine zDV ?_; exact HO1_2.out) (Kd.N_base ho32) hb); have HO130 := Aside0.mk (Kd.N_lower ho32 (below_size (zhB HB.out))); replace BK125 := zbl BK125.out hb; replace BK126 := zbl BK126.out hb; replace BK127 := zbl BK127.out hb; replace HB := Aside0.mk (below_step (zhB HB.out) hb); clear hb ho32; obtain ⟨Ao33, co33, eo33⟩ := Kd.N_slice HO130.out; subst eo33) | ((with_reducible refine gate_callee (f := 34) rfl ?_); refine goesL_ (some 11) rfl rfl Try.func34 (by kernel_rfl) rfl #[.slice Ao33 y128.length co33] rfl zlx ?_; (with_reducible refine (impl_areAlike.calls k _ _ y128 false _ ?side1 ?side2 A4.out).mono ?_); (case side1 => repeat (first | exact (Kd.N_reads' HO130.out).2.2 | (with_reducible refine Kd.C_alloc ?_ _) | (with_reducible refine Kd.C_drewN ?_ _) | (with_reducible refine Kd.C_drew ?_))); (case side2 => exact (Kd.N_reads' HO130.out).2.1); rintro e w34 ⟨rfl, hb⟩; refine ⟨_, rfl, ?_⟩; replace HO0_2 := Aside0.mk (Kd.V_below (by refine zDV ?_; exact HO0_2.out) hb); replace HO1_2 := Aside0.mk (Kd.V_below (by refine zDV ?_; exact HO1_2.out) hb); replace HO130 := Aside0.mk (Kd.N_below (by (with_reducible repeat (first | apply Kd.N_alloc | apply Kd.N_drewN | apply Kd.N_drew)); exact HO130.out) hb); replace BK125 := zbl BK125.out hb; replace BK126 := zbl BK126.out hb; replace BK127 := zbl BK127.out hb; replace HB := Aside0.mk (below_step (zhB HB.out) hb); (try clear hb); have hcz35_0 : w34.cell? ⟨gb127, 0, none⟩ = some (.int .i64 0) := (blk_cell BK127.out 0).trans rfl; have hcz35_1 : w34.cell? ⟨gb127, 1, none⟩ = some (.int .i64 0) := (blk_cell BK127.out 1).trans rfl; have hcz35_2 : w34.cell? ⟨gb127, 2, none⟩ = some (.int .i64 0) := (blk_cell BK127.out 2).trans rfl; have hcz35_3 : w34.cell? ⟨gb127, 3, none⟩ = some (.int .i64 0) := (blk_cell BK127.out 3).trans rfl; have hfz35_0 := blk_frozen BK127.out 0; have hfz35_1 := blk_frozen BK127.out 1; have hfz35_2 := blk_frozen BK127.out 2; have hfz35_3 := blk_frozen BK127.out 3))
   refine bodyPost_ret (results_ct rfl _ _ gb127 30 #[.int .i64 0, .int .i64 0, .int .i64 0, .int .i64 0] (0, 0) _ rfl (zbp BK127.out) Try.underlying30 rfl (by kernel_rfl)) rfl ?_
   exact ⟨by first | rfl | (simp [errW_none, errW_some] <;> rfl) | (simp [*, errW_none, errW_some] <;> rfl), zhB HB.out⟩

/-! ### impl_allWithin: function 69 -/
def impl_allWithin.l0 : Nat → Int → Int → List Int → Int → Int → Option (Bool)
 | 0, _, _, _, _, _ => none
 | k + 1, x1, x2, x9, x10, x11 => if x11 < x10 then (if 0 ≤ x11 then (if x11 < (x9.length : Int) then ((impl_within.f (rd x9 x11) x1 x2).bind fun t137 => (if t137 = true then (impl_allWithin.l0 k x1 x2 x9 x10 (wrap64 (x11 + 1))) else (some false))) else (none)) else (none)) else (some true)
def impl_allWithin.f (k : Nat) (l0 : List Int) (a1 : Int) (a2 : Int) : Option (Bool) := impl_allWithin.l0 k a1 a2 l0 (l0.length : Int) 0
theorem impl_allWithin.mono_l : ∀ k, (∀ y0 y1 y2 y3 y4, LeO (impl_allWithin.l0 k y0 y1 y2 y3 y4) (impl_allWithin.l0 (k + 1) y0 y1 y2 y3 y4))
 | 0 => fun _ _ _ _ _ r h => by simp [impl_allWithin.l0] at h
 | k + 1 => by
  have ih0 := impl_allWithin.mono_l k
  ·intro y0 y1 y2 y3 y4
   unfold impl_allWithin.l0
   repeat' first
   | (with_reducible exact ih0 _ _ _ _ _)
   | (with_reducible exact LeO.refl _)
   | (with_reducible exact LeO.none _)
   | (with_reducible refine LeO.ite ?_ ?_)
   | (with_reducible refine LeO.bind ?_ (fun _ => ?_))
   | exact ih0 _ _ _ _ _
   | exact LeO.none _
   | refine LeO.ite ?_ ?_
   | refine LeO.bind ?_ (fun _ => ?_)
theorem impl_allWithin.mono : ∀ a0 a1 a2 k, LeO (impl_allWithin.f k a0 a1 a2) (impl_allWithin.f (k + 1) a0 a1 a2) := by
 intro a0 a1 a2 k
 have ih0 := impl_allWithin.mono_l k
 unfold impl_allWithin.f
 repeat' first
  | (with_reducible exact ih0 _ _ _ _ _)
  | (with_reducible exact LeO.refl _)
  | (with_reducible exact LeO.none _)
  | (with_reducible refine LeO.ite ?_ ?_)
  | (with_reducible refine LeO.bind ?_ (fun _ => ?_))
  | exact ih0 _ _ _ _ _
  | exact LeO.none _
  | refine LeO.ite ?_ ?_
  | refine LeO.bind ?_ (fun _ => ?_)
set_option maxHeartbeats 8000000 in
set_option maxRecDepth 100000 in
theorem impl_allWithin.calls (k : Nat) (A0 : Option Addr) (c0 : Nat) (l0 : List Int) (a1 : Int) (a2 : Int) (r : Bool) (w : World) (hr0 : Kd.C (Kd.int .i64) w A0 l0.length l0) (hc0 : l0.length ≤ c0) (h : impl_allWithin.f k l0 a1 a2 = some r) :
 Calls Try.prog 69 #[.slice A0 l0.length c0, .int .i64 a1, .int .i64 a2] w fun e w' => e = .returned (.bool r) ∧ Drawn0 w w' := by
 have HR0 := Aside0.mk hr0
 have HC0 := Aside0.mk hc0
 clear hr0 hc0
 have H : (impl_allWithin.l0 k a1 a2 l0 (l0.length : Int) 0) = some r := h
 clear h
 have H' := Aside0.mk H
 clear H
 go_enter Try.func69, Try.ntmps69
 go_wp2
 go_loopg [11] k (fun kq v11 w' => ∃ (x11_1 : Int), v11 = .int .i64 x11_1 ∧ Aside0 (impl_allWithin.l0 kq a1 a2 l0 (l0.length : Int) x11_1 = some r) ∧ Aside0 (kq ≤ k) ∧ Drawn0 w w')
 case atStart => exact ⟨(0), zrx, H', ⟨Nat.le_refl _⟩, by repeat (first | exact Drawn0.refl _ | apply Drawn0.step)⟩
 case round =>
  clear H'
  try clear p2
  obtain ⟨x11_1, rfl, HA, HK1, ⟨m1, rfl⟩⟩ := hrel
  cases gk with
  | zero => exact absurd HA.out (by simp [impl_allWithin.l0])
  | succ k1 =>
   have H := HA.out
   clear HA
   simp only [impl_allWithin.l0] at H
   by_cases c4 : x11_1 < (l0.length : Int)
   ·rw [if_pos c4] at H
    have c4b0 : decide (x11_1 < (l0.length : Int)) = true := decide_eq_true c4
    clear c4
    by_cases c5 : 0 ≤ x11_1
    ·rw [if_pos c5] at H
     have c5b0 : decide (0 ≤ x11_1) = true := decide_eq_true c5
     clear c5
     by_cases c6 : x11_1 < (l0.length : Int)
     ·rw [if_pos c6] at H
      have c6b0 : decide (x11_1 < (l0.length : Int)) = true := decide_eq_true c6
      clear c6
      replace H := Option.bind_eq_some_iff.mp H
      obtain ⟨t137, A70, H⟩ := H
      replace H : (if t137 = true then (impl_allWithin.l0 k1 a1 a2 l0 (l0.length : Int) (wrap64 (x11_1 + 1))) else (some false)) = some r := H
      have A7 := Aside0.mk A70
      clear A70
      by_cases c8 : t137 = true
      ·subst c8
       rw [if_pos rfl] at H
       focus
        have H' := Aside0.mk H
        clear H
        have p136 : 0 ≤ (x11_1 : Int) := of_decide_eq_true zax
        have q136 : x11_1 < (l0.length : Int) := of_decide_eq_true zax
        obtain ⟨ad136, e136, hx136_0⟩ := Kd.at_int HR0.out x11_1 p136 q136
        cases e136
        replace p136 := eq_true p136
        replace q136 := eq_true q136
        go_wp2_with (first | ((with_reducible refine gate_callee (f := 73) rfl ?_); refine goesL_ (some 18) rfl rfl Try.func73 (by kernel_rfl) rfl #[.int .i64 (rd l0 x11_1), .int .i64 a1, .int .i64 a2] rfl zlx ?_; (with_reducible refine (impl_within.calls (rd l0 x11_1) a1 a2 true _ A7.out).mono ?_); rintro e w' ⟨rfl, ⟨nd, rfl⟩⟩; refine ⟨_, rfl, ?_⟩))
        go_roundg k1
        case measure => have := HK1.out; omega
        case rel => exact ⟨(wrap64 (x11_1 + 1)), zrx, H', ⟨by have := HK1.out; omega⟩, by repeat (first | exact Drawn0.refl _ | apply Drawn0.step)⟩
      ·replace c8 := Bool.eq_false_iff.mpr c8
       subst c8
       rw [if_neg (show ¬ (false = true) by decide)] at H
       focus
        obtain rfl := Option.some.inj H
        have p136 : 0 ≤ (x11_1 : Int) := of_decide_eq_true zax
        have q136 : x11_1 < (l0.length : Int) := of_decide_eq_true zax
        obtain ⟨ad136, e136, hx136_0⟩ := Kd.at_int HR0.out x11_1 p136 q136
        cases e136
        replace p136 := eq_true p136
        replace q136 := eq_true q136
        go_wp2_with (first | ((with_reducible refine gate_callee (f := 73) rfl ?_); refine goesL_ (some 18) rfl rfl Try.func73 (by kernel_rfl) rfl #[.int .i64 (rd l0 x11_1), .int .i64 a1, .int .i64 a2] rfl zlx ?_; (with_reducible refine (impl_within.calls (rd l0 x11_1) a1 a2 false _ A7.out).mono ?_); rintro e w' ⟨rfl, ⟨nd, rfl⟩⟩; refine ⟨_, rfl, ?_⟩))
        go_ret
        exact ⟨by first | rfl | (simp; done) | (simp [*]; done), by repeat (first | exact Drawn0.refl _ | apply Drawn0.step)⟩
     ·rw [if_neg c6] at H
      exact absurd H (by simp)
    ·rw [if_neg c5] at H
     exact absurd H (by simp)
   ·rw [if_neg c4] at H
    have c4b0 : decide (x11_1 < (l0.length : Int)) = false := decide_eq_false c4
    clear c4
    focus
     obtain rfl := Option.some.inj H
     go_wp2
     go_ret
     exact ⟨by first | rfl | (simp; done) | (simp [*]; done), by repeat (first | exact Drawn0.refl _ | apply Drawn0.step)⟩

/-! ### impl_isTable: function 50 -/
def impl_isTable.f (k : Nat) (a0_0 : Int) (a0_1 : Int) (a0_2 : Int) (a0_3 : Int) : Option (Bool) := (impl_allWithin.f k (([a0_0, a0_1, a0_2, a0_3] : List Int)) 0 1000000).bind fun t142 => (some t142)
theorem impl_isTable.mono : ∀ a0 a1 a2 a3 k, LeO (impl_isTable.f k a0 a1 a2 a3) (impl_isTable.f (k + 1) a0 a1 a2 a3) := by
 intro a0 a1 a2 a3 k
 unfold impl_isTable.f
 repeat' first
  | (with_reducible exact impl_allWithin.mono _ _ _ _)
  | (with_reducible exact LeO.refl _)
  | (with_reducible exact LeO.none _)
  | (with_reducible refine LeO.ite ?_ ?_)
  | (with_reducible refine LeO.bind ?_ (fun _ => ?_))
  | exact impl_allWithin.mono _ _ _ _
  | exact LeO.none _
  | refine LeO.ite ?_ ?_
  | refine LeO.bind ?_ (fun _ => ?_)
set_option maxHeartbeats 8000000 in
set_option maxRecDepth 100000 in
theorem impl_isTable.calls (k : Nat) (a0_0 : Int) (a0_1 : Int) (a0_2 : Int) (a0_3 : Int) (r : Bool) (w : World) (h : impl_isTable.f k a0_0 a0_1 a0_2 a0_3 = some r) :
 Calls Try.prog 50 #[.agg #[.int .i64 a0_0, .int .i64 a0_1, .int .i64 a0_2, .int .i64 a0_3]] w fun e w' => e = .returned (.bool r) ∧ Below w.heap.size w w' := by
 have hu30 := Try.underlying30
 have HB := Aside0.mk (Below.refl w.heap.size w)
 have H : ((impl_allWithin.f k (([a0_0, a0_1, a0_2, a0_3] : List Int)) 0 1000000).bind fun t142 => (some t142)) = some r := h
 clear h
 obtain ⟨y139, hy139⟩ : ∃ y_ : List Int, y_ = (([a0_0, a0_1, a0_2, a0_3] : List Int)) := ⟨_, rfl⟩
 replace H : ((impl_allWithin.f k y139 0 1000000).bind fun t142 => (some t142)) = some r := by first | (rw [hy139]; with_reducible exact H) | (have H2_ := (Option.bind_some _ _).symm.trans H; rw [hy139]; with_reducible exact H2_) | (have H2_ := (Option.bind_some _ _).symm.trans H; with_reducible exact H2_) | with_reducible exact H | (rw [hy139]; exact H) | exact H
 have Ny139 := Aside0.mk hy139
 clear hy139
 replace H := Option.bind_eq_some_iff.mp H
 obtain ⟨t142, A20, H⟩ := H
 replace H : (some t142) = some r := H
 have A2 := Aside0.mk A20
 clear A20
 focus
  obtain rfl := Option.some.inj H
  go_enter Try.func50, Try.ntmps50
  go_wp2_with (first | ((with_reducible refine gate_dst (N := 1) rfl ?_); refine box_event ?hg (N := 1) ?hd (cs := #[.int .i64 a0_0, .int .i64 a0_1, .int .i64 a0_2, .int .i64 a0_3]) (t := 30) ?hr ?_; (case hd => rfl); (case hg => rfl); (case hr => exact zsx); intro gb138 hg w3 hbox hb; have BK138 := Aside0.mk (hbox); have GW138 := zns hg HB.out; have GE138 := zns hg HB.out; replace HB := Aside0.mk (below_step (zBx HB.out) hb); clear hb hbox hg; have hcz4_0 : w3.cell? ⟨gb138, 0, none⟩ = some (.int .i64 a0_0) := (blk_cell BK138.out 0).trans rfl; have hcz4_1 : w3.cell? ⟨gb138, 1, none⟩ = some (.int .i64 a0_1) := (blk_cell BK138.out 1).trans rfl; have hcz4_2 : w3.cell? ⟨gb138, 2, none⟩ = some (.int .i64 a0_2) := (blk_cell BK138.out 2).trans rfl; have hcz4_3 : w3.cell? ⟨gb138, 3, none⟩ = some (.int .i64 a0_3) := (blk_cell BK138.out 3).trans rfl; have hfz4_0 := blk_frozen BK138.out 0; have hfz4_1 := blk_frozen BK138.out 1; have hfz4_2 := blk_frozen BK138.out 2; have hfz4_3 := blk_frozen BK138.out 3) | ((with_reducible refine gate_dst (N := 11) rfl ?_); refine Kd.R_lit (Kd.int .i64) _ 3 ?hg (N := 11) ?hd (xs := ([a0_0, a0_1, a0_2, a0_3] : List Int)) (inner := [.int .i64 a0_0, .int .i64 a0_1, .int .i64 a0_2, .int .i64 a0_3]) (ok := fun _ => True) (okp := fun _ => True) ?hr ?hp (fun _ hk => hk) trivial (Below.refl _ _) (Nat.le_refl _) (by simp) ?_; (case hd => rfl); (case hg => rfl); (case hr => exact zsx); (case hp => exact (Reps.one (show Kd.M (Kd.int .i64) _ _ _ a0_0 [.int .i64 a0_0] from rfl) (Reps.one (show Kd.M (Kd.int .i64) _ _ _ a0_1 [.int .i64 a0_1] from rfl) (Reps.one (show Kd.M (Kd.int .i64) _ _ _ a0_2 [.int .i64 a0_2] from rfl) (Reps.one (show Kd.M (Kd.int .i64) _ _ _ a0_3 [.int .i64 a0_3] from rfl) (Reps.none _ _)))))); intro v140 w5 ho6 hb hg_ hnew_; clear hg_ hnew_; (first | rw [← Ny139.out] at ho6 | (simp only [Int.reduceToNat] at ho6; rw [← Ny139.out] at ho6)); have HO141 := Aside0.mk (Kd.R_lower ho6 (below_size (zBy HB.out GE138.out))); replace BK138 := zbl BK138.out hb; replace HB := Aside0.mk (below_step (zBy HB.out GE138.out) hb); clear hb ho6; obtain ⟨Ao7, co7, eo7⟩ := Kd.R_slice HO141.out; subst eo7) | ((with_reducible refine gate_callee (f := 69) rfl ?_); refine goesL_ (some 12) rfl rfl Try.func69 (by kernel_rfl) rfl #[.slice Ao7 y139.length co7, .int .i64 0, .int .i64 1000000] rfl zlx ?_; (with_reducible refine (impl_allWithin.calls k _ _ y139 0 1000000 t142 _ ?side1 ?side2 A2.out).mono ?_); (case side1 => exact zCx (Kd.R_reads' HO141.out).2.2); (case side2 => exact (Kd.R_reads' HO141.out).2.1); rintro e w' ⟨rfl, ⟨nd, rfl⟩⟩; refine ⟨_, rfl, ?_⟩))
  go_ret
  exact ⟨by first | rfl | (simp [errW_none, errW_some] <;> rfl) | (simp [*, errW_none, errW_some] <;> rfl), by exact zBy HB.out GE138.out⟩

/-! ### impl_absOf: function 58 -/
def impl_absOf.f (a0 : Int) : Option (Int) := if a0 < 0 then (some (wrap64 (-a0))) else (some a0)
set_option maxHeartbeats 8000000 in
set_option maxRecDepth 100000 in
theorem impl_absOf.calls (a0 : Int) (r : Int) (w : World) (h : impl_absOf.f a0 = some r) :
 Calls Try.prog 58 #[.int .i64 a0] w fun e w' => e = .returned (.int .i64 r) ∧ Drawn0 w w' := by
 have H : (if a0 < 0 then (some (wrap64 (-a0))) else (some a0)) = some r := h
 clear h
 by_cases c2 : a0 < 0
 ·rw [if_pos c2] at H
  have c2b0 : decide (a0 < 0) = true := decide_eq_true c2
  clear c2
  focus
   obtain rfl := Option.some.inj H
   go_enter Try.func58, Try.ntmps58
   go_wp2
   go_ret
   exact ⟨by first | rfl | (simp; done) | (simp [*]; done), by repeat (first | exact Drawn0.refl _ | apply Drawn0.step)⟩
 ·rw [if_neg c2] at H
  have c2b0 : decide (a0 < 0) = false := decide_eq_false c2
  clear c2
  focus
   obtain rfl := Option.some.inj H
   go_enter Try.func58, Try.ntmps58
   go_wp2
   go_ret
   exact ⟨by first | rfl | (simp; done) | (simp [*]; done), by repeat (first | exact Drawn0.refl _ | apply Drawn0.step)⟩

/-! ### impl_divisorOf: function 79 -/
def impl_divisorOf.l0 : Nat → Int → Int → Option (Int)
 | 0, _, _ => none
 | k + 1, x0, x1 => if x1 > 0 then (if x1 = 0 then (none) else (impl_divisorOf.l0 k x1 (Int.tmod x0 x1))) else (some x0)
def impl_divisorOf.f (k : Nat) (a0 : Int) (a1 : Int) : Option (Int) := impl_divisorOf.l0 k a0 a1
theorem impl_divisorOf.mono_l : ∀ k, (∀ y0 y1, LeO (impl_divisorOf.l0 k y0 y1) (impl_divisorOf.l0 (k + 1) y0 y1))
 | 0 => fun _ _ r h => by simp [impl_divisorOf.l0] at h
 | k + 1 => by
  have ih0 := impl_divisorOf.mono_l k
  ·intro y0 y1
   unfold impl_divisorOf.l0
   repeat' first
   | (with_reducible exact ih0 _ _)
   | (with_reducible exact LeO.refl _)
   | (with_reducible exact LeO.none _)
   | (with_reducible refine LeO.ite ?_ ?_)
   | (with_reducible refine LeO.bind ?_ (fun _ => ?_))
   | exact ih0 _ _
   | exact LeO.none _
   | refine LeO.ite ?_ ?_
   | refine LeO.bind ?_ (fun _ => ?_)
theorem impl_divisorOf.mono : ∀ a0 a1 k, LeO (impl_divisorOf.f k a0 a1) (impl_divisorOf.f (k + 1) a0 a1) := by
 intro a0 a1 k
 have ih0 := impl_divisorOf.mono_l k
 unfold impl_divisorOf.f
 repeat' first
  | (with_reducible exact ih0 _ _)
  | (with_reducible exact LeO.refl _)
  | (with_reducible exact LeO.none _)
  | (with_reducible refine LeO.ite ?_ ?_)
  | (with_reducible refine LeO.bind ?_ (fun _ => ?_))
  | exact ih0 _ _
  | exact LeO.none _
  | refine LeO.ite ?_ ?_
  | refine LeO.bind ?_ (fun _ => ?_)
set_option maxHeartbeats 8000000 in
set_option maxRecDepth 100000 in
theorem impl_divisorOf.calls (k : Nat) (a0 : Int) (a1 : Int) (r : Int) (w : World) (h : impl_divisorOf.f k a0 a1 = some r) :
 Calls Try.prog 79 #[.int .i64 a0, .int .i64 a1] w fun e w' => e = .returned (.int .i64 r) ∧ Drawn0 w w' := by
 have H : (impl_divisorOf.l0 k a0 a1) = some r := h
 clear h
 have H' := Aside0.mk H
 clear H
 go_enter Try.func79, Try.ntmps79
 go_wp2
 repeat (go_quiet (fail); try go_wp2)
 go_loopg [0, 1] k (fun kq v0 v1 w' => ∃ (x0_1 : Int) (x1_1 : Int), v0 = .int .i64 x0_1 ∧ v1 = .int .i64 x1_1 ∧ Aside0 (impl_divisorOf.l0 kq x0_1 x1_1 = some r) ∧ Aside0 (kq ≤ k) ∧ Drawn0 w w')
 case atStart => exact ⟨(a0), (a1), zrx, zrx, H', ⟨Nat.le_refl _⟩, by repeat (first | exact Drawn0.refl _ | apply Drawn0.step)⟩
 case round =>
  clear H'
  try clear p2
  obtain ⟨x0_1, x1_1, rfl, rfl, HA, HK1, ⟨m1, rfl⟩⟩ := hrel
  cases gk with
  | zero => exact absurd HA.out (by simp [impl_divisorOf.l0])
  | succ k1 =>
   have H := HA.out
   clear HA
   simp only [impl_divisorOf.l0] at H
   by_cases c3 : x1_1 > 0
   ·rw [if_pos c3] at H
    have c3b0 : decide (0 < x1_1) = true := decide_eq_true c3
    clear c3
    by_cases c4 : x1_1 = 0
    ·rw [if_pos c4] at H
     exact absurd H (by simp)
    ·rw [if_neg c4] at H
     have c4b0 : (x1_1 == 0) = false := beq_eq_false_iff_ne.mpr c4
     have c4b1 : (x1_1 != 0) = true := bne_iff_ne.mpr c4
     focus
      have H' := Aside0.mk H
      clear H
      go_wp2
      repeat (go_quiet (fail); try go_wp2)
      go_roundg k1
      case measure => have := HK1.out; omega
      case rel => exact ⟨(x1_1), (Int.tmod x0_1 x1_1), zrx, zrx, H', ⟨by have := HK1.out; omega⟩, by repeat (first | exact Drawn0.refl _ | apply Drawn0.step)⟩
   ·rw [if_neg c3] at H
    have c3b0 : decide (0 < x1_1) = false := decide_eq_false c3
    clear c3
    focus
     obtain rfl := Option.some.inj H
     go_wp2
     repeat (go_quiet (fail); try go_wp2)
     go_ret
     exact ⟨by first | rfl | (simp; done) | (simp [*]; done), by repeat (first | exact Drawn0.refl _ | apply Drawn0.step)⟩

end Go.Proofs.Ytddgbaohepfekaa.XFnLimits
