-- written by wip/tools/xprint.py (a program of this project) out of the translation
import Derived.Test.YtddgbaohepfekaaXFnScoresx0
import Derived.Test.YtddgbaohepfekaaXFnScoresx8
namespace Go.Proofs.Ytddgbaohepfekaa.XFnScores
open Go.RowKit Go.Proofs.YtddgbaohepfekaaW.PrintWords Go.Proofs.YtddgbaohepfekaaW.PrintLast Go.Proofs.YtddgbaohepfekaaW.PrintMore
attribute [local go_sem] max2_int min2_int max_two min_two max_three min_three max_four min_four   -- for this text's walks alone
set_option linter.unusedVariables false
set_option linter.unusedSimpArgs false

/-! ### impl_countTable: function 35 -/
mutual
def impl_countTable.l0 : Nat → Int → Int → List Int → Int → Int → Int → Int → List Int → Int → Int → Int → Int → Option (Int × Int × Int × Int)
 | 0, _, _, _, _, _, _, _, _, _, _, _, _ => none
 | k + 1, x2, x3, x14, x15, x16, x280000, x280001, x280002, x282000, x282001, x282002, x282003 => if x16 < x15 then (if 0 ≤ x16 then (if x16 < (x14.length : Int) then (if x16 < (x280002.length : Int) then (if (rd x14 x16) = (-9999) then (impl_countTable.j1 k x2 x3 (rd x14 x16) (rd x280002 x16) x14 x15 x16 true x280000 x280001 x280002 x282000 x282001 x282002 x282003) else (impl_countTable.j1 k x2 x3 (rd x14 x16) (rd x280002 x16) x14 x15 x16 ((rd x280002 x16) == (-9999)) x280000 x280001 x280002 x282000 x282001 x282002 x282003)) else (none)) else (none)) else (none)) else (some (x282000, x282001, x282002, x282003))
def impl_countTable.j1 : Nat → Int → Int → Int → Int → List Int → Int → Int → Bool → Int → Int → List Int → Int → Int → Int → Int → Option (Int × Int × Int × Int)
 | 0, _, _, _, _, _, _, _, _, _, _, _, _, _, _, _ => none
 | k + 1, x2, x3, x11, x12, x14, x15, x16, x30, x280000, x280001, x280002, x282000, x282001, x282002, x282003 => if x30 = true then (impl_countTable.l0 k x2 x3 x14 x15 (wrap64 (x16 + 1)) x280000 x280001 x280002 x282000 x282001 x282002 x282003) else (if x11 > x2 then (impl_countTable.j2 k x2 x3 x11 x12 x14 x15 x16 (decide (x12 > x3)) x280000 x280001 x280002 x282000 x282001 x282002 x282003) else (impl_countTable.j2 k x2 x3 x11 x12 x14 x15 x16 false x280000 x280001 x280002 x282000 x282001 x282002 x282003))
def impl_countTable.j2 : Nat → Int → Int → Int → Int → List Int → Int → Int → Bool → Int → Int → List Int → Int → Int → Int → Int → Option (Int × Int × Int × Int)
 | 0, _, _, _, _, _, _, _, _, _, _, _, _, _, _, _ => none
 | k + 1, x2, x3, x11, x12, x14, x15, x16, x37, x280000, x280001, x280002, x282000, x282001, x282002, x282003 => if x37 = true then (impl_countTable.l0 k x2 x3 x14 x15 (wrap64 (x16 + 1)) x280000 x280001 x280002 (wrap64 (x282000 + 1)) x282001 x282002 x282003) else (if x11 > x2 then (impl_countTable.l0 k x2 x3 x14 x15 (wrap64 (x16 + 1)) x280000 x280001 x280002 x282000 x282001 (wrap64 (x282002 + 1)) x282003) else (if x12 > x3 then (impl_countTable.l0 k x2 x3 x14 x15 (wrap64 (x16 + 1)) x280000 x280001 x280002 x282000 (wrap64 (x282001 + 1)) x282002 x282003) else (impl_countTable.l0 k x2 x3 x14 x15 (wrap64 (x16 + 1)) x280000 x280001 x280002 x282000 x282001 x282002 (wrap64 (x282003 + 1)))))
end
def impl_countTable.f (k : Nat) (a0_0 : Int) (a0_1 : Int) (l0_2 : List Int) (a1_0 : Int) (a1_1 : Int) (l1_2 : List Int) (a2 : Int) (a3 : Int) : Option (Int × Int × Int × Int) := impl_countTable.l0 k a2 a3 l0_2 (l0_2.length : Int) 0 a1_0 a1_1 l1_2 0 0 0 0
theorem impl_countTable.mono_l : ∀ k, (∀ y0 y1 y2 y3 y4 y5 y6 y7 y8 y9 y10 y11, LeO (impl_countTable.l0 k y0 y1 y2 y3 y4 y5 y6 y7 y8 y9 y10 y11) (impl_countTable.l0 (k + 1) y0 y1 y2 y3 y4 y5 y6 y7 y8 y9 y10 y11)) ∧ (∀ y0 y1 y2 y3 y4 y5 y6 y7 y8 y9 y10 y11 y12 y13 y14, LeO (impl_countTable.j1 k y0 y1 y2 y3 y4 y5 y6 y7 y8 y9 y10 y11 y12 y13 y14) (impl_countTable.j1 (k + 1) y0 y1 y2 y3 y4 y5 y6 y7 y8 y9 y10 y11 y12 y13 y14)) ∧ (∀ y0 y1 y2 y3 y4 y5 y6 y7 y8 y9 y10 y11 y12 y13 y14, LeO (impl_countTable.j2 k y0 y1 y2 y3 y4 y5 y6 y7 y8 y9 y10 y11 y12 y13 y14) (impl_countTable.j2 (k + 1) y0 y1 y2 y3 y4 y5 y6 y7 y8 y9 y10 y11 y12 y13 y14))
 | 0 => ⟨fun _ _ _ _ _ _ _ _ _ _ _ _ r h => by simp [impl_countTable.l0] at h, fun _ _ _ _ _ _ _ _ _ _ _ _ _ _ _ r h => by simp [impl_countTable.j1] at h, fun _ _ _ _ _ _ _ _ _ _ _ _ _ _ _ r h => by simp [impl_countTable.j2] at h⟩
 | k + 1 => by
  obtain ⟨ih0, ih1, ih2⟩ := impl_countTable.mono_l k
  refine ⟨?_, ?_, ?_⟩
  ·intro y0 y1 y2 y3 y4 y5 y6 y7 y8 y9 y10 y11
   unfold impl_countTable.l0
   repeat' first
   | (with_reducible exact ih0 _ _ _ _ _ _ _ _ _ _ _ _)
   | (with_reducible exact ih1 _ _ _ _ _ _ _ _ _ _ _ _ _ _ _)
   | (with_reducible exact ih2 _ _ _ _ _ _ _ _ _ _ _ _ _ _ _)
   | (with_reducible exact LeO.refl _)
   | (with_reducible exact LeO.none _)
   | (with_reducible refine LeO.ite ?_ ?_)
   | (with_reducible refine LeO.bind ?_ (fun _ => ?_))
   | exact ih0 _ _ _ _ _ _ _ _ _ _ _ _
   | exact ih1 _ _ _ _ _ _ _ _ _ _ _ _ _ _ _
   | exact ih2 _ _ _ _ _ _ _ _ _ _ _ _ _ _ _
   | exact LeO.none _
   | refine LeO.ite ?_ ?_
   | refine LeO.bind ?_ (fun _ => ?_)
  ·intro y0 y1 y2 y3 y4 y5 y6 y7 y8 y9 y10 y11 y12 y13 y14
   unfold impl_countTable.j1
   repeat' first
   | (with_reducible exact ih0 _ _ _ _ _ _ _ _ _ _ _ _)
   | (with_reducible exact ih1 _ _ _ _ _ _ _ _ _ _ _ _ _ _ _)
   | (with_reducible exact ih2 _ _ _ _ _ _ _ _ _ _ _ _ _ _ _)
   | (with_reducible exact LeO.refl _)
   | (with_reducible exact LeO.none _)
   | (with_reducible refine LeO.ite ?_ ?_)
   | (with_reducible refine LeO.bind ?_ (fun _ => ?_))
   | exact ih0 _ _ _ _ _ _ _ _ _ _ _ _
   | exact ih1 _ _ _ _ _ _ _ _ _ _ _ _ _ _ _
   | exact ih2 _ _ _ _ _ _ _ _ _ _ _ _ _ _ _
   | exact LeO.none _
   | refine LeO.ite ?_ ?_
   | refine LeO.bind ?_ (fun _ => ?_)
  ·intro y0 y1 y2 y3 y4 y5 y6 y7 y8 y9 y10 y11 y12 y13 y14
   unfold impl_countTable.j2
   repeat' first
   | (with_reducible exact ih0 _ _ _ _ _ _ _ _ _ _ _ _)
   | (with_reducible exact ih1 _ _ _ _ _ _ _ _ _ _ _ _ _ _ _)
   | (with_reducible exact ih2 _ _ _ _ _ _ _ _ _ _ _ _ _ _ _)
   | (with_reducible exact LeO.refl _)
   | (with_reducible exact LeO.none _)
   | (with_reducible refine LeO.ite ?_ ?_)
   | (with_reducible refine LeO.bind ?_ (fun _ => ?_))
   | exact ih0 _ _ _ _ _ _ _ _ _ _ _ _
   | exact ih1 _ _ _ _ _ _ _ _ _ _ _ _ _ _ _
   | exact ih2 _ _ _ _ _ _ _ _ _ _ _ _ _ _ _
   | exact LeO.none _
   | refine LeO.ite ?_ ?_
   | refine LeO.bind ?_ (fun _ => ?_)
theorem impl_countTable.mono : ∀ a0 a1 a2 a3 a4 a5 a6 a7 k, LeO (impl_countTable.f k a0 a1 a2 a3 a4 a5 a6 a7) (impl_countTable.f (k + 1) a0 a1 a2 a3 a4 a5 a6 a7) := by
 intro a0 a1 a2 a3 a4 a5 a6 a7 k
 obtain ⟨ih0, ih1, ih2⟩ := impl_countTable.mono_l k
 unfold impl_countTable.f
 repeat' first
  | (with_reducible exact ih0 _ _ _ _ _ _ _ _ _ _ _ _)
  | (with_reducible exact ih1 _ _ _ _ _ _ _ _ _ _ _ _ _ _ _)
  | (with_reducible exact ih2 _ _ _ _ _ _ _ _ _ _ _ _ _ _ _)
  | (with_reducible exact LeO.refl _)
  | (with_reducible exact LeO.none _)
  | (with_reducible refine LeO.ite ?_ ?_)
  | (with_reducible refine LeO.bind ?_ (fun _ => ?_))
  | exact ih0 _ _ _ _ _ _ _ _ _ _ _ _
  | exact ih1 _ _ _ _ _ _ _ _ _ _ _ _ _ _ _
  | exact ih2 _ _ _ _ _ _ _ _ _ _ _ _ _ _ _
  | exact LeO.none _
  | refine LeO.ite ?_ ?_
  | refine LeO.bind ?_ (fun _ => ?_)
set_option maxHeartbeats 8000000 in
set_option maxRecDepth 100000 in
theorem impl_countTable.calls (k : Nat) (a0_0 : Int) (a0_1 : Int) (A0_2 : Option Addr) (c0_2 : Nat) (l0_2 : List Int) (a1_0 : Int) (a1_1 : Int) (A1_2 : Option Addr) (c1_2 : Nat) (l1_2 : List Int) (a2 : Int) (a3 : Int) (r1 : Int) (r2 : Int) (r3 : Int) (r4 : Int) (w : World) (hr0_2 : Kd.C (Kd.int .i64) w A0_2 l0_2.length l0_2) (hc0_2 : l0_2.length ≤ c0_2) (hr1_2 : Kd.C (Kd.int .i64) w A1_2 l1_2.length l1_2) (hc1_2 : l1_2.length ≤ c1_2) (h : impl_countTable.f k a0_0 a0_1 l0_2 a1_0 a1_1 l1_2 a2 a3 = some (r1, r2, r3, r4)) :
 Calls Try.prog 35 #[.agg #[.int .i64 a0_0, .int .i64 a0_1, .slice A0_2 l0_2.length c0_2], .agg #[.int .i64 a1_0, .int .i64 a1_1, .slice A1_2 l1_2.length c1_2], .int .i64 a2, .int .i64 a3] w fun e w' => e = .returned (.agg #[.int .i64 r1, .int .i64 r2, .int .i64 r3, .int .i64 r4]) ∧ Below w.heap.size w w' := by
 have hu26 := Try.underlying26
 have hu30 := Try.underlying30
 have HR0_2 := Aside0.mk hr0_2
 have HC0_2 := Aside0.mk hc0_2
 clear hr0_2 hc0_2
 have HR1_2 := Aside0.mk hr1_2
 have HC1_2 := Aside0.mk hc1_2
 clear hr1_2 hc1_2
 have HB := Aside0.mk (Below.refl w.heap.size w)
 have H : (impl_countTable.l0 k a2 a3 l0_2 (l0_2.length : Int) 0 a1_0 a1_1 l1_2 0 0 0 0) = some (r1, r2, r3, r4) := h
 clear h
 have H' := Aside0.mk H
 clear H
 go_enter Try.func35, Try.ntmps35
 go_wp2_with (first | ((with_reducible refine gate_dst (N := 4) rfl ?_); refine box_event ?hg (N := 4) ?hd (cs := #[.int .i64 a0_0, .int .i64 a0_1, .slice A0_2 l0_2.length c0_2]) (t := 26) ?hr ?_; (case hd => rfl); (case hg => rfl); (case hr => exact zsx); intro gb278 hg w5 hbox hb; have BK278 := Aside0.mk (hbox); have GW278 := zns hg HB.out; have GE278 := zns hg HB.out; replace HB := Aside0.mk (below_step (zBx HB.out) hb); clear hb hbox hg) | ((with_reducible refine gate_dst (N := 5) rfl ?_); refine box_event ?hg (N := 5) ?hd (cs := #[.int .i64 a1_0, .int .i64 a1_1, .slice A1_2 l1_2.length c1_2]) (t := 26) ?hr ?_; (case hd => rfl); (case hg => rfl); (case hr => exact zsx); intro gb279 hg w6 hbox hb; have BK279 := Aside0.mk (hbox); have GW279 := zns hg HB.out; have GE279 := zns hg HB.out; replace HB := Aside0.mk (below_step (zBy HB.out GE278.out) hb); have NB278_279 := znl hg BK278.out; have NB279_278 := zng hg BK278.out; replace BK278 := zbl BK278.out hb; clear hb hbox hg) | ((with_reducible refine gate_dst (N := 8) rfl ?_); refine box_event ?hg (N := 8) ?hd (cs := #[.int .i64 0, .int .i64 0, .int .i64 0, .int .i64 0]) (t := 30) ?hr ?_; (case hd => rfl); (case hg => rfl); (case hr => exact zsx); intro gb280 hg w7 hbox hb; have BK280 := Aside0.mk (hbox); have GW280 := zns hg HB.out; have GE280 := zns hg HB.out; replace HB := Aside0.mk (below_step (zBz HB.out GE278.out GE279.out) hb); have NB278_280 := znl hg BK278.out; have NB280_278 := zng hg BK278.out; replace BK278 := zbl BK278.out hb; have NB279_280 := znl hg BK279.out; have NB280_279 := zng hg BK279.out; replace BK279 := zbl BK279.out hb; clear hb hbox hg) | ((with_reducible refine gate_dst (N := 9) rfl ?_); refine box_event ?hg (N := 9) ?hd (cs := #[.int .i64 0, .int .i64 0, .int .i64 0, .int .i64 0]) (t := 30) ?hr ?_; (case hd => rfl); (case hg => rfl); (case hr => exact zsx); intro gb281 hg w8 hbox hb; have BK281 := Aside0.mk (hbox); have GW281 := zns hg HB.out; have GE281 := zns hg HB.out; replace HB := Aside0.mk (below_step (zhB HB.out) hb); have NB278_281 := znl hg BK278.out; have NB281_278 := zng hg BK278.out; replace BK278 := zbl BK278.out hb; have NB279_281 := znl hg BK279.out; have NB281_279 := zng hg BK279.out; replace BK279 := zbl BK279.out hb; have NB280_281 := znl hg BK280.out; have NB281_280 := zng hg BK280.out; replace BK280 := zbl BK280.out hb; clear hb hbox hg; have hnb9 := NB278_279.out; have hnc9 := NB279_278.out; have hnb10 := NB278_280.out; have hnc10 := NB280_278.out; have hnb11 := NB278_281.out; have hnc11 := NB281_278.out; have hcz12_0 : w8.cell? ⟨gb278, 0, none⟩ = some (.int .i64 a0_0) := (blk_cell BK278.out 0).trans rfl; have hcz12_1 : w8.cell? ⟨gb278, 1, none⟩ = some (.int .i64 a0_1) := (blk_cell BK278.out 1).trans rfl; have hcz12_2 : w8.cell? ⟨gb278, 2, none⟩ = some (.slice A0_2 l0_2.length c0_2) := (blk_cell BK278.out 2).trans rfl; have hfz12_0 := blk_frozen BK278.out 0; have hfz12_1 := blk_frozen BK278.out 1; have hfz12_2 := blk_frozen BK278.out 2))
 go_loopg [16] k (fun kq v16 w' => ∃ (x16_1 : Int) (x282000_1 : Int) (x282001_1 : Int) (x282002_1 : Int) (x282003_1 : Int), v16 = .int .i64 x16_1 ∧ Aside0 (impl_countTable.l0 kq a2 a3 l0_2 (l0_2.length : Int) x16_1 a1_0 a1_1 l1_2 x282000_1 x282001_1 x282002_1 x282003_1 = some (r1, r2, r3, r4)) ∧ Aside0 (kq ≤ k) ∧ Aside0 (w'.heap[gb278]? = some (.cells #[.int .i64 a0_0, .int .i64 a0_1, (.slice A0_2 l0_2.length c0_2)] 26 (0, 0))) ∧ Aside0 (w'.heap[gb279]? = some (.cells #[.int .i64 a1_0, .int .i64 a1_1, (.slice A1_2 l1_2.length c1_2)] 26 (0, 0))) ∧ Aside0 (w'.heap[gb280]? = some (.cells #[.int .i64 0, .int .i64 0, .int .i64 0, .int .i64 0] 30 (0, 0))) ∧ Aside0 (w'.heap[gb281]? = some (.cells #[.int .i64 x282000_1, .int .i64 x282001_1, .int .i64 x282002_1, .int .i64 x282003_1] 30 (0, 0))) ∧ Aside0 (Below w.heap.size w w'))
 case atStart => exact ⟨(0), (0), (0), (0), (0), zrx, H', ⟨Nat.le_refl _⟩, ⟨by refine zbx ?_; exact BK278.out⟩, ⟨by refine zbx ?_; exact BK279.out⟩, ⟨by refine zbx ?_; exact BK280.out⟩, ⟨by refine zbx ?_; exact BK281.out⟩, ⟨zhB HB.out⟩⟩
 case round =>
  clear H'
  try clear c1
  try clear p2
  try clear c3
  try clear c9
  try clear c10
  try clear c11
  try clear hcz12_0
  try clear hcz12_1
  try clear hcz12_2
  try clear hfz12_0
  try clear hfz12_1
  try clear hfz12_2
  obtain ⟨x16_1, x282000_1, x282001_1, x282002_1, x282003_1, rfl, HA, HK1, BK278, BK279, BK280, BK281, HB⟩ := hrel
  cases gk with
  | zero => exact absurd HA.out (by simp [impl_countTable.l0])
  | succ k1 =>
   have H := HA.out
   clear HA
   simp only [impl_countTable.l0] at H
   by_cases c13 : x16_1 < (l0_2.length : Int)
   ·rw [if_pos c13] at H
    have c13b0 : decide (x16_1 < (l0_2.length : Int)) = true := decide_eq_true c13
    clear c13
    by_cases c14 : 0 ≤ x16_1
    ·rw [if_pos c14] at H
     have c14b0 : decide (0 ≤ x16_1) = true := decide_eq_true c14
     clear c14
     by_cases c15 : x16_1 < (l0_2.length : Int)
     ·rw [if_pos c15] at H
      have c15b0 : decide (x16_1 < (l0_2.length : Int)) = true := decide_eq_true c15
      clear c15
      by_cases c16 : x16_1 < (l1_2.length : Int)
      ·rw [if_pos c16] at H
       have c16b0 : decide (x16_1 < (l1_2.length : Int)) = true := decide_eq_true c16
       clear c16
       have HC17 := Aside0.mk H
       clear H
       have p282 : 0 ≤ (x16_1 : Int) := of_decide_eq_true zax
       have q282 : x16_1 < (l0_2.length : Int) := of_decide_eq_true zax
       obtain ⟨ad282, e282, hx282_0⟩ := Kd.at_int HR0_2.out x16_1 p282 q282
       cases e282
       replace hx282_0 := (HB.out.cell (World.block_lt_of_cell? w _ hx282_0)).trans hx282_0
       replace p282 := eq_true p282
       replace q282 := eq_true q282
       have hnb18 := NB279_278.out
       have hnc18 := NB278_279.out
       have hnb19 := NB279_280.out
       have hnc19 := NB280_279.out
       have hnb20 := NB279_281.out
       have hnc20 := NB281_279.out
       have hcz21_0 : wr.cell? ⟨gb279, 0, none⟩ = some (.int .i64 a1_0) := (blk_cell BK279.out 0).trans rfl
       have hcz21_1 : wr.cell? ⟨gb279, 1, none⟩ = some (.int .i64 a1_1) := (blk_cell BK279.out 1).trans rfl
       have hcz21_2 : wr.cell? ⟨gb279, 2, none⟩ = some (.slice A1_2 l1_2.length c1_2) := (blk_cell BK279.out 2).trans rfl
       have hfz21_0 := blk_frozen BK279.out 0
       have hfz21_1 := blk_frozen BK279.out 1
       have hfz21_2 := blk_frozen BK279.out 2
       have p283 : 0 ≤ (x16_1 : Int) := of_decide_eq_true zax
       have q283 : x16_1 < (l1_2.length : Int) := of_decide_eq_true zax
       obtain ⟨ad283, e283, hx283_0⟩ := Kd.at_int HR1_2.out x16_1 p283 q283
       cases e283
       replace hx283_0 := (HB.out.cell (World.block_lt_of_cell? w _ hx283_0)).trans hx283_0
       replace p283 := eq_true p283
       replace q283 := eq_true q283
       go_upto_region 7 with (fail)
       go_cut [30] (fun v30 wc => ∃ (kq : Nat) (x30_16 : Bool), v30 = .bool x30_16 ∧ Aside0 (impl_countTable.j1 kq a2 a3 (rd l0_2 x16_1) (rd l1_2 x16_1) l0_2 (l0_2.length : Int) x16_1 x30_16 a1_0 a1_1 l1_2 x282000_1 x282001_1 x282002_1 x282003_1 = some (r1, r2, r3, r4)) ∧ Aside0 (kq ≤ k1) ∧ Aside0 (wc.heap[gb278]? = some (.cells #[.int .i64 a0_0, .int .i64 a0_1, (.slice (some ad282) l0_2.length c0_2)] 26 (0, 0))) ∧ Aside0 (wc.heap[gb279]? = some (.cells #[.int .i64 a1_0, .int .i64 a1_1, (.slice (some ad283) l1_2.length c1_2)] 26 (0, 0))) ∧ Aside0 (wc.heap[gb280]? = some (.cells #[.int .i64 0, .int .i64 0, .int .i64 0, .int .i64 0] 30 (0, 0))) ∧ Aside0 (wc.heap[gb281]? = some (.cells #[.int .i64 x282000_1, .int .i64 x282001_1, .int .i64 x282002_1, .int .i64 x282003_1] 30 (0, 0))) ∧ Aside0 (Below w.heap.size w wc))
       case first =>
        have H := HC17.out
        clear HC17
        by_cases c22 : (rd l0_2 x16_1) = (-9999)
        ·rw [if_pos c22] at H
         have c22b0 : ((rd l0_2 x16_1) == (-9999)) = true := beq_iff_eq.mpr c22
         have c22b1 : ((rd l0_2 x16_1) != (-9999)) = false := bne_eq_false_iff_eq.mpr c22
         clear c22
         (first | rw [c22b0] | (simp only [i64_w, i32_w]; rw [c22b0]) | skip)
         focus
          have H' := Aside0.mk H
          clear H
          go_wp2
          go_meet
          case rel => exact ⟨_, (true), zrx, H', ⟨by have := HK1.out; first | omega | exact Nat.le_refl _⟩, ⟨by refine zbx ?_; exact BK278.out⟩, ⟨by refine zbx ?_; exact BK279.out⟩, ⟨by refine zbx ?_; exact BK280.out⟩, ⟨by refine zbx ?_; exact BK281.out⟩, ⟨zhB HB.out⟩⟩
        ·rw [if_neg c22] at H
         have c22b0 : ((rd l0_2 x16_1) == (-9999)) = false := beq_eq_false_iff_ne.mpr c22
         have c22b1 : ((rd l0_2 x16_1) != (-9999)) = true := bne_iff_ne.mpr c22
         (first | rw [c22b0] | (simp only [i64_w, i32_w]; rw [c22b0]) | skip)
         focus
          have H' := Aside0.mk H
          clear H
          go_wp2
          go_meet
          case rel => exact ⟨_, (((rd l1_2 x16_1) == (-9999))), zrx, H', ⟨by have := HK1.out; first | omega | exact Nat.le_refl _⟩, ⟨by refine zbx ?_; exact BK278.out⟩, ⟨by refine zbx ?_; exact BK279.out⟩, ⟨by refine zbx ?_; exact BK280.out⟩, ⟨by refine zbx ?_; exact BK281.out⟩, ⟨zhB HB.out⟩⟩
       case rest =>
        clear HC17
        try clear c1
        try clear c2
        try clear p2
        try clear q2
        try clear hx2
        try clear c3
        try clear c9
        try clear c10
        try clear c11
        try clear c13
        try clear c13b0
        try clear c14
        try clear c14b0
        try clear c15
        try clear c15b0
        try clear c16
        try clear c16b0
        try clear c18
        try clear c19
        try clear c20
        try clear c22
        try clear c22b0
        try clear c22b1
        try clear hcz12_0
        try clear hcz12_1
        try clear hcz12_2
        try clear hcz21_0
        try clear hcz21_1
        try clear hcz21_2
        try clear hfz12_0
        try clear hfz12_1
        try clear hfz12_2
        try clear hfz21_0
        try clear hfz21_1
        try clear hfz21_2
        try clear hx282_0
        try clear hx283_0
        try clear p2
        try clear p282
        try clear p283
        try clear q282
        try clear q283
        obtain ⟨kq, x30_16, rfl, HA, HJ16, BK278, BK279, BK280, BK281, HB⟩ := hcut
        cases kq with
        | zero => exact absurd HA.out (by simp [impl_countTable.j1])
        | succ kj16 =>
         have H := HA.out
         clear HA
         simp only [impl_countTable.j1] at H
         by_cases c23 : x30_16 = true
         ·subst c23
          have H1 : (impl_countTable.l0 kj16 a2 a3 l0_2 (l0_2.length : Int) (wrap64 (x16_1 + 1)) a1_0 a1_1 l1_2 x282000_1 x282001_1 x282002_1 x282003_1) = some (r1, r2, r3, r4) := by rw [if_pos rfl] at H; exact H
          clear H
          have H := H1
          clear H1
          focus
           have H' := Aside0.mk H
           clear H
           go_wp2
           go_roundg kj16
           case measure => have := HK1.out; have := HJ16.out; omega
           case rel => exact ⟨(wrap64 (x16_1 + 1)), (x282000_1), (x282001_1), (x282002_1), (x282003_1), zrx, H', ⟨by have := HK1.out; have := HJ16.out; omega⟩, ⟨by refine zbx ?_; exact BK278.out⟩, ⟨by refine zbx ?_; exact BK279.out⟩, ⟨by refine zbx ?_; exact BK280.out⟩, ⟨by refine zbx ?_; exact BK281.out⟩, ⟨zhB HB.out⟩⟩
         ·replace c23 := Bool.eq_false_iff.mpr c23
          subst c23
          have H1 : (if (rd l0_2 x16_1) > a2 then (impl_countTable.j2 kj16 a2 a3 (rd l0_2 x16_1) (rd l1_2 x16_1) l0_2 (l0_2.length : Int) x16_1 (decide ((rd l1_2 x16_1) > a3)) a1_0 a1_1 l1_2 x282000_1 x282001_1 x282002_1 x282003_1) else (impl_countTable.j2 kj16 a2 a3 (rd l0_2 x16_1) (rd l1_2 x16_1) l0_2 (l0_2.length : Int) x16_1 false a1_0 a1_1 l1_2 x282000_1 x282001_1 x282002_1 x282003_1)) = some (r1, r2, r3, r4) := by rw [if_neg (show ¬ (false = true) by decide)] at H; exact H
          clear H
          have H := H1
          clear H1
          have HC24 := Aside0.mk H
          clear H
          go_upto_region 8 with (fail)
          go_cut [37] (fun v37 wc => ∃ (kq : Nat) (x37_23 : Bool), v37 = .bool x37_23 ∧ Aside0 (impl_countTable.j2 kq a2 a3 (rd l0_2 x16_1) (rd l1_2 x16_1) l0_2 (l0_2.length : Int) x16_1 x37_23 a1_0 a1_1 l1_2 x282000_1 x282001_1 x282002_1 x282003_1 = some (r1, r2, r3, r4)) ∧ Aside0 (kq ≤ kj16) ∧ Aside0 (wc.heap[gb278]? = some (.cells #[.int .i64 a0_0, .int .i64 a0_1, (.slice (some ad282) l0_2.length c0_2)] 26 (0, 0))) ∧ Aside0 (wc.heap[gb279]? = some (.cells #[.int .i64 a1_0, .int .i64 a1_1, (.slice (some ad283) l1_2.length c1_2)] 26 (0, 0))) ∧ Aside0 (wc.heap[gb280]? = some (.cells #[.int .i64 0, .int .i64 0, .int .i64 0, .int .i64 0] 30 (0, 0))) ∧ Aside0 (wc.heap[gb281]? = some (.cells #[.int .i64 x282000_1, .int .i64 x282001_1, .int .i64 x282002_1, .int .i64 x282003_1] 30 (0, 0))) ∧ Aside0 (Below w.heap.size w wc))
          case first =>
           have H := HC24.out
           clear HC24
           by_cases c25 : (rd l0_2 x16_1) > a2
           ·rw [if_pos c25] at H
            have c25b0 : decide (a2 < (rd l0_2 x16_1)) = true := decide_eq_true c25
            clear c25
            (first | rw [c25b0] | (simp only [i64_w, i32_w]; rw [c25b0]) | skip)
            focus
             have H' := Aside0.mk H
             clear H
             go_wp2
             go_meet
             case rel => exact ⟨_, (decide ((rd l1_2 x16_1) > a3)), zrx, H', ⟨by have := HK1.out; have := HJ16.out; first | omega | exact Nat.le_refl _⟩, ⟨by refine zbx ?_; exact BK278.out⟩, ⟨by refine zbx ?_; exact BK279.out⟩, ⟨by refine zbx ?_; exact BK280.out⟩, ⟨by refine zbx ?_; exact BK281.out⟩, ⟨zhB HB.out⟩⟩
           ·rw [if_neg c25] at H
            have c25b0 : decide (a2 < (rd l0_2 x16_1)) = false := decide_eq_false c25
            clear c25
            (first | rw [c25b0] | (simp only [i64_w, i32_w]; rw [c25b0]) | skip)
            focus
             have H' := Aside0.mk H
             clear H
             go_wp2
             go_meet
             case rel => exact ⟨_, (false), zrx, H', ⟨by have := HK1.out; have := HJ16.out; first | omega | exact Nat.le_refl _⟩, ⟨by refine zbx ?_; exact BK278.out⟩, ⟨by refine zbx ?_; exact BK279.out⟩, ⟨by refine zbx ?_; exact BK280.out⟩, ⟨by refine zbx ?_; exact BK281.out⟩, ⟨zhB HB.out⟩⟩
          case rest =>
           clear HC24
           try clear c1
           try clear c2
           try clear p2
           try clear q2
           try clear hx2
           try clear c3
           try clear p6
           try clear c9
           try clear c10
           try clear c11
           try clear c13
           try clear c13b0
           try clear c14
           try clear c14b0
           try clear c15
           try clear c15b0
           try clear c16
           try clear c16b0
           try clear c18
           try clear c19
           try clear c20
           try clear c22
           try clear c22b0
           try clear c22b1
           try clear c23
           try clear c25
           try clear c25b0
           try clear hcz12_0
           try clear hcz12_1
           try clear hcz12_2
           try clear hcz21_0
           try clear hcz21_1
           try clear hcz21_2
           try clear hfz12_0
           try clear hfz12_1
           try clear hfz12_2
           try clear hfz21_0
           try clear hfz21_1
           try clear hfz21_2
           try clear hx282_0
           try clear hx283_0
           try clear p2
           try clear p282
           try clear p283
           try clear q2
           try clear q282
           try clear q283
           obtain ⟨kq, x37_23, rfl, HA, HJ23, BK278, BK279, BK280, BK281, HB⟩ := hcut
           cases kq with
           | zero => exact absurd HA.out (by simp [impl_countTable.j2])
           | succ kj23 =>
            have H := HA.out
            clear HA
            simp only [impl_countTable.j2] at H
            by_cases c26 : x37_23 = true
            ·subst c26
             have H1 : (impl_countTable.l0 kj23 a2 a3 l0_2 (l0_2.length : Int) (wrap64 (x16_1 + 1)) a1_0 a1_1 l1_2 (wrap64 (x282000_1 + 1)) x282001_1 x282002_1 x282003_1) = some (r1, r2, r3, r4) := by rw [if_pos rfl] at H; exact H
             clear H
             have H := H1
             clear H1
             focus
              have H' := Aside0.mk H
              clear H
              have hnb27 := NB281_278.out
              have hnc27 := NB278_281.out
              have hnb28 := NB281_279.out
              have hnc28 := NB279_281.out
              have hnb29 := NB281_280.out
              have hnc29 := NB280_281.out
              have hcz30_0 : wc.cell? ⟨gb281, 0, none⟩ = some (.int .i64 x282000_1) := (blk_cell BK281.out 0).trans rfl
              have hcz30_1 : wc.cell? ⟨gb281, 1, none⟩ = some (.int .i64 x282001_1) := (blk_cell BK281.out 1).trans rfl
              have hcz30_2 : wc.cell? ⟨gb281, 2, none⟩ = some (.int .i64 x282002_1) := (blk_cell BK281.out 2).trans rfl
              have hcz30_3 : wc.cell? ⟨gb281, 3, none⟩ = some (.int .i64 x282003_1) := (blk_cell BK281.out 3).trans rfl
              have hfz30_0 := blk_frozen BK281.out 0
              have hfz30_1 := blk_frozen BK281.out 1
              have hfz30_2 := blk_frozen BK281.out 2
              have hfz30_3 := blk_frozen BK281.out 3
              go_wp2
              go_roundg kj23
              case measure => have := HK1.out; have := HJ16.out; have := HJ23.out; omega
              case rel => exact ⟨(wrap64 (x16_1 + 1)), (wrap64 (x282000_1 + 1)), (x282001_1), (x282002_1), (x282003_1), zrx, H', ⟨by have := HK1.out; have := HJ16.out; have := HJ23.out; omega⟩, ⟨by refine zbx ?_; refine blk_far ?_ NB278_281.out _; refine zbx ?_; exact BK278.out⟩, ⟨by refine zbx ?_; refine blk_far ?_ NB279_281.out _; refine zbx ?_; exact BK279.out⟩, ⟨by refine zbx ?_; refine blk_far ?_ NB280_281.out _; refine zbx ?_; exact BK280.out⟩, ⟨by refine zbx ?_; refine blk_put (cs := #[.int .i64 x282000_1, .int .i64 x282001_1, .int .i64 x282002_1, .int .i64 x282003_1]) ?_ 0 _ rfl; refine zbx ?_; exact BK281.out⟩, ⟨zhB HB.out⟩⟩
            ·replace c26 := Bool.eq_false_iff.mpr c26
             subst c26
             have H1 : (if (rd l0_2 x16_1) > a2 then (impl_countTable.l0 kj23 a2 a3 l0_2 (l0_2.length : Int) (wrap64 (x16_1 + 1)) a1_0 a1_1 l1_2 x282000_1 x282001_1 (wrap64 (x282002_1 + 1)) x282003_1) else (if (rd l1_2 x16_1) > a3 then (impl_countTable.l0 kj23 a2 a3 l0_2 (l0_2.length : Int) (wrap64 (x16_1 + 1)) a1_0 a1_1 l1_2 x282000_1 (wrap64 (x282001_1 + 1)) x282002_1 x282003_1) else (impl_countTable.l0 kj23 a2 a3 l0_2 (l0_2.length : Int) (wrap64 (x16_1 + 1)) a1_0 a1_1 l1_2 x282000_1 x282001_1 x282002_1 (wrap64 (x282003_1 + 1))))) = some (r1, r2, r3, r4) := by rw [if_neg (show ¬ (false = true) by decide)] at H; exact H
             clear H
             have H := H1
             clear H1
             by_cases c31 : (rd l0_2 x16_1) > a2
             ·rw [if_pos c31] at H
              have c31b0 : decide (a2 < (rd l0_2 x16_1)) = true := decide_eq_true c31
              clear c31
              focus
               have H' := Aside0.mk H
               clear H
               have hnb32 := NB281_278.out
               have hnc32 := NB278_281.out
               have hnb33 := NB281_279.out
               have hnc33 := NB279_281.out
               have hnb34 := NB281_280.out
               have hnc34 := NB280_281.out
               have hcz35_0 : wc.cell? ⟨gb281, 0, none⟩ = some (.int .i64 x282000_1) := (blk_cell BK281.out 0).trans rfl
               have hcz35_1 : wc.cell? ⟨gb281, 1, none⟩ = some (.int .i64 x282001_1) := (blk_cell BK281.out 1).trans rfl
               have hcz35_2 : wc.cell? ⟨gb281, 2, none⟩ = some (.int .i64 x282002_1) := (blk_cell BK281.out 2).trans rfl
               have hcz35_3 : wc.cell? ⟨gb281, 3, none⟩ = some (.int .i64 x282003_1) := (blk_cell BK281.out 3).trans rfl
               have hfz35_0 := blk_frozen BK281.out 0
               have hfz35_1 := blk_frozen BK281.out 1
               have hfz35_2 := blk_frozen BK281.out 2
               have hfz35_3 := blk_frozen BK281.out 3
               go_wp2
               go_roundg kj23
               case measure => have := HK1.out; have := HJ16.out; have := HJ23.out; omega
               case rel => exact ⟨(wrap64 (x16_1 + 1)), (x282000_1), (x282001_1), (wrap64 (x282002_1 + 1)), (x282003_1), zrx, H', ⟨by have := HK1.out; have := HJ16.out; have := HJ23.out; omega⟩, ⟨by refine zbx ?_; refine blk_far ?_ NB278_281.out _; refine zbx ?_; exact BK278.out⟩, ⟨by refine zbx ?_; refine blk_far ?_ NB279_281.out _; refine zbx ?_; exact BK279.out⟩, ⟨by refine zbx ?_; refine blk_far ?_ NB280_281.out _; refine zbx ?_; exact BK280.out⟩, ⟨by refine zbx ?_; refine blk_put (cs := #[.int .i64 x282000_1, .int .i64 x282001_1, .int .i64 x282002_1, .int .i64 x282003_1]) ?_ 2 _ rfl; refine zbx ?_; exact BK281.out⟩, ⟨zhB HB.out⟩⟩
             ·rw [if_neg c31] at H
              have c31b0 : decide (a2 < (rd l0_2 x16_1)) = false := decide_eq_false c31
              clear c31
              by_cases c36 : (rd l1_2 x16_1) > a3
              ·rw [if_pos c36] at H
               have c36b0 : decide (a3 < (rd l1_2 x16_1)) = true := decide_eq_true c36
               clear c36
               focus
                have H' := Aside0.mk H
                clear H
                have hnb37 := NB281_278.out
                have hnc37 := NB278_281.out
                have hnb38 := NB281_279.out
                have hnc38 := NB279_281.out
                have hnb39 := NB281_280.out
                have hnc39 := NB280_281.out
                have hcz40_0 : wc.cell? ⟨gb281, 0, none⟩ = some (.int .i64 x282000_1) := (blk_cell BK281.out 0).trans rfl
                have hcz40_1 : wc.cell? ⟨gb281, 1, none⟩ = some (.int .i64 x282001_1) := (blk_cell BK281.out 1).trans rfl
                have hcz40_2 : wc.cell? ⟨gb281, 2, none⟩ = some (.int .i64 x282002_1) := (blk_cell BK281.out 2).trans rfl
                have hcz40_3 : wc.cell? ⟨gb281, 3, none⟩ = some (.int .i64 x282003_1) := (blk_cell BK281.out 3).trans rfl
                have hfz40_0 := blk_frozen BK281.out 0
                have hfz40_1 := blk_frozen BK281.out 1
                have hfz40_2 := blk_frozen BK281.out 2
                have hfz40_3 := blk_frozen BK281.out 3
                go_wp2
                go_roundg kj23
                case measure => have := HK1.out; have := HJ16.out; have := HJ23.out; omega
                case rel => exact ⟨(wrap64 (x16_1 + 1)), (x282000_1), (wrap64 (x282001_1 + 1)), (x282002_1), (x282003_1), zrx, H', ⟨by have := HK1.out; have := HJ16.out; have := HJ23.out; omega⟩, ⟨by refine zbx ?_; refine blk_far ?_ NB278_281.out _; refine zbx ?_; exact BK278.out⟩, ⟨by refine zbx ?_; refine blk_far ?_ NB279_281.out _; refine zbx ?_; exact BK279.out⟩, ⟨by refine zbx ?_; refine blk_far ?_ NB280_281.out _; refine zbx ?_; exact BK280.out⟩, ⟨by refine zbx ?_; refine blk_put (cs := #[.int .i64 x282000_1, .int .i64 x282001_1, .int .i64 x282002_1, .int .i64 x282003_1]) ?_ 1 _ rfl; refine zbx ?_; exact BK281.out⟩, ⟨zhB HB.out⟩⟩
              ·rw [if_neg c36] at H
               have c36b0 : decide (a3 < (rd l1_2 x16_1)) = false := decide_eq_false c36
               clear c36
               focus
                have H' := Aside0.mk H
                clear H
                have hnb41 := NB281_278.out
                have hnc41 := NB278_281.out
                have hnb42 := NB281_279.out
                have hnc42 := NB279_281.out
                have hnb43 := NB281_280.out
                have hnc43 := NB280_281.out
                have hcz44_0 : wc.cell? ⟨gb281, 0, none⟩ = some (.int .i64 x282000_1) := (blk_cell BK281.out 0).trans rfl
                have hcz44_1 : wc.cell? ⟨gb281, 1, none⟩ = some (.int .i64 x282001_1) := (blk_cell BK281.out 1).trans rfl
                have hcz44_2 : wc.cell? ⟨gb281, 2, none⟩ = some (.int .i64 x282002_1) := (blk_cell BK281.out 2).trans rfl
                have hcz44_3 : wc.cell? ⟨gb281, 3, none⟩ = some (.int .i64 x282003_1) := (blk_cell BK281.out 3).trans rfl
                have hfz44_0 := blk_frozen BK281.out 0
                have hfz44_1 := blk_frozen BK281.out 1
                have hfz44_2 := blk_frozen BK281.out 2
                have hfz44_3 := blk_frozen BK281.out 3
                go_wp2
                go_roundg kj23
                case measure => have := HK1.out; have := HJ16.out; have := HJ23.out; omega
                case rel => exact ⟨(wrap64 (x16_1 + 1)), (x282000_1), (x282001_1), (x282002_1), (wrap64 (x282003_1 + 1)), zrx, H', ⟨by have := HK1.out; have := HJ16.out; have := HJ23.out; omega⟩, ⟨by refine zbx ?_; refine blk_far ?_ NB278_281.out _; refine zbx ?_; exact BK278.out⟩, ⟨by refine zbx ?_; refine blk_far ?_ NB279_281.out _; refine zbx ?_; exact BK279.out⟩, ⟨by refine zbx ?_; refine blk_far ?_ NB280_281.out _; refine zbx ?_; exact BK280.out⟩, ⟨by refine zbx ?_; refine blk_put (cs := #[.int .i64 x282000_1, .int .i64 x282001_1, .int .i64 x282002_1, .int .i64 x282003_1]) ?_ 3 _ rfl; refine zbx ?_; exact BK281.out⟩, ⟨zhB HB.out⟩⟩
      ·rw [if_neg c16] at H
       exact absurd H (by simp)
     ·rw [if_neg c15] at H
      exact absurd H (by simp)
    ·rw [if_neg c14] at H
     exact absurd H (by simp)
   ·rw [if_neg c13] at H
    have c13b0 : decide (x16_1 < (l0_2.length : Int)) = false := decide_eq_false c13
    clear c13
    focus
     simp only [Option.some.injEq, Prod.mk.injEq] at H
     obtain ⟨rfl, rfl, rfl, rfl⟩ := H
     have hnb45 := NB281_278.out
     have hnc45 := NB278_281.out
     have hnb46 := NB281_279.out
     have hnc46 := NB279_281.out
     have hnb47 := NB281_280.out
     have hnc47 := NB280_281.out
     have hcz48_0 : wr.cell? ⟨gb281, 0, none⟩ = some (.int .i64 x282000_1) := (blk_cell BK281.out 0).trans rfl
     have hcz48_1 : wr.cell? ⟨gb281, 1, none⟩ = some (.int .i64 x282001_1) := (blk_cell BK281.out 1).trans rfl
     have hcz48_2 : wr.cell? ⟨gb281, 2, none⟩ = some (.int .i64 x282002_1) := (blk_cell BK281.out 2).trans rfl
     have hcz48_3 : wr.cell? ⟨gb281, 3, none⟩ = some (.int .i64 x282003_1) := (blk_cell BK281.out 3).trans rfl
     have hfz48_0 := blk_frozen BK281.out 0
     have hfz48_1 := blk_frozen BK281.out 1
     have hfz48_2 := blk_frozen BK281.out 2
     have hfz48_3 := blk_frozen BK281.out 3
     have hnb49 := NB280_278.out
     have hnc49 := NB278_280.out
     have hnb50 := NB280_279.out
     have hnc50 := NB279_280.out
     have hcz51_0 : wr.cell? ⟨gb280, 0, none⟩ = some (.int .i64 0) := (blk_cell BK280.out 0).trans rfl
     have hcz51_1 : wr.cell? ⟨gb280, 1, none⟩ = some (.int .i64 0) := (blk_cell BK280.out 1).trans rfl
     have hcz51_2 : wr.cell? ⟨gb280, 2, none⟩ = some (.int .i64 0) := (blk_cell BK280.out 2).trans rfl
     have hcz51_3 : wr.cell? ⟨gb280, 3, none⟩ = some (.int .i64 0) := (blk_cell BK280.out 3).trans rfl
     have hfz51_0 := blk_frozen BK280.out 0
     have hfz51_1 := blk_frozen BK280.out 1
     have hfz51_2 := blk_frozen BK280.out 2
     have hfz51_3 := blk_frozen BK280.out 3
     go_wp2
     refine bodyPost_ret (results_cell_row rfl _ _ gb280 30 #[.int .i64 x282000_1, .int .i64 x282001_1, .int .i64 x282002_1, .int .i64 x282003_1] (0, 0) _ rfl (by refine zbx ?_; refine blk_put (cs := #[.int .i64 x282000_1, .int .i64 x282001_1, .int .i64 x282002_1, .int .i64 0]) ?_ 3 _ rfl; refine zbx ?_; refine blk_put (cs := #[.int .i64 x282000_1, .int .i64 x282001_1, .int .i64 0, .int .i64 0]) ?_ 2 _ rfl; refine zbx ?_; refine blk_put (cs := #[.int .i64 x282000_1, .int .i64 0, .int .i64 0, .int .i64 0]) ?_ 1 _ rfl; refine zbx ?_; refine blk_put (cs := #[.int .i64 0, .int .i64 0, .int .i64 0, .int .i64 0]) ?_ 0 _ rfl; refine zbx ?_; exact BK280.out) Try.underlying30 rfl (by kernel_rfl)) rfl ?_
     exact ⟨by first | rfl | (simp [errW_none, errW_some] <;> rfl) | (simp [*, errW_none, errW_some] <;> rfl), zhB HB.out⟩

/-! ### impl_CountTable: function 7 -/
def impl_CountTable.f (k : Nat) (a0_0 : Int) (a0_1 : Int) (l0_2 : List Int) (a1_0 : Int) (a1_1 : Int) (l1_2 : List Int) (a2 : Int) : Option (Int × Int × Int × Int × Bool) := (impl_areAlike.f k (([(⟨a0_0, a0_1, l0_2⟩ : S26), (⟨a1_0, a1_1, l1_2⟩ : S26)] : List (S26)))).bind fun t290 => (if t290 = true then ((impl_countTable.f k a0_0 a0_1 l0_2 a1_0 a1_1 l1_2 a2 a2).bind fun bt291 => (some (bt291.1, bt291.2.1, bt291.2.2.1, bt291.2.2.2, true))) else (some (0, 0, 0, 0, false)))
theorem impl_CountTable.mono : ∀ a0 a1 a2 a3 a4 a5 a6 k, LeO (impl_CountTable.f k a0 a1 a2 a3 a4 a5 a6) (impl_CountTable.f (k + 1) a0 a1 a2 a3 a4 a5 a6) := by
 intro a0 a1 a2 a3 a4 a5 a6 k
 unfold impl_CountTable.f
 repeat' first
  | (with_reducible exact impl_areAlike.mono _ _)
  | (with_reducible exact impl_countTable.mono _ _ _ _ _ _ _ _ _)
  | (with_reducible exact LeO.refl _)
  | (with_reducible exact LeO.none _)
  | (with_reducible refine LeO.ite ?_ ?_)
  | (with_reducible refine LeO.bind ?_ (fun _ => ?_))
  | exact impl_areAlike.mono _ _
  | exact impl_countTable.mono _ _ _ _ _ _ _ _ _
  | exact LeO.none _
  | refine LeO.ite ?_ ?_
  | refine LeO.bind ?_ (fun _ => ?_)
set_option maxHeartbeats 8000000 in
set_option maxRecDepth 100000 in
theorem impl_CountTable.calls (k : Nat) (a0_0 : Int) (a0_1 : Int) (P0_2_ : Nat → Prop) (A0_2 : Option Addr) (c0_2 : Nat) (l0_2 : List Int) (a1_0 : Int) (a1_1 : Int) (P1_2_ : Nat → Prop) (A1_2 : Option Addr) (c1_2 : Nat) (l1_2 : List Int) (a2 : Int) (r1 : Int) (r2 : Int) (r3 : Int) (r4 : Int) (r5 : Bool) (w : World) (hs0_2 : Kd.V (Kd.int .i64) 3 w w.heap.size (fun k_ => P0_2_ k_) (.slice A0_2 l0_2.length c0_2) l0_2) (hs1_2 : Kd.V (Kd.int .i64) 3 w w.heap.size (fun k_ => P1_2_ k_) (.slice A1_2 l1_2.length c1_2) l1_2) (h : impl_CountTable.f k a0_0 a0_1 l0_2 a1_0 a1_1 l1_2 a2 = some (r1, r2, r3, r4, r5)) :
 Calls Try.prog 7 #[.agg #[.int .i64 a0_0, .int .i64 a0_1, .slice A0_2 l0_2.length c0_2], .agg #[.int .i64 a1_0, .int .i64 a1_1, .slice A1_2 l1_2.length c1_2], .int .i64 a2] w fun e w' => e = .returned (.tuple #[.agg #[.int .i64 r1, .int .i64 r2, .int .i64 r3, .int .i64 r4], .bool r5]) ∧ Below w.heap.size w w' := by
 have hu26 := Try.underlying26
 have hu30 := Try.underlying30
 have HO0_2 := Aside0.mk (show Kd.V (Kd.int .i64) 3 w w.heap.size (fun k_ => ((P0_2_ k_ ∨ P1_2_ k_) ∨ w.heap.size ≤ k_)) (.slice A0_2 l0_2.length c0_2) l0_2 from Kd.V_mono hs0_2 (fun k_ hk => .inl (.inl hk)))
 have HO1_2 := Aside0.mk (show Kd.V (Kd.int .i64) 3 w w.heap.size (fun k_ => ((P0_2_ k_ ∨ P1_2_ k_) ∨ w.heap.size ≤ k_)) (.slice A1_2 l1_2.length c1_2) l1_2 from Kd.V_mono hs1_2 (fun k_ hk => .inl (.inr hk)))
 have HB := Aside0.mk (Below.refl w.heap.size w)
 have H : ((impl_areAlike.f k (([(⟨a0_0, a0_1, l0_2⟩ : S26), (⟨a1_0, a1_1, l1_2⟩ : S26)] : List (S26)))).bind fun t290 => (if t290 = true then ((impl_countTable.f k a0_0 a0_1 l0_2 a1_0 a1_1 l1_2 a2 a2).bind fun bt291 => (some (bt291.1, bt291.2.1, bt291.2.2.1, bt291.2.2.2, true))) else (some (0, 0, 0, 0, false)))) = some (r1, r2, r3, r4, r5) := h
 clear h
 obtain ⟨y287, hy287⟩ : ∃ y_ : List (S26), y_ = (([(⟨a0_0, a0_1, l0_2⟩ : S26), (⟨a1_0, a1_1, l1_2⟩ : S26)] : List (S26))) := ⟨_, rfl⟩
 replace H : ((impl_areAlike.f k y287).bind fun t290 => (if t290 = true then ((impl_countTable.f k a0_0 a0_1 l0_2 a1_0 a1_1 l1_2 a2 a2).bind fun bt291 => (some (bt291.1, bt291.2.1, bt291.2.2.1, bt291.2.2.2, true))) else (some (0, 0, 0, 0, false)))) = some (r1, r2, r3, r4, r5) := by first | (rw [hy287]; with_reducible exact H) | (have H2_ := (Option.bind_some _ _).symm.trans H; rw [hy287]; with_reducible exact H2_) | (have H2_ := (Option.bind_some _ _).symm.trans H; with_reducible exact H2_) | with_reducible exact H | (rw [hy287]; exact H) | exact H
 have Ny287 := Aside0.mk hy287
 clear hy287
 replace H := Option.bind_eq_some_iff.mp H
 obtain ⟨t290, A40, H⟩ := H
 replace H : (if t290 = true then ((impl_countTable.f k a0_0 a0_1 l0_2 a1_0 a1_1 l1_2 a2 a2).bind fun bt291 => (some (bt291.1, bt291.2.1, bt291.2.2.1, bt291.2.2.2, true))) else (some (0, 0, 0, 0, false))) = some (r1, r2, r3, r4, r5) := H
 have A4 := Aside0.mk A40
 clear A40
 by_cases c5 : t290 = true
 ·subst c5
  have H1 : ((impl_countTable.f k a0_0 a0_1 l0_2 a1_0 a1_1 l1_2 a2 a2).bind fun bt291 => (some (bt291.1, bt291.2.1, bt291.2.2.1, bt291.2.2.2, true))) = some (r1, r2, r3, r4, r5) := by rw [if_pos rfl] at H; exact H
  clear H
  have H := H1
  clear H1
  replace H := Option.bind_eq_some_iff.mp H
  obtain ⟨⟨t291, t292, t293, t294⟩, A60, H⟩ := H
  replace H : (some (t291, t292, t293, t294, true)) = some (r1, r2, r3, r4, r5) := H
  have A6 := Aside0.mk A60
  clear A60
  focus
   simp only [Option.some.injEq, Prod.mk.injEq] at H
   obtain ⟨rfl, rfl, rfl, rfl, rfl⟩ := H
   go_enter Try.func7, Try.ntmps7
   go_wp2_with (first | ((with_reducible refine gate_dst (N := 3) rfl ?_); refine box_event ?hg (N := 3) ?hd (cs := #[.int .i64 a0_0, .int .i64 a0_1, .slice A0_2 l0_2.length c0_2]) (t := 26) ?hr ?_; (case hd => rfl); (case hg => rfl); (case hr => exact zsx); intro gb284 hg w7 hbox hb; replace HO0_2 := Aside0.mk (Kd.V_below (Kd.V_elderB (by refine zDV ?_; exact HO0_2.out) gb284 (Nat.le_of_eq hg.symm)) hb); replace HO1_2 := Aside0.mk (Kd.V_below (Kd.V_elderB (by refine zDV ?_; exact HO1_2.out) gb284 (Nat.le_of_eq hg.symm)) hb); have BK284 := Aside0.mk (hbox); have GW284 := zns hg HB.out; have GE284 := zns hg HB.out; replace HB := Aside0.mk (below_step (zBx HB.out) hb); clear hb hbox hg) | ((with_reducible refine gate_dst (N := 4) rfl ?_); refine box_event ?hg (N := 4) ?hd (cs := #[.int .i64 a1_0, .int .i64 a1_1, .slice A1_2 l1_2.length c1_2]) (t := 26) ?hr ?_; (case hd => rfl); (case hg => rfl); (case hr => exact zsx); intro gb285 hg w8 hbox hb; replace HO0_2 := Aside0.mk (Kd.V_below (Kd.V_elderB (by refine zDV ?_; exact HO0_2.out) gb285 (Nat.le_of_eq hg.symm)) hb); replace HO1_2 := Aside0.mk (Kd.V_below (Kd.V_elderB (by refine zDV ?_; exact HO1_2.out) gb285 (Nat.le_of_eq hg.symm)) hb); have BK285 := Aside0.mk (hbox); have GW285 := zns hg HB.out; have GE285 := zns hg HB.out; replace HB := Aside0.mk (below_step (zBy HB.out GE284.out) hb); have NB284_285 := znl hg BK284.out; have NB285_284 := zng hg BK284.out; replace BK284 := zbl BK284.out hb; clear hb hbox hg) | ((with_reducible refine gate_dst (N := 6) rfl ?_); refine box_event ?hg (N := 6) ?hd (cs := #[.int .i64 0, .int .i64 0, .int .i64 0, .int .i64 0]) (t := 30) ?hr ?_; (case hd => rfl); (case hg => rfl); (case hr => exact zsx); intro gb286 hg w9 hbox hb; replace HO0_2 := Aside0.mk (Kd.V_below (Kd.V_elderB (by refine zDV ?_; exact HO0_2.out) gb286 (Nat.le_of_eq hg.symm)) hb); replace HO1_2 := Aside0.mk (Kd.V_below (Kd.V_elderB (by refine zDV ?_; exact HO1_2.out) gb286 (Nat.le_of_eq hg.symm)) hb); have BK286 := Aside0.mk (hbox); have GW286 := zns hg HB.out; have GE286 := zns hg HB.out; replace HB := Aside0.mk (below_step (zBz HB.out GE284.out GE285.out) hb); have NB284_286 := znl hg BK284.out; have NB286_284 := zng hg BK284.out; replace BK284 := zbl BK284.out hb; have NB285_286 := znl hg BK285.out; have NB286_285 := zng hg BK285.out; replace BK285 := zbl BK285.out hb; clear hb hbox hg; have hnb10 := NB284_285.out; have hnc10 := NB285_284.out; have hnb11 := NB284_286.out; have hnc11 := NB286_284.out; have hcz12_0 : w9.cell? ⟨gb284, 0, none⟩ = some (.int .i64 a0_0) := (blk_cell BK284.out 0).trans rfl; have hcz12_1 : w9.cell? ⟨gb284, 1, none⟩ = some (.int .i64 a0_1) := (blk_cell BK284.out 1).trans rfl; have hcz12_2 : w9.cell? ⟨gb284, 2, none⟩ = some (.slice A0_2 l0_2.length c0_2) := (blk_cell BK284.out 2).trans rfl; have hfz12_0 := blk_frozen BK284.out 0; have hfz12_1 := blk_frozen BK284.out 1; have hfz12_2 := blk_frozen BK284.out 2; have hnb13 := NB285_286.out; have hnc13 := NB286_285.out; have hcz14_0 : w9.cell? ⟨gb285, 0, none⟩ = some (.int .i64 a1_0) := (blk_cell BK285.out 0).trans rfl; have hcz14_1 : w9.cell? ⟨gb285, 1, none⟩ = some (.int .i64 a1_1) := (blk_cell BK285.out 1).trans rfl; have hcz14_2 : w9.cell? ⟨gb285, 2, none⟩ = some (.slice A1_2 l1_2.length c1_2) := (blk_cell BK285.out 2).trans rfl; have hfz14_0 := blk_frozen BK285.out 0; have hfz14_1 := blk_frozen BK285.out 1; have hfz14_2 := blk_frozen BK285.out 2) | ((with_reducible refine gate_dst (N := 10) rfl ?_); refine Kd.N_lit k26 _ 26 ?hg (N' := 10) ?hd (xs := ([(⟨a0_0, a0_1, l0_2⟩ : S26), (⟨a1_0, a1_1, l1_2⟩ : S26)] : List (S26))) (inner := [.int .i64 a0_0, .int .i64 a0_1, .slice A0_2 l0_2.length c0_2, .int .i64 a1_0, .int .i64 a1_1, .slice A1_2 l1_2.length c1_2]) (ok := (fun k_ => ((P0_2_ k_ ∨ P1_2_ k_) ∨ w.heap.size ≤ k_) ∧ k_ ≠ gb284 ∧ k_ ≠ gb285 ∧ k_ ≠ gb286)) (okp := (fun k_ => ((P0_2_ k_ ∨ P1_2_ k_) ∨ w.heap.size ≤ k_) ∧ k_ ≠ gb284 ∧ k_ ≠ gb285 ∧ k_ ≠ gb286)) ?hr ?hp (fun _ hk => hk) ((show ∀ k_, w9.heap.size ≤ k_ → (fun k_ => ((P0_2_ k_ ∨ P1_2_ k_) ∨ w.heap.size ≤ k_) ∧ k_ ≠ gb284 ∧ k_ ≠ gb285 ∧ k_ ≠ gb286) k_ from fun k_ hk => ⟨(.inr (Nat.le_trans (below_size (zhB HB.out)) hk)), Kd.freshB (g := gb284) (o := .cells #[.int .i64 a0_0, .int .i64 a0_1, .slice A0_2 l0_2.length c0_2] 26 (0, 0)) (zbx BK284.out) k_ hk, Kd.freshB (g := gb285) (o := .cells #[.int .i64 a1_0, .int .i64 a1_1, .slice A1_2 l1_2.length c1_2] 26 (0, 0)) (zbx BK285.out) k_ hk, Kd.freshB (g := gb286) (o := .cells #[.int .i64 0, .int .i64 0, .int .i64 0, .int .i64 0] 30 (0, 0)) (zbx BK286.out) k_ hk⟩) _ (Nat.le_refl _)) (Below.refl _ _) (Nat.le_refl _) (by simp) ?_; (case hd => rfl); (case hg => rfl); (case hr => exact zsx); (case hp => exact (Reps.c3 (show Kd.FK k26 _ _ (⟨a0_0, a0_1, l0_2⟩ : S26) [.int .i64 a0_0, .int .i64 a0_1, .slice A0_2 l0_2.length c0_2] from (k26_mkF _ _ (⟨a0_0, a0_1, l0_2⟩ : S26) (Kd.V_reads' (Kd.V_mono (ok' := (fun k_ => ((P0_2_ k_ ∨ P1_2_ k_) ∨ w.heap.size ≤ k_) ∧ k_ ≠ gb284 ∧ k_ ≠ gb285 ∧ k_ ≠ gb286)) (HO0_2.out) (fun k_ hk => ⟨hk.1.1.1, ⟨hk.1.1.2, ⟨hk.1.2, hk.2⟩⟩⟩))).2.1 (Kd.V_F (Kd.V_mono (ok' := (fun k_ => ((P0_2_ k_ ∨ P1_2_ k_) ∨ w.heap.size ≤ k_) ∧ k_ ≠ gb284 ∧ k_ ≠ gb285 ∧ k_ ≠ gb286)) (HO0_2.out) (fun k_ hk => ⟨hk.1.1.1, ⟨hk.1.1.2, ⟨hk.1.2, hk.2⟩⟩⟩))))) (Reps.c3 (show Kd.FK k26 _ _ (⟨a1_0, a1_1, l1_2⟩ : S26) [.int .i64 a1_0, .int .i64 a1_1, .slice A1_2 l1_2.length c1_2] from (k26_mkF _ _ (⟨a1_0, a1_1, l1_2⟩ : S26) (Kd.V_reads' (Kd.V_mono (ok' := (fun k_ => ((P0_2_ k_ ∨ P1_2_ k_) ∨ w.heap.size ≤ k_) ∧ k_ ≠ gb284 ∧ k_ ≠ gb285 ∧ k_ ≠ gb286)) (HO1_2.out) (fun k_ hk => ⟨hk.1.1.1, ⟨hk.1.1.2, ⟨hk.1.2, hk.2⟩⟩⟩))).2.1 (Kd.V_F (Kd.V_mono (ok' := (fun k_ => ((P0_2_ k_ ∨ P1_2_ k_) ∨ w.heap.size ≤ k_) ∧ k_ ≠ gb284 ∧ k_ ≠ gb285 ∧ k_ ≠ gb286)) (HO1_2.out) (fun k_ hk => ⟨hk.1.1.1, ⟨hk.1.1.2, ⟨hk.1.2, hk.2⟩⟩⟩))))) (Reps.none _ _)))); intro v288 w15 ho16 hb hg_ hnew_; clear hg_ hnew_; (first | rw [← Ny287.out] at ho16 | (simp only [Int.reduceToNat] at ho16; rw [← Ny287.out] at ho16)); replace HO0_2 := Aside0.mk (Kd.V_elder' (by refine zDV ?_; exact HO0_2.out) (Kd.N_base ho16) hb); replace HO1_2 := Aside0.mk (Kd.V_elder' (by refine zDV ?_; exact HO1_2.out) (Kd.N_base ho16) hb); have HO289 := Aside0.mk (Kd.N_lower ho16 (below_size (zhB HB.out))); replace BK284 := zbl BK284.out hb; replace BK285 := zbl BK285.out hb; replace BK286 := zbl BK286.out hb; replace HB := Aside0.mk (below_step (zhB HB.out) hb); clear hb ho16; obtain ⟨Ao17, co17, eo17⟩ := Kd.N_slice HO289.out; subst eo17) | ((with_reducible refine gate_callee (f := 34) rfl ?_); refine goesL_ (some 11) rfl rfl Try.func34 (by kernel_rfl) rfl #[.slice Ao17 y287.length co17] rfl zlx ?_; (with_reducible refine (impl_areAlike.calls k _ _ y287 true _ ?side1 ?side2 A4.out).mono ?_); (case side1 => repeat (first | exact (Kd.N_reads' HO289.out).2.2 | (with_reducible refine Kd.C_alloc ?_ _) | (with_reducible refine Kd.C_drewN ?_ _) | (with_reducible refine Kd.C_drew ?_))); (case side2 => exact (Kd.N_reads' HO289.out).2.1); rintro e w18 ⟨rfl, hb⟩; refine ⟨_, rfl, ?_⟩; replace HO0_2 := Aside0.mk (Kd.V_below (by refine zDV ?_; exact HO0_2.out) hb); replace HO1_2 := Aside0.mk (Kd.V_below (by refine zDV ?_; exact HO1_2.out) hb); replace HO289 := Aside0.mk (Kd.N_below (by (with_reducible repeat (first | apply Kd.N_alloc | apply Kd.N_drewN | apply Kd.N_drew)); exact HO289.out) hb); replace BK284 := zbl BK284.out hb; replace BK285 := zbl BK285.out hb; replace BK286 := zbl BK286.out hb; replace HB := Aside0.mk (below_step (zhB HB.out) hb); (try clear hb); (try clear hb2); (try clear hk); (try clear hi); have hcz19_0 : w18.cell? ⟨gb284, 0, none⟩ = some (.int .i64 a0_0) := (blk_cell BK284.out 0).trans rfl; have hcz19_1 : w18.cell? ⟨gb284, 1, none⟩ = some (.int .i64 a0_1) := (blk_cell BK284.out 1).trans rfl; have hcz19_2 : w18.cell? ⟨gb284, 2, none⟩ = some (.slice A0_2 l0_2.length c0_2) := (blk_cell BK284.out 2).trans rfl; have hfz19_0 := blk_frozen BK284.out 0; have hfz19_1 := blk_frozen BK284.out 1; have hfz19_2 := blk_frozen BK284.out 2; have hcz20_0 : w18.cell? ⟨gb285, 0, none⟩ = some (.int .i64 a1_0) := (blk_cell BK285.out 0).trans rfl; have hcz20_1 : w18.cell? ⟨gb285, 1, none⟩ = some (.int .i64 a1_1) := (blk_cell BK285.out 1).trans rfl; have hcz20_2 : w18.cell? ⟨gb285, 2, none⟩ = some (.slice A1_2 l1_2.length c1_2) := (blk_cell BK285.out 2).trans rfl; have hfz20_0 := blk_frozen BK285.out 0; have hfz20_1 := blk_frozen BK285.out 1; have hfz20_2 := blk_frozen BK285.out 2) | ((with_reducible refine gate_callee (f := 35) rfl ?_); refine goesL_ (some 18) rfl rfl Try.func35 (by kernel_rfl) rfl #[.agg #[.int .i64 a0_0, .int .i64 a0_1, .slice A0_2 l0_2.length c0_2], .agg #[.int .i64 a1_0, .int .i64 a1_1, .slice A1_2 l1_2.length c1_2], .int .i64 a2, .int .i64 a2] rfl zlx ?_; (with_reducible refine (impl_countTable.calls k a0_0 a0_1 _ _ l0_2 a1_0 a1_1 _ _ l1_2 a2 a2 t291 t292 t293 t294 _ ?side1 ?side2 ?side3 ?side4 A6.out).mono ?_); (case side1 => repeat (first | exact (Kd.V_reads' HO0_2.out).2.2 | (with_reducible refine Kd.C_alloc ?_ _) | (with_reducible refine Kd.C_drewN ?_ _) | (with_reducible refine Kd.C_drew ?_))); (case side2 => exact (Kd.V_reads' HO0_2.out).2.1); (case side3 => repeat (first | exact (Kd.V_reads' HO1_2.out).2.2 | (with_reducible refine Kd.C_alloc ?_ _) | (with_reducible refine Kd.C_drewN ?_ _) | (with_reducible refine Kd.C_drew ?_))); (case side4 => exact (Kd.V_reads' HO1_2.out).2.1); rintro e w21 ⟨rfl, hb⟩; refine ⟨_, rfl, ?_⟩; replace HO0_2 := Aside0.mk (Kd.V_below (by refine zDV ?_; exact HO0_2.out) hb); replace HO1_2 := Aside0.mk (Kd.V_below (by refine zDV ?_; exact HO1_2.out) hb); replace HO289 := Aside0.mk (Kd.N_below (by (with_reducible repeat (first | apply Kd.N_alloc | apply Kd.N_drewN | apply Kd.N_drew)); exact HO289.out) hb); replace BK284 := zbl BK284.out hb; replace BK285 := zbl BK285.out hb; replace BK286 := zbl BK286.out hb; replace HB := Aside0.mk (below_step (zhB HB.out) hb); (try clear hb); (try clear hb2); (try clear hk); (try clear hi); have hcz22_0 : w21.cell? ⟨gb286, 0, none⟩ = some (.int .i64 0) := (blk_cell BK286.out 0).trans rfl; have hcz22_1 : w21.cell? ⟨gb286, 1, none⟩ = some (.int .i64 0) := (blk_cell BK286.out 1).trans rfl; have hcz22_2 : w21.cell? ⟨gb286, 2, none⟩ = some (.int .i64 0) := (blk_cell BK286.out 2).trans rfl; have hcz22_3 : w21.cell? ⟨gb286, 3, none⟩ = some (.int .i64 0) := (blk_cell BK286.out 3).trans rfl; have hfz22_0 := blk_frozen BK286.out 0; have hfz22_1 := blk_frozen BK286.out 1; have hfz22_2 := blk_frozen BK286.out 2; have hfz22_3 := blk_frozen BK286.out 3))
   refine bodyPost_ret (results_ct rfl _ _ gb286 30 #[.int .i64 t291, .int .i64 t292, .int .i64 t293, .int .i64 t294] (0, 0) _ rfl (by refine zbx ?_; refine blk_put (cs := #[.int .i64 t291, .int .i64 t292, .int .i64 t293, .int .i64 0]) ?_ 3 _ rfl; refine zbx ?_; refine blk_put (cs := #[.int .i64 t291, .int .i64 t292, .int .i64 0, .int .i64 0]) ?_ 2 _ rfl; refine zbx ?_; refine blk_put (cs := #[.int .i64 t291, .int .i64 0, .int .i64 0, .int .i64 0]) ?_ 1 _ rfl; refine zbx ?_; refine blk_put (cs := #[.int .i64 0, .int .i64 0, .int .i64 0, .int .i64 0]) ?_ 0 _ rfl; refine zbx ?_; exact BK286.out) Try.underlying30 rfl (by kernel_rfl)) rfl ?_
   exact ⟨by first | rfl | (simp [errW_none, errW_some] <;> rfl) | (simp [*, errW_none, errW_some] <;> rfl), zhB HB.out⟩
 ·replace c5 := Bool.eq_false_iff.mpr c5
  subst c5
  have H1 : (some (0, 0, 0, 0, false)) = some (r1, r2, r3, r4, r5) := by rw [if_neg (show ¬ (false = true) by decide)] at H; exact H
  clear H
  have H := H1
  clear H1
  focus
   simp only [Option.some.injEq, Prod.mk.injEq] at H
   obtain ⟨rfl, rfl, rfl, rfl, rfl⟩ := H
   go_enter Try.func7, Try.ntmps7
   go_wp2_with (first | ((with_reducible refine gate_dst (N := 3) rfl ?_); refine box_event ?hg (N := 3) ?hd (cs := #[.int .i64 a0_0, .int .i64 a0_1, .slice A0_2 l0_2.length c0_2]) (t := 26) ?hr ?_; (case hd => rfl); (case hg => rfl); (case hr => exact zsx); intro gb284 hg w23 hbox hb; replace HO0_2 := Aside0.mk (Kd.V_below (Kd.V_elderB (by refine zDV ?_; exact HO0_2.out) gb284 (Nat.le_of_eq hg.symm)) hb); replace HO1_2 := Aside0.mk (Kd.V_below (Kd.V_elderB (by refine zDV ?_; exact HO1_2.out) gb284 (Nat.le_of_eq hg.symm)) hb); have BK284 := Aside0.mk (hbox); have GW284 := zns hg HB.out; have GE284 := zns hg HB.out; replace HB := Aside0.mk (below_step (zBx HB.out) hb); clear hb hbox hg) | ((with_reducible refine gate_dst (N := 4) rfl ?_); refine box_event ?hg (N := 4) ?hd (cs := #[.int .i64 a1_0, .int .i64 a1_1, .slice A1_2 l1_2.length c1_2]) (t := 26) ?hr ?_; (case hd => rfl); (case hg => rfl); (case hr => exact zsx); intro gb285 hg w24 hbox hb; replace HO0_2 := Aside0.mk (Kd.V_below (Kd.V_elderB (by refine zDV ?_; exact HO0_2.out) gb285 (Nat.le_of_eq hg.symm)) hb); replace HO1_2 := Aside0.mk (Kd.V_below (Kd.V_elderB (by refine zDV ?_; exact HO1_2.out) gb285 (Nat.le_of_eq hg.symm)) hb); have BK285 := Aside0.mk (hbox); have GW285 := zns hg HB.out; have GE285 := zns hg HB.out; replace HB := Aside0.mk (below_step (zBy HB.out GE284.out) hb); have NB284_285 := znl hg BK284.out; have NB285_284 := zng hg BK284.out; replace BK284 := zbl BK284.out hb; clear hb hbox hg) | ((with_reducible refine gate_dst (N := 6) rfl ?_); refine box_event ?hg (N := 6) ?hd (cs := #[.int .i64 0, .int .i64 0, .int .i64 0, .int .i64 0]) (t := 30) ?hr ?_; (case hd => rfl); (case hg => rfl); (case hr => exact zsx); intro gb286 hg w25 hbox hb; replace HO0_2 := Aside0.mk (Kd.V_below (Kd.V_elderB (by refine zDV ?_; exact HO0_2.out) gb286 (Nat.le_of_eq hg.symm)) hb); replace HO1_2 := Aside0.mk (Kd.V_below (Kd.V_elderB (by refine zDV ?_; exact HO1_2.out) gb286 (Nat.le_of_eq hg.symm)) hb); have BK286 := Aside0.mk (hbox); have GW286 := zns hg HB.out; have GE286 := zns hg HB.out; replace HB := Aside0.mk (below_step (zBz HB.out GE284.out GE285.out) hb); have NB284_286 := znl hg BK284.out; have NB286_284 := zng hg BK284.out; replace BK284 := zbl BK284.out hb; have NB285_286 := znl hg BK285.out; have NB286_285 := zng hg BK285.out; replace BK285 := zbl BK285.out hb; clear hb hbox hg; have hnb26 := NB284_285.out; have hnc26 := NB285_284.out; have hnb27 := NB284_286.out; have hnc27 := NB286_284.out; have hcz28_0 : w25.cell? ⟨gb284, 0, none⟩ = some (.int .i64 a0_0) := (blk_cell BK284.out 0).trans rfl; have hcz28_1 : w25.cell? ⟨gb284, 1, none⟩ = some (.int .i64 a0_1) := (blk_cell BK284.out 1).trans rfl; have hcz28_2 : w25.cell? ⟨gb284, 2, none⟩ = some (.slice A0_2 l0_2.length c0_2) := (blk_cell BK284.out 2).trans rfl; have hfz28_0 := blk_frozen BK284.out 0; have hfz28_1 := blk_frozen BK284.out 1; have hfz28_2 := blk_frozen BK284.out 2; have hnb29 := NB285_286.out; have hnc29 := NB286_285.out; have hcz30_0 : w25.cell? ⟨gb285, 0, none⟩ = some (.int .i64 a1_0) := (blk_cell BK285.out 0).trans rfl; have hcz30_1 : w25.cell? ⟨gb285, 1, none⟩ = some (.int .i64 a1_1) := (blk_cell BK285.out 1).trans rfl; have hcz30_2 : w25.cell? ⟨gb285, 2, none⟩ = some (.slice A1_2 l1_2.length c1_2) := (blk_cell BK285.out 2).trans rfl; have hfz30_0 := blk_frozen BK285.out 0; have hfz30_1 := blk_frozen BK285.out 1; have hfz30_2 := blk_frozen BK285.out 2) | ((with_reducible refine gate_dst (N := 10) rfl ?_); refine Kd.N_lit k26 _ 26 ?hg (N' := 10) ?hd (xs := ([(⟨a0_0, a0_1, l0_2⟩ : S26), (⟨a1_0, a1_1, l1_2⟩ : S26)] : List (S26))) (inner := [.int .i64 a0_0, .int .i64 a0_1, .slice A0_2 l0_2.length c0_2, .int .i64 a1_0, .int .i64 a1_1, .slice A1_2 l1_2.length c1_2]) (ok := (fun k_ => ((P0_2_ k_ ∨ P1_2_ k_) ∨ w.heap.size ≤ k_) ∧ k_ ≠ gb284 ∧ k_ ≠ gb285 ∧ k_ ≠ gb286)) (okp := (fun k_ => ((P0_2_ k_ ∨ P1_2_ k_) ∨ w.heap.size ≤ k_) ∧ k_ ≠ gb284 ∧ k_ ≠ gb285 ∧ k_ ≠ gb286)) ?hr ?hp (fun _ hk => hk) ((show ∀ k_, w25.heap.size ≤ k_ → (fun k_ => ((P0_2_ k_ ∨ P1_2_ k_) ∨ w.heap.size ≤ k_) ∧ k_ ≠ gb284 ∧ k_ ≠ gb285 ∧ k_ ≠ gb286) k_ from fun k_ hk => ⟨(.inr (Nat.le_trans (below_size (zhB HB.out)) hk)), Kd.freshB (g := gb284) (o := .cells #[.int .i64 a0_0, .int .i64 a0_1, .slice A0_2 l0_2.length c0_2] 26 (0, 0)) (zbx BK284.out) k_ hk, Kd.freshB (g := gb285) (o := .cells #[.int .i64 a1_0, .int .i64 a1_1, .slice A1_2 l1_2.length c1_2] 26 (0, 0)) (zbx BK285.out) k_ hk, Kd.freshB (g := gb286) (o := .cells #[.int .i64 0, .int .i64 0, .int .i64 0, .int .i64 0] 30 (0, 0)) (zbx BK286.out) k_ hk⟩) _ (Nat.le_refl _)) (Below.refl _ _) (Nat.le_refl _) (by simp) ?_; (case hd => rfl); (case hg => rfl); (case hr => exact zsx); (case hp => exact (Reps.c3 (show Kd.FK k26 _ _ (⟨a0_0, a0_1, l0_2⟩ : S26) [.int .i64 a0_0, .int .i64 a0_1, .slice A0_2 l0_2.length c0_2] from (k26_mkF _ _ (⟨a0_0, a0_1, l0_2⟩ : S26) (Kd.V_reads' (Kd.V_mono (ok' := (fun k_ => ((P0_2_ k_ ∨ P1_2_ k_) ∨ w.heap.size ≤ k_) ∧ k_ ≠ gb284 ∧ k_ ≠ gb285 ∧ k_ ≠ gb286)) (HO0_2.out) (fun k_ hk => ⟨hk.1.1.1, ⟨hk.1.1.2, ⟨hk.1.2, hk.2⟩⟩⟩))).2.1 (Kd.V_F (Kd.V_mono (ok' := (fun k_ => ((P0_2_ k_ ∨ P1_2_ k_) ∨ w.heap.size ≤ k_) ∧ k_ ≠ gb284 ∧ k_ ≠ gb285 ∧ k_ ≠ gb286)) (HO0_2.out) (fun k_ hk => ⟨hk.1.1.1, ⟨hk.1.1.2, ⟨hk.1.2, hk.2⟩⟩⟩))))) (Reps.c3 (show Kd.FK k26 _ _ (⟨a1_0, a1_1, l1_2⟩ : S26) [.int .i64 a1_0, .int .i64 a1_1, .slice A1_2 l1_2.length c1_2] from (k26_mkF _ _ (⟨a1_0, a1_1, l1_2⟩ : S26) (Kd.V_reads' (Kd.V_mono (ok' := (fun k_ => ((P0_2_ k_ ∨ P1_2_ k_) ∨ w.heap.size ≤ k_) ∧ k_ ≠ gb284 ∧ k_ ≠ gb285 ∧ k_ ≠ gb286)) (HO1_2.out) (fun k_ hk => ⟨hk.1.1.1, ⟨hk.1.1.2, ⟨hk.1.2, hk.2⟩⟩⟩))).2.1 (Kd.V_F (Kd.V_mono (ok' := (fun k_ => ((P0_2_ k_ ∨ P1_2_ k_) ∨ w.heap.size ≤ k_) ∧ k_ ≠ gb284 ∧ k_ ≠ gb285 ∧ k_ ≠ gb286)) (HO1_2.out) (fun k_ hk => ⟨hk.1.1.1, ⟨hk.1.1.2, ⟨hk.1.2, hk.2⟩⟩⟩))))) (Reps.none _ _)))); intro v288 w31 ho32 hb hg_ hnew_; clear hg_ hnew_; (first | rw [← Ny287.out] at ho32 | (simp only [Int.reduceToNat] at ho32; rw [← Ny287.out] at ho32)); replace HO0_2 := Aside0.mk (Kd.V_elder' (by refine zDV ?_; exact HO0_2.out) (Kd.N_base ho32) hb); replace HO1_2 := Aside0.mk (Kd.V_elder' (by refine zDV ?_; exact HO1_2.out) (Kd.N_base ho32) hb); have HO289 := Aside0.mk (Kd.N_lower ho32 (below_size (zhB HB.out))); replace BK284 := zbl BK284.out hb; replace BK285 := zbl BK285.out hb; replace BK286 := zbl BK286.out hb; replace HB := Aside0.mk (below_step (zhB HB.out) hb); clear hb ho32; obtain ⟨Ao33, co33, eo33⟩ := Kd.N_slice HO289.out; subst eo33) | ((with_reducible refine gate_callee (f := 34) rfl ?_); refine goesL_ (some 11) rfl rfl Try.func34 (by kernel_rfl) rfl #[.slice Ao33 y287.length co33] rfl zlx ?_; (with_reducible refine (impl_areAlike.calls k _ _ y287 false _ ?side1 ?side2 A4.out).mono ?_); (case side1 => repeat (first | exact (Kd.N_reads' HO289.out).2.2 | (with_reducible refine Kd.C_alloc ?_ _) | (with_reducible refine Kd.C_drewN ?_ _) | (with_reducible refine Kd.C_drew ?_))); (case side2 => exact (Kd.N_reads' HO289.out).2.1); rintro e w34 ⟨rfl, hb⟩; refine ⟨_, rfl, ?_⟩; replace HO0_2 := Aside0.mk (Kd.V_below (by refine zDV ?_; exact HO0_2.out) hb); replace HO1_2 := Aside0.mk (Kd.V_below (by refine zDV ?_; exact HO1_2.out) hb); replace HO289 := Aside0.mk (Kd.N_below (by (with_reducible repeat (first | apply Kd.N_alloc | apply Kd.N_drewN | apply Kd.N_drew)); exact HO289.out) hb); replace BK284 := zbl BK284.out hb; replace BK285 := zbl BK285.out hb; replace BK286 := zbl BK286.out hb; replace HB := Aside0.mk (below_step (zhB HB.out) hb); (try clear hb); (try clear hb2); (try clear hk); (try clear hi); have hcz35_0 : w34.cell? ⟨gb286, 0, none⟩ = some (.int .i64 0) := (blk_cell BK286.out 0).trans rfl; have hcz35_1 : w34.cell? ⟨gb286, 1, none⟩ = some (.int .i64 0) := (blk_cell BK286.out 1).trans rfl; have hcz35_2 : w34.cell? ⟨gb286, 2, none⟩ = some (.int .i64 0) := (blk_cell BK286.out 2).trans rfl; have hcz35_3 : w34.cell? ⟨gb286, 3, none⟩ = some (.int .i64 0) := (blk_cell BK286.out 3).trans rfl; have hfz35_0 := blk_frozen BK286.out 0; have hfz35_1 := blk_frozen BK286.out 1; have hfz35_2 := blk_frozen BK286.out 2; have hfz35_3 := blk_frozen BK286.out 3))
   refine bodyPost_ret (results_ct rfl _ _ gb286 30 #[.int .i64 0, .int .i64 0, .int .i64 0, .int .i64 0] (0, 0) _ rfl (by refine zbx ?_; refine blk_put (cs := #[.int .i64 0, .int .i64 0, .int .i64 0, .int .i64 0]) ?_ 3 _ rfl; refine zbx ?_; refine blk_put (cs := #[.int .i64 0, .int .i64 0, .int .i64 0, .int .i64 0]) ?_ 2 _ rfl; refine zbx ?_; refine blk_put (cs := #[.int .i64 0, .int .i64 0, .int .i64 0, .int .i64 0]) ?_ 1 _ rfl; refine zbx ?_; refine blk_put (cs := #[.int .i64 0, .int .i64 0, .int .i64 0, .int .i64 0]) ?_ 0 _ rfl; refine zbx ?_; exact BK286.out) Try.underlying30 rfl (by kernel_rfl)) rfl ?_
   exact ⟨by first | rfl | (simp [errW_none, errW_some] <;> rfl) | (simp [*, errW_none, errW_some] <;> rfl), zhB HB.out⟩

/-! ### spec_l1In: function 60 -/
def spec_l1In.f (a0 : Int) (a1 : Int) (a2 : Int) : Option (Bool) := if a0 ≥ a1 then (some (decide (a0 ≤ a2))) else (some false)
set_option maxHeartbeats 8000000 in
set_option maxRecDepth 100000 in
theorem spec_l1In.calls (a0 : Int) (a1 : Int) (a2 : Int) (r : Bool) (w : World) (h : spec_l1In.f a0 a1 a2 = some r) :
 Calls Try.prog 60 #[.int .i64 a0, .int .i64 a1, .int .i64 a2] w fun e w' => e = .returned (.bool r) ∧ Drawn0 w w' := by
 have H : (if a0 ≥ a1 then (some (decide (a0 ≤ a2))) else (some false)) = some r := h
 clear h
 by_cases c4 : a0 ≥ a1
 ·rw [if_pos c4] at H
  have c4b0 : decide (a1 ≤ a0) = true := decide_eq_true c4
  clear c4
  focus
   obtain rfl := Option.some.inj H
   go_enter Try.func60, Try.ntmps60
   go_wp2
   go_ret
   exact ⟨by first | rfl | (simp; done) | (simp [*]; done), by repeat (first | exact Drawn0.refl _ | apply Drawn0.step)⟩
 ·rw [if_neg c4] at H
  have c4b0 : decide (a1 ≤ a0) = false := decide_eq_false c4
  clear c4
  focus
   obtain rfl := Option.some.inj H
   go_enter Try.func60, Try.ntmps60
   go_wp2
   go_ret
   exact ⟨by first | rfl | (simp; done) | (simp [*]; done), by repeat (first | exact Drawn0.refl _ | apply Drawn0.step)⟩

/-! ### spec_l2Shape: function 77 -/
def spec_l2Shape.f (a0 : Int) (a1 : Int) : Option (Bool) := (spec_l1In.f a0 1 8).bind fun t295 => (if t295 = true then ((spec_l1In.f a1 1 8).bind fun t296 => (some t296)) else (some false))
set_option maxHeartbeats 8000000 in
set_option maxRecDepth 100000 in
theorem spec_l2Shape.calls (a0 : Int) (a1 : Int) (r : Bool) (w : World) (h : spec_l2Shape.f a0 a1 = some r) :
 Calls Try.prog 77 #[.int .i64 a0, .int .i64 a1] w fun e w' => e = .returned (.bool r) ∧ Drawn0 w w' := by
 have H : ((spec_l1In.f a0 1 8).bind fun t295 => (if t295 = true then ((spec_l1In.f a1 1 8).bind fun t296 => (some t296)) else (some false))) = some r := h
 clear h
 replace H := Option.bind_eq_some_iff.mp H
 obtain ⟨t295, A30, H⟩ := H
 replace H : (if t295 = true then ((spec_l1In.f a1 1 8).bind fun t296 => (some t296)) else (some false)) = some r := H
 have A3 := Aside0.mk A30
 clear A30
 by_cases c4 : t295 = true
 ·subst c4
  have H1 : ((spec_l1In.f a1 1 8).bind fun t296 => (some t296)) = some r := by rw [if_pos rfl] at H; exact H
  clear H
  have H := H1
  clear H1
  replace H := Option.bind_eq_some_iff.mp H
  obtain ⟨t296, A50, H⟩ := H
  replace H : (some t296) = some r := H
  have A5 := Aside0.mk A50
  clear A50
  focus
   obtain rfl := Option.some.inj H
   go_enter Try.func77, Try.ntmps77
   go_wp2_with (first | ((with_reducible refine gate_callee (f := 60) rfl ?_); refine goesL_ (some 6) rfl rfl Try.func60 (by kernel_rfl) rfl #[.int .i64 a0, .int .i64 1, .int .i64 8] rfl zlx ?_; (with_reducible refine (spec_l1In.calls a0 1 8 true _ A3.out).mono ?_); rintro e w' ⟨rfl, ⟨nd, rfl⟩⟩; refine ⟨_, rfl, ?_⟩) | (go_at_call 60; (with_reducible refine (spec_l1In.calls a1 1 8 t296 _ A5.out).mono ?_); rintro e w' ⟨rfl, ⟨nd, rfl⟩⟩))
   go_ret
   exact ⟨by first | rfl | (simp; done) | (simp [*]; done), by repeat (first | exact Drawn0.refl _ | apply Drawn0.step)⟩
 ·replace c4 := Bool.eq_false_iff.mpr c4
  subst c4
  have H1 : (some false) = some r := by rw [if_neg (show ¬ (false = true) by decide)] at H; exact H
  clear H
  have H := H1
  clear H1
  focus
   obtain rfl := Option.some.inj H
   go_enter Try.func77, Try.ntmps77
   go_wp2_with (first | ((with_reducible refine gate_callee (f := 60) rfl ?_); refine goesL_ (some 6) rfl rfl Try.func60 (by kernel_rfl) rfl #[.int .i64 a0, .int .i64 1, .int .i64 8] rfl zlx ?_; (with_reducible refine (spec_l1In.calls a0 1 8 false _ A3.out).mono ?_); rintro e w' ⟨rfl, ⟨nd, rfl⟩⟩; refine ⟨_, rfl, ?_⟩))
   go_ret
   exact ⟨by first | rfl | (simp; done) | (simp [*]; done), by repeat (first | exact Drawn0.refl _ | apply Drawn0.step)⟩

/-! ### spec_l2Value: function 78 -/
def spec_l2Value.f (a0 : Int) : Option (Bool) := if a0 = (-9999) then (some true) else ((spec_l1In.f a0 (-9000) 9000).bind fun t297 => (some t297))
set_option maxHeartbeats 8000000 in
set_option maxRecDepth 100000 in
theorem spec_l2Value.calls (a0 : Int) (r : Bool) (w : World) (h : spec_l2Value.f a0 = some r) :
 Calls Try.prog 78 #[.int .i64 a0] w fun e w' => e = .returned (.bool r) ∧ Drawn0 w w' := by
 have H : (if a0 = (-9999) then (some true) else ((spec_l1In.f a0 (-9000) 9000).bind fun t297 => (some t297))) = some r := h
 clear h
 by_cases c2 : a0 = (-9999)
 ·rw [if_pos c2] at H
  have c2b0 : (a0 == (-9999)) = true := beq_iff_eq.mpr c2
  have c2b1 : (a0 != (-9999)) = false := bne_eq_false_iff_eq.mpr c2
  clear c2
  focus
   obtain rfl := Option.some.inj H
   go_enter Try.func78, Try.ntmps78
   go_wp2
   go_ret
   exact ⟨by first | rfl | (simp; done) | (simp [*]; done), by repeat (first | exact Drawn0.refl _ | apply Drawn0.step)⟩
 ·rw [if_neg c2] at H
  have c2b0 : (a0 == (-9999)) = false := beq_eq_false_iff_ne.mpr c2
  have c2b1 : (a0 != (-9999)) = true := bne_iff_ne.mpr c2
  replace H := Option.bind_eq_some_iff.mp H
  obtain ⟨t297, A30, H⟩ := H
  replace H : (some t297) = some r := H
  have A3 := Aside0.mk A30
  clear A30
  focus
   obtain rfl := Option.some.inj H
   go_enter Try.func78, Try.ntmps78
   go_wp2_with (first | (go_at_call 60; (with_reducible refine (spec_l1In.calls a0 (-9000) 9000 t297 _ A3.out).mono ?_); rintro e w' ⟨rfl, ⟨nd, rfl⟩⟩))
   go_ret
   exact ⟨by first | rfl | (simp; done) | (simp [*]; done), by repeat (first | exact Drawn0.refl _ | apply Drawn0.step)⟩

end Go.Proofs.Ytddgbaohepfekaa.XFnScores
