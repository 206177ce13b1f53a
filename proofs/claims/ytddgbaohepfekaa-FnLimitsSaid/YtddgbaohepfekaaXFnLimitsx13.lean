-- written by wip/tools/xprint.py (a program of this project) out of the translation
import Derived.Test.YtddgbaohepfekaaXFnLimitsx0
namespace Go.Proofs.Ytddgbaohepfekaa.XFnLimits
open Go.RowKit Go.Proofs.YtddgbaohepfekaaW.PrintWords Go.Proofs.YtddgbaohepfekaaW.PrintLast Go.Proofs.YtddgbaohepfekaaW.PrintMore
attribute [local go_sem] max2_int min2_int max_two min_two max_three min_three max_four min_four   -- for this text's walks alone
set_option linter.unusedVariables false
set_option linter.unusedSimpArgs false

/-! ### spec_l20Count: function 37 -/
mutual
def spec_l20Count.l0 : Nat → Int → Int → Int → Int → Int → List Int → Int → Int → List Int → Int → Int → Int → Int → Option (Int × Int × Int × Int)
 | 0, _, _, _, _, _, _, _, _, _, _, _, _, _ => none
 | k + 1, x2, x3, x10, x420000, x420001, x420002, x421000, x421001, x421002, x423000, x423001, x423002, x423003 => if x10 < (x420002.length : Int) then (if 0 ≤ x10 then (if x10 < (x421002.length : Int) then (if (rd x420002 x10) = (-9999) then (spec_l20Count.j1 k x2 x3 x10 (rd x420002 x10) (rd x421002 x10) true x420000 x420001 x420002 x421000 x421001 x421002 x423000 x423001 x423002 x423003) else (spec_l20Count.j1 k x2 x3 x10 (rd x420002 x10) (rd x421002 x10) ((rd x421002 x10) == (-9999)) x420000 x420001 x420002 x421000 x421001 x421002 x423000 x423001 x423002 x423003)) else (none)) else (none)) else (some (x423000, x423001, x423002, x423003))
def spec_l20Count.j1 : Nat → Int → Int → Int → Int → Int → Bool → Int → Int → List Int → Int → Int → List Int → Int → Int → Int → Int → Option (Int × Int × Int × Int)
 | 0, _, _, _, _, _, _, _, _, _, _, _, _, _, _, _, _ => none
 | k + 1, x2, x3, x10, x11, x12, x36, x420000, x420001, x420002, x421000, x421001, x421002, x423000, x423001, x423002, x423003 => if x36 = true then (spec_l20Count.l0 k x2 x3 (wrap64 (x10 + 1)) x420000 x420001 x420002 x421000 x421001 x421002 x423000 x423001 x423002 x423003) else (if x11 > x2 then (spec_l20Count.j2 k x2 x3 x10 x11 x12 (decide (x12 > x3)) x420000 x420001 x420002 x421000 x421001 x421002 x423000 x423001 x423002 x423003) else (spec_l20Count.j2 k x2 x3 x10 x11 x12 false x420000 x420001 x420002 x421000 x421001 x421002 x423000 x423001 x423002 x423003))
def spec_l20Count.j2 : Nat → Int → Int → Int → Int → Int → Bool → Int → Int → List Int → Int → Int → List Int → Int → Int → Int → Int → Option (Int × Int × Int × Int)
 | 0, _, _, _, _, _, _, _, _, _, _, _, _, _, _, _, _ => none
 | k + 1, x2, x3, x10, x11, x12, x41, x420000, x420001, x420002, x421000, x421001, x421002, x423000, x423001, x423002, x423003 => if x41 = true then (spec_l20Count.l0 k x2 x3 (wrap64 (x10 + 1)) x420000 x420001 x420002 x421000 x421001 x421002 (wrap64 (x423000 + 1)) x423001 x423002 x423003) else (if x12 > x3 then (spec_l20Count.l0 k x2 x3 (wrap64 (x10 + 1)) x420000 x420001 x420002 x421000 x421001 x421002 x423000 (wrap64 (x423001 + 1)) x423002 x423003) else (if x11 > x2 then (spec_l20Count.l0 k x2 x3 (wrap64 (x10 + 1)) x420000 x420001 x420002 x421000 x421001 x421002 x423000 x423001 (wrap64 (x423002 + 1)) x423003) else (spec_l20Count.l0 k x2 x3 (wrap64 (x10 + 1)) x420000 x420001 x420002 x421000 x421001 x421002 x423000 x423001 x423002 (wrap64 (x423003 + 1)))))
end
def spec_l20Count.f (k : Nat) (a0_0 : Int) (a0_1 : Int) (l0_2 : List Int) (a1_0 : Int) (a1_1 : Int) (l1_2 : List Int) (a2 : Int) (a3 : Int) : Option (Int × Int × Int × Int) := spec_l20Count.l0 k a2 a3 0 a0_0 a0_1 l0_2 a1_0 a1_1 l1_2 0 0 0 0
theorem spec_l20Count.mono_l : ∀ k, (∀ y0 y1 y2 y3 y4 y5 y6 y7 y8 y9 y10 y11 y12, LeO (spec_l20Count.l0 k y0 y1 y2 y3 y4 y5 y6 y7 y8 y9 y10 y11 y12) (spec_l20Count.l0 (k + 1) y0 y1 y2 y3 y4 y5 y6 y7 y8 y9 y10 y11 y12)) ∧ (∀ y0 y1 y2 y3 y4 y5 y6 y7 y8 y9 y10 y11 y12 y13 y14 y15, LeO (spec_l20Count.j1 k y0 y1 y2 y3 y4 y5 y6 y7 y8 y9 y10 y11 y12 y13 y14 y15) (spec_l20Count.j1 (k + 1) y0 y1 y2 y3 y4 y5 y6 y7 y8 y9 y10 y11 y12 y13 y14 y15)) ∧ (∀ y0 y1 y2 y3 y4 y5 y6 y7 y8 y9 y10 y11 y12 y13 y14 y15, LeO (spec_l20Count.j2 k y0 y1 y2 y3 y4 y5 y6 y7 y8 y9 y10 y11 y12 y13 y14 y15) (spec_l20Count.j2 (k + 1) y0 y1 y2 y3 y4 y5 y6 y7 y8 y9 y10 y11 y12 y13 y14 y15))
 | 0 => ⟨fun _ _ _ _ _ _ _ _ _ _ _ _ _ r h => by simp [spec_l20Count.l0] at h, fun _ _ _ _ _ _ _ _ _ _ _ _ _ _ _ _ r h => by simp [spec_l20Count.j1] at h, fun _ _ _ _ _ _ _ _ _ _ _ _ _ _ _ _ r h => by simp [spec_l20Count.j2] at h⟩
 | k + 1 => by
  obtain ⟨ih0, ih1, ih2⟩ := spec_l20Count.mono_l k
  refine ⟨?_, ?_, ?_⟩
  ·intro y0 y1 y2 y3 y4 y5 y6 y7 y8 y9 y10 y11 y12
   unfold spec_l20Count.l0
   repeat' first
   | (with_reducible exact ih0 _ _ _ _ _ _ _ _ _ _ _ _ _)
   | (with_reducible exact ih1 _ _ _ _ _ _ _ _ _ _ _ _ _ _ _ _)
   | (with_reducible exact ih2 _ _ _ _ _ _ _ _ _ _ _ _ _ _ _ _)
   | (with_reducible exact LeO.refl _)
   | (with_reducible exact LeO.none _)
   | (with_reducible refine LeO.ite ?_ ?_)
   | (with_reducible refine LeO.bind ?_ (fun _ => ?_))
   | exact ih0 _ _ _ _ _ _ _ _ _ _ _ _ _
   | exact ih1 _ _ _ _ _ _ _ _ _ _ _ _ _ _ _ _
   | exact ih2 _ _ _ _ _ _ _ _ _ _ _ _ _ _ _ _
   | exact LeO.none _
   | refine LeO.ite ?_ ?_
   | refine LeO.bind ?_ (fun _ => ?_)
  ·intro y0 y1 y2 y3 y4 y5 y6 y7 y8 y9 y10 y11 y12 y13 y14 y15
   unfold spec_l20Count.j1
   repeat' first
   | (with_reducible exact ih0 _ _ _ _ _ _ _ _ _ _ _ _ _)
   | (with_reducible exact ih1 _ _ _ _ _ _ _ _ _ _ _ _ _ _ _ _)
   | (with_reducible exact ih2 _ _ _ _ _ _ _ _ _ _ _ _ _ _ _ _)
   | (with_reducible exact LeO.refl _)
   | (with_reducible exact LeO.none _)
   | (with_reducible refine LeO.ite ?_ ?_)
   | (with_reducible refine LeO.bind ?_ (fun _ => ?_))
   | exact ih0 _ _ _ _ _ _ _ _ _ _ _ _ _
   | exact ih1 _ _ _ _ _ _ _ _ _ _ _ _ _ _ _ _
   | exact ih2 _ _ _ _ _ _ _ _ _ _ _ _ _ _ _ _
   | exact LeO.none _
   | refine LeO.ite ?_ ?_
   | refine LeO.bind ?_ (fun _ => ?_)
  ·intro y0 y1 y2 y3 y4 y5 y6 y7 y8 y9 y10 y11 y12 y13 y14 y15
   unfold spec_l20Count.j2
   repeat' first
   | (with_reducible exact ih0 _ _ _ _ _ _ _ _ _ _ _ _ _)
   | (with_reducible exact ih1 _ _ _ _ _ _ _ _ _ _ _ _ _ _ _ _)
   | (with_reducible exact ih2 _ _ _ _ _ _ _ _ _ _ _ _ _ _ _ _)
   | (with_reducible exact LeO.refl _)
   | (with_reducible exact LeO.none _)
   | (with_reducible refine LeO.ite ?_ ?_)
   | (with_reducible refine LeO.bind ?_ (fun _ => ?_))
   | exact ih0 _ _ _ _ _ _ _ _ _ _ _ _ _
   | exact ih1 _ _ _ _ _ _ _ _ _ _ _ _ _ _ _ _
   | exact ih2 _ _ _ _ _ _ _ _ _ _ _ _ _ _ _ _
   | exact LeO.none _
   | refine LeO.ite ?_ ?_
   | refine LeO.bind ?_ (fun _ => ?_)
theorem spec_l20Count.mono : ∀ a0 a1 a2 a3 a4 a5 a6 a7 k, LeO (spec_l20Count.f k a0 a1 a2 a3 a4 a5 a6 a7) (spec_l20Count.f (k + 1) a0 a1 a2 a3 a4 a5 a6 a7) := by
 intro a0 a1 a2 a3 a4 a5 a6 a7 k
 obtain ⟨ih0, ih1, ih2⟩ := spec_l20Count.mono_l k
 unfold spec_l20Count.f
 repeat' first
  | (with_reducible exact ih0 _ _ _ _ _ _ _ _ _ _ _ _ _)
  | (with_reducible exact ih1 _ _ _ _ _ _ _ _ _ _ _ _ _ _ _ _)
  | (with_reducible exact ih2 _ _ _ _ _ _ _ _ _ _ _ _ _ _ _ _)
  | (with_reducible exact LeO.refl _)
  | (with_reducible exact LeO.none _)
  | (with_reducible refine LeO.ite ?_ ?_)
  | (with_reducible refine LeO.bind ?_ (fun _ => ?_))
  | exact ih0 _ _ _ _ _ _ _ _ _ _ _ _ _
  | exact ih1 _ _ _ _ _ _ _ _ _ _ _ _ _ _ _ _
  | exact ih2 _ _ _ _ _ _ _ _ _ _ _ _ _ _ _ _
  | exact LeO.none _
  | refine LeO.ite ?_ ?_
  | refine LeO.bind ?_ (fun _ => ?_)
set_option maxHeartbeats 8000000 in
set_option maxRecDepth 100000 in
theorem spec_l20Count.calls (k : Nat) (a0_0 : Int) (a0_1 : Int) (A0_2 : Option Addr) (c0_2 : Nat) (l0_2 : List Int) (a1_0 : Int) (a1_1 : Int) (A1_2 : Option Addr) (c1_2 : Nat) (l1_2 : List Int) (a2 : Int) (a3 : Int) (r1 : Int) (r2 : Int) (r3 : Int) (r4 : Int) (w : World) (hr0_2 : Kd.C (Kd.int .i64) w A0_2 l0_2.length l0_2) (hc0_2 : l0_2.length ≤ c0_2) (hr1_2 : Kd.C (Kd.int .i64) w A1_2 l1_2.length l1_2) (hc1_2 : l1_2.length ≤ c1_2) (h : spec_l20Count.f k a0_0 a0_1 l0_2 a1_0 a1_1 l1_2 a2 a3 = some (r1, r2, r3, r4)) :
 Calls Try.prog 37 #[.agg #[.int .i64 a0_0, .int .i64 a0_1, .slice A0_2 l0_2.length c0_2], .agg #[.int .i64 a1_0, .int .i64 a1_1, .slice A1_2 l1_2.length c1_2], .int .i64 a2, .int .i64 a3] w fun e w' => e = .returned (.agg #[.int .i64 r1, .int .i64 r2, .int .i64 r3, .int .i64 r4]) ∧ Below w.heap.size w w' := by
 have hu26 := Try.underlying26
 have hu30 := Try.underlying30
 have HR0_2 := Aside0.mk hr0_2
 have HC0_2 := Aside0.mk hc0_2
 clear hr0_2 hc0_2
 have HR1_2 := Aside0.mk hr1_2
 have HC1_2 := Aside0.mk hc1_2
 clear hr1_2 hc1_2
 have HB := Aside0.mk (Below.refl w.heap.size w)
 have H : (spec_l20Count.l0 k a2 a3 0 a0_0 a0_1 l0_2 a1_0 a1_1 l1_2 0 0 0 0) = some (r1, r2, r3, r4) := h
 clear h
 have H' := Aside0.mk H
 clear H
 go_enter Try.func37, Try.ntmps37
 go_wp2_with (first | ((with_reducible refine gate_dst (N := 4) rfl ?_); refine box_event ?hg (N := 4) ?hd (cs := #[.int .i64 a0_0, .int .i64 a0_1, .slice A0_2 l0_2.length c0_2]) (t := 26) ?hr ?_; (case hd => rfl); (case hg => rfl); (case hr => exact zsx); intro gb419 hg w5 hbox hb; have BK419 := Aside0.mk (hbox); have GW419 := zns hg HB.out; have GE419 := zns hg HB.out; replace HB := Aside0.mk (below_step (zBx HB.out) hb); clear hb hbox hg) | ((with_reducible refine gate_dst (N := 5) rfl ?_); refine box_event ?hg (N := 5) ?hd (cs := #[.int .i64 a1_0, .int .i64 a1_1, .slice A1_2 l1_2.length c1_2]) (t := 26) ?hr ?_; (case hd => rfl); (case hg => rfl); (case hr => exact zsx); intro gb420 hg w6 hbox hb; have BK420 := Aside0.mk (hbox); have GW420 := zns hg HB.out; have GE420 := zns hg HB.out; replace HB := Aside0.mk (below_step (zBy HB.out GE419.out) hb); have NB419_420 := znl hg BK419.out; have NB420_419 := zng hg BK419.out; replace BK419 := zbl BK419.out hb; clear hb hbox hg) | ((with_reducible refine gate_dst (N := 8) rfl ?_); refine box_event ?hg (N := 8) ?hd (cs := #[.int .i64 0, .int .i64 0, .int .i64 0, .int .i64 0]) (t := 30) ?hr ?_; (case hd => rfl); (case hg => rfl); (case hr => exact zsx); intro gb421 hg w7 hbox hb; have BK421 := Aside0.mk (hbox); have GW421 := zns hg HB.out; have GE421 := zns hg HB.out; replace HB := Aside0.mk (below_step (zBz HB.out GE419.out GE420.out) hb); have NB419_421 := znl hg BK419.out; have NB421_419 := zng hg BK419.out; replace BK419 := zbl BK419.out hb; have NB420_421 := znl hg BK420.out; have NB421_420 := zng hg BK420.out; replace BK420 := zbl BK420.out hb; clear hb hbox hg) | ((with_reducible refine gate_dst (N := 9) rfl ?_); refine box_event ?hg (N := 9) ?hd (cs := #[.int .i64 0, .int .i64 0, .int .i64 0, .int .i64 0]) (t := 30) ?hr ?_; (case hd => rfl); (case hg => rfl); (case hr => exact zsx); intro gb422 hg w8 hbox hb; have BK422 := Aside0.mk (hbox); have GW422 := zns hg HB.out; have GE422 := zns hg HB.out; replace HB := Aside0.mk (below_step (zhB HB.out) hb); have NB419_422 := znl hg BK419.out; have NB422_419 := zng hg BK419.out; replace BK419 := zbl BK419.out hb; have NB420_422 := znl hg BK420.out; have NB422_420 := zng hg BK420.out; replace BK420 := zbl BK420.out hb; have NB421_422 := znl hg BK421.out; have NB422_421 := zng hg BK421.out; replace BK421 := zbl BK421.out hb; clear hb hbox hg; have hnb9 := NB422_419.out; have hnc9 := NB419_422.out; have hnb10 := NB422_420.out; have hnc10 := NB420_422.out; have hnb11 := NB422_421.out; have hnc11 := NB421_422.out; have hcz12_0 : w8.cell? ⟨gb422, 0, none⟩ = some (.int .i64 0) := (blk_cell BK422.out 0).trans rfl; have hcz12_1 : w8.cell? ⟨gb422, 1, none⟩ = some (.int .i64 0) := (blk_cell BK422.out 1).trans rfl; have hcz12_2 : w8.cell? ⟨gb422, 2, none⟩ = some (.int .i64 0) := (blk_cell BK422.out 2).trans rfl; have hcz12_3 : w8.cell? ⟨gb422, 3, none⟩ = some (.int .i64 0) := (blk_cell BK422.out 3).trans rfl; have hfz12_0 := blk_frozen BK422.out 0; have hfz12_1 := blk_frozen BK422.out 1; have hfz12_2 := blk_frozen BK422.out 2; have hfz12_3 := blk_frozen BK422.out 3))
 repeat (go_quiet (first | ((with_reducible refine gate_dst (N := 4) rfl ?_); refine box_event ?hg (N := 4) ?hd (cs := #[.int .i64 a0_0, .int .i64 a0_1, .slice A0_2 l0_2.length c0_2]) (t := 26) ?hr ?_; (case hd => rfl); (case hg => rfl); (case hr => exact zsx); intro gb419 hg w5 hbox hb; have BK419 := Aside0.mk (hbox); have GW419 := zns hg HB.out; have GE419 := zns hg HB.out; replace HB := Aside0.mk (below_step (zBx HB.out) hb); clear hb hbox hg) | ((with_reducible refine gate_dst (N := 5) rfl ?_); refine box_event ?hg (N := 5) ?hd (cs := #[.int .i64 a1_0, .int .i64 a1_1, .slice A1_2 l1_2.length c1_2]) (t := 26) ?hr ?_; (case hd => rfl); (case hg => rfl); (case hr => exact zsx); intro gb420 hg w6 hbox hb; have BK420 := Aside0.mk (hbox); have GW420 := zns hg HB.out; have GE420 := zns hg HB.out; replace HB := Aside0.mk (below_step (zBy HB.out GE419.out) hb); have NB419_420 := znl hg BK419.out; have NB420_419 := zng hg BK419.out; replace BK419 := zbl BK419.out hb; clear hb hbox hg) | ((with_reducible refine gate_dst (N := 8) rfl ?_); refine box_event ?hg (N := 8) ?hd (cs := #[.int .i64 0, .int .i64 0, .int .i64 0, .int .i64 0]) (t := 30) ?hr ?_; (case hd => rfl); (case hg => rfl); (case hr => exact zsx); intro gb421 hg w7 hbox hb; have BK421 := Aside0.mk (hbox); have GW421 := zns hg HB.out; have GE421 := zns hg HB.out; replace HB := Aside0.mk (below_step (zBz HB.out GE419.out GE420.out) hb); have NB419_421 := znl hg BK419.out; have NB421_419 := zng hg BK419.out; replace BK419 := zbl BK419.out hb; have NB420_421 := znl hg BK420.out; have NB421_420 := zng hg BK420.out; replace BK420 := zbl BK420.out hb; clear hb hbox hg) | ((with_reducible refine gate_dst (N := 9) rfl ?_); refine box_event ?hg (N := 9) ?hd (cs := #[.int .i64 0, .int .i64 0, .int .i64 0, .int .i64 0]) (t := 30) ?hr ?_; (case hd => rfl); (case hg => rfl); (case hr => exact zsx); intro gb422 hg w8 hbox hb; have BK422 := Aside0.mk (hbox); have GW422 := zns hg HB.out; have GE422 := zns hg HB.out; replace HB := Aside0.mk (below_step (zhB HB.out) hb); have NB419_422 := znl hg BK419.out; have NB422_419 := zng hg BK419.out; replace BK419 := zbl BK419.out hb; have NB420_422 := znl hg BK420.out; have NB422_420 := zng hg BK420.out; replace BK420 := zbl BK420.out hb; have NB421_422 := znl hg BK421.out; have NB422_421 := zng hg BK421.out; replace BK421 := zbl BK421.out hb; clear hb hbox hg; have hnb9 := NB422_419.out; have hnc9 := NB419_422.out; have hnb10 := NB422_420.out; have hnc10 := NB420_422.out; have hnb11 := NB422_421.out; have hnc11 := NB421_422.out; have hcz12_0 : w8.cell? ⟨gb422, 0, none⟩ = some (.int .i64 0) := (blk_cell BK422.out 0).trans rfl; have hcz12_1 : w8.cell? ⟨gb422, 1, none⟩ = some (.int .i64 0) := (blk_cell BK422.out 1).trans rfl; have hcz12_2 : w8.cell? ⟨gb422, 2, none⟩ = some (.int .i64 0) := (blk_cell BK422.out 2).trans rfl; have hcz12_3 : w8.cell? ⟨gb422, 3, none⟩ = some (.int .i64 0) := (blk_cell BK422.out 3).trans rfl; have hfz12_0 := blk_frozen BK422.out 0; have hfz12_1 := blk_frozen BK422.out 1; have hfz12_2 := blk_frozen BK422.out 2; have hfz12_3 := blk_frozen BK422.out 3)); try go_wp2_with (first | ((with_reducible refine gate_dst (N := 4) rfl ?_); refine box_event ?hg (N := 4) ?hd (cs := #[.int .i64 a0_0, .int .i64 a0_1, .slice A0_2 l0_2.length c0_2]) (t := 26) ?hr ?_; (case hd => rfl); (case hg => rfl); (case hr => exact zsx); intro gb419 hg w5 hbox hb; have BK419 := Aside0.mk (hbox); have GW419 := zns hg HB.out; have GE419 := zns hg HB.out; replace HB := Aside0.mk (below_step (zBx HB.out) hb); clear hb hbox hg) | ((with_reducible refine gate_dst (N := 5) rfl ?_); refine box_event ?hg (N := 5) ?hd (cs := #[.int .i64 a1_0, .int .i64 a1_1, .slice A1_2 l1_2.length c1_2]) (t := 26) ?hr ?_; (case hd => rfl); (case hg => rfl); (case hr => exact zsx); intro gb420 hg w6 hbox hb; have BK420 := Aside0.mk (hbox); have GW420 := zns hg HB.out; have GE420 := zns hg HB.out; replace HB := Aside0.mk (below_step (zBy HB.out GE419.out) hb); have NB419_420 := znl hg BK419.out; have NB420_419 := zng hg BK419.out; replace BK419 := zbl BK419.out hb; clear hb hbox hg) | ((with_reducible refine gate_dst (N := 8) rfl ?_); refine box_event ?hg (N := 8) ?hd (cs := #[.int .i64 0, .int .i64 0, .int .i64 0, .int .i64 0]) (t := 30) ?hr ?_; (case hd => rfl); (case hg => rfl); (case hr => exact zsx); intro gb421 hg w7 hbox hb; have BK421 := Aside0.mk (hbox); have GW421 := zns hg HB.out; have GE421 := zns hg HB.out; replace HB := Aside0.mk (below_step (zBz HB.out GE419.out GE420.out) hb); have NB419_421 := znl hg BK419.out; have NB421_419 := zng hg BK419.out; replace BK419 := zbl BK419.out hb; have NB420_421 := znl hg BK420.out; have NB421_420 := zng hg BK420.out; replace BK420 := zbl BK420.out hb; clear hb hbox hg) | ((with_reducible refine gate_dst (N := 9) rfl ?_); refine box_event ?hg (N := 9) ?hd (cs := #[.int .i64 0, .int .i64 0, .int .i64 0, .int .i64 0]) (t := 30) ?hr ?_; (case hd => rfl); (case hg => rfl); (case hr => exact zsx); intro gb422 hg w8 hbox hb; have BK422 := Aside0.mk (hbox); have GW422 := zns hg HB.out; have GE422 := zns hg HB.out; replace HB := Aside0.mk (below_step (zhB HB.out) hb); have NB419_422 := znl hg BK419.out; have NB422_419 := zng hg BK419.out; replace BK419 := zbl BK419.out hb; have NB420_422 := znl hg BK420.out; have NB422_420 := zng hg BK420.out; replace BK420 := zbl BK420.out hb; have NB421_422 := znl hg BK421.out; have NB422_421 := zng hg BK421.out; replace BK421 := zbl BK421.out hb; clear hb hbox hg; have hnb9 := NB422_419.out; have hnc9 := NB419_422.out; have hnb10 := NB422_420.out; have hnc10 := NB420_422.out; have hnb11 := NB422_421.out; have hnc11 := NB421_422.out; have hcz12_0 : w8.cell? ⟨gb422, 0, none⟩ = some (.int .i64 0) := (blk_cell BK422.out 0).trans rfl; have hcz12_1 : w8.cell? ⟨gb422, 1, none⟩ = some (.int .i64 0) := (blk_cell BK422.out 1).trans rfl; have hcz12_2 : w8.cell? ⟨gb422, 2, none⟩ = some (.int .i64 0) := (blk_cell BK422.out 2).trans rfl; have hcz12_3 : w8.cell? ⟨gb422, 3, none⟩ = some (.int .i64 0) := (blk_cell BK422.out 3).trans rfl; have hfz12_0 := blk_frozen BK422.out 0; have hfz12_1 := blk_frozen BK422.out 1; have hfz12_2 := blk_frozen BK422.out 2; have hfz12_3 := blk_frozen BK422.out 3)))
 go_loopg [10] k (fun kq v10 w' => ∃ (x10_1 : Int) (x423000_1 : Int) (x423001_1 : Int) (x423002_1 : Int) (x423003_1 : Int), v10 = .int .i64 x10_1 ∧ Aside0 (spec_l20Count.l0 kq a2 a3 x10_1 a0_0 a0_1 l0_2 a1_0 a1_1 l1_2 x423000_1 x423001_1 x423002_1 x423003_1 = some (r1, r2, r3, r4)) ∧ Aside0 (kq ≤ k) ∧ Aside0 (w'.heap[gb419]? = some (.cells #[.int .i64 a0_0, .int .i64 a0_1, (.slice A0_2 l0_2.length c0_2)] 26 (0, 0))) ∧ Aside0 (w'.heap[gb420]? = some (.cells #[.int .i64 a1_0, .int .i64 a1_1, (.slice A1_2 l1_2.length c1_2)] 26 (0, 0))) ∧ Aside0 (w'.heap[gb421]? = some (.cells #[.int .i64 0, .int .i64 0, .int .i64 0, .int .i64 0] 30 (0, 0))) ∧ Aside0 (w'.heap[gb422]? = some (.cells #[.int .i64 x423000_1, .int .i64 x423001_1, .int .i64 x423002_1, .int .i64 x423003_1] 30 (0, 0))) ∧ Aside0 (Below w.heap.size w w'))
 case atStart => exact ⟨(0), (0), (0), (0), (0), zrx, H', ⟨Nat.le_refl _⟩, ⟨zbp BK419.out⟩, ⟨zbp BK420.out⟩, ⟨zbp BK421.out⟩, ⟨zbp BK422.out⟩, ⟨zhB HB.out⟩⟩
 case round =>
  clear H'
  try clear c1
  try clear p2
  try clear c3
  try clear c9
  try clear c10
  try clear c11
  try clear hcz12_0
  try clear hcz12_1
  try clear hcz12_2
  try clear hcz12_3
  try clear hfz12_0
  try clear hfz12_1
  try clear hfz12_2
  try clear hfz12_3
  obtain ⟨x10_1, x423000_1, x423001_1, x423002_1, x423003_1, rfl, HA, HK1, BK419, BK420, BK421, BK422, HB⟩ := hrel
  cases gk with
  | zero => exact absurd HA.out (by simp [spec_l20Count.l0])
  | succ k1 =>
   have H := HA.out
   clear HA
   simp only [spec_l20Count.l0] at H
   by_cases c13 : x10_1 < (l0_2.length : Int)
   ·rw [if_pos c13] at H
    have c13b0 : decide (x10_1 < (l0_2.length : Int)) = true := decide_eq_true c13
    clear c13
    by_cases c14 : 0 ≤ x10_1
    ·rw [if_pos c14] at H
     have c14b0 : decide (0 ≤ x10_1) = true := decide_eq_true c14
     clear c14
     by_cases c15 : x10_1 < (l1_2.length : Int)
     ·rw [if_pos c15] at H
      have c15b0 : decide (x10_1 < (l1_2.length : Int)) = true := decide_eq_true c15
      clear c15
      have HC16 := Aside0.mk H
      clear H
      have hnb17 := NB419_420.out
      have hnc17 := NB420_419.out
      have hnb18 := NB419_421.out
      have hnc18 := NB421_419.out
      have hnb19 := NB419_422.out
      have hnc19 := NB422_419.out
      have hcz20_0 : wr.cell? ⟨gb419, 0, none⟩ = some (.int .i64 a0_0) := (blk_cell BK419.out 0).trans rfl
      have hcz20_1 : wr.cell? ⟨gb419, 1, none⟩ = some (.int .i64 a0_1) := (blk_cell BK419.out 1).trans rfl
      have hcz20_2 : wr.cell? ⟨gb419, 2, none⟩ = some (.slice A0_2 l0_2.length c0_2) := (blk_cell BK419.out 2).trans rfl
      have hfz20_0 := blk_frozen BK419.out 0
      have hfz20_1 := blk_frozen BK419.out 1
      have hfz20_2 := blk_frozen BK419.out 2
      have p423 : 0 ≤ (x10_1 : Int) := of_decide_eq_true zax
      have q423 : x10_1 < (l0_2.length : Int) := of_decide_eq_true zax
      obtain ⟨ad423, e423, hx423_0⟩ := Kd.at_int HR0_2.out x10_1 p423 q423
      cases e423
      replace hx423_0 := (HB.out.cell (World.block_lt_of_cell? w _ hx423_0)).trans hx423_0
      replace p423 := eq_true p423
      replace q423 := eq_true q423
      have hnb21 := NB420_421.out
      have hnc21 := NB421_420.out
      have hnb22 := NB420_422.out
      have hnc22 := NB422_420.out
      have hcz23_0 : wr.cell? ⟨gb420, 0, none⟩ = some (.int .i64 a1_0) := (blk_cell BK420.out 0).trans rfl
      have hcz23_1 : wr.cell? ⟨gb420, 1, none⟩ = some (.int .i64 a1_1) := (blk_cell BK420.out 1).trans rfl
      have hcz23_2 : wr.cell? ⟨gb420, 2, none⟩ = some (.slice A1_2 l1_2.length c1_2) := (blk_cell BK420.out 2).trans rfl
      have hfz23_0 := blk_frozen BK420.out 0
      have hfz23_1 := blk_frozen BK420.out 1
      have hfz23_2 := blk_frozen BK420.out 2
      have p424 : 0 ≤ (x10_1 : Int) := of_decide_eq_true zax
      have q424 : x10_1 < (l1_2.length : Int) := of_decide_eq_true zax
      obtain ⟨ad424, e424, hx424_0⟩ := Kd.at_int HR1_2.out x10_1 p424 q424
      cases e424
      replace hx424_0 := (HB.out.cell (World.block_lt_of_cell? w _ hx424_0)).trans hx424_0
      replace p424 := eq_true p424
      replace q424 := eq_true q424
      go_upto_region 6 with (fail)
      repeat (go_quiet (fail); go_upto_region 6 with (fail))
      go_cut [36] (fun v36 wc => ∃ (kq : Nat) (x36_15 : Bool), v36 = .bool x36_15 ∧ Aside0 (spec_l20Count.j1 kq a2 a3 x10_1 (rd l0_2 x10_1) (rd l1_2 x10_1) x36_15 a0_0 a0_1 l0_2 a1_0 a1_1 l1_2 x423000_1 x423001_1 x423002_1 x423003_1 = some (r1, r2, r3, r4)) ∧ Aside0 (kq ≤ k1) ∧ Aside0 (wc.heap[gb419]? = some (.cells #[.int .i64 a0_0, .int .i64 a0_1, (.slice (some ad423) l0_2.length c0_2)] 26 (0, 0))) ∧ Aside0 (wc.heap[gb420]? = some (.cells #[.int .i64 a1_0, .int .i64 a1_1, (.slice (some ad424) l1_2.length c1_2)] 26 (0, 0))) ∧ Aside0 (wc.heap[gb421]? = some (.cells #[.int .i64 0, .int .i64 0, .int .i64 0, .int .i64 0] 30 (0, 0))) ∧ Aside0 (wc.heap[gb422]? = some (.cells #[.int .i64 x423000_1, .int .i64 x423001_1, .int .i64 x423002_1, .int .i64 x423003_1] 30 (0, 0))) ∧ Aside0 (Below w.heap.size w wc))
      case first =>
       have H := HC16.out
       clear HC16
       by_cases c24 : (rd l0_2 x10_1) = (-9999)
       ·rw [if_pos c24] at H
        have c24b0 : ((rd l0_2 x10_1) == (-9999)) = true := beq_iff_eq.mpr c24
        have c24b1 : ((rd l0_2 x10_1) != (-9999)) = false := bne_eq_false_iff_eq.mpr c24
        clear c24
        (first | rw [c24b0] | (simp only [i64_w, i32_w]; rw [c24b0]) | skip)
        focus
         have H' := Aside0.mk H
         clear H
         go_wp2
         repeat (go_quiet (fail); try go_wp2)
         go_meet
         case rel => exact ⟨_, (true), zrx, H', ⟨by have := HK1.out; first | omega | exact Nat.le_refl _⟩, ⟨by refine zbx ?_; exact BK419.out⟩, ⟨by refine zbx ?_; exact BK420.out⟩, ⟨by refine zbx ?_; exact BK421.out⟩, ⟨by refine zbx ?_; exact BK422.out⟩, ⟨zhB HB.out⟩⟩
       ·rw [if_neg c24] at H
        have c24b0 : ((rd l0_2 x10_1) == (-9999)) = false := beq_eq_false_iff_ne.mpr c24
        have c24b1 : ((rd l0_2 x10_1) != (-9999)) = true := bne_iff_ne.mpr c24
        (first | rw [c24b0] | (simp only [i64_w, i32_w]; rw [c24b0]) | skip)
        focus
         have H' := Aside0.mk H
         clear H
         go_wp2
         repeat (go_quiet (fail); try go_wp2)
         go_meet
         case rel => exact ⟨_, (((rd l1_2 x10_1) == (-9999))), zrx, H', ⟨by have := HK1.out; first | omega | exact Nat.le_refl _⟩, ⟨by refine zbx ?_; exact BK419.out⟩, ⟨by refine zbx ?_; exact BK420.out⟩, ⟨by refine zbx ?_; exact BK421.out⟩, ⟨by refine zbx ?_; exact BK422.out⟩, ⟨zhB HB.out⟩⟩
      case rest =>
       clear HC16
       try clear c1
       try clear c2
       try clear p2
       try clear c3
       try clear p4
       try clear q4
       try clear hx4
       try clear c9
       try clear c10
       try clear c11
       try clear c13
       try clear c13b0
       try clear c14
       try clear c14b0
       try clear c15
       try clear c15b0
       try clear c17
       try clear c18
       try clear c19
       try clear c21
       try clear c22
       try clear c24
       try clear c24b0
       try clear c24b1
       try clear hcz12_0
       try clear hcz12_1
       try clear hcz12_2
       try clear hcz12_3
       try clear hcz20_0
       try clear hcz20_1
       try clear hcz20_2
       try clear hcz23_0
       try clear hcz23_1
       try clear hcz23_2
       try clear hfz12_0
       try clear hfz12_1
       try clear hfz12_2
       try clear hfz12_3
       try clear hfz20_0
       try clear hfz20_1
       try clear hfz20_2
       try clear hfz23_0
       try clear hfz23_1
       try clear hfz23_2
       try clear hx423_0
       try clear hx424_0
       try clear p2
       try clear p423
       try clear p424
       try clear q423
       try clear q424
       obtain ⟨kq, x36_15, rfl, HA, HJ15, BK419, BK420, BK421, BK422, HB⟩ := hcut
       cases kq with
       | zero => exact absurd HA.out (by simp [spec_l20Count.j1])
       | succ kj15 =>
        have H := HA.out
        clear HA
        simp only [spec_l20Count.j1] at H
        by_cases c25 : x36_15 = true
        ·subst c25
         rw [if_pos rfl] at H
         focus
          have H' := Aside0.mk H
          clear H
          go_wp2
          repeat (go_quiet (fail); try go_wp2)
          go_roundg kj15
          case measure => have := HK1.out; have := HJ15.out; omega
          case rel => exact ⟨(wrap64 (x10_1 + 1)), (x423000_1), (x423001_1), (x423002_1), (x423003_1), zrx, H', ⟨by have := HK1.out; have := HJ15.out; omega⟩, ⟨by refine zbx ?_; exact BK419.out⟩, ⟨by refine zbx ?_; exact BK420.out⟩, ⟨by refine zbx ?_; exact BK421.out⟩, ⟨by refine zbx ?_; exact BK422.out⟩, ⟨zhB HB.out⟩⟩
        ·replace c25 := Bool.eq_false_iff.mpr c25
         subst c25
         rw [if_neg (show ¬ (false = true) by decide)] at H
         have HC26 := Aside0.mk H
         clear H
         go_upto_region 8 with (fail)
         repeat (go_quiet (fail); go_upto_region 8 with (fail))
         go_cut [41] (fun v41 wc => ∃ (kq : Nat) (x41_25 : Bool), v41 = .bool x41_25 ∧ Aside0 (spec_l20Count.j2 kq a2 a3 x10_1 (rd l0_2 x10_1) (rd l1_2 x10_1) x41_25 a0_0 a0_1 l0_2 a1_0 a1_1 l1_2 x423000_1 x423001_1 x423002_1 x423003_1 = some (r1, r2, r3, r4)) ∧ Aside0 (kq ≤ kj15) ∧ Aside0 (wc.heap[gb419]? = some (.cells #[.int .i64 a0_0, .int .i64 a0_1, (.slice (some ad423) l0_2.length c0_2)] 26 (0, 0))) ∧ Aside0 (wc.heap[gb420]? = some (.cells #[.int .i64 a1_0, .int .i64 a1_1, (.slice (some ad424) l1_2.length c1_2)] 26 (0, 0))) ∧ Aside0 (wc.heap[gb421]? = some (.cells #[.int .i64 0, .int .i64 0, .int .i64 0, .int .i64 0] 30 (0, 0))) ∧ Aside0 (wc.heap[gb422]? = some (.cells #[.int .i64 x423000_1, .int .i64 x423001_1, .int .i64 x423002_1, .int .i64 x423003_1] 30 (0, 0))) ∧ Aside0 (Below w.heap.size w wc))
         case first =>
          have H := HC26.out
          clear HC26
          by_cases c27 : (rd l0_2 x10_1) > a2
          ·rw [if_pos c27] at H
           have c27b0 : decide (a2 < (rd l0_2 x10_1)) = true := decide_eq_true c27
           clear c27
           (first | rw [c27b0] | (simp only [i64_w, i32_w]; rw [c27b0]) | skip)
           focus
            have H' := Aside0.mk H
            clear H
            go_wp2
            repeat (go_quiet (fail); try go_wp2)
            go_meet
            case rel => exact ⟨_, (decide ((rd l1_2 x10_1) > a3)), zrx, H', ⟨by have := HK1.out; have := HJ15.out; first | omega | exact Nat.le_refl _⟩, ⟨by refine zbx ?_; exact BK419.out⟩, ⟨by refine zbx ?_; exact BK420.out⟩, ⟨by refine zbx ?_; exact BK421.out⟩, ⟨by refine zbx ?_; exact BK422.out⟩, ⟨zhB HB.out⟩⟩
          ·rw [if_neg c27] at H
           have c27b0 : decide (a2 < (rd l0_2 x10_1)) = false := decide_eq_false c27
           clear c27
           (first | rw [c27b0] | (simp only [i64_w, i32_w]; rw [c27b0]) | skip)
           focus
            have H' := Aside0.mk H
            clear H
            go_wp2
            repeat (go_quiet (fail); try go_wp2)
            go_meet
            case rel => exact ⟨_, (false), zrx, H', ⟨by have := HK1.out; have := HJ15.out; first | omega | exact Nat.le_refl _⟩, ⟨by refine zbx ?_; exact BK419.out⟩, ⟨by refine zbx ?_; exact BK420.out⟩, ⟨by refine zbx ?_; exact BK421.out⟩, ⟨by refine zbx ?_; exact BK422.out⟩, ⟨zhB HB.out⟩⟩
         case rest =>
          clear HC26
          try clear c1
          try clear c2
          try clear p2
          try clear c3
          try clear p4
          try clear q4
          try clear hx4
          try clear p6
          try clear c9
          try clear c10
          try clear c11
          try clear c13
          try clear c13b0
          try clear c14
          try clear c14b0
          try clear c15
          try clear c15b0
          try clear c17
          try clear c18
          try clear c19
          try clear c21
          try clear c22
          try clear c24
          try clear c24b0
          try clear c24b1
          try clear c25
          try clear c27
          try clear c27b0
          try clear hcz12_0
          try clear hcz12_1
          try clear hcz12_2
          try clear hcz12_3
          try clear hcz20_0
          try clear hcz20_1
          try clear hcz20_2
          try clear hcz23_0
          try clear hcz23_1
          try clear hcz23_2
          try clear hfz12_0
          try clear hfz12_1
          try clear hfz12_2
          try clear hfz12_3
          try clear hfz20_0
          try clear hfz20_1
          try clear hfz20_2
          try clear hfz23_0
          try clear hfz23_1
          try clear hfz23_2
          try clear hx423_0
          try clear hx424_0
          try clear p2
          try clear p4
          try clear p423
          try clear p424
          try clear q4
          try clear q423
          try clear q424
          obtain ⟨kq, x41_25, rfl, HA, HJ25, BK419, BK420, BK421, BK422, HB⟩ := hcut
          cases kq with
          | zero => exact absurd HA.out (by simp [spec_l20Count.j2])
          | succ kj25 =>
           have H := HA.out
           clear HA
           simp only [spec_l20Count.j2] at H
           by_cases c28 : x41_25 = true
           ·subst c28
            rw [if_pos rfl] at H
            focus
             have H' := Aside0.mk H
             clear H
             have hnb29 := NB422_419.out
             have hnc29 := NB419_422.out
             have hnb30 := NB422_420.out
             have hnc30 := NB420_422.out
             have hnb31 := NB422_421.out
             have hnc31 := NB421_422.out
             have hcz32_0 : wc.cell? ⟨gb422, 0, none⟩ = some (.int .i64 x423000_1) := (blk_cell BK422.out 0).trans rfl
             have hcz32_1 : wc.cell? ⟨gb422, 1, none⟩ = some (.int .i64 x423001_1) := (blk_cell BK422.out 1).trans rfl
             have hcz32_2 : wc.cell? ⟨gb422, 2, none⟩ = some (.int .i64 x423002_1) := (blk_cell BK422.out 2).trans rfl
             have hcz32_3 : wc.cell? ⟨gb422, 3, none⟩ = some (.int .i64 x423003_1) := (blk_cell BK422.out 3).trans rfl
             have hfz32_0 := blk_frozen BK422.out 0
             have hfz32_1 := blk_frozen BK422.out 1
             have hfz32_2 := blk_frozen BK422.out 2
             have hfz32_3 := blk_frozen BK422.out 3
             go_wp2
             repeat (go_quiet (fail); try go_wp2)
             go_roundg kj25
             case measure => have := HK1.out; have := HJ15.out; have := HJ25.out; omega
             case rel => exact ⟨(wrap64 (x10_1 + 1)), (wrap64 (x423000_1 + 1)), (x423001_1), (x423002_1), (x423003_1), zrx, H', ⟨by have := HK1.out; have := HJ15.out; have := HJ25.out; omega⟩, ⟨zbp BK419.out⟩, ⟨zbp BK420.out⟩, ⟨zbp BK421.out⟩, ⟨zbp BK422.out⟩, ⟨zhB HB.out⟩⟩
           ·replace c28 := Bool.eq_false_iff.mpr c28
            subst c28
            rw [if_neg (show ¬ (false = true) by decide)] at H
            by_cases c33 : (rd l1_2 x10_1) > a3
            ·rw [if_pos c33] at H
             have c33b0 : decide (a3 < (rd l1_2 x10_1)) = true := decide_eq_true c33
             clear c33
             focus
              have H' := Aside0.mk H
              clear H
              have hnb34 := NB422_419.out
              have hnc34 := NB419_422.out
              have hnb35 := NB422_420.out
              have hnc35 := NB420_422.out
              have hnb36 := NB422_421.out
              have hnc36 := NB421_422.out
              have hcz37_0 : wc.cell? ⟨gb422, 0, none⟩ = some (.int .i64 x423000_1) := (blk_cell BK422.out 0).trans rfl
              have hcz37_1 : wc.cell? ⟨gb422, 1, none⟩ = some (.int .i64 x423001_1) := (blk_cell BK422.out 1).trans rfl
              have hcz37_2 : wc.cell? ⟨gb422, 2, none⟩ = some (.int .i64 x423002_1) := (blk_cell BK422.out 2).trans rfl
              have hcz37_3 : wc.cell? ⟨gb422, 3, none⟩ = some (.int .i64 x423003_1) := (blk_cell BK422.out 3).trans rfl
              have hfz37_0 := blk_frozen BK422.out 0
              have hfz37_1 := blk_frozen BK422.out 1
              have hfz37_2 := blk_frozen BK422.out 2
              have hfz37_3 := blk_frozen BK422.out 3
              go_wp2
              repeat (go_quiet (fail); try go_wp2)
              go_roundg kj25
              case measure => have := HK1.out; have := HJ15.out; have := HJ25.out; omega
              case rel => exact ⟨(wrap64 (x10_1 + 1)), (x423000_1), (wrap64 (x423001_1 + 1)), (x423002_1), (x423003_1), zrx, H', ⟨by have := HK1.out; have := HJ15.out; have := HJ25.out; omega⟩, ⟨zbp BK419.out⟩, ⟨zbp BK420.out⟩, ⟨zbp BK421.out⟩, ⟨zbp BK422.out⟩, ⟨zhB HB.out⟩⟩
            ·rw [if_neg c33] at H
             have c33b0 : decide (a3 < (rd l1_2 x10_1)) = false := decide_eq_false c33
             clear c33
             by_cases c38 : (rd l0_2 x10_1) > a2
             ·rw [if_pos c38] at H
              have c38b0 : decide (a2 < (rd l0_2 x10_1)) = true := decide_eq_true c38
              clear c38
              focus
               have H' := Aside0.mk H
               clear H
               have hnb39 := NB422_419.out
               have hnc39 := NB419_422.out
               have hnb40 := NB422_420.out
               have hnc40 := NB420_422.out
               have hnb41 := NB422_421.out
               have hnc41 := NB421_422.out
               have hcz42_0 : wc.cell? ⟨gb422, 0, none⟩ = some (.int .i64 x423000_1) := (blk_cell BK422.out 0).trans rfl
               have hcz42_1 : wc.cell? ⟨gb422, 1, none⟩ = some (.int .i64 x423001_1) := (blk_cell BK422.out 1).trans rfl
               have hcz42_2 : wc.cell? ⟨gb422, 2, none⟩ = some (.int .i64 x423002_1) := (blk_cell BK422.out 2).trans rfl
               have hcz42_3 : wc.cell? ⟨gb422, 3, none⟩ = some (.int .i64 x423003_1) := (blk_cell BK422.out 3).trans rfl
               have hfz42_0 := blk_frozen BK422.out 0
               have hfz42_1 := blk_frozen BK422.out 1
               have hfz42_2 := blk_frozen BK422.out 2
               have hfz42_3 := blk_frozen BK422.out 3
               go_wp2
               repeat (go_quiet (fail); try go_wp2)
               go_roundg kj25
               case measure => have := HK1.out; have := HJ15.out; have := HJ25.out; omega
               case rel => exact ⟨(wrap64 (x10_1 + 1)), (x423000_1), (x423001_1), (wrap64 (x423002_1 + 1)), (x423003_1), zrx, H', ⟨by have := HK1.out; have := HJ15.out; have := HJ25.out; omega⟩, ⟨zbp BK419.out⟩, ⟨zbp BK420.out⟩, ⟨zbp BK421.out⟩, ⟨zbp BK422.out⟩, ⟨zhB HB.out⟩⟩
             ·rw [if_neg c38] at H
              have c38b0 : decide (a2 < (rd l0_2 x10_1)) = false := decide_eq_false c38
              clear c38
              focus
               have H' := Aside0.mk H
               clear H
               have hnb43 := NB422_419.out
               have hnc43 := NB419_422.out
               have hnb44 := NB422_420.out
               have hnc44 := NB420_422.out
               have hnb45 := NB422_421.out
               have hnc45 := NB421_422.out
               have hcz46_0 : wc.cell? ⟨gb422, 0, none⟩ = some (.int .i64 x423000_1) := (blk_cell BK422.out 0).trans rfl
               have hcz46_1 : wc.cell? ⟨gb422, 1, none⟩ = some (.int .i64 x423001_1) := (blk_cell BK422.out 1).trans rfl
               have hcz46_2 : wc.cell? ⟨gb422, 2, none⟩ = some (.int .i64 x423002_1) := (blk_cell BK422.out 2).trans rfl
               have hcz46_3 : wc.cell? ⟨gb422, 3, none⟩ = some (.int .i64 x423003_1) := (blk_cell BK422.out 3).trans rfl
               have hfz46_0 := blk_frozen BK422.out 0
               have hfz46_1 := blk_frozen BK422.out 1
               have hfz46_2 := blk_frozen BK422.out 2
               have hfz46_3 := blk_frozen BK422.out 3
               go_wp2
               repeat (go_quiet (fail); try go_wp2)
               go_roundg kj25
               case measure => have := HK1.out; have := HJ15.out; have := HJ25.out; omega
               case rel => exact ⟨(wrap64 (x10_1 + 1)), (x423000_1), (x423001_1), (x423002_1), (wrap64 (x423003_1 + 1)), zrx, H', ⟨by have := HK1.out; have := HJ15.out; have := HJ25.out; omega⟩, ⟨zbp BK419.out⟩, ⟨zbp BK420.out⟩, ⟨zbp BK421.out⟩, ⟨zbp BK422.out⟩, ⟨zhB HB.out⟩⟩
     ·rw [if_neg c15] at H
      exact absurd H (by simp)
    ·rw [if_neg c14] at H
     exact absurd H (by simp)
   ·rw [if_neg c13] at H
    have c13b0 : decide (x10_1 < (l0_2.length : Int)) = false := decide_eq_false c13
    clear c13
    focus
     simp only [Option.some.injEq, Prod.mk.injEq] at H
     obtain ⟨rfl, rfl, rfl, rfl⟩ := H
     have hnb47 := NB419_420.out
     have hnc47 := NB420_419.out
     have hnb48 := NB419_421.out
     have hnc48 := NB421_419.out
     have hnb49 := NB419_422.out
     have hnc49 := NB422_419.out
     have hcz50_0 : wr.cell? ⟨gb419, 0, none⟩ = some (.int .i64 a0_0) := (blk_cell BK419.out 0).trans rfl
     have hcz50_1 : wr.cell? ⟨gb419, 1, none⟩ = some (.int .i64 a0_1) := (blk_cell BK419.out 1).trans rfl
     have hcz50_2 : wr.cell? ⟨gb419, 2, none⟩ = some (.slice A0_2 l0_2.length c0_2) := (blk_cell BK419.out 2).trans rfl
     have hfz50_0 := blk_frozen BK419.out 0
     have hfz50_1 := blk_frozen BK419.out 1
     have hfz50_2 := blk_frozen BK419.out 2
     have hnb51 := NB422_420.out
     have hnc51 := NB420_422.out
     have hnb52 := NB422_421.out
     have hnc52 := NB421_422.out
     have hcz53_0 : wr.cell? ⟨gb422, 0, none⟩ = some (.int .i64 x423000_1) := (blk_cell BK422.out 0).trans rfl
     have hcz53_1 : wr.cell? ⟨gb422, 1, none⟩ = some (.int .i64 x423001_1) := (blk_cell BK422.out 1).trans rfl
     have hcz53_2 : wr.cell? ⟨gb422, 2, none⟩ = some (.int .i64 x423002_1) := (blk_cell BK422.out 2).trans rfl
     have hcz53_3 : wr.cell? ⟨gb422, 3, none⟩ = some (.int .i64 x423003_1) := (blk_cell BK422.out 3).trans rfl
     have hfz53_0 := blk_frozen BK422.out 0
     have hfz53_1 := blk_frozen BK422.out 1
     have hfz53_2 := blk_frozen BK422.out 2
     have hfz53_3 := blk_frozen BK422.out 3
     have hnb54 := NB421_420.out
     have hnc54 := NB420_421.out
     have hcz55_0 : wr.cell? ⟨gb421, 0, none⟩ = some (.int .i64 0) := (blk_cell BK421.out 0).trans rfl
     have hcz55_1 : wr.cell? ⟨gb421, 1, none⟩ = some (.int .i64 0) := (blk_cell BK421.out 1).trans rfl
     have hcz55_2 : wr.cell? ⟨gb421, 2, none⟩ = some (.int .i64 0) := (blk_cell BK421.out 2).trans rfl
     have hcz55_3 : wr.cell? ⟨gb421, 3, none⟩ = some (.int .i64 0) := (blk_cell BK421.out 3).trans rfl
     have hfz55_0 := blk_frozen BK421.out 0
     have hfz55_1 := blk_frozen BK421.out 1
     have hfz55_2 := blk_frozen BK421.out 2
     have hfz55_3 := blk_frozen BK421.out 3
     go_wp2
     repeat (go_quiet (fail); try go_wp2)
     refine bodyPost_ret (results_cell_row rfl _ _ gb421 30 #[.int .i64 x423000_1, .int .i64 x423001_1, .int .i64 x423002_1, .int .i64 x423003_1] (0, 0) _ rfl (zbp BK421.out) Try.underlying30 rfl (by kernel_rfl)) rfl ?_
     exact ⟨by first | rfl | (simp [errW_none, errW_some] <;> rfl) | (simp [*, errW_none, errW_some] <;> rfl), zhB HB.out⟩

/-! ### spec_l20Less: function 48 -/
def spec_l20Less.f (a0_0 : Int) (a0_1 : Int) (a1_0 : Int) (a1_1 : Int) : Option (Bool) := some (decide ((wrap64 (a0_0 * a1_1)) < (wrap64 (a1_0 * a0_1))))
set_option maxHeartbeats 8000000 in
set_option maxRecDepth 100000 in
theorem spec_l20Less.calls (a0_0 : Int) (a0_1 : Int) (a1_0 : Int) (a1_1 : Int) (r : Bool) (w : World) (h : spec_l20Less.f a0_0 a0_1 a1_0 a1_1 = some r) :
 Calls Try.prog 48 #[.agg #[.int .i64 a0_0, .int .i64 a0_1], .agg #[.int .i64 a1_0, .int .i64 a1_1]] w fun e w' => e = .returned (.bool r) ∧ Below w.heap.size w w' := by
 have hu37 := Try.underlying37
 have HB := Aside0.mk (Below.refl w.heap.size w)
 have H : (some (decide ((wrap64 (a0_0 * a1_1)) < (wrap64 (a1_0 * a0_1))))) = some r := h
 clear h
 focus
  obtain rfl := Option.some.inj H
  go_enter Try.func48, Try.ntmps48
  go_wp2_with (first | ((with_reducible refine gate_dst (N := 2) rfl ?_); refine box_event ?hg (N := 2) ?hd (cs := #[.int .i64 a0_0, .int .i64 a0_1]) (t := 37) ?hr ?_; (case hd => rfl); (case hg => rfl); (case hr => exact zsx); intro gb425 hg w3 hbox hb; have BK425 := Aside0.mk (hbox); have GW425 := zns hg HB.out; have GE425 := zns hg HB.out; replace HB := Aside0.mk (below_step (zBx HB.out) hb); clear hb hbox hg) | ((with_reducible refine gate_dst (N := 3) rfl ?_); refine box_event ?hg (N := 3) ?hd (cs := #[.int .i64 a1_0, .int .i64 a1_1]) (t := 37) ?hr ?_; (case hd => rfl); (case hg => rfl); (case hr => exact zsx); intro gb426 hg w4 hbox hb; have BK426 := Aside0.mk (hbox); have GW426 := zns hg HB.out; have GE426 := zns hg HB.out; replace HB := Aside0.mk (below_step (zBy HB.out GE425.out) hb); have NB425_426 := znl hg BK425.out; have NB426_425 := zng hg BK425.out; replace BK425 := zbl BK425.out hb; clear hb hbox hg; have hnb5 := NB425_426.out; have hnc5 := NB426_425.out; have hcz6_0 : w4.cell? ⟨gb425, 0, none⟩ = some (.int .i64 a0_0) := (blk_cell BK425.out 0).trans rfl; have hcz6_1 : w4.cell? ⟨gb425, 1, none⟩ = some (.int .i64 a0_1) := (blk_cell BK425.out 1).trans rfl; have hfz6_0 := blk_frozen BK425.out 0; have hfz6_1 := blk_frozen BK425.out 1; have hcz7_0 : w4.cell? ⟨gb426, 0, none⟩ = some (.int .i64 a1_0) := (blk_cell BK426.out 0).trans rfl; have hcz7_1 : w4.cell? ⟨gb426, 1, none⟩ = some (.int .i64 a1_1) := (blk_cell BK426.out 1).trans rfl; have hfz7_0 := blk_frozen BK426.out 0; have hfz7_1 := blk_frozen BK426.out 1))
  go_ret
  exact ⟨by first | rfl | (simp [errW_none, errW_some] <;> rfl) | (simp [*, errW_none, errW_some] <;> rfl), by exact zBz HB.out GE425.out GE426.out⟩

end Go.Proofs.Ytddgbaohepfekaa.XFnLimits
