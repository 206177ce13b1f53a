-- written by wip/tools/xprint.py (a program of this project) out of the translation
import Derived.Test.YtddgbaohepfekaaXFnScoresx0
import Derived.Test.YtddgbaohepfekaaXFnScoresx10
namespace Go.Proofs.Ytddgbaohepfekaa.XFnScores
open Go.RowKit Go.Proofs.YtddgbaohepfekaaW.PrintWords Go.Proofs.YtddgbaohepfekaaW.PrintLast Go.Proofs.YtddgbaohepfekaaW.PrintMore
attribute [local go_sem] max2_int min2_int max_two min_two max_three min_three max_four min_four   -- for this text's walks alone
set_option linter.unusedVariables false
set_option linter.unusedSimpArgs false

/-! ### spec_l20Count: function 37 -/
mutual
def spec_l20Count.l0 : Nat → Int → Int → Int → Int → Int → List Int → Int → Int → List Int → Int → Int → Int → Int → Option (Int × Int × Int × Int)
 | 0, _, _, _, _, _, _, _, _, _, _, _, _, _ => none
 | k + 1, x2, x3, x10, x307000, x307001, x307002, x308000, x308001, x308002, x310000, x310001, x310002, x310003 => if x10 < (x307002.length : Int) then (if 0 ≤ x10 then (if x10 < (x308002.length : Int) then (if (rd x307002 x10) = (-9999) then (spec_l20Count.j1 k x2 x3 x10 (rd x307002 x10) (rd x308002 x10) true x307000 x307001 x307002 x308000 x308001 x308002 x310000 x310001 x310002 x310003) else (spec_l20Count.j1 k x2 x3 x10 (rd x307002 x10) (rd x308002 x10) ((rd x308002 x10) == (-9999)) x307000 x307001 x307002 x308000 x308001 x308002 x310000 x310001 x310002 x310003)) else (none)) else (none)) else (some (x310000, x310001, x310002, x310003))
def spec_l20Count.j1 : Nat → Int → Int → Int → Int → Int → Bool → Int → Int → List Int → Int → Int → List Int → Int → Int → Int → Int → Option (Int × Int × Int × Int)
 | 0, _, _, _, _, _, _, _, _, _, _, _, _, _, _, _, _ => none
 | k + 1, x2, x3, x10, x11, x12, x36, x307000, x307001, x307002, x308000, x308001, x308002, x310000, x310001, x310002, x310003 => if x36 = true then (spec_l20Count.l0 k x2 x3 (wrap64 (x10 + 1)) x307000 x307001 x307002 x308000 x308001 x308002 x310000 x310001 x310002 x310003) else (if x11 > x2 then (spec_l20Count.j2 k x2 x3 x10 x11 x12 (decide (x12 > x3)) x307000 x307001 x307002 x308000 x308001 x308002 x310000 x310001 x310002 x310003) else (spec_l20Count.j2 k x2 x3 x10 x11 x12 false x307000 x307001 x307002 x308000 x308001 x308002 x310000 x310001 x310002 x310003))
def spec_l20Count.j2 : Nat → Int → Int → Int → Int → Int → Bool → Int → Int → List Int → Int → Int → List Int → Int → Int → Int → Int → Option (Int × Int × Int × Int)
 | 0, _, _, _, _, _, _, _, _, _, _, _, _, _, _, _, _ => none
 | k + 1, x2, x3, x10, x11, x12, x41, x307000, x307001, x307002, x308000, x308001, x308002, x310000, x310001, x310002, x310003 => if x41 = true then (spec_l20Count.l0 k x2 x3 (wrap64 (x10 + 1)) x307000 x307001 x307002 x308000 x308001 x308002 (wrap64 (x310000 + 1)) x310001 x310002 x310003) else (if x12 > x3 then (spec_l20Count.l0 k x2 x3 (wrap64 (x10 + 1)) x307000 x307001 x307002 x308000 x308001 x308002 x310000 (wrap64 (x310001 + 1)) x310002 x310003) else (if x11 > x2 then (spec_l20Count.l0 k x2 x3 (wrap64 (x10 + 1)) x307000 x307001 x307002 x308000 x308001 x308002 x310000 x310001 (wrap64 (x310002 + 1)) x310003) else (spec_l20Count.l0 k x2 x3 (wrap64 (x10 + 1)) x307000 x307001 x307002 x308000 x308001 x308002 x310000 x310001 x310002 (wrap64 (x310003 + 1)))))
end
def spec_l20Count.f (k : Nat) (a0_0 : Int) (a0_1 : Int) (l0_2 : List Int) (a1_0 : Int) (a1_1 : Int) (l1_2 : List Int) (a2 : Int) (a3 : Int) : Option (Int × Int × Int × Int) := spec_l20Count.l0 k a2 a3 0 a0_0 a0_1 l0_2 a1_0 a1_1 l1_2 0 0 0 0
theorem spec_l20Count.mono_l : ∀ k, (∀ y0 y1 y2 y3 y4 y5 y6 y7 y8 y9 y10 y11 y12, LeO (spec_l20Count.l0 k y0 y1 y2 y3 y4 y5 y6 y7 y8 y9 y10 y11 y12) (spec_l20Count.l0 (k + 1) y0 y1 y2 y3 y4 y5 y6 y7 y8 y9 y10 y11 y12)) ∧ (∀ y0 y1 y2 y3 y4 y5 y6 y7 y8 y9 y10 y11 y12 y13 y14 y15, LeO (spec_l20Count.j1 k y0 y1 y2 y3 y4 y5 y6 y7 y8 y9 y10 y11 y12 y13 y14 y15) (spec_l20Count.j1 (k + 1) y0 y1 y2 y3 y4 y5 y6 y7 y8 y9 y10 y11 y12 y13 y14 y15)) ∧ (∀ y0 y1 y2 y3 y4 y5 y6 y7 y8 y9 y10 y11 y12 y13 y14 y15, LeO (spec_l20Count.j2 k y0 y1 y2 y3 y4 y5 y6 y7 y8 y9 y10 y11 y12 y13 y14 y15) (spec_l20Count.j2 (k + 1) y0 y1 y2 y3 y4 y5 y6 y7 y8 y9 y10 y11 y12 y13 y14 y15))
 | 0 => ⟨fun _ _ _ _ _ _ _ _ _ _ _ _ _ r h => by simp [spec_l20Count.l0] at h, fun _ _ _ _ _ _ _ _ _ _ _ _ _ _ _ _ r h => by simp [spec_l20Count.j1] at h, fun _ _ _ _ _ _ _ _ _ _ _ _ _ _ _ _ r h => by simp [spec_l20Count.j2] at h⟩
 | k + 1 => by
  obtain ⟨ih0, ih1, ih2⟩ := spec_l20Count.mono_l k
  refine ⟨?_, ?_, ?_⟩
  ·intro y0 y1 y2 y3 y4 y5 y6 y7 y8 y9 y10 y11 y12
   unfold spec_l20Count.l0
   repeat' first
   | (with_reducible exact ih0 _ _ _ _ _ _ _ _ _ _ _ _ _)
   | (with_reducible exact ih1 _ _ _ _ _ _ _ _ _ _ _ _ _ _ _ _)
   | (with_reducible exact ih2 _ _ _ _ _ _ _ _ _ _ _ _ _ _ _ _)
   | (with_reducible exact LeO.refl _)
   | (with_reducible exact LeO.none _)
   | (with_reducible refine LeO.ite ?_ ?_)
   | (with_reducible refine LeO.bind ?_ (fun _ => ?_))
   | exact ih0 _ _ _ _ _ _ _ _ _ _ _ _ _
   | exact ih1 _ _ _ _ _ _ _ _ _ _ _ _ _ _ _ _
   | exact ih2 _ _ _ _ _ _ _ _ _ _ _ _ _ _ _ _
   | exact LeO.none _
   | refine LeO.ite ?_ ?_
   | refine LeO.bind ?_ (fun _ => ?_)
  ·intro y0 y1 y2 y3 y4 y5 y6 y7 y8 y9 y10 y11 y12 y13 y14 y15
   unfold spec_l20Count.j1
   repeat' first
   | (with_reducible exact ih0 _ _ _ _ _ _ _ _ _ _ _ _ _)
   | (with_reducible exact ih1 _ _ _ _ _ _ _ _ _ _ _ _ _ _ _ _)
   | (with_reducible exact ih2 _ _ _ _ _ _ _ _ _ _ _ _ _ _ _ _)
   | (with_reducible exact LeO.refl _)
   | (with_reducible exact LeO.none _)
   | (with_reducible refine LeO.ite ?_ ?_)
   | (with_reducible refine LeO.bind ?_ (fun _ => ?_))
   | exact ih0 _ _ _ _ _ _ _ _ _ _ _ _ _
   | exact ih1 _ _ _ _ _ _ _ _ _ _ _ _ _ _ _ _
   | exact ih2 _ _ _ _ _ _ _ _ _ _ _ _ _ _ _ _
   | exact LeO.none _
   | refine LeO.ite ?_ ?_
   | refine LeO.bind ?_ (fun _ => ?_)
  ·intro y0 y1 y2 y3 y4 y5 y6 y7 y8 y9 y10 y11 y12 y13 y14 y15
   unfold spec_l20Count.j2
   repeat' first
   | (with_reducible exact ih0 _ _ _ _ _ _ _ _ _ _ _ _ _)
   | (with_reducible exact ih1 _ _ _ _ _ _ _ _ _ _ _ _ _ _ _ _)
   | (with_reducible exact ih2 _ _ _ _ _ _ _ _ _ _ _ _ _ _ _ _)
   | (with_reducible exact LeO.refl _)
   | (with_reducible exact LeO.none _)
   | (with_reducible refine LeO.ite ?_ ?_)
   | (with_reducible refine LeO.bind ?_ (fun _ => ?_))
   | exact ih0 _ _ _ _ _ _ _ _ _ _ _ _ _
   | exact ih1 _ _ _ _ _ _ _ _ _ _ _ _ _ _ _ _
   | exact ih2 _ _ _ _ _ _ _ _ _ _ _ _ _ _ _ _
   | exact LeO.none _
   | refine LeO.ite ?_ ?_
   | refine LeO.bind ?_ (fun _ => ?_)
theorem spec_l20Count.mono : ∀ a0 a1 a2 a3 a4 a5 a6 a7 k, LeO (spec_l20Count.f k a0 a1 a2 a3 a4 a5 a6 a7) (spec_l20Count.f (k + 1) a0 a1 a2 a3 a4 a5 a6 a7) := by
 intro a0 a1 a2 a3 a4 a5 a6 a7 k
 obtain ⟨ih0, ih1, ih2⟩ := spec_l20Count.mono_l k
 unfold spec_l20Count.f
 repeat' first
  | (with_reducible exact ih0 _ _ _ _ _ _ _ _ _ _ _ _ _)
  | (with_reducible exact ih1 _ _ _ _ _ _ _ _ _ _ _ _ _ _ _ _)
  | (with_reducible exact ih2 _ _ _ _ _ _ _ _ _ _ _ _ _ _ _ _)
  | (with_reducible exact LeO.refl _)
  | (with_reducible exact LeO.none _)
  | (with_reducible refine LeO.ite ?_ ?_)
  | (with_reducible refine LeO.bind ?_ (fun _ => ?_))
  | exact ih0 _ _ _ _ _ _ _ _ _ _ _ _ _
  | exact ih1 _ _ _ _ _ _ _ _ _ _ _ _ _ _ _ _
  | exact ih2 _ _ _ _ _ _ _ _ _ _ _ _ _ _ _ _
  | exact LeO.none _
  | refine LeO.ite ?_ ?_
  | refine LeO.bind ?_ (fun _ => ?_)
set_option maxHeartbeats 8000000 in
set_option maxRecDepth 100000 in
theorem spec_l20Count.calls (k : Nat) (a0_0 : Int) (a0_1 : Int) (A0_2 : Option Addr) (c0_2 : Nat) (l0_2 : List Int) (a1_0 : Int) (a1_1 : Int) (A1_2 : Option Addr) (c1_2 : Nat) (l1_2 : List Int) (a2 : Int) (a3 : Int) (r1 : Int) (r2 : Int) (r3 : Int) (r4 : Int) (w : World) (hr0_2 : Kd.C (Kd.int .i64) w A0_2 l0_2.length l0_2) (hc0_2 : l0_2.length ≤ c0_2) (hr1_2 : Kd.C (Kd.int .i64) w A1_2 l1_2.length l1_2) (hc1_2 : l1_2.length ≤ c1_2) (h : spec_l20Count.f k a0_0 a0_1 l0_2 a1_0 a1_1 l1_2 a2 a3 = some (r1, r2, r3, r4)) :
 Calls Try.prog 37 #[.agg #[.int .i64 a0_0, .int .i64 a0_1, .slice A0_2 l0_2.length c0_2], .agg #[.int .i64 a1_0, .int .i64 a1_1, .slice A1_2 l1_2.length c1_2], .int .i64 a2, .int .i64 a3] w fun e w' => e = .returned (.agg #[.int .i64 r1, .int .i64 r2, .int .i64 r3, .int .i64 r4]) ∧ Below w.heap.size w w' := by
 have hu26 := Try.underlying26
 have hu30 := Try.underlying30
 have HR0_2 := Aside0.mk hr0_2
 have HC0_2 := Aside0.mk hc0_2
 clear hr0_2 hc0_2
 have HR1_2 := Aside0.mk hr1_2
 have HC1_2 := Aside0.mk hc1_2
 clear hr1_2 hc1_2
 have HB := Aside0.mk (Below.refl w.heap.size w)
 have H : (spec_l20Count.l0 k a2 a3 0 a0_0 a0_1 l0_2 a1_0 a1_1 l1_2 0 0 0 0) = some (r1, r2, r3, r4) := h
 clear h
 have H' := Aside0.mk H
 clear H
 go_enter Try.func37, Try.ntmps37
 go_wp2_with (first | ((with_reducible refine gate_dst (N := 4) rfl ?_); refine box_event ?hg (N := 4) ?hd (cs := #[.int .i64 a0_0, .int .i64 a0_1, .slice A0_2 l0_2.length c0_2]) (t := 26) ?hr ?_; (case hd => rfl); (case hg => rfl); (case hr => exact zsx); intro gb306 hg w5 hbox hb; have BK306 := Aside0.mk (hbox); have GW306 := zns hg HB.out; have GE306 := zns hg HB.out; replace HB := Aside0.mk (below_step (zBx HB.out) hb); clear hb hbox hg) | ((with_reducible refine gate_dst (N := 5) rfl ?_); refine box_event ?hg (N := 5) ?hd (cs := #[.int .i64 a1_0, .int .i64 a1_1, .slice A1_2 l1_2.length c1_2]) (t := 26) ?hr ?_; (case hd => rfl); (case hg => rfl); (case hr => exact zsx); intro gb307 hg w6 hbox hb; have BK307 := Aside0.mk (hbox); have GW307 := zns hg HB.out; have GE307 := zns hg HB.out; replace HB := Aside0.mk (below_step (zBy HB.out GE306.out) hb); have NB306_307 := znl hg BK306.out; have NB307_306 := zng hg BK306.out; replace BK306 := zbl BK306.out hb; clear hb hbox hg) | ((with_reducible refine gate_dst (N := 8) rfl ?_); refine box_event ?hg (N := 8) ?hd (cs := #[.int .i64 0, .int .i64 0, .int .i64 0, .int .i64 0]) (t := 30) ?hr ?_; (case hd => rfl); (case hg => rfl); (case hr => exact zsx); intro gb308 hg w7 hbox hb; have BK308 := Aside0.mk (hbox); have GW308 := zns hg HB.out; have GE308 := zns hg HB.out; replace HB := Aside0.mk (below_step (zBz HB.out GE306.out GE307.out) hb); have NB306_308 := znl hg BK306.out; have NB308_306 := zng hg BK306.out; replace BK306 := zbl BK306.out hb; have NB307_308 := znl hg BK307.out; have NB308_307 := zng hg BK307.out; replace BK307 := zbl BK307.out hb; clear hb hbox hg) | ((with_reducible refine gate_dst (N := 9) rfl ?_); refine box_event ?hg (N := 9) ?hd (cs := #[.int .i64 0, .int .i64 0, .int .i64 0, .int .i64 0]) (t := 30) ?hr ?_; (case hd => rfl); (case hg => rfl); (case hr => exact zsx); intro gb309 hg w8 hbox hb; have BK309 := Aside0.mk (hbox); have GW309 := zns hg HB.out; have GE309 := zns hg HB.out; replace HB := Aside0.mk (below_step (zhB HB.out) hb); have NB306_309 := znl hg BK306.out; have NB309_306 := zng hg BK306.out; replace BK306 := zbl BK306.out hb; have NB307_309 := znl hg BK307.out; have NB309_307 := zng hg BK307.out; replace BK307 := zbl BK307.out hb; have NB308_309 := znl hg BK308.out; have NB309_308 := zng hg BK308.out; replace BK308 := zbl BK308.out hb; clear hb hbox hg; have hnb9 := NB309_306.out; have hnc9 := NB306_309.out; have hnb10 := NB309_307.out; have hnc10 := NB307_309.out; have hnb11 := NB309_308.out; have hnc11 := NB308_309.out; have hcz12_0 : w8.cell? ⟨gb309, 0, none⟩ = some (.int .i64 0) := (blk_cell BK309.out 0).trans rfl; have hcz12_1 : w8.cell? ⟨gb309, 1, none⟩ = some (.int .i64 0) := (blk_cell BK309.out 1).trans rfl; have hcz12_2 : w8.cell? ⟨gb309, 2, none⟩ = some (.int .i64 0) := (blk_cell BK309.out 2).trans rfl; have hcz12_3 : w8.cell? ⟨gb309, 3, none⟩ = some (.int .i64 0) := (blk_cell BK309.out 3).trans rfl; have hfz12_0 := blk_frozen BK309.out 0; have hfz12_1 := blk_frozen BK309.out 1; have hfz12_2 := blk_frozen BK309.out 2; have hfz12_3 := blk_frozen BK309.out 3))
 repeat (go_quiet (first | ((with_reducible refine gate_dst (N := 4) rfl ?_); refine box_event ?hg (N := 4) ?hd (cs := #[.int .i64 a0_0, .int .i64 a0_1, .slice A0_2 l0_2.length c0_2]) (t := 26) ?hr ?_; (case hd => rfl); (case hg => rfl); (case hr => exact zsx); intro gb306 hg w5 hbox hb; have BK306 := Aside0.mk (hbox); have GW306 := zns hg HB.out; have GE306 := zns hg HB.out; replace HB := Aside0.mk (below_step (zBx HB.out) hb); clear hb hbox hg) | ((with_reducible refine gate_dst (N := 5) rfl ?_); refine box_event ?hg (N := 5) ?hd (cs := #[.int .i64 a1_0, .int .i64 a1_1, .slice A1_2 l1_2.length c1_2]) (t := 26) ?hr ?_; (case hd => rfl); (case hg => rfl); (case hr => exact zsx); intro gb307 hg w6 hbox hb; have BK307 := Aside0.mk (hbox); have GW307 := zns hg HB.out; have GE307 := zns hg HB.out; replace HB := Aside0.mk (below_step (zBy HB.out GE306.out) hb); have NB306_307 := znl hg BK306.out; have NB307_306 := zng hg BK306.out; replace BK306 := zbl BK306.out hb; clear hb hbox hg) | ((with_reducible refine gate_dst (N := 8) rfl ?_); refine box_event ?hg (N := 8) ?hd (cs := #[.int .i64 0, .int .i64 0, .int .i64 0, .int .i64 0]) (t := 30) ?hr ?_; (case hd => rfl); (case hg => rfl); (case hr => exact zsx); intro gb308 hg w7 hbox hb; have BK308 := Aside0.mk (hbox); have GW308 := zns hg HB.out; have GE308 := zns hg HB.out; replace HB := Aside0.mk (below_step (zBz HB.out GE306.out GE307.out) hb); have NB306_308 := znl hg BK306.out; have NB308_306 := zng hg BK306.out; replace BK306 := zbl BK306.out hb; have NB307_308 := znl hg BK307.out; have NB308_307 := zng hg BK307.out; replace BK307 := zbl BK307.out hb; clear hb hbox hg) | ((with_reducible refine gate_dst (N := 9) rfl ?_); refine box_event ?hg (N := 9) ?hd (cs := #[.int .i64 0, .int .i64 0, .int .i64 0, .int .i64 0]) (t := 30) ?hr ?_; (case hd => rfl); (case hg => rfl); (case hr => exact zsx); intro gb309 hg w8 hbox hb; have BK309 := Aside0.mk (hbox); have GW309 := zns hg HB.out; have GE309 := zns hg HB.out; replace HB := Aside0.mk (below_step (zhB HB.out) hb); have NB306_309 := znl hg BK306.out; have NB309_306 := zng hg BK306.out; replace BK306 := zbl BK306.out hb; have NB307_309 := znl hg BK307.out; have NB309_307 := zng hg BK307.out; replace BK307 := zbl BK307.out hb; have NB308_309 := znl hg BK308.out; have NB309_308 := zng hg BK308.out; replace BK308 := zbl BK308.out hb; clear hb hbox hg; have hnb9 := NB309_306.out; have hnc9 := NB306_309.out; have hnb10 := NB309_307.out; have hnc10 := NB307_309.out; have hnb11 := NB309_308.out; have hnc11 := NB308_309.out; have hcz12_0 : w8.cell? ⟨gb309, 0, none⟩ = some (.int .i64 0) := (blk_cell BK309.out 0).trans rfl; have hcz12_1 : w8.cell? ⟨gb309, 1, none⟩ = some (.int .i64 0) := (blk_cell BK309.out 1).trans rfl; have hcz12_2 : w8.cell? ⟨gb309, 2, none⟩ = some (.int .i64 0) := (blk_cell BK309.out 2).trans rfl; have hcz12_3 : w8.cell? ⟨gb309, 3, none⟩ = some (.int .i64 0) := (blk_cell BK309.out 3).trans rfl; have hfz12_0 := blk_frozen BK309.out 0; have hfz12_1 := blk_frozen BK309.out 1; have hfz12_2 := blk_frozen BK309.out 2; have hfz12_3 := blk_frozen BK309.out 3)); try go_wp2_with (first | ((with_reducible refine gate_dst (N := 4) rfl ?_); refine box_event ?hg (N := 4) ?hd (cs := #[.int .i64 a0_0, .int .i64 a0_1, .slice A0_2 l0_2.length c0_2]) (t := 26) ?hr ?_; (case hd => rfl); (case hg => rfl); (case hr => exact zsx); intro gb306 hg w5 hbox hb; have BK306 := Aside0.mk (hbox); have GW306 := zns hg HB.out; have GE306 := zns hg HB.out; replace HB := Aside0.mk (below_step (zBx HB.out) hb); clear hb hbox hg) | ((with_reducible refine gate_dst (N := 5) rfl ?_); refine box_event ?hg (N := 5) ?hd (cs := #[.int .i64 a1_0, .int .i64 a1_1, .slice A1_2 l1_2.length c1_2]) (t := 26) ?hr ?_; (case hd => rfl); (case hg => rfl); (case hr => exact zsx); intro gb307 hg w6 hbox hb; have BK307 := Aside0.mk (hbox); have GW307 := zns hg HB.out; have GE307 := zns hg HB.out; replace HB := Aside0.mk (below_step (zBy HB.out GE306.out) hb); have NB306_307 := znl hg BK306.out; have NB307_306 := zng hg BK306.out; replace BK306 := zbl BK306.out hb; clear hb hbox hg) | ((with_reducible refine gate_dst (N := 8) rfl ?_); refine box_event ?hg (N := 8) ?hd (cs := #[.int .i64 0, .int .i64 0, .int .i64 0, .int .i64 0]) (t := 30) ?hr ?_; (case hd => rfl); (case hg => rfl); (case hr => exact zsx); intro gb308 hg w7 hbox hb; have BK308 := Aside0.mk (hbox); have GW308 := zns hg HB.out; have GE308 := zns hg HB.out; replace HB := Aside0.mk (below_step (zBz HB.out GE306.out GE307.out) hb); have NB306_308 := znl hg BK306.out; have NB308_306 := zng hg BK306.out; replace BK306 := zbl BK306.out hb; have NB307_308 := znl hg BK307.out; have NB308_307 := zng hg BK307.out; replace BK307 := zbl BK307.out hb; clear hb hbox hg) | ((with_reducible refine gate_dst (N := 9) rfl ?_); refine box_event ?hg (N := 9) ?hd (cs := #[.int .i64 0, .int .i64 0, .int .i64 0, .int .i64 0]) (t := 30) ?hr ?_; (case hd => rfl); (case hg => rfl); (case hr => exact zsx); intro gb309 hg w8 hbox hb; have BK309 := Aside0.mk (hbox); have GW309 := zns hg HB.out; have GE309 := zns hg HB.out; replace HB := Aside0.mk (below_step (zhB HB.out) hb); have NB306_309 := znl hg BK306.out; have NB309_306 := zng hg BK306.out; replace BK306 := zbl BK306.out hb; have NB307_309 := znl hg BK307.out; have NB309_307 := zng hg BK307.out; replace BK307 := zbl BK307.out hb; have NB308_309 := znl hg BK308.out; have NB309_308 := zng hg BK308.out; replace BK308 := zbl BK308.out hb; clear hb hbox hg; have hnb9 := NB309_306.out; have hnc9 := NB306_309.out; have hnb10 := NB309_307.out; have hnc10 := NB307_309.out; have hnb11 := NB309_308.out; have hnc11 := NB308_309.out; have hcz12_0 : w8.cell? ⟨gb309, 0, none⟩ = some (.int .i64 0) := (blk_cell BK309.out 0).trans rfl; have hcz12_1 : w8.cell? ⟨gb309, 1, none⟩ = some (.int .i64 0) := (blk_cell BK309.out 1).trans rfl; have hcz12_2 : w8.cell? ⟨gb309, 2, none⟩ = some (.int .i64 0) := (blk_cell BK309.out 2).trans rfl; have hcz12_3 : w8.cell? ⟨gb309, 3, none⟩ = some (.int .i64 0) := (blk_cell BK309.out 3).trans rfl; have hfz12_0 := blk_frozen BK309.out 0; have hfz12_1 := blk_frozen BK309.out 1; have hfz12_2 := blk_frozen BK309.out 2; have hfz12_3 := blk_frozen BK309.out 3)))
 go_loopg [10] k (fun kq v10 w' => ∃ (x10_1 : Int) (x310000_1 : Int) (x310001_1 : Int) (x310002_1 : Int) (x310003_1 : Int), v10 = .int .i64 x10_1 ∧ Aside0 (spec_l20Count.l0 kq a2 a3 x10_1 a0_0 a0_1 l0_2 a1_0 a1_1 l1_2 x310000_1 x310001_1 x310002_1 x310003_1 = some (r1, r2, r3, r4)) ∧ Aside0 (kq ≤ k) ∧ Aside0 (w'.heap[gb306]? = some (.cells #[.int .i64 a0_0, .int .i64 a0_1, (.slice A0_2 l0_2.length c0_2)] 26 (0, 0))) ∧ Aside0 (w'.heap[gb307]? = some (.cells #[.int .i64 a1_0, .int .i64 a1_1, (.slice A1_2 l1_2.length c1_2)] 26 (0, 0))) ∧ Aside0 (w'.heap[gb308]? = some (.cells #[.int .i64 0, .int .i64 0, .int .i64 0, .int .i64 0] 30 (0, 0))) ∧ Aside0 (w'.heap[gb309]? = some (.cells #[.int .i64 x310000_1, .int .i64 x310001_1, .int .i64 x310002_1, .int .i64 x310003_1] 30 (0, 0))) ∧ Aside0 (Below w.heap.size w w'))
 case atStart => exact ⟨(0), (0), (0), (0), (0), zrx, H', ⟨Nat.le_refl _⟩, ⟨by refine zbx ?_; refine blk_far ?_ NB306_309.out _; refine zbx ?_; refine blk_far ?_ NB306_309.out _; refine zbx ?_; refine blk_far ?_ NB306_309.out _; refine zbx ?_; refine blk_far ?_ NB306_309.out _; refine zbx ?_; exact BK306.out⟩, ⟨by refine zbx ?_; refine blk_far ?_ NB307_309.out _; refine zbx ?_; refine blk_far ?_ NB307_309.out _; refine zbx ?_; refine blk_far ?_ NB307_309.out _; refine zbx ?_; refine blk_far ?_ NB307_309.out _; refine zbx ?_; exact BK307.out⟩, ⟨by refine zbx ?_; refine blk_far ?_ NB308_309.out _; refine zbx ?_; refine blk_far ?_ NB308_309.out _; refine zbx ?_; refine blk_far ?_ NB308_309.out _; refine zbx ?_; refine blk_far ?_ NB308_309.out _; refine zbx ?_; exact BK308.out⟩, ⟨by refine zbx ?_; refine blk_put (cs := #[.int .i64 0, .int .i64 0, .int .i64 0, .int .i64 0]) ?_ 3 _ rfl; refine zbx ?_; refine blk_put (cs := #[.int .i64 0, .int .i64 0, .int .i64 0, .int .i64 0]) ?_ 2 _ rfl; refine zbx ?_; refine blk_put (cs := #[.int .i64 0, .int .i64 0, .int .i64 0, .int .i64 0]) ?_ 1 _ rfl; refine zbx ?_; refine blk_put (cs := #[.int .i64 0, .int .i64 0, .int .i64 0, .int .i64 0]) ?_ 0 _ rfl; refine zbx ?_; exact BK309.out⟩, ⟨zhB HB.out⟩⟩
 case round =>
  clear H'
  try clear c1
  try clear p2
  try clear c3
  try clear c9
  try clear c10
  try clear c11
  try clear hcz12_0
  try clear hcz12_1
  try clear hcz12_2
  try clear hcz12_3
  try clear hfz12_0
  try clear hfz12_1
  try clear hfz12_2
  try clear hfz12_3
  obtain ⟨x10_1, x310000_1, x310001_1, x310002_1, x310003_1, rfl, HA, HK1, BK306, BK307, BK308, BK309, HB⟩ := hrel
  cases gk with
  | zero => exact absurd HA.out (by simp [spec_l20Count.l0])
  | succ k1 =>
   have H := HA.out
   clear HA
   simp only [spec_l20Count.l0] at H
   by_cases c13 : x10_1 < (l0_2.length : Int)
   ·rw [if_pos c13] at H
    have c13b0 : decide (x10_1 < (l0_2.length : Int)) = true := decide_eq_true c13
    clear c13
    by_cases c14 : 0 ≤ x10_1
    ·rw [if_pos c14] at H
     have c14b0 : decide (0 ≤ x10_1) = true := decide_eq_true c14
     clear c14
     by_cases c15 : x10_1 < (l1_2.length : Int)
     ·rw [if_pos c15] at H
      have c15b0 : decide (x10_1 < (l1_2.length : Int)) = true := decide_eq_true c15
      clear c15
      have HC16 := Aside0.mk H
      clear H
      have hnb17 := NB306_307.out
      have hnc17 := NB307_306.out
      have hnb18 := NB306_308.out
      have hnc18 := NB308_306.out
      have hnb19 := NB306_309.out
      have hnc19 := NB309_306.out
      have hcz20_0 : wr.cell? ⟨gb306, 0, none⟩ = some (.int .i64 a0_0) := (blk_cell BK306.out 0).trans rfl
      have hcz20_1 : wr.cell? ⟨gb306, 1, none⟩ = some (.int .i64 a0_1) := (blk_cell BK306.out 1).trans rfl
      have hcz20_2 : wr.cell? ⟨gb306, 2, none⟩ = some (.slice A0_2 l0_2.length c0_2) := (blk_cell BK306.out 2).trans rfl
      have hfz20_0 := blk_frozen BK306.out 0
      have hfz20_1 := blk_frozen BK306.out 1
      have hfz20_2 := blk_frozen BK306.out 2
      have p310 : 0 ≤ (x10_1 : Int) := of_decide_eq_true zax
      have q310 : x10_1 < (l0_2.length : Int) := of_decide_eq_true zax
      obtain ⟨ad310, e310, hx310_0⟩ := Kd.at_int HR0_2.out x10_1 p310 q310
      cases e310
      replace hx310_0 := (HB.out.cell (World.block_lt_of_cell? w _ hx310_0)).trans hx310_0
      replace p310 := eq_true p310
      replace q310 := eq_true q310
      have hnb21 := NB307_308.out
      have hnc21 := NB308_307.out
      have hnb22 := NB307_309.out
      have hnc22 := NB309_307.out
      have hcz23_0 : wr.cell? ⟨gb307, 0, none⟩ = some (.int .i64 a1_0) := (blk_cell BK307.out 0).trans rfl
      have hcz23_1 : wr.cell? ⟨gb307, 1, none⟩ = some (.int .i64 a1_1) := (blk_cell BK307.out 1).trans rfl
      have hcz23_2 : wr.cell? ⟨gb307, 2, none⟩ = some (.slice A1_2 l1_2.length c1_2) := (blk_cell BK307.out 2).trans rfl
      have hfz23_0 := blk_frozen BK307.out 0
      have hfz23_1 := blk_frozen BK307.out 1
      have hfz23_2 := blk_frozen BK307.out 2
      have p311 : 0 ≤ (x10_1 : Int) := of_decide_eq_true zax
      have q311 : x10_1 < (l1_2.length : Int) := of_decide_eq_true zax
      obtain ⟨ad311, e311, hx311_0⟩ := Kd.at_int HR1_2.out x10_1 p311 q311
      cases e311
      replace hx311_0 := (HB.out.cell (World.block_lt_of_cell? w _ hx311_0)).trans hx311_0
      replace p311 := eq_true p311
      replace q311 := eq_true q311
      go_upto_region 6 with (fail)
      repeat (go_quiet (fail); go_upto_region 6 with (fail))
      go_cut [36] (fun v36 wc => ∃ (kq : Nat) (x36_15 : Bool), v36 = .bool x36_15 ∧ Aside0 (spec_l20Count.j1 kq a2 a3 x10_1 (rd l0_2 x10_1) (rd l1_2 x10_1) x36_15 a0_0 a0_1 l0_2 a1_0 a1_1 l1_2 x310000_1 x310001_1 x310002_1 x310003_1 = some (r1, r2, r3, r4)) ∧ Aside0 (kq ≤ k1) ∧ Aside0 (wc.heap[gb306]? = some (.cells #[.int .i64 a0_0, .int .i64 a0_1, (.slice (some ad310) l0_2.length c0_2)] 26 (0, 0))) ∧ Aside0 (wc.heap[gb307]? = some (.cells #[.int .i64 a1_0, .int .i64 a1_1, (.slice (some ad311) l1_2.length c1_2)] 26 (0, 0))) ∧ Aside0 (wc.heap[gb308]? = some (.cells #[.int .i64 0, .int .i64 0, .int .i64 0, .int .i64 0] 30 (0, 0))) ∧ Aside0 (wc.heap[gb309]? = some (.cells #[.int .i64 x310000_1, .int .i64 x310001_1, .int .i64 x310002_1, .int .i64 x310003_1] 30 (0, 0))) ∧ Aside0 (Below w.heap.size w wc))
      case first =>
       have H := HC16.out
       clear HC16
       by_cases c24 : (rd l0_2 x10_1) = (-9999)
       ·rw [if_pos c24] at H
        have c24b0 : ((rd l0_2 x10_1) == (-9999)) = true := beq_iff_eq.mpr c24
        have c24b1 : ((rd l0_2 x10_1) != (-9999)) = false := bne_eq_false_iff_eq.mpr c24
        clear c24
        (first | rw [c24b0] | (simp only [i64_w, i32_w]; rw [c24b0]) | skip)
        focus
         have H' := Aside0.mk H
         clear H
         go_wp2
         repeat (go_quiet (fail); try go_wp2)
         go_meet
         case rel => exact ⟨_, (true), zrx, H', ⟨by have := HK1.out; first | omega | exact Nat.le_refl _⟩, ⟨by refine zbx ?_; exact BK306.out⟩, ⟨by refine zbx ?_; exact BK307.out⟩, ⟨by refine zbx ?_; exact BK308.out⟩, ⟨by refine zbx ?_; exact BK309.out⟩, ⟨zhB HB.out⟩⟩
       ·rw [if_neg c24] at H
        have c24b0 : ((rd l0_2 x10_1) == (-9999)) = false := beq_eq_false_iff_ne.mpr c24
        have c24b1 : ((rd l0_2 x10_1) != (-9999)) = true := bne_iff_ne.mpr c24
        (first | rw [c24b0] | (simp only [i64_w, i32_w]; rw [c24b0]) | skip)
        focus
         have H' := Aside0.mk H
         clear H
         go_wp2
         repeat (go_quiet (fail); try go_wp2)
         go_meet
         case rel => exact ⟨_, (((rd l1_2 x10_1) == (-9999))), zrx, H', ⟨by have := HK1.out; first | omega | exact Nat.le_refl _⟩, ⟨by refine zbx ?_; exact BK306.out⟩, ⟨by refine zbx ?_; exact BK307.out⟩, ⟨by refine zbx ?_; exact BK308.out⟩, ⟨by refine zbx ?_; exact BK309.out⟩, ⟨zhB HB.out⟩⟩
      case rest =>
       clear HC16
       try clear c1
       try clear c2
       try clear p2
       try clear c3
       try clear p3
       try clear q3
       try clear hx3
       try clear c9
       try clear c10
       try clear c11
       try clear c13
       try clear c13b0
       try clear c14
       try clear c14b0
       try clear c15
       try clear c15b0
       try clear c17
       try clear c18
       try clear c19
       try clear c21
       try clear c22
       try clear c24
       try clear c24b0
       try clear c24b1
       try clear hcz12_0
       try clear hcz12_1
       try clear hcz12_2
       try clear hcz12_3
       try clear hcz20_0
       try clear hcz20_1
       try clear hcz20_2
       try clear hcz23_0
       try clear hcz23_1
       try clear hcz23_2
       try clear hfz12_0
       try clear hfz12_1
       try clear hfz12_2
       try clear hfz12_3
       try clear hfz20_0
       try clear hfz20_1
       try clear hfz20_2
       try clear hfz23_0
       try clear hfz23_1
       try clear hfz23_2
       try clear hx310_0
       try clear hx311_0
       try clear p2
       try clear p310
       try clear p311
       try clear q310
       try clear q311
       obtain ⟨kq, x36_15, rfl, HA, HJ15, BK306, BK307, BK308, BK309, HB⟩ := hcut
       cases kq with
       | zero => exact absurd HA.out (by simp [spec_l20Count.j1])
       | succ kj15 =>
        have H := HA.out
        clear HA
        simp only [spec_l20Count.j1] at H
        by_cases c25 : x36_15 = true
        ·subst c25
         have H1 : (spec_l20Count.l0 kj15 a2 a3 (wrap64 (x10_1 + 1)) a0_0 a0_1 l0_2 a1_0 a1_1 l1_2 x310000_1 x310001_1 x310002_1 x310003_1) = some (r1, r2, r3, r4) := by rw [if_pos rfl] at H; exact H
         clear H
         have H := H1
         clear H1
         focus
          have H' := Aside0.mk H
          clear H
          go_wp2
          repeat (go_quiet (fail); try go_wp2)
          go_roundg kj15
          case measure => have := HK1.out; have := HJ15.out; omega
          case rel => exact ⟨(wrap64 (x10_1 + 1)), (x310000_1), (x310001_1), (x310002_1), (x310003_1), zrx, H', ⟨by have := HK1.out; have := HJ15.out; omega⟩, ⟨by refine zbx ?_; exact BK306.out⟩, ⟨by refine zbx ?_; exact BK307.out⟩, ⟨by refine zbx ?_; exact BK308.out⟩, ⟨by refine zbx ?_; exact BK309.out⟩, ⟨zhB HB.out⟩⟩
        ·replace c25 := Bool.eq_false_iff.mpr c25
         subst c25
         have H1 : (if (rd l0_2 x10_1) > a2 then (spec_l20Count.j2 kj15 a2 a3 x10_1 (rd l0_2 x10_1) (rd l1_2 x10_1) (decide ((rd l1_2 x10_1) > a3)) a0_0 a0_1 l0_2 a1_0 a1_1 l1_2 x310000_1 x310001_1 x310002_1 x310003_1) else (spec_l20Count.j2 kj15 a2 a3 x10_1 (rd l0_2 x10_1) (rd l1_2 x10_1) false a0_0 a0_1 l0_2 a1_0 a1_1 l1_2 x310000_1 x310001_1 x310002_1 x310003_1)) = some (r1, r2, r3, r4) := by rw [if_neg (show ¬ (false = true) by decide)] at H; exact H
         clear H
         have H := H1
         clear H1
         have HC26 := Aside0.mk H
         clear H
         go_upto_region 8 with (fail)
         repeat (go_quiet (fail); go_upto_region 8 with (fail))
         go_cut [41] (fun v41 wc => ∃ (kq : Nat) (x41_25 : Bool), v41 = .bool x41_25 ∧ Aside0 (spec_l20Count.j2 kq a2 a3 x10_1 (rd l0_2 x10_1) (rd l1_2 x10_1) x41_25 a0_0 a0_1 l0_2 a1_0 a1_1 l1_2 x310000_1 x310001_1 x310002_1 x310003_1 = some (r1, r2, r3, r4)) ∧ Aside0 (kq ≤ kj15) ∧ Aside0 (wc.heap[gb306]? = some (.cells #[.int .i64 a0_0, .int .i64 a0_1, (.slice (some ad310) l0_2.length c0_2)] 26 (0, 0))) ∧ Aside0 (wc.heap[gb307]? = some (.cells #[.int .i64 a1_0, .int .i64 a1_1, (.slice (some ad311) l1_2.length c1_2)] 26 (0, 0))) ∧ Aside0 (wc.heap[gb308]? = some (.cells #[.int .i64 0, .int .i64 0, .int .i64 0, .int .i64 0] 30 (0, 0))) ∧ Aside0 (wc.heap[gb309]? = some (.cells #[.int .i64 x310000_1, .int .i64 x310001_1, .int .i64 x310002_1, .int .i64 x310003_1] 30 (0, 0))) ∧ Aside0 (Below w.heap.size w wc))
         case first =>
          have H := HC26.out
          clear HC26
          by_cases c27 : (rd l0_2 x10_1) > a2
          ·rw [if_pos c27] at H
           have c27b0 : decide (a2 < (rd l0_2 x10_1)) = true := decide_eq_true c27
           clear c27
           (first | rw [c27b0] | (simp only [i64_w, i32_w]; rw [c27b0]) | skip)
           focus
            have H' := Aside0.mk H
            clear H
            go_wp2
            repeat (go_quiet (fail); try go_wp2)
            go_meet
            case rel => exact ⟨_, (decide ((rd l1_2 x10_1) > a3)), zrx, H', ⟨by have := HK1.out; have := HJ15.out; first | omega | exact Nat.le_refl _⟩, ⟨by refine zbx ?_; exact BK306.out⟩, ⟨by refine zbx ?_; exact BK307.out⟩, ⟨by refine zbx ?_; exact BK308.out⟩, ⟨by refine zbx ?_; exact BK309.out⟩, ⟨zhB HB.out⟩⟩
          ·rw [if_neg c27] at H
           have c27b0 : decide (a2 < (rd l0_2 x10_1)) = false := decide_eq_false c27
           clear c27
           (first | rw [c27b0] | (simp only [i64_w, i32_w]; rw [c27b0]) | skip)
           focus
            have H' := Aside0.mk H
            clear H
            go_wp2
            repeat (go_quiet (fail); try go_wp2)
            go_meet
            case rel => exact ⟨_, (false), zrx, H', ⟨by have := HK1.out; have := HJ15.out; first | omega | exact Nat.le_refl _⟩, ⟨by refine zbx ?_; exact BK306.out⟩, ⟨by refine zbx ?_; exact BK307.out⟩, ⟨by refine zbx ?_; exact BK308.out⟩, ⟨by refine zbx ?_; exact BK309.out⟩, ⟨zhB HB.out⟩⟩
         case rest =>
          clear HC26
          try clear c1
          try clear c2
          try clear p2
          try clear c3
          try clear p3
          try clear q3
          try clear hx3
          try clear p6
          try clear c9
          try clear c10
          try clear c11
          try clear c13
          try clear c13b0
          try clear c14
          try clear c14b0
          try clear c15
          try clear c15b0
          try clear c17
          try clear c18
          try clear c19
          try clear c21
          try clear c22
          try clear c24
          try clear c24b0
          try clear c24b1
          try clear c25
          try clear c27
          try clear c27b0
          try clear hcz12_0
          try clear hcz12_1
          try clear hcz12_2
          try clear hcz12_3
          try clear hcz20_0
          try clear hcz20_1
          try clear hcz20_2
          try clear hcz23_0
          try clear hcz23_1
          try clear hcz23_2
          try clear hfz12_0
          try clear hfz12_1
          try clear hfz12_2
          try clear hfz12_3
          try clear hfz20_0
          try clear hfz20_1
          try clear hfz20_2
          try clear hfz23_0
          try clear hfz23_1
          try clear hfz23_2
          try clear hx310_0
          try clear hx311_0
          try clear p2
          try clear p3
          try clear p310
          try clear p311
          try clear q3
          try clear q310
          try clear q311
          obtain ⟨kq, x41_25, rfl, HA, HJ25, BK306, BK307, BK308, BK309, HB⟩ := hcut
          cases kq with
          | zero => exact absurd HA.out (by simp [spec_l20Count.j2])
          | succ kj25 =>
           have H := HA.out
           clear HA
           simp only [spec_l20Count.j2] at H
           by_cases c28 : x41_25 = true
           ·subst c28
            have H1 : (spec_l20Count.l0 kj25 a2 a3 (wrap64 (x10_1 + 1)) a0_0 a0_1 l0_2 a1_0 a1_1 l1_2 (wrap64 (x310000_1 + 1)) x310001_1 x310002_1 x310003_1) = some (r1, r2, r3, r4) := by rw [if_pos rfl] at H; exact H
            clear H
            have H := H1
            clear H1
            focus
             have H' := Aside0.mk H
             clear H
             have hnb29 := NB309_306.out
             have hnc29 := NB306_309.out
             have hnb30 := NB309_307.out
             have hnc30 := NB307_309.out
             have hnb31 := NB309_308.out
             have hnc31 := NB308_309.out
             have hcz32_0 : wc.cell? ⟨gb309, 0, none⟩ = some (.int .i64 x310000_1) := (blk_cell BK309.out 0).trans rfl
             have hcz32_1 : wc.cell? ⟨gb309, 1, none⟩ = some (.int .i64 x310001_1) := (blk_cell BK309.out 1).trans rfl
             have hcz32_2 : wc.cell? ⟨gb309, 2, none⟩ = some (.int .i64 x310002_1) := (blk_cell BK309.out 2).trans rfl
             have hcz32_3 : wc.cell? ⟨gb309, 3, none⟩ = some (.int .i64 x310003_1) := (blk_cell BK309.out 3).trans rfl
             have hfz32_0 := blk_frozen BK309.out 0
             have hfz32_1 := blk_frozen BK309.out 1
             have hfz32_2 := blk_frozen BK309.out 2
             have hfz32_3 := blk_frozen BK309.out 3
             go_wp2
             repeat (go_quiet (fail); try go_wp2)
             go_roundg kj25
             case measure => have := HK1.out; have := HJ15.out; have := HJ25.out; omega
             case rel => exact ⟨(wrap64 (x10_1 + 1)), (wrap64 (x310000_1 + 1)), (x310001_1), (x310002_1), (x310003_1), zrx, H', ⟨by have := HK1.out; have := HJ15.out; have := HJ25.out; omega⟩, ⟨by refine zbx ?_; refine blk_far ?_ NB306_309.out _; refine zbx ?_; exact BK306.out⟩, ⟨by refine zbx ?_; refine blk_far ?_ NB307_309.out _; refine zbx ?_; exact BK307.out⟩, ⟨by refine zbx ?_; refine blk_far ?_ NB308_309.out _; refine zbx ?_; exact BK308.out⟩, ⟨by refine zbx ?_; refine blk_put (cs := #[.int .i64 x310000_1, .int .i64 x310001_1, .int .i64 x310002_1, .int .i64 x310003_1]) ?_ 0 _ rfl; refine zbx ?_; exact BK309.out⟩, ⟨zhB HB.out⟩⟩
           ·replace c28 := Bool.eq_false_iff.mpr c28
            subst c28
            have H1 : (if (rd l1_2 x10_1) > a3 then (spec_l20Count.l0 kj25 a2 a3 (wrap64 (x10_1 + 1)) a0_0 a0_1 l0_2 a1_0 a1_1 l1_2 x310000_1 (wrap64 (x310001_1 + 1)) x310002_1 x310003_1) else (if (rd l0_2 x10_1) > a2 then (spec_l20Count.l0 kj25 a2 a3 (wrap64 (x10_1 + 1)) a0_0 a0_1 l0_2 a1_0 a1_1 l1_2 x310000_1 x310001_1 (wrap64 (x310002_1 + 1)) x310003_1) else (spec_l20Count.l0 kj25 a2 a3 (wrap64 (x10_1 + 1)) a0_0 a0_1 l0_2 a1_0 a1_1 l1_2 x310000_1 x310001_1 x310002_1 (wrap64 (x310003_1 + 1))))) = some (r1, r2, r3, r4) := by rw [if_neg (show ¬ (false = true) by decide)] at H; exact H
            clear H
            have H := H1
            clear H1
            by_cases c33 : (rd l1_2 x10_1) > a3
            ·rw [if_pos c33] at H
             have c33b0 : decide (a3 < (rd l1_2 x10_1)) = true := decide_eq_true c33
             clear c33
             focus
              have H' := Aside0.mk H
              clear H
              have hnb34 := NB309_306.out
              have hnc34 := NB306_309.out
              have hnb35 := NB309_307.out
              have hnc35 := NB307_309.out
              have hnb36 := NB309_308.out
              have hnc36 := NB308_309.out
              have hcz37_0 : wc.cell? ⟨gb309, 0, none⟩ = some (.int .i64 x310000_1) := (blk_cell BK309.out 0).trans rfl
              have hcz37_1 : wc.cell? ⟨gb309, 1, none⟩ = some (.int .i64 x310001_1) := (blk_cell BK309.out 1).trans rfl
              have hcz37_2 : wc.cell? ⟨gb309, 2, none⟩ = some (.int .i64 x310002_1) := (blk_cell BK309.out 2).trans rfl
              have hcz37_3 : wc.cell? ⟨gb309, 3, none⟩ = some (.int .i64 x310003_1) := (blk_cell BK309.out 3).trans rfl
              have hfz37_0 := blk_frozen BK309.out 0
              have hfz37_1 := blk_frozen BK309.out 1
              have hfz37_2 := blk_frozen BK309.out 2
              have hfz37_3 := blk_frozen BK309.out 3
              go_wp2
              repeat (go_quiet (fail); try go_wp2)
              go_roundg kj25
              case measure => have := HK1.out; have := HJ15.out; have := HJ25.out; omega
              case rel => exact ⟨(wrap64 (x10_1 + 1)), (x310000_1), (wrap64 (x310001_1 + 1)), (x310002_1), (x310003_1), zrx, H', ⟨by have := HK1.out; have := HJ15.out; have := HJ25.out; omega⟩, ⟨by refine zbx ?_; refine blk_far ?_ NB306_309.out _; refine zbx ?_; exact BK306.out⟩, ⟨by refine zbx ?_; refine blk_far ?_ NB307_309.out _; refine zbx ?_; exact BK307.out⟩, ⟨by refine zbx ?_; refine blk_far ?_ NB308_309.out _; refine zbx ?_; exact BK308.out⟩, ⟨by refine zbx ?_; refine blk_put (cs := #[.int .i64 x310000_1, .int .i64 x310001_1, .int .i64 x310002_1, .int .i64 x310003_1]) ?_ 1 _ rfl; refine zbx ?_; exact BK309.out⟩, ⟨zhB HB.out⟩⟩
            ·rw [if_neg c33] at H
             have c33b0 : decide (a3 < (rd l1_2 x10_1)) = false := decide_eq_false c33
             clear c33
             by_cases c38 : (rd l0_2 x10_1) > a2
             ·rw [if_pos c38] at H
              have c38b0 : decide (a2 < (rd l0_2 x10_1)) = true := decide_eq_true c38
              clear c38
              focus
               have H' := Aside0.mk H
               clear H
               have hnb39 := NB309_306.out
               have hnc39 := NB306_309.out
               have hnb40 := NB309_307.out
               have hnc40 := NB307_309.out
               have hnb41 := NB309_308.out
               have hnc41 := NB308_309.out
               have hcz42_0 : wc.cell? ⟨gb309, 0, none⟩ = some (.int .i64 x310000_1) := (blk_cell BK309.out 0).trans rfl
               have hcz42_1 : wc.cell? ⟨gb309, 1, none⟩ = some (.int .i64 x310001_1) := (blk_cell BK309.out 1).trans rfl
               have hcz42_2 : wc.cell? ⟨gb309, 2, none⟩ = some (.int .i64 x310002_1) := (blk_cell BK309.out 2).trans rfl
               have hcz42_3 : wc.cell? ⟨gb309, 3, none⟩ = some (.int .i64 x310003_1) := (blk_cell BK309.out 3).trans rfl
               have hfz42_0 := blk_frozen BK309.out 0
               have hfz42_1 := blk_frozen BK309.out 1
               have hfz42_2 := blk_frozen BK309.out 2
               have hfz42_3 := blk_frozen BK309.out 3
               go_wp2
               repeat (go_quiet (fail); try go_wp2)
               go_roundg kj25
               case measure => have := HK1.out; have := HJ15.out; have := HJ25.out; omega
               case rel => exact ⟨(wrap64 (x10_1 + 1)), (x310000_1), (x310001_1), (wrap64 (x310002_1 + 1)), (x310003_1), zrx, H', ⟨by have := HK1.out; have := HJ15.out; have := HJ25.out; omega⟩, ⟨by refine zbx ?_; refine blk_far ?_ NB306_309.out _; refine zbx ?_; exact BK306.out⟩, ⟨by refine zbx ?_; refine blk_far ?_ NB307_309.out _; refine zbx ?_; exact BK307.out⟩, ⟨by refine zbx ?_; refine blk_far ?_ NB308_309.out _; refine zbx ?_; exact BK308.out⟩, ⟨by refine zbx ?_; refine blk_put (cs := #[.int .i64 x310000_1, .int .i64 x310001_1, .int .i64 x310002_1, .int .i64 x310003_1]) ?_ 2 _ rfl; refine zbx ?_; exact BK309.out⟩, ⟨zhB HB.out⟩⟩
             ·rw [if_neg c38] at H
              have c38b0 : decide (a2 < (rd l0_2 x10_1)) = false := decide_eq_false c38
              clear c38
              focus
               have H' := Aside0.mk H
               clear H
               have hnb43 := NB309_306.out
               have hnc43 := NB306_309.out
               have hnb44 := NB309_307.out
               have hnc44 := NB307_309.out
               have hnb45 := NB309_308.out
               have hnc45 := NB308_309.out
               have hcz46_0 : wc.cell? ⟨gb309, 0, none⟩ = some (.int .i64 x310000_1) := (blk_cell BK309.out 0).trans rfl
               have hcz46_1 : wc.cell? ⟨gb309, 1, none⟩ = some (.int .i64 x310001_1) := (blk_cell BK309.out 1).trans rfl
               have hcz46_2 : wc.cell? ⟨gb309, 2, none⟩ = some (.int .i64 x310002_1) := (blk_cell BK309.out 2).trans rfl
               have hcz46_3 : wc.cell? ⟨gb309, 3, none⟩ = some (.int .i64 x310003_1) := (blk_cell BK309.out 3).trans rfl
               have hfz46_0 := blk_frozen BK309.out 0
               have hfz46_1 := blk_frozen BK309.out 1
               have hfz46_2 := blk_frozen BK309.out 2
               have hfz46_3 := blk_frozen BK309.out 3
               go_wp2
               repeat (go_quiet (fail); try go_wp2)
               go_roundg kj25
               case measure => have := HK1.out; have := HJ15.out; have := HJ25.out; omega
               case rel => exact ⟨(wrap64 (x10_1 + 1)), (x310000_1), (x310001_1), (x310002_1), (wrap64 (x310003_1 + 1)), zrx, H', ⟨by have := HK1.out; have := HJ15.out; have := HJ25.out; omega⟩, ⟨by refine zbx ?_; refine blk_far ?_ NB306_309.out _; refine zbx ?_; exact BK306.out⟩, ⟨by refine zbx ?_; refine blk_far ?_ NB307_309.out _; refine zbx ?_; exact BK307.out⟩, ⟨by refine zbx ?_; refine blk_far ?_ NB308_309.out _; refine zbx ?_; exact BK308.out⟩, ⟨by refine zbx ?_; refine blk_put (cs := #[.int .i64 x310000_1, .int .i64 x310001_1, .int .i64 x310002_1, .int .i64 x310003_1]) ?_ 3 _ rfl; refine zbx ?_; exact BK309.out⟩, ⟨zhB HB.out⟩⟩
     ·rw [if_neg c15] at H
      exact absurd H (by simp)
    ·rw [if_neg c14] at H
     exact absurd H (by simp)
   ·rw [if_neg c13] at H
    have c13b0 : decide (x10_1 < (l0_2.length : Int)) = false := decide_eq_false c13
    clear c13
    focus
     simp only [Option.some.injEq, Prod.mk.injEq] at H
     obtain ⟨rfl, rfl, rfl, rfl⟩ := H
     have hnb47 := NB306_307.out
     have hnc47 := NB307_306.out
     have hnb48 := NB306_308.out
     have hnc48 := NB308_306.out
     have hnb49 := NB306_309.out
     have hnc49 := NB309_306.out
     have hcz50_0 : wr.cell? ⟨gb306, 0, none⟩ = some (.int .i64 a0_0) := (blk_cell BK306.out 0).trans rfl
     have hcz50_1 : wr.cell? ⟨gb306, 1, none⟩ = some (.int .i64 a0_1) := (blk_cell BK306.out 1).trans rfl
     have hcz50_2 : wr.cell? ⟨gb306, 2, none⟩ = some (.slice A0_2 l0_2.length c0_2) := (blk_cell BK306.out 2).trans rfl
     have hfz50_0 := blk_frozen BK306.out 0
     have hfz50_1 := blk_frozen BK306.out 1
     have hfz50_2 := blk_frozen BK306.out 2
     have hnb51 := NB309_307.out
     have hnc51 := NB307_309.out
     have hnb52 := NB309_308.out
     have hnc52 := NB308_309.out
     have hcz53_0 : wr.cell? ⟨gb309, 0, none⟩ = some (.int .i64 x310000_1) := (blk_cell BK309.out 0).trans rfl
     have hcz53_1 : wr.cell? ⟨gb309, 1, none⟩ = some (.int .i64 x310001_1) := (blk_cell BK309.out 1).trans rfl
     have hcz53_2 : wr.cell? ⟨gb309, 2, none⟩ = some (.int .i64 x310002_1) := (blk_cell BK309.out 2).trans rfl
     have hcz53_3 : wr.cell? ⟨gb309, 3, none⟩ = some (.int .i64 x310003_1) := (blk_cell BK309.out 3).trans rfl
     have hfz53_0 := blk_frozen BK309.out 0
     have hfz53_1 := blk_frozen BK309.out 1
     have hfz53_2 := blk_frozen BK309.out 2
     have hfz53_3 := blk_frozen BK309.out 3
     have hnb54 := NB308_307.out
     have hnc54 := NB307_308.out
     have hcz55_0 : wr.cell? ⟨gb308, 0, none⟩ = some (.int .i64 0) := (blk_cell BK308.out 0).trans rfl
     have hcz55_1 : wr.cell? ⟨gb308, 1, none⟩ = some (.int .i64 0) := (blk_cell BK308.out 1).trans rfl
     have hcz55_2 : wr.cell? ⟨gb308, 2, none⟩ = some (.int .i64 0) := (blk_cell BK308.out 2).trans rfl
     have hcz55_3 : wr.cell? ⟨gb308, 3, none⟩ = some (.int .i64 0) := (blk_cell BK308.out 3).trans rfl
     have hfz55_0 := blk_frozen BK308.out 0
     have hfz55_1 := blk_frozen BK308.out 1
     have hfz55_2 := blk_frozen BK308.out 2
     have hfz55_3 := blk_frozen BK308.out 3
     go_wp2
     repeat (go_quiet (fail); try go_wp2)
     refine bodyPost_ret (results_cell_row rfl _ _ gb308 30 #[.int .i64 x310000_1, .int .i64 x310001_1, .int .i64 x310002_1, .int .i64 x310003_1] (0, 0) _ rfl (by refine zbx ?_; refine blk_put (cs := #[.int .i64 x310000_1, .int .i64 x310001_1, .int .i64 x310002_1, .int .i64 0]) ?_ 3 _ rfl; refine zbx ?_; refine blk_put (cs := #[.int .i64 x310000_1, .int .i64 x310001_1, .int .i64 0, .int .i64 0]) ?_ 2 _ rfl; refine zbx ?_; refine blk_put (cs := #[.int .i64 x310000_1, .int .i64 0, .int .i64 0, .int .i64 0]) ?_ 1 _ rfl; refine zbx ?_; refine blk_put (cs := #[.int .i64 0, .int .i64 0, .int .i64 0, .int .i64 0]) ?_ 0 _ rfl; refine zbx ?_; exact BK308.out) Try.underlying30 rfl (by kernel_rfl)) rfl ?_
     exact ⟨by first | rfl | (simp [errW_none, errW_some] <;> rfl) | (simp [*, errW_none, errW_some] <;> rfl), zhB HB.out⟩

/-! ### spec_CountTable: function 8 -/
def spec_CountTable.f (k : Nat) (a0_0 : Int) (a0_1 : Int) (l0_2 : List Int) (a1_0 : Int) (a1_1 : Int) (l1_2 : List Int) (a2 : Int) : Option (Int × Int × Int × Int × Bool) := (spec_l2Same.f k a0_0 a0_1 l0_2 a1_0 a1_1 l1_2).bind fun t315 => (if t315 = true then ((spec_l20Count.f k a0_0 a0_1 l0_2 a1_0 a1_1 l1_2 a2 a2).bind fun bt316 => (some (bt316.1, bt316.2.1, bt316.2.2.1, bt316.2.2.2, true))) else (some (0, 0, 0, 0, false)))
theorem spec_CountTable.mono : ∀ a0 a1 a2 a3 a4 a5 a6 k, LeO (spec_CountTable.f k a0 a1 a2 a3 a4 a5 a6) (spec_CountTable.f (k + 1) a0 a1 a2 a3 a4 a5 a6) := by
 intro a0 a1 a2 a3 a4 a5 a6 k
 unfold spec_CountTable.f
 repeat' first
  | (with_reducible exact spec_l20Count.mono _ _ _ _ _ _ _ _ _)
  | (with_reducible exact spec_l2Same.mono _ _ _ _ _ _ _)
  | (with_reducible exact LeO.refl _)
  | (with_reducible exact LeO.none _)
  | (with_reducible refine LeO.ite ?_ ?_)
  | (with_reducible refine LeO.bind ?_ (fun _ => ?_))
  | exact spec_l20Count.mono _ _ _ _ _ _ _ _ _
  | exact spec_l2Same.mono _ _ _ _ _ _ _
  | exact LeO.none _
  | refine LeO.ite ?_ ?_
  | refine LeO.bind ?_ (fun _ => ?_)
set_option maxHeartbeats 8000000 in
set_option maxRecDepth 100000 in
theorem spec_CountTable.calls (k : Nat) (a0_0 : Int) (a0_1 : Int) (A0_2 : Option Addr) (c0_2 : Nat) (l0_2 : List Int) (a1_0 : Int) (a1_1 : Int) (A1_2 : Option Addr) (c1_2 : Nat) (l1_2 : List Int) (a2 : Int) (r1 : Int) (r2 : Int) (r3 : Int) (r4 : Int) (r5 : Bool) (w : World) (hr0_2 : Kd.C (Kd.int .i64) w A0_2 l0_2.length l0_2) (hc0_2 : l0_2.length ≤ c0_2) (hr1_2 : Kd.C (Kd.int .i64) w A1_2 l1_2.length l1_2) (hc1_2 : l1_2.length ≤ c1_2) (h : spec_CountTable.f k a0_0 a0_1 l0_2 a1_0 a1_1 l1_2 a2 = some (r1, r2, r3, r4, r5)) :
 Calls Try.prog 8 #[.agg #[.int .i64 a0_0, .int .i64 a0_1, .slice A0_2 l0_2.length c0_2], .agg #[.int .i64 a1_0, .int .i64 a1_1, .slice A1_2 l1_2.length c1_2], .int .i64 a2] w fun e w' => e = .returned (.tuple #[.agg #[.int .i64 r1, .int .i64 r2, .int .i64 r3, .int .i64 r4], .bool r5]) ∧ Below w.heap.size w w' := by
 have hu26 := Try.underlying26
 have hu30 := Try.underlying30
 have HR0_2 := Aside0.mk hr0_2
 have HC0_2 := Aside0.mk hc0_2
 clear hr0_2 hc0_2
 have HR1_2 := Aside0.mk hr1_2
 have HC1_2 := Aside0.mk hc1_2
 clear hr1_2 hc1_2
 have HB := Aside0.mk (Below.refl w.heap.size w)
 have H : ((spec_l2Same.f k a0_0 a0_1 l0_2 a1_0 a1_1 l1_2).bind fun t315 => (if t315 = true then ((spec_l20Count.f k a0_0 a0_1 l0_2 a1_0 a1_1 l1_2 a2 a2).bind fun bt316 => (some (bt316.1, bt316.2.1, bt316.2.2.1, bt316.2.2.2, true))) else (some (0, 0, 0, 0, false)))) = some (r1, r2, r3, r4, r5) := h
 clear h
 replace H := Option.bind_eq_some_iff.mp H
 obtain ⟨t315, A40, H⟩ := H
 replace H : (if t315 = true then ((spec_l20Count.f k a0_0 a0_1 l0_2 a1_0 a1_1 l1_2 a2 a2).bind fun bt316 => (some (bt316.1, bt316.2.1, bt316.2.2.1, bt316.2.2.2, true))) else (some (0, 0, 0, 0, false))) = some (r1, r2, r3, r4, r5) := H
 have A4 := Aside0.mk A40
 clear A40
 by_cases c5 : t315 = true
 ·subst c5
  have H1 : ((spec_l20Count.f k a0_0 a0_1 l0_2 a1_0 a1_1 l1_2 a2 a2).bind fun bt316 => (some (bt316.1, bt316.2.1, bt316.2.2.1, bt316.2.2.2, true))) = some (r1, r2, r3, r4, r5) := by rw [if_pos rfl] at H; exact H
  clear H
  have H := H1
  clear H1
  replace H := Option.bind_eq_some_iff.mp H
  obtain ⟨⟨t316, t317, t318, t319⟩, A60, H⟩ := H
  replace H : (some (t316, t317, t318, t319, true)) = some (r1, r2, r3, r4, r5) := H
  have A6 := Aside0.mk A60
  clear A60
  focus
   simp only [Option.some.injEq, Prod.mk.injEq] at H
   obtain ⟨rfl, rfl, rfl, rfl, rfl⟩ := H
   go_enter Try.func8, Try.ntmps8
   go_wp2_with (first | ((with_reducible refine gate_dst (N := 3) rfl ?_); refine box_event ?hg (N := 3) ?hd (cs := #[.int .i64 a0_0, .int .i64 a0_1, .slice A0_2 l0_2.length c0_2]) (t := 26) ?hr ?_; (case hd => rfl); (case hg => rfl); (case hr => exact zsx); intro gb312 hg w7 hbox hb; have BK312 := Aside0.mk (hbox); have GW312 := zns hg HB.out; have GE312 := zns hg HB.out; replace HB := Aside0.mk (below_step (zBx HB.out) hb); clear hb hbox hg) | ((with_reducible refine gate_dst (N := 4) rfl ?_); refine box_event ?hg (N := 4) ?hd (cs := #[.int .i64 a1_0, .int .i64 a1_1, .slice A1_2 l1_2.length c1_2]) (t := 26) ?hr ?_; (case hd => rfl); (case hg => rfl); (case hr => exact zsx); intro gb313 hg w8 hbox hb; have BK313 := Aside0.mk (hbox); have GW313 := zns hg HB.out; have GE313 := zns hg HB.out; replace HB := Aside0.mk (below_step (zBy HB.out GE312.out) hb); have NB312_313 := znl hg BK312.out; have NB313_312 := zng hg BK312.out; replace BK312 := zbl BK312.out hb; clear hb hbox hg) | ((with_reducible refine gate_dst (N := 6) rfl ?_); refine box_event ?hg (N := 6) ?hd (cs := #[.int .i64 0, .int .i64 0, .int .i64 0, .int .i64 0]) (t := 30) ?hr ?_; (case hd => rfl); (case hg => rfl); (case hr => exact zsx); intro gb314 hg w9 hbox hb; have BK314 := Aside0.mk (hbox); have GW314 := zns hg HB.out; have GE314 := zns hg HB.out; replace HB := Aside0.mk (below_step (zBz HB.out GE312.out GE313.out) hb); have NB312_314 := znl hg BK312.out; have NB314_312 := zng hg BK312.out; replace BK312 := zbl BK312.out hb; have NB313_314 := znl hg BK313.out; have NB314_313 := zng hg BK313.out; replace BK313 := zbl BK313.out hb; clear hb hbox hg; have hnb10 := NB312_313.out; have hnc10 := NB313_312.out; have hnb11 := NB312_314.out; have hnc11 := NB314_312.out; have hcz12_0 : w9.cell? ⟨gb312, 0, none⟩ = some (.int .i64 a0_0) := (blk_cell BK312.out 0).trans rfl; have hcz12_1 : w9.cell? ⟨gb312, 1, none⟩ = some (.int .i64 a0_1) := (blk_cell BK312.out 1).trans rfl; have hcz12_2 : w9.cell? ⟨gb312, 2, none⟩ = some (.slice A0_2 l0_2.length c0_2) := (blk_cell BK312.out 2).trans rfl; have hfz12_0 := blk_frozen BK312.out 0; have hfz12_1 := blk_frozen BK312.out 1; have hfz12_2 := blk_frozen BK312.out 2; have hnb13 := NB313_314.out; have hnc13 := NB314_313.out; have hcz14_0 : w9.cell? ⟨gb313, 0, none⟩ = some (.int .i64 a1_0) := (blk_cell BK313.out 0).trans rfl; have hcz14_1 : w9.cell? ⟨gb313, 1, none⟩ = some (.int .i64 a1_1) := (blk_cell BK313.out 1).trans rfl; have hcz14_2 : w9.cell? ⟨gb313, 2, none⟩ = some (.slice A1_2 l1_2.length c1_2) := (blk_cell BK313.out 2).trans rfl; have hfz14_0 := blk_frozen BK313.out 0; have hfz14_1 := blk_frozen BK313.out 1; have hfz14_2 := blk_frozen BK313.out 2) | ((with_reducible refine gate_callee (f := 36) rfl ?_); refine goesL_ (some 10) rfl rfl Try.func36 (by kernel_rfl) rfl #[.agg #[.int .i64 a0_0, .int .i64 a0_1, .slice A0_2 l0_2.length c0_2], .agg #[.int .i64 a1_0, .int .i64 a1_1, .slice A1_2 l1_2.length c1_2]] rfl zlx ?_; (with_reducible refine (spec_l2Same.calls k a0_0 a0_1 _ _ l0_2 a1_0 a1_1 _ _ l1_2 true _ ?side1 ?side2 ?side3 ?side4 A4.out).mono ?_); (case side1 => repeat (first | exact (Kd.C_below HR0_2.out HB.out) | (with_reducible refine Kd.C_alloc ?_ _) | (with_reducible refine Kd.C_drewN ?_ _) | (with_reducible refine Kd.C_drew ?_))); (case side2 => exact HC0_2.out); (case side3 => repeat (first | exact (Kd.C_below HR1_2.out HB.out) | (with_reducible refine Kd.C_alloc ?_ _) | (with_reducible refine Kd.C_drewN ?_ _) | (with_reducible refine Kd.C_drew ?_))); (case side4 => exact HC1_2.out); rintro e w15 ⟨rfl, hb⟩; refine ⟨_, rfl, ?_⟩; replace BK312 := zbl BK312.out hb; replace BK313 := zbl BK313.out hb; replace BK314 := zbl BK314.out hb; replace HB := Aside0.mk (below_step (zhB HB.out) hb); (try clear hb); (try clear hb2); (try clear hk); (try clear hi); have hcz16_0 : w15.cell? ⟨gb312, 0, none⟩ = some (.int .i64 a0_0) := (blk_cell BK312.out 0).trans rfl; have hcz16_1 : w15.cell? ⟨gb312, 1, none⟩ = some (.int .i64 a0_1) := (blk_cell BK312.out 1).trans rfl; have hcz16_2 : w15.cell? ⟨gb312, 2, none⟩ = some (.slice A0_2 l0_2.length c0_2) := (blk_cell BK312.out 2).trans rfl; have hfz16_0 := blk_frozen BK312.out 0; have hfz16_1 := blk_frozen BK312.out 1; have hfz16_2 := blk_frozen BK312.out 2; have hcz17_0 : w15.cell? ⟨gb313, 0, none⟩ = some (.int .i64 a1_0) := (blk_cell BK313.out 0).trans rfl; have hcz17_1 : w15.cell? ⟨gb313, 1, none⟩ = some (.int .i64 a1_1) := (blk_cell BK313.out 1).trans rfl; have hcz17_2 : w15.cell? ⟨gb313, 2, none⟩ = some (.slice A1_2 l1_2.length c1_2) := (blk_cell BK313.out 2).trans rfl; have hfz17_0 := blk_frozen BK313.out 0; have hfz17_1 := blk_frozen BK313.out 1; have hfz17_2 := blk_frozen BK313.out 2) | ((with_reducible refine gate_callee (f := 37) rfl ?_); refine goesL_ (some 17) rfl rfl Try.func37 (by kernel_rfl) rfl #[.agg #[.int .i64 a0_0, .int .i64 a0_1, .slice A0_2 l0_2.length c0_2], .agg #[.int .i64 a1_0, .int .i64 a1_1, .slice A1_2 l1_2.length c1_2], .int .i64 a2, .int .i64 a2] rfl zlx ?_; (with_reducible refine (spec_l20Count.calls k a0_0 a0_1 _ _ l0_2 a1_0 a1_1 _ _ l1_2 a2 a2 t316 t317 t318 t319 _ ?side1 ?side2 ?side3 ?side4 A6.out).mono ?_); (case side1 => repeat (first | exact (Kd.C_below HR0_2.out HB.out) | (with_reducible refine Kd.C_alloc ?_ _) | (with_reducible refine Kd.C_drewN ?_ _) | (with_reducible refine Kd.C_drew ?_))); (case side2 => exact HC0_2.out); (case side3 => repeat (first | exact (Kd.C_below HR1_2.out HB.out) | (with_reducible refine Kd.C_alloc ?_ _) | (with_reducible refine Kd.C_drewN ?_ _) | (with_reducible refine Kd.C_drew ?_))); (case side4 => exact HC1_2.out); rintro e w18 ⟨rfl, hb⟩; refine ⟨_, rfl, ?_⟩; replace BK312 := zbl BK312.out hb; replace BK313 := zbl BK313.out hb; replace BK314 := zbl BK314.out hb; replace HB := Aside0.mk (below_step (zhB HB.out) hb); (try clear hb); (try clear hb2); (try clear hk); (try clear hi); have hcz19_0 : w18.cell? ⟨gb314, 0, none⟩ = some (.int .i64 0) := (blk_cell BK314.out 0).trans rfl; have hcz19_1 : w18.cell? ⟨gb314, 1, none⟩ = some (.int .i64 0) := (blk_cell BK314.out 1).trans rfl; have hcz19_2 : w18.cell? ⟨gb314, 2, none⟩ = some (.int .i64 0) := (blk_cell BK314.out 2).trans rfl; have hcz19_3 : w18.cell? ⟨gb314, 3, none⟩ = some (.int .i64 0) := (blk_cell BK314.out 3).trans rfl; have hfz19_0 := blk_frozen BK314.out 0; have hfz19_1 := blk_frozen BK314.out 1; have hfz19_2 := blk_frozen BK314.out 2; have hfz19_3 := blk_frozen BK314.out 3))
   refine bodyPost_ret (results_ct rfl _ _ gb314 30 #[.int .i64 t316, .int .i64 t317, .int .i64 t318, .int .i64 t319] (0, 0) _ rfl (by refine zbx ?_; refine blk_put (cs := #[.int .i64 t316, .int .i64 t317, .int .i64 t318, .int .i64 0]) ?_ 3 _ rfl; refine zbx ?_; refine blk_put (cs := #[.int .i64 t316, .int .i64 t317, .int .i64 0, .int .i64 0]) ?_ 2 _ rfl; refine zbx ?_; refine blk_put (cs := #[.int .i64 t316, .int .i64 0, .int .i64 0, .int .i64 0]) ?_ 1 _ rfl; refine zbx ?_; refine blk_put (cs := #[.int .i64 0, .int .i64 0, .int .i64 0, .int .i64 0]) ?_ 0 _ rfl; refine zbx ?_; exact BK314.out) Try.underlying30 rfl (by kernel_rfl)) rfl ?_
   exact ⟨by first | rfl | (simp [errW_none, errW_some] <;> rfl) | (simp [*, errW_none, errW_some] <;> rfl), zhB HB.out⟩
 ·replace c5 := Bool.eq_false_iff.mpr c5
  subst c5
  have H1 : (some (0, 0, 0, 0, false)) = some (r1, r2, r3, r4, r5) := by rw [if_neg (show ¬ (false = true) by decide)] at H; exact H
  clear H
  have H := H1
  clear H1
  focus
   simp only [Option.some.injEq, Prod.mk.injEq] at H
   obtain ⟨rfl, rfl, rfl, rfl, rfl⟩ := H
   go_enter Try.func8, Try.ntmps8
   go_wp2_with (first | ((with_reducible refine gate_dst (N := 3) rfl ?_); refine box_event ?hg (N := 3) ?hd (cs := #[.int .i64 a0_0, .int .i64 a0_1, .slice A0_2 l0_2.length c0_2]) (t := 26) ?hr ?_; (case hd => rfl); (case hg => rfl); (case hr => exact zsx); intro gb312 hg w20 hbox hb; have BK312 := Aside0.mk (hbox); have GW312 := zns hg HB.out; have GE312 := zns hg HB.out; replace HB := Aside0.mk (below_step (zBx HB.out) hb); clear hb hbox hg) | ((with_reducible refine gate_dst (N := 4) rfl ?_); refine box_event ?hg (N := 4) ?hd (cs := #[.int .i64 a1_0, .int .i64 a1_1, .slice A1_2 l1_2.length c1_2]) (t := 26) ?hr ?_; (case hd => rfl); (case hg => rfl); (case hr => exact zsx); intro gb313 hg w21 hbox hb; have BK313 := Aside0.mk (hbox); have GW313 := zns hg HB.out; have GE313 := zns hg HB.out; replace HB := Aside0.mk (below_step (zBy HB.out GE312.out) hb); have NB312_313 := znl hg BK312.out; have NB313_312 := zng hg BK312.out; replace BK312 := zbl BK312.out hb; clear hb hbox hg) | ((with_reducible refine gate_dst (N := 6) rfl ?_); refine box_event ?hg (N := 6) ?hd (cs := #[.int .i64 0, .int .i64 0, .int .i64 0, .int .i64 0]) (t := 30) ?hr ?_; (case hd => rfl); (case hg => rfl); (case hr => exact zsx); intro gb314 hg w22 hbox hb; have BK314 := Aside0.mk (hbox); have GW314 := zns hg HB.out; have GE314 := zns hg HB.out; replace HB := Aside0.mk (below_step (zBz HB.out GE312.out GE313.out) hb); have NB312_314 := znl hg BK312.out; have NB314_312 := zng hg BK312.out; replace BK312 := zbl BK312.out hb; have NB313_314 := znl hg BK313.out; have NB314_313 := zng hg BK313.out; replace BK313 := zbl BK313.out hb; clear hb hbox hg; have hnb23 := NB312_313.out; have hnc23 := NB313_312.out; have hnb24 := NB312_314.out; have hnc24 := NB314_312.out; have hcz25_0 : w22.cell? ⟨gb312, 0, none⟩ = some (.int .i64 a0_0) := (blk_cell BK312.out 0).trans rfl; have hcz25_1 : w22.cell? ⟨gb312, 1, none⟩ = some (.int .i64 a0_1) := (blk_cell BK312.out 1).trans rfl; have hcz25_2 : w22.cell? ⟨gb312, 2, none⟩ = some (.slice A0_2 l0_2.length c0_2) := (blk_cell BK312.out 2).trans rfl; have hfz25_0 := blk_frozen BK312.out 0; have hfz25_1 := blk_frozen BK312.out 1; have hfz25_2 := blk_frozen BK312.out 2; have hnb26 := NB313_314.out; have hnc26 := NB314_313.out; have hcz27_0 : w22.cell? ⟨gb313, 0, none⟩ = some (.int .i64 a1_0) := (blk_cell BK313.out 0).trans rfl; have hcz27_1 : w22.cell? ⟨gb313, 1, none⟩ = some (.int .i64 a1_1) := (blk_cell BK313.out 1).trans rfl; have hcz27_2 : w22.cell? ⟨gb313, 2, none⟩ = some (.slice A1_2 l1_2.length c1_2) := (blk_cell BK313.out 2).trans rfl; have hfz27_0 := blk_frozen BK313.out 0; have hfz27_1 := blk_frozen BK313.out 1; have hfz27_2 := blk_frozen BK313.out 2) | ((with_reducible refine gate_callee (f := 36) rfl ?_); refine goesL_ (some 10) rfl rfl Try.func36 (by kernel_rfl) rfl #[.agg #[.int .i64 a0_0, .int .i64 a0_1, .slice A0_2 l0_2.length c0_2], .agg #[.int .i64 a1_0, .int .i64 a1_1, .slice A1_2 l1_2.length c1_2]] rfl zlx ?_; (with_reducible refine (spec_l2Same.calls k a0_0 a0_1 _ _ l0_2 a1_0 a1_1 _ _ l1_2 false _ ?side1 ?side2 ?side3 ?side4 A4.out).mono ?_); (case side1 => repeat (first | exact (Kd.C_below HR0_2.out HB.out) | (with_reducible refine Kd.C_alloc ?_ _) | (with_reducible refine Kd.C_drewN ?_ _) | (with_reducible refine Kd.C_drew ?_))); (case side2 => exact HC0_2.out); (case side3 => repeat (first | exact (Kd.C_below HR1_2.out HB.out) | (with_reducible refine Kd.C_alloc ?_ _) | (with_reducible refine Kd.C_drewN ?_ _) | (with_reducible refine Kd.C_drew ?_))); (case side4 => exact HC1_2.out); rintro e w28 ⟨rfl, hb⟩; refine ⟨_, rfl, ?_⟩; replace BK312 := zbl BK312.out hb; replace BK313 := zbl BK313.out hb; replace BK314 := zbl BK314.out hb; replace HB := Aside0.mk (below_step (zhB HB.out) hb); (try clear hb); (try clear hb2); (try clear hk); (try clear hi); have hcz29_0 : w28.cell? ⟨gb314, 0, none⟩ = some (.int .i64 0) := (blk_cell BK314.out 0).trans rfl; have hcz29_1 : w28.cell? ⟨gb314, 1, none⟩ = some (.int .i64 0) := (blk_cell BK314.out 1).trans rfl; have hcz29_2 : w28.cell? ⟨gb314, 2, none⟩ = some (.int .i64 0) := (blk_cell BK314.out 2).trans rfl; have hcz29_3 : w28.cell? ⟨gb314, 3, none⟩ = some (.int .i64 0) := (blk_cell BK314.out 3).trans rfl; have hfz29_0 := blk_frozen BK314.out 0; have hfz29_1 := blk_frozen BK314.out 1; have hfz29_2 := blk_frozen BK314.out 2; have hfz29_3 := blk_frozen BK314.out 3))
   refine bodyPost_ret (results_ct rfl _ _ gb314 30 #[.int .i64 0, .int .i64 0, .int .i64 0, .int .i64 0] (0, 0) _ rfl (by refine zbx ?_; refine blk_put (cs := #[.int .i64 0, .int .i64 0, .int .i64 0, .int .i64 0]) ?_ 3 _ rfl; refine zbx ?_; refine blk_put (cs := #[.int .i64 0, .int .i64 0, .int .i64 0, .int .i64 0]) ?_ 2 _ rfl; refine zbx ?_; refine blk_put (cs := #[.int .i64 0, .int .i64 0, .int .i64 0, .int .i64 0]) ?_ 1 _ rfl; refine zbx ?_; refine blk_put (cs := #[.int .i64 0, .int .i64 0, .int .i64 0, .int .i64 0]) ?_ 0 _ rfl; refine zbx ?_; exact BK314.out) Try.underlying30 rfl (by kernel_rfl)) rfl ?_
   exact ⟨by first | rfl | (simp [errW_none, errW_some] <;> rfl) | (simp [*, errW_none, errW_some] <;> rfl), zhB HB.out⟩

/-! ### impl_absOf: function 58 -/
def impl_absOf.f (a0 : Int) : Option (Int) := if a0 < 0 then (some (wrap64 (-a0))) else (some a0)
set_option maxHeartbeats 8000000 in
set_option maxRecDepth 100000 in
theorem impl_absOf.calls (a0 : Int) (r : Int) (w : World) (h : impl_absOf.f a0 = some r) :
 Calls Try.prog 58 #[.int .i64 a0] w fun e w' => e = .returned (.int .i64 r) ∧ Drawn0 w w' := by
 have H : (if a0 < 0 then (some (wrap64 (-a0))) else (some a0)) = some r := h
 clear h
 by_cases c2 : a0 < 0
 ·rw [if_pos c2] at H
  have c2b0 : decide (a0 < 0) = true := decide_eq_true c2
  clear c2
  focus
   obtain rfl := Option.some.inj H
   go_enter Try.func58, Try.ntmps58
   go_wp2
   go_ret
   exact ⟨by first | rfl | (simp; done) | (simp [*]; done), by repeat (first | exact Drawn0.refl _ | apply Drawn0.step)⟩
 ·rw [if_neg c2] at H
  have c2b0 : decide (a0 < 0) = false := decide_eq_false c2
  clear c2
  focus
   obtain rfl := Option.some.inj H
   go_enter Try.func58, Try.ntmps58
   go_wp2
   go_ret
   exact ⟨by first | rfl | (simp; done) | (simp [*]; done), by repeat (first | exact Drawn0.refl _ | apply Drawn0.step)⟩

/-! ### impl_differences: function 38 -/
def impl_differences.l0 : Nat → Int → Int → List Int → Int → Int → Int → Int → List Int → Option (Int × Int)
 | 0, _, _, _, _, _, _, _, _ => none
 | k + 1, x6, x7, x12, x13, x14, x322000, x322001, x322002 => if x14 < x13 then (if 0 ≤ x14 then (if x14 < (x12.length : Int) then (if x14 < (x322002.length : Int) then (if (rd x12 x14) = (-9999) then (impl_differences.l0 k x6 x7 x12 x13 (wrap64 (x14 + 1)) x322000 x322001 x322002) else (if (rd x322002 x14) = (-9999) then (impl_differences.l0 k x6 x7 x12 x13 (wrap64 (x14 + 1)) x322000 x322001 x322002) else ((impl_absOf.f (wrap64 ((rd x12 x14) - (rd x322002 x14)))).bind fun t324 => (impl_differences.l0 k (wrap64 (x6 + t324)) (wrap64 (x7 + 1)) x12 x13 (wrap64 (x14 + 1)) x322000 x322001 x322002)))) else (none)) else (none)) else (none)) else (some (x6, x7))
def impl_differences.f (k : Nat) (a0_0 : Int) (a0_1 : Int) (l0_2 : List Int) (a1_0 : Int) (a1_1 : Int) (l1_2 : List Int) : Option (Int × Int) := impl_differences.l0 k 0 0 l0_2 (l0_2.length : Int) 0 a1_0 a1_1 l1_2
theorem impl_differences.mono_l : ∀ k, (∀ y0 y1 y2 y3 y4 y5 y6 y7, LeO (impl_differences.l0 k y0 y1 y2 y3 y4 y5 y6 y7) (impl_differences.l0 (k + 1) y0 y1 y2 y3 y4 y5 y6 y7))
 | 0 => fun _ _ _ _ _ _ _ _ r h => by simp [impl_differences.l0] at h
 | k + 1 => by
  have ih0 := impl_differences.mono_l k
  ·intro y0 y1 y2 y3 y4 y5 y6 y7
   unfold impl_differences.l0
   repeat' first
   | (with_reducible exact ih0 _ _ _ _ _ _ _ _)
   | (with_reducible exact LeO.refl _)
   | (with_reducible exact LeO.none _)
   | (with_reducible refine LeO.ite ?_ ?_)
   | (with_reducible refine LeO.bind ?_ (fun _ => ?_))
   | exact ih0 _ _ _ _ _ _ _ _
   | exact LeO.none _
   | refine LeO.ite ?_ ?_
   | refine LeO.bind ?_ (fun _ => ?_)
theorem impl_differences.mono : ∀ a0 a1 a2 a3 a4 a5 k, LeO (impl_differences.f k a0 a1 a2 a3 a4 a5) (impl_differences.f (k + 1) a0 a1 a2 a3 a4 a5) := by
 intro a0 a1 a2 a3 a4 a5 k
 have ih0 := impl_differences.mono_l k
 unfold impl_differences.f
 repeat' first
  | (with_reducible exact ih0 _ _ _ _ _ _ _ _)
  | (with_reducible exact LeO.refl _)
  | (with_reducible exact LeO.none _)
  | (with_reducible refine LeO.ite ?_ ?_)
  | (with_reducible refine LeO.bind ?_ (fun _ => ?_))
  | exact ih0 _ _ _ _ _ _ _ _
  | exact LeO.none _
  | refine LeO.ite ?_ ?_
  | refine LeO.bind ?_ (fun _ => ?_)
set_option maxHeartbeats 8000000 in
set_option maxRecDepth 100000 in
theorem impl_differences.calls (k : Nat) (a0_0 : Int) (a0_1 : Int) (A0_2 : Option Addr) (c0_2 : Nat) (l0_2 : List Int) (a1_0 : Int) (a1_1 : Int) (A1_2 : Option Addr) (c1_2 : Nat) (l1_2 : List Int) (r1 : Int) (r2 : Int) (w : World) (hr0_2 : Kd.C (Kd.int .i64) w A0_2 l0_2.length l0_2) (hc0_2 : l0_2.length ≤ c0_2) (hr1_2 : Kd.C (Kd.int .i64) w A1_2 l1_2.length l1_2) (hc1_2 : l1_2.length ≤ c1_2) (h : impl_differences.f k a0_0 a0_1 l0_2 a1_0 a1_1 l1_2 = some (r1, r2)) :
 Calls Try.prog 38 #[.agg #[.int .i64 a0_0, .int .i64 a0_1, .slice A0_2 l0_2.length c0_2], .agg #[.int .i64 a1_0, .int .i64 a1_1, .slice A1_2 l1_2.length c1_2]] w fun e w' => e = .returned (.tuple #[.int .i64 r1, .int .i64 r2]) ∧ Below w.heap.size w w' := by
 have hu26 := Try.underlying26
 have HR0_2 := Aside0.mk hr0_2
 have HC0_2 := Aside0.mk hc0_2
 clear hr0_2 hc0_2
 have HR1_2 := Aside0.mk hr1_2
 have HC1_2 := Aside0.mk hc1_2
 clear hr1_2 hc1_2
 have HB := Aside0.mk (Below.refl w.heap.size w)
 have H : (impl_differences.l0 k 0 0 l0_2 (l0_2.length : Int) 0 a1_0 a1_1 l1_2) = some (r1, r2) := h
 clear h
 have H' := Aside0.mk H
 clear H
 go_enter Try.func38, Try.ntmps38
 go_wp2_with (first | ((with_reducible refine gate_dst (N := 2) rfl ?_); refine box_event ?hg (N := 2) ?hd (cs := #[.int .i64 a0_0, .int .i64 a0_1, .slice A0_2 l0_2.length c0_2]) (t := 26) ?hr ?_; (case hd => rfl); (case hg => rfl); (case hr => exact zsx); intro gb320 hg w3 hbox hb; have BK320 := Aside0.mk (hbox); have GW320 := zns hg HB.out; have GE320 := zns hg HB.out; replace HB := Aside0.mk (below_step (zBx HB.out) hb); clear hb hbox hg) | ((with_reducible refine gate_dst (N := 3) rfl ?_); refine box_event ?hg (N := 3) ?hd (cs := #[.int .i64 a1_0, .int .i64 a1_1, .slice A1_2 l1_2.length c1_2]) (t := 26) ?hr ?_; (case hd => rfl); (case hg => rfl); (case hr => exact zsx); intro gb321 hg w4 hbox hb; have BK321 := Aside0.mk (hbox); have GW321 := zns hg HB.out; have GE321 := zns hg HB.out; replace HB := Aside0.mk (below_step (zBy HB.out GE320.out) hb); have NB320_321 := znl hg BK320.out; have NB321_320 := zng hg BK320.out; replace BK320 := zbl BK320.out hb; clear hb hbox hg; have hnb5 := NB320_321.out; have hnc5 := NB321_320.out; have hcz6_0 : w4.cell? ⟨gb320, 0, none⟩ = some (.int .i64 a0_0) := (blk_cell BK320.out 0).trans rfl; have hcz6_1 : w4.cell? ⟨gb320, 1, none⟩ = some (.int .i64 a0_1) := (blk_cell BK320.out 1).trans rfl; have hcz6_2 : w4.cell? ⟨gb320, 2, none⟩ = some (.slice A0_2 l0_2.length c0_2) := (blk_cell BK320.out 2).trans rfl; have hfz6_0 := blk_frozen BK320.out 0; have hfz6_1 := blk_frozen BK320.out 1; have hfz6_2 := blk_frozen BK320.out 2))
 go_loopg [6, 7, 14] k (fun kq v6 v7 v14 w' => ∃ (x6_1 : Int) (x7_1 : Int) (x14_1 : Int), v6 = .int .i64 x6_1 ∧ v7 = .int .i64 x7_1 ∧ v14 = .int .i64 x14_1 ∧ Aside0 (impl_differences.l0 kq x6_1 x7_1 l0_2 (l0_2.length : Int) x14_1 a1_0 a1_1 l1_2 = some (r1, r2)) ∧ Aside0 (kq ≤ k) ∧ Aside0 (w'.heap[gb320]? = some (.cells #[.int .i64 a0_0, .int .i64 a0_1, (.slice A0_2 l0_2.length c0_2)] 26 (0, 0))) ∧ Aside0 (w'.heap[gb321]? = some (.cells #[.int .i64 a1_0, .int .i64 a1_1, (.slice A1_2 l1_2.length c1_2)] 26 (0, 0))) ∧ Aside0 (Below w.heap.size w w'))
 case atStart => exact ⟨(0), (0), (0), zrx, zrx, zrx, H', ⟨Nat.le_refl _⟩, ⟨by refine zbx ?_; exact BK320.out⟩, ⟨by refine zbx ?_; exact BK321.out⟩, ⟨by exact zBz HB.out GE320.out GE321.out⟩⟩
 case round =>
  clear H'
  try clear c1
  try clear p2
  try clear c3
  try clear c5
  try clear hcz6_0
  try clear hcz6_1
  try clear hcz6_2
  try clear hfz6_0
  try clear hfz6_1
  try clear hfz6_2
  obtain ⟨x6_1, x7_1, x14_1, rfl, rfl, rfl, HA, HK1, BK320, BK321, HB⟩ := hrel
  cases gk with
  | zero => exact absurd HA.out (by simp [impl_differences.l0])
  | succ k1 =>
   have H := HA.out
   clear HA
   simp only [impl_differences.l0] at H
   by_cases c7 : x14_1 < (l0_2.length : Int)
   ·rw [if_pos c7] at H
    have c7b0 : decide (x14_1 < (l0_2.length : Int)) = true := decide_eq_true c7
    clear c7
    by_cases c8 : 0 ≤ x14_1
    ·rw [if_pos c8] at H
     have c8b0 : decide (0 ≤ x14_1) = true := decide_eq_true c8
     clear c8
     by_cases c9 : x14_1 < (l0_2.length : Int)
     ·rw [if_pos c9] at H
      have c9b0 : decide (x14_1 < (l0_2.length : Int)) = true := decide_eq_true c9
      clear c9
      by_cases c10 : x14_1 < (l1_2.length : Int)
      ·rw [if_pos c10] at H
       have c10b0 : decide (x14_1 < (l1_2.length : Int)) = true := decide_eq_true c10
       clear c10
       by_cases c11 : (rd l0_2 x14_1) = (-9999)
       ·rw [if_pos c11] at H
        have c11b0 : ((rd l0_2 x14_1) == (-9999)) = true := beq_iff_eq.mpr c11
        have c11b1 : ((rd l0_2 x14_1) != (-9999)) = false := bne_eq_false_iff_eq.mpr c11
        clear c11
        focus
         have H' := Aside0.mk H
         clear H
         have p322 : 0 ≤ (x14_1 : Int) := of_decide_eq_true zax
         have q322 : x14_1 < (l0_2.length : Int) := of_decide_eq_true zax
         obtain ⟨ad322, e322, hx322_0⟩ := Kd.at_int HR0_2.out x14_1 p322 q322
         cases e322
         replace hx322_0 := (HB.out.cell (World.block_lt_of_cell? w _ hx322_0)).trans hx322_0
         replace p322 := eq_true p322
         replace q322 := eq_true q322
         have hnb12 := NB321_320.out
         have hnc12 := NB320_321.out
         have hcz13_0 : wr.cell? ⟨gb321, 0, none⟩ = some (.int .i64 a1_0) := (blk_cell BK321.out 0).trans rfl
         have hcz13_1 : wr.cell? ⟨gb321, 1, none⟩ = some (.int .i64 a1_1) := (blk_cell BK321.out 1).trans rfl
         have hcz13_2 : wr.cell? ⟨gb321, 2, none⟩ = some (.slice A1_2 l1_2.length c1_2) := (blk_cell BK321.out 2).trans rfl
         have hfz13_0 := blk_frozen BK321.out 0
         have hfz13_1 := blk_frozen BK321.out 1
         have hfz13_2 := blk_frozen BK321.out 2
         have p323 : 0 ≤ (x14_1 : Int) := of_decide_eq_true zax
         have q323 : x14_1 < (l1_2.length : Int) := of_decide_eq_true zax
         obtain ⟨ad323, e323, hx323_0⟩ := Kd.at_int HR1_2.out x14_1 p323 q323
         cases e323
         replace hx323_0 := (HB.out.cell (World.block_lt_of_cell? w _ hx323_0)).trans hx323_0
         replace p323 := eq_true p323
         replace q323 := eq_true q323
         go_wp2
         go_roundg k1
         case measure => have := HK1.out; omega
         case rel => exact ⟨(x6_1), (x7_1), (wrap64 (x14_1 + 1)), zrx, zrx, zrx, H', ⟨by have := HK1.out; omega⟩, ⟨by refine zbx ?_; exact BK320.out⟩, ⟨by refine zbx ?_; exact BK321.out⟩, ⟨by exact zBz HB.out GE320.out GE321.out⟩⟩
       ·rw [if_neg c11] at H
        have c11b0 : ((rd l0_2 x14_1) == (-9999)) = false := beq_eq_false_iff_ne.mpr c11
        have c11b1 : ((rd l0_2 x14_1) != (-9999)) = true := bne_iff_ne.mpr c11
        by_cases c14 : (rd l1_2 x14_1) = (-9999)
        ·rw [if_pos c14] at H
         have c14b0 : ((rd l1_2 x14_1) == (-9999)) = true := beq_iff_eq.mpr c14
         have c14b1 : ((rd l1_2 x14_1) != (-9999)) = false := bne_eq_false_iff_eq.mpr c14
         clear c14
         focus
          have H' := Aside0.mk H
          clear H
          have p322 : 0 ≤ (x14_1 : Int) := of_decide_eq_true zax
          have q322 : x14_1 < (l0_2.length : Int) := of_decide_eq_true zax
          obtain ⟨ad322, e322, hx322_0⟩ := Kd.at_int HR0_2.out x14_1 p322 q322
          cases e322
          replace hx322_0 := (HB.out.cell (World.block_lt_of_cell? w _ hx322_0)).trans hx322_0
          replace p322 := eq_true p322
          replace q322 := eq_true q322
          have hnb15 := NB321_320.out
          have hnc15 := NB320_321.out
          have hcz16_0 : wr.cell? ⟨gb321, 0, none⟩ = some (.int .i64 a1_0) := (blk_cell BK321.out 0).trans rfl
          have hcz16_1 : wr.cell? ⟨gb321, 1, none⟩ = some (.int .i64 a1_1) := (blk_cell BK321.out 1).trans rfl
          have hcz16_2 : wr.cell? ⟨gb321, 2, none⟩ = some (.slice A1_2 l1_2.length c1_2) := (blk_cell BK321.out 2).trans rfl
          have hfz16_0 := blk_frozen BK321.out 0
          have hfz16_1 := blk_frozen BK321.out 1
          have hfz16_2 := blk_frozen BK321.out 2
          have p323 : 0 ≤ (x14_1 : Int) := of_decide_eq_true zax
          have q323 : x14_1 < (l1_2.length : Int) := of_decide_eq_true zax
          obtain ⟨ad323, e323, hx323_0⟩ := Kd.at_int HR1_2.out x14_1 p323 q323
          cases e323
          replace hx323_0 := (HB.out.cell (World.block_lt_of_cell? w _ hx323_0)).trans hx323_0
          replace p323 := eq_true p323
          replace q323 := eq_true q323
          go_wp2
          go_roundg k1
          case measure => have := HK1.out; omega
          case rel => exact ⟨(x6_1), (x7_1), (wrap64 (x14_1 + 1)), zrx, zrx, zrx, H', ⟨by have := HK1.out; omega⟩, ⟨by refine zbx ?_; exact BK320.out⟩, ⟨by refine zbx ?_; exact BK321.out⟩, ⟨by exact zBz HB.out GE320.out GE321.out⟩⟩
        ·rw [if_neg c14] at H
         have c14b0 : ((rd l1_2 x14_1) == (-9999)) = false := beq_eq_false_iff_ne.mpr c14
         have c14b1 : ((rd l1_2 x14_1) != (-9999)) = true := bne_iff_ne.mpr c14
         replace H := Option.bind_eq_some_iff.mp H
         obtain ⟨t324, A170, H⟩ := H
         replace H : (impl_differences.l0 k1 (wrap64 (x6_1 + t324)) (wrap64 (x7_1 + 1)) l0_2 (l0_2.length : Int) (wrap64 (x14_1 + 1)) a1_0 a1_1 l1_2) = some (r1, r2) := H
         have A17 := Aside0.mk A170
         clear A170
         focus
          have H' := Aside0.mk H
          clear H
          have p322 : 0 ≤ (x14_1 : Int) := of_decide_eq_true zax
          have q322 : x14_1 < (l0_2.length : Int) := of_decide_eq_true zax
          obtain ⟨ad322, e322, hx322_0⟩ := Kd.at_int HR0_2.out x14_1 p322 q322
          cases e322
          replace hx322_0 := (HB.out.cell (World.block_lt_of_cell? w _ hx322_0)).trans hx322_0
          replace p322 := eq_true p322
          replace q322 := eq_true q322
          have hnb18 := NB321_320.out
          have hnc18 := NB320_321.out
          have hcz19_0 : wr.cell? ⟨gb321, 0, none⟩ = some (.int .i64 a1_0) := (blk_cell BK321.out 0).trans rfl
          have hcz19_1 : wr.cell? ⟨gb321, 1, none⟩ = some (.int .i64 a1_1) := (blk_cell BK321.out 1).trans rfl
          have hcz19_2 : wr.cell? ⟨gb321, 2, none⟩ = some (.slice A1_2 l1_2.length c1_2) := (blk_cell BK321.out 2).trans rfl
          have hfz19_0 := blk_frozen BK321.out 0
          have hfz19_1 := blk_frozen BK321.out 1
          have hfz19_2 := blk_frozen BK321.out 2
          have p323 : 0 ≤ (x14_1 : Int) := of_decide_eq_true zax
          have q323 : x14_1 < (l1_2.length : Int) := of_decide_eq_true zax
          obtain ⟨ad323, e323, hx323_0⟩ := Kd.at_int HR1_2.out x14_1 p323 q323
          cases e323
          replace hx323_0 := (HB.out.cell (World.block_lt_of_cell? w _ hx323_0)).trans hx323_0
          replace p323 := eq_true p323
          replace q323 := eq_true q323
          go_wp2_with (first | ((with_reducible refine gate_callee (f := 58) rfl ?_); refine goesL_ (some 34) rfl rfl Try.func58 (by kernel_rfl) rfl #[.int .i64 (wrap64 ((rd l0_2 x14_1) - (rd l1_2 x14_1)))] rfl zlx ?_; (with_reducible refine (impl_absOf.calls (wrap64 ((rd l0_2 x14_1) - (rd l1_2 x14_1))) t324 _ A17.out).mono ?_); rintro e w' ⟨rfl, ⟨nd, rfl⟩⟩; refine ⟨_, rfl, ?_⟩))
          go_roundg k1
          case measure => have := HK1.out; omega
          case rel => exact ⟨(wrap64 (x6_1 + t324)), (wrap64 (x7_1 + 1)), (wrap64 (x14_1 + 1)), zrx, zrx, zrx, H', ⟨by have := HK1.out; omega⟩, ⟨by refine zbx ?_; exact BK320.out⟩, ⟨by refine zbx ?_; exact BK321.out⟩, ⟨by exact zBz HB.out GE320.out GE321.out⟩⟩
      ·rw [if_neg c10] at H
       exact absurd H (by simp)
     ·rw [if_neg c9] at H
      exact absurd H (by simp)
    ·rw [if_neg c8] at H
     exact absurd H (by simp)
   ·rw [if_neg c7] at H
    have c7b0 : decide (x14_1 < (l0_2.length : Int)) = false := decide_eq_false c7
    clear c7
    focus
     simp only [Option.some.injEq, Prod.mk.injEq] at H
     obtain ⟨rfl, rfl⟩ := H
     go_wp2
     go_ret2
     exact ⟨by first | rfl | (simp [errW_none, errW_some] <;> rfl) | (simp [*, errW_none, errW_some] <;> rfl), by exact zBz HB.out GE320.out GE321.out⟩

end Go.Proofs.Ytddgbaohepfekaa.XFnScores
