-- written by wip/tools/xprint.py (a program of this project) out of the translation
import Derived.Test.YtddgbaohepfekaaXFnScoresx0
import Derived.Test.YtddgbaohepfekaaXFnScoresx9
import Derived.Test.YtddgbaohepfekaaXFnScoresx12
namespace Go.Proofs.Ytddgbaohepfekaa.XFnScores
open Go.RowKit Go.Proofs.YtddgbaohepfekaaW.PrintWords Go.Proofs.YtddgbaohepfekaaW.PrintLast Go.Proofs.YtddgbaohepfekaaW.PrintMore
attribute [local go_sem] max2_int min2_int max_two min_two max_three min_three max_four min_four   -- for this text's walks alone
set_option linter.unusedVariables false
set_option linter.unusedSimpArgs false

/-! ### impl_AlarmRatio: function 13 -/
def impl_AlarmRatio.f (k : Nat) (a0_0 : Int) (a0_1 : Int) (a0_2 : Int) (a0_3 : Int) : Option (Int × Int × Bool) := (impl_tableRatio.f k a0_0 a0_1 a0_2 a0_3 a0_2 (wrap64 (a0_0 + a0_2))).bind fun bt405 => (some (bt405.1, bt405.2.1, bt405.2.2))
theorem impl_AlarmRatio.mono : ∀ a0 a1 a2 a3 k, LeO (impl_AlarmRatio.f k a0 a1 a2 a3) (impl_AlarmRatio.f (k + 1) a0 a1 a2 a3) := by
 intro a0 a1 a2 a3 k
 unfold impl_AlarmRatio.f
 repeat' first
  | (with_reducible exact impl_tableRatio.mono _ _ _ _ _ _ _)
  | (with_reducible exact LeO.refl _)
  | (with_reducible exact LeO.none _)
  | (with_reducible refine LeO.ite ?_ ?_)
  | (with_reducible refine LeO.bind ?_ (fun _ => ?_))
  | exact impl_tableRatio.mono _ _ _ _ _ _ _
  | exact LeO.none _
  | refine LeO.ite ?_ ?_
  | refine LeO.bind ?_ (fun _ => ?_)
set_option maxHeartbeats 8000000 in
set_option maxRecDepth 100000 in
theorem impl_AlarmRatio.calls (k : Nat) (a0_0 : Int) (a0_1 : Int) (a0_2 : Int) (a0_3 : Int) (r1 : Int) (r2 : Int) (r3 : Bool) (w : World) (h : impl_AlarmRatio.f k a0_0 a0_1 a0_2 a0_3 = some (r1, r2, r3)) :
 Calls Try.prog 13 #[.agg #[.int .i64 a0_0, .int .i64 a0_1, .int .i64 a0_2, .int .i64 a0_3]] w fun e w' => e = .returned (.tuple #[.agg #[.int .i64 r1, .int .i64 r2], .bool r3]) ∧ Below w.heap.size w w' := by
 have hu30 := Try.underlying30
 have hu37 := Try.underlying37
 have HB := Aside0.mk (Below.refl w.heap.size w)
 have H : ((impl_tableRatio.f k a0_0 a0_1 a0_2 a0_3 a0_2 (wrap64 (a0_0 + a0_2))).bind fun bt405 => (some (bt405.1, bt405.2.1, bt405.2.2))) = some (r1, r2, r3) := h
 clear h
 replace H := Option.bind_eq_some_iff.mp H
 obtain ⟨⟨t405, t406, t407⟩, A20, H⟩ := H
 replace H : (some (t405, t406, t407)) = some (r1, r2, r3) := H
 have A2 := Aside0.mk A20
 clear A20
 focus
  simp only [Option.some.injEq, Prod.mk.injEq] at H
  obtain ⟨rfl, rfl, rfl⟩ := H
  go_enter Try.func13, Try.ntmps13
  go_wp2_with (first | ((with_reducible refine gate_dst (N := 1) rfl ?_); refine box_event ?hg (N := 1) ?hd (cs := #[.int .i64 a0_0, .int .i64 a0_1, .int .i64 a0_2, .int .i64 a0_3]) (t := 30) ?hr ?_; (case hd => rfl); (case hg => rfl); (case hr => exact zsx); intro gb403 hg w3 hbox hb; have BK403 := Aside0.mk (hbox); have GW403 := zns hg HB.out; have GE403 := zns hg HB.out; replace HB := Aside0.mk (below_step (zBx HB.out) hb); clear hb hbox hg) | ((with_reducible refine gate_dst (N := 2) rfl ?_); refine box_event ?hg (N := 2) ?hd (cs := #[.int .i64 0, .int .i64 0]) (t := 37) ?hr ?_; (case hd => rfl); (case hg => rfl); (case hr => exact zsx); intro gb404 hg w4 hbox hb; have BK404 := Aside0.mk (hbox); have GW404 := zns hg HB.out; have GE404 := zns hg HB.out; replace HB := Aside0.mk (below_step (zBy HB.out GE403.out) hb); have NB403_404 := znl hg BK403.out; have NB404_403 := zng hg BK403.out; replace BK403 := zbl BK403.out hb; clear hb hbox hg; have hnb5 := NB403_404.out; have hnc5 := NB404_403.out; have hcz6_0 : w4.cell? ⟨gb403, 0, none⟩ = some (.int .i64 a0_0) := (blk_cell BK403.out 0).trans rfl; have hcz6_1 : w4.cell? ⟨gb403, 1, none⟩ = some (.int .i64 a0_1) := (blk_cell BK403.out 1).trans rfl; have hcz6_2 : w4.cell? ⟨gb403, 2, none⟩ = some (.int .i64 a0_2) := (blk_cell BK403.out 2).trans rfl; have hcz6_3 : w4.cell? ⟨gb403, 3, none⟩ = some (.int .i64 a0_3) := (blk_cell BK403.out 3).trans rfl; have hfz6_0 := blk_frozen BK403.out 0; have hfz6_1 := blk_frozen BK403.out 1; have hfz6_2 := blk_frozen BK403.out 2; have hfz6_3 := blk_frozen BK403.out 3) | ((with_reducible refine gate_callee (f := 40) rfl ?_); refine goesL_ (some 12) rfl rfl Try.func40 (by kernel_rfl) rfl #[.agg #[.int .i64 a0_0, .int .i64 a0_1, .int .i64 a0_2, .int .i64 a0_3], .int .i64 a0_2, .int .i64 (wrap64 (a0_0 + a0_2))] rfl zlx ?_; (with_reducible refine (impl_tableRatio.calls k a0_0 a0_1 a0_2 a0_3 a0_2 (wrap64 (a0_0 + a0_2)) t405 t406 t407 _ A2.out).mono ?_); rintro e w7 ⟨rfl, hb⟩; refine ⟨_, rfl, ?_⟩; replace BK403 := zbl BK403.out hb; replace BK404 := zbl BK404.out hb; replace HB := Aside0.mk (below_step (zBz HB.out GE403.out GE404.out) hb); (try clear hb); (try clear hb2); (try clear hk); (try clear hi); have hcz8_0 : w7.cell? ⟨gb404, 0, none⟩ = some (.int .i64 0) := (blk_cell BK404.out 0).trans rfl; have hcz8_1 : w7.cell? ⟨gb404, 1, none⟩ = some (.int .i64 0) := (blk_cell BK404.out 1).trans rfl; have hfz8_0 := blk_frozen BK404.out 0; have hfz8_1 := blk_frozen BK404.out 1))
  refine bodyPost_ret (results_ct rfl _ _ gb404 37 #[.int .i64 t405, .int .i64 t406] (0, 0) _ rfl (by refine zbx ?_; refine blk_put (cs := #[.int .i64 t405, .int .i64 0]) ?_ 1 _ rfl; refine zbx ?_; refine blk_put (cs := #[.int .i64 0, .int .i64 0]) ?_ 0 _ rfl; refine zbx ?_; exact BK404.out) Try.underlying37 rfl (by kernel_rfl)) rfl ?_
  exact ⟨by first | rfl | (simp [errW_none, errW_some] <;> rfl) | (simp [*, errW_none, errW_some] <;> rfl), by exact zBz HB.out GE403.out GE404.out⟩

/-! ### impl_FrequencyBias: function 14 -/
def impl_FrequencyBias.f (k : Nat) (a0_0 : Int) (a0_1 : Int) (a0_2 : Int) (a0_3 : Int) : Option (Int × Int × Bool) := (impl_tableRatio.f k a0_0 a0_1 a0_2 a0_3 (wrap64 (a0_0 + a0_2)) (wrap64 (a0_0 + a0_1))).bind fun bt410 => (some (bt410.1, bt410.2.1, bt410.2.2))
theorem impl_FrequencyBias.mono : ∀ a0 a1 a2 a3 k, LeO (impl_FrequencyBias.f k a0 a1 a2 a3) (impl_FrequencyBias.f (k + 1) a0 a1 a2 a3) := by
 intro a0 a1 a2 a3 k
 unfold impl_FrequencyBias.f
 repeat' first
  | (with_reducible exact impl_tableRatio.mono _ _ _ _ _ _ _)
  | (with_reducible exact LeO.refl _)
  | (with_reducible exact LeO.none _)
  | (with_reducible refine LeO.ite ?_ ?_)
  | (with_reducible refine LeO.bind ?_ (fun _ => ?_))
  | exact impl_tableRatio.mono _ _ _ _ _ _ _
  | exact LeO.none _
  | refine LeO.ite ?_ ?_
  | refine LeO.bind ?_ (fun _ => ?_)
set_option maxHeartbeats 8000000 in
set_option maxRecDepth 100000 in
theorem impl_FrequencyBias.calls (k : Nat) (a0_0 : Int) (a0_1 : Int) (a0_2 : Int) (a0_3 : Int) (r1 : Int) (r2 : Int) (r3 : Bool) (w : World) (h : impl_FrequencyBias.f k a0_0 a0_1 a0_2 a0_3 = some (r1, r2, r3)) :
 Calls Try.prog 14 #[.agg #[.int .i64 a0_0, .int .i64 a0_1, .int .i64 a0_2, .int .i64 a0_3]] w fun e w' => e = .returned (.tuple #[.agg #[.int .i64 r1, .int .i64 r2], .bool r3]) ∧ Below w.heap.size w w' := by
 have hu30 := Try.underlying30
 have hu37 := Try.underlying37
 have HB := Aside0.mk (Below.refl w.heap.size w)
 have H : ((impl_tableRatio.f k a0_0 a0_1 a0_2 a0_3 (wrap64 (a0_0 + a0_2)) (wrap64 (a0_0 + a0_1))).bind fun bt410 => (some (bt410.1, bt410.2.1, bt410.2.2))) = some (r1, r2, r3) := h
 clear h
 replace H := Option.bind_eq_some_iff.mp H
 obtain ⟨⟨t410, t411, t412⟩, A20, H⟩ := H
 replace H : (some (t410, t411, t412)) = some (r1, r2, r3) := H
 have A2 := Aside0.mk A20
 clear A20
 focus
  simp only [Option.some.injEq, Prod.mk.injEq] at H
  obtain ⟨rfl, rfl, rfl⟩ := H
  go_enter Try.func14, Try.ntmps14
  go_wp2_with (first | ((with_reducible refine gate_dst (N := 1) rfl ?_); refine box_event ?hg (N := 1) ?hd (cs := #[.int .i64 a0_0, .int .i64 a0_1, .int .i64 a0_2, .int .i64 a0_3]) (t := 30) ?hr ?_; (case hd => rfl); (case hg => rfl); (case hr => exact zsx); intro gb408 hg w3 hbox hb; have BK408 := Aside0.mk (hbox); have GW408 := zns hg HB.out; have GE408 := zns hg HB.out; replace HB := Aside0.mk (below_step (zBx HB.out) hb); clear hb hbox hg) | ((with_reducible refine gate_dst (N := 2) rfl ?_); refine box_event ?hg (N := 2) ?hd (cs := #[.int .i64 0, .int .i64 0]) (t := 37) ?hr ?_; (case hd => rfl); (case hg => rfl); (case hr => exact zsx); intro gb409 hg w4 hbox hb; have BK409 := Aside0.mk (hbox); have GW409 := zns hg HB.out; have GE409 := zns hg HB.out; replace HB := Aside0.mk (below_step (zBy HB.out GE408.out) hb); have NB408_409 := znl hg BK408.out; have NB409_408 := zng hg BK408.out; replace BK408 := zbl BK408.out hb; clear hb hbox hg; have hnb5 := NB408_409.out; have hnc5 := NB409_408.out; have hcz6_0 : w4.cell? ⟨gb408, 0, none⟩ = some (.int .i64 a0_0) := (blk_cell BK408.out 0).trans rfl; have hcz6_1 : w4.cell? ⟨gb408, 1, none⟩ = some (.int .i64 a0_1) := (blk_cell BK408.out 1).trans rfl; have hcz6_2 : w4.cell? ⟨gb408, 2, none⟩ = some (.int .i64 a0_2) := (blk_cell BK408.out 2).trans rfl; have hcz6_3 : w4.cell? ⟨gb408, 3, none⟩ = some (.int .i64 a0_3) := (blk_cell BK408.out 3).trans rfl; have hfz6_0 := blk_frozen BK408.out 0; have hfz6_1 := blk_frozen BK408.out 1; have hfz6_2 := blk_frozen BK408.out 2; have hfz6_3 := blk_frozen BK408.out 3) | ((with_reducible refine gate_callee (f := 40) rfl ?_); refine goesL_ (some 15) rfl rfl Try.func40 (by kernel_rfl) rfl #[.agg #[.int .i64 a0_0, .int .i64 a0_1, .int .i64 a0_2, .int .i64 a0_3], .int .i64 (wrap64 (a0_0 + a0_2)), .int .i64 (wrap64 (a0_0 + a0_1))] rfl zlx ?_; (with_reducible refine (impl_tableRatio.calls k a0_0 a0_1 a0_2 a0_3 (wrap64 (a0_0 + a0_2)) (wrap64 (a0_0 + a0_1)) t410 t411 t412 _ A2.out).mono ?_); rintro e w7 ⟨rfl, hb⟩; refine ⟨_, rfl, ?_⟩; replace BK408 := zbl BK408.out hb; replace BK409 := zbl BK409.out hb; replace HB := Aside0.mk (below_step (zBz HB.out GE408.out GE409.out) hb); (try clear hb); (try clear hb2); (try clear hk); (try clear hi); have hcz8_0 : w7.cell? ⟨gb409, 0, none⟩ = some (.int .i64 0) := (blk_cell BK409.out 0).trans rfl; have hcz8_1 : w7.cell? ⟨gb409, 1, none⟩ = some (.int .i64 0) := (blk_cell BK409.out 1).trans rfl; have hfz8_0 := blk_frozen BK409.out 0; have hfz8_1 := blk_frozen BK409.out 1))
  refine bodyPost_ret (results_ct rfl _ _ gb409 37 #[.int .i64 t410, .int .i64 t411] (0, 0) _ rfl (by refine zbx ?_; refine blk_put (cs := #[.int .i64 t410, .int .i64 0]) ?_ 1 _ rfl; refine zbx ?_; refine blk_put (cs := #[.int .i64 0, .int .i64 0]) ?_ 0 _ rfl; refine zbx ?_; exact BK409.out) Try.underlying37 rfl (by kernel_rfl)) rfl ?_
  exact ⟨by first | rfl | (simp [errW_none, errW_some] <;> rfl) | (simp [*, errW_none, errW_some] <;> rfl), by exact zBz HB.out GE408.out GE409.out⟩

/-! ### impl_HeidkeScore: function 15 -/
def impl_HeidkeScore.f (k : Nat) (a0_0 : Int) (a0_1 : Int) (a0_2 : Int) (a0_3 : Int) : Option (Int × Int × Bool) := (impl_tableRatio.f k a0_0 a0_1 a0_2 a0_3 (wrap64 (2 * (wrap64 ((wrap64 (a0_0 * a0_3)) - (wrap64 (a0_2 * a0_1)))))) (wrap64 ((wrap64 ((wrap64 (a0_0 + a0_1)) * (wrap64 (a0_1 + a0_3)))) + (wrap64 ((wrap64 (a0_0 + a0_2)) * (wrap64 (a0_2 + a0_3))))))).bind fun bt415 => (some (bt415.1, bt415.2.1, bt415.2.2))
theorem impl_HeidkeScore.mono : ∀ a0 a1 a2 a3 k, LeO (impl_HeidkeScore.f k a0 a1 a2 a3) (impl_HeidkeScore.f (k + 1) a0 a1 a2 a3) := by
 intro a0 a1 a2 a3 k
 unfold impl_HeidkeScore.f
 repeat' first
  | (with_reducible exact impl_tableRatio.mono _ _ _ _ _ _ _)
  | (with_reducible exact LeO.refl _)
  | (with_reducible exact LeO.none _)
  | (with_reducible refine LeO.ite ?_ ?_)
  | (with_reducible refine LeO.bind ?_ (fun _ => ?_))
  | exact impl_tableRatio.mono _ _ _ _ _ _ _
  | exact LeO.none _
  | refine LeO.ite ?_ ?_
  | refine LeO.bind ?_ (fun _ => ?_)
set_option maxHeartbeats 8000000 in
set_option maxRecDepth 100000 in
theorem impl_HeidkeScore.calls (k : Nat) (a0_0 : Int) (a0_1 : Int) (a0_2 : Int) (a0_3 : Int) (r1 : Int) (r2 : Int) (r3 : Bool) (w : World) (h : impl_HeidkeScore.f k a0_0 a0_1 a0_2 a0_3 = some (r1, r2, r3)) :
 Calls Try.prog 15 #[.agg #[.int .i64 a0_0, .int .i64 a0_1, .int .i64 a0_2, .int .i64 a0_3]] w fun e w' => e = .returned (.tuple #[.agg #[.int .i64 r1, .int .i64 r2], .bool r3]) ∧ Below w.heap.size w w' := by
 have hu30 := Try.underlying30
 have hu37 := Try.underlying37
 have HB := Aside0.mk (Below.refl w.heap.size w)
 have H : ((impl_tableRatio.f k a0_0 a0_1 a0_2 a0_3 (wrap64 (2 * (wrap64 ((wrap64 (a0_0 * a0_3)) - (wrap64 (a0_2 * a0_1)))))) (wrap64 ((wrap64 ((wrap64 (a0_0 + a0_1)) * (wrap64 (a0_1 + a0_3)))) + (wrap64 ((wrap64 (a0_0 + a0_2)) * (wrap64 (a0_2 + a0_3))))))).bind fun bt415 => (some (bt415.1, bt415.2.1, bt415.2.2))) = some (r1, r2, r3) := h
 clear h
 replace H := Option.bind_eq_some_iff.mp H
 obtain ⟨⟨t415, t416, t417⟩, A20, H⟩ := H
 replace H : (some (t415, t416, t417)) = some (r1, r2, r3) := H
 have A2 := Aside0.mk A20
 clear A20
 focus
  simp only [Option.some.injEq, Prod.mk.injEq] at H
  obtain ⟨rfl, rfl, rfl⟩ := H
  go_enter Try.func15, Try.ntmps15
  go_wp2_with (first | ((with_reducible refine gate_dst (N := 1) rfl ?_); refine box_event ?hg (N := 1) ?hd (cs := #[.int .i64 a0_0, .int .i64 a0_1, .int .i64 a0_2, .int .i64 a0_3]) (t := 30) ?hr ?_; (case hd => rfl); (case hg => rfl); (case hr => exact zsx); intro gb413 hg w3 hbox hb; have BK413 := Aside0.mk (hbox); have GW413 := zns hg HB.out; have GE413 := zns hg HB.out; replace HB := Aside0.mk (below_step (zBx HB.out) hb); clear hb hbox hg) | ((with_reducible refine gate_dst (N := 2) rfl ?_); refine box_event ?hg (N := 2) ?hd (cs := #[.int .i64 0, .int .i64 0]) (t := 37) ?hr ?_; (case hd => rfl); (case hg => rfl); (case hr => exact zsx); intro gb414 hg w4 hbox hb; have BK414 := Aside0.mk (hbox); have GW414 := zns hg HB.out; have GE414 := zns hg HB.out; replace HB := Aside0.mk (below_step (zBy HB.out GE413.out) hb); have NB413_414 := znl hg BK413.out; have NB414_413 := zng hg BK413.out; replace BK413 := zbl BK413.out hb; clear hb hbox hg; have hnb5 := NB413_414.out; have hnc5 := NB414_413.out; have hcz6_0 : w4.cell? ⟨gb413, 0, none⟩ = some (.int .i64 a0_0) := (blk_cell BK413.out 0).trans rfl; have hcz6_1 : w4.cell? ⟨gb413, 1, none⟩ = some (.int .i64 a0_1) := (blk_cell BK413.out 1).trans rfl; have hcz6_2 : w4.cell? ⟨gb413, 2, none⟩ = some (.int .i64 a0_2) := (blk_cell BK413.out 2).trans rfl; have hcz6_3 : w4.cell? ⟨gb413, 3, none⟩ = some (.int .i64 a0_3) := (blk_cell BK413.out 3).trans rfl; have hfz6_0 := blk_frozen BK413.out 0; have hfz6_1 := blk_frozen BK413.out 1; have hfz6_2 := blk_frozen BK413.out 2; have hfz6_3 := blk_frozen BK413.out 3) | (go_at_call 40; (with_reducible refine (impl_tableRatio.calls k a0_0 a0_1 a0_2 a0_3 (wrap64 (2 * (wrap64 ((wrap64 (a0_0 * a0_3)) - (wrap64 (a0_2 * a0_1)))))) (wrap64 ((wrap64 ((wrap64 (a0_0 + a0_1)) * (wrap64 (a0_1 + a0_3)))) + (wrap64 ((wrap64 (a0_0 + a0_2)) * (wrap64 (a0_2 + a0_3)))))) t415 t416 t417 _ A2.out).mono ?_); rintro e w7 ⟨rfl, hb⟩; replace BK413 := zbl BK413.out hb; replace BK414 := zbl BK414.out hb; replace HB := Aside0.mk (below_step (zBz HB.out GE413.out GE414.out) hb); (try clear hb); (try clear hb2); (try clear hk); (try clear hi); have hcz8_0 : w7.cell? ⟨gb414, 0, none⟩ = some (.int .i64 0) := (blk_cell BK414.out 0).trans rfl; have hcz8_1 : w7.cell? ⟨gb414, 1, none⟩ = some (.int .i64 0) := (blk_cell BK414.out 1).trans rfl; have hfz8_0 := blk_frozen BK414.out 0; have hfz8_1 := blk_frozen BK414.out 1))
  repeat (go_quiet (first | ((with_reducible refine gate_dst (N := 1) rfl ?_); refine box_event ?hg (N := 1) ?hd (cs := #[.int .i64 a0_0, .int .i64 a0_1, .int .i64 a0_2, .int .i64 a0_3]) (t := 30) ?hr ?_; (case hd => rfl); (case hg => rfl); (case hr => exact zsx); intro gb413 hg w3 hbox hb; have BK413 := Aside0.mk (hbox); have GW413 := zns hg HB.out; have GE413 := zns hg HB.out; replace HB := Aside0.mk (below_step (zBx HB.out) hb); clear hb hbox hg) | ((with_reducible refine gate_dst (N := 2) rfl ?_); refine box_event ?hg (N := 2) ?hd (cs := #[.int .i64 0, .int .i64 0]) (t := 37) ?hr ?_; (case hd => rfl); (case hg => rfl); (case hr => exact zsx); intro gb414 hg w4 hbox hb; have BK414 := Aside0.mk (hbox); have GW414 := zns hg HB.out; have GE414 := zns hg HB.out; replace HB := Aside0.mk (below_step (zBy HB.out GE413.out) hb); have NB413_414 := znl hg BK413.out; have NB414_413 := zng hg BK413.out; replace BK413 := zbl BK413.out hb; clear hb hbox hg; have hnb5 := NB413_414.out; have hnc5 := NB414_413.out; have hcz6_0 : w4.cell? ⟨gb413, 0, none⟩ = some (.int .i64 a0_0) := (blk_cell BK413.out 0).trans rfl; have hcz6_1 : w4.cell? ⟨gb413, 1, none⟩ = some (.int .i64 a0_1) := (blk_cell BK413.out 1).trans rfl; have hcz6_2 : w4.cell? ⟨gb413, 2, none⟩ = some (.int .i64 a0_2) := (blk_cell BK413.out 2).trans rfl; have hcz6_3 : w4.cell? ⟨gb413, 3, none⟩ = some (.int .i64 a0_3) := (blk_cell BK413.out 3).trans rfl; have hfz6_0 := blk_frozen BK413.out 0; have hfz6_1 := blk_frozen BK413.out 1; have hfz6_2 := blk_frozen BK413.out 2; have hfz6_3 := blk_frozen BK413.out 3) | (go_at_call 40; (with_reducible refine (impl_tableRatio.calls k a0_0 a0_1 a0_2 a0_3 (wrap64 (2 * (wrap64 ((wrap64 (a0_0 * a0_3)) - (wrap64 (a0_2 * a0_1)))))) (wrap64 ((wrap64 ((wrap64 (a0_0 + a0_1)) * (wrap64 (a0_1 + a0_3)))) + (wrap64 ((wrap64 (a0_0 + a0_2)) * (wrap64 (a0_2 + a0_3)))))) t415 t416 t417 _ A2.out).mono ?_); rintro e w7 ⟨rfl, hb⟩; replace BK413 := zbl BK413.out hb; replace BK414 := zbl BK414.out hb; replace HB := Aside0.mk (below_step (zBz HB.out GE413.out GE414.out) hb); (try clear hb); (try clear hb2); (try clear hk); (try clear hi); have hcz8_0 : w7.cell? ⟨gb414, 0, none⟩ = some (.int .i64 0) := (blk_cell BK414.out 0).trans rfl; have hcz8_1 : w7.cell? ⟨gb414, 1, none⟩ = some (.int .i64 0) := (blk_cell BK414.out 1).trans rfl; have hfz8_0 := blk_frozen BK414.out 0; have hfz8_1 := blk_frozen BK414.out 1)); try go_wp2_with (first | ((with_reducible refine gate_dst (N := 1) rfl ?_); refine box_event ?hg (N := 1) ?hd (cs := #[.int .i64 a0_0, .int .i64 a0_1, .int .i64 a0_2, .int .i64 a0_3]) (t := 30) ?hr ?_; (case hd => rfl); (case hg => rfl); (case hr => exact zsx); intro gb413 hg w3 hbox hb; have BK413 := Aside0.mk (hbox); have GW413 := zns hg HB.out; have GE413 := zns hg HB.out; replace HB := Aside0.mk (below_step (zBx HB.out) hb); clear hb hbox hg) | ((with_reducible refine gate_dst (N := 2) rfl ?_); refine box_event ?hg (N := 2) ?hd (cs := #[.int .i64 0, .int .i64 0]) (t := 37) ?hr ?_; (case hd => rfl); (case hg => rfl); (case hr => exact zsx); intro gb414 hg w4 hbox hb; have BK414 := Aside0.mk (hbox); have GW414 := zns hg HB.out; have GE414 := zns hg HB.out; replace HB := Aside0.mk (below_step (zBy HB.out GE413.out) hb); have NB413_414 := znl hg BK413.out; have NB414_413 := zng hg BK413.out; replace BK413 := zbl BK413.out hb; clear hb hbox hg; have hnb5 := NB413_414.out; have hnc5 := NB414_413.out; have hcz6_0 : w4.cell? ⟨gb413, 0, none⟩ = some (.int .i64 a0_0) := (blk_cell BK413.out 0).trans rfl; have hcz6_1 : w4.cell? ⟨gb413, 1, none⟩ = some (.int .i64 a0_1) := (blk_cell BK413.out 1).trans rfl; have hcz6_2 : w4.cell? ⟨gb413, 2, none⟩ = some (.int .i64 a0_2) := (blk_cell BK413.out 2).trans rfl; have hcz6_3 : w4.cell? ⟨gb413, 3, none⟩ = some (.int .i64 a0_3) := (blk_cell BK413.out 3).trans rfl; have hfz6_0 := blk_frozen BK413.out 0; have hfz6_1 := blk_frozen BK413.out 1; have hfz6_2 := blk_frozen BK413.out 2; have hfz6_3 := blk_frozen BK413.out 3) | (go_at_call 40; (with_reducible refine (impl_tableRatio.calls k a0_0 a0_1 a0_2 a0_3 (wrap64 (2 * (wrap64 ((wrap64 (a0_0 * a0_3)) - (wrap64 (a0_2 * a0_1)))))) (wrap64 ((wrap64 ((wrap64 (a0_0 + a0_1)) * (wrap64 (a0_1 + a0_3)))) + (wrap64 ((wrap64 (a0_0 + a0_2)) * (wrap64 (a0_2 + a0_3)))))) t415 t416 t417 _ A2.out).mono ?_); rintro e w7 ⟨rfl, hb⟩; replace BK413 := zbl BK413.out hb; replace BK414 := zbl BK414.out hb; replace HB := Aside0.mk (below_step (zBz HB.out GE413.out GE414.out) hb); (try clear hb); (try clear hb2); (try clear hk); (try clear hi); have hcz8_0 : w7.cell? ⟨gb414, 0, none⟩ = some (.int .i64 0) := (blk_cell BK414.out 0).trans rfl; have hcz8_1 : w7.cell? ⟨gb414, 1, none⟩ = some (.int .i64 0) := (blk_cell BK414.out 1).trans rfl; have hfz8_0 := blk_frozen BK414.out 0; have hfz8_1 := blk_frozen BK414.out 1)))
  refine bodyPost_ret (results_ct rfl _ _ gb414 37 #[.int .i64 t415, .int .i64 t416] (0, 0) _ rfl (by refine zbx ?_; refine blk_put (cs := #[.int .i64 t415, .int .i64 0]) ?_ 1 _ rfl; refine zbx ?_; refine blk_put (cs := #[.int .i64 0, .int .i64 0]) ?_ 0 _ rfl; refine zbx ?_; exact BK414.out) Try.underlying37 rfl (by kernel_rfl)) rfl ?_
  exact ⟨by first | rfl | (simp [errW_none, errW_some] <;> rfl) | (simp [*, errW_none, errW_some] <;> rfl), by exact zBz HB.out GE413.out GE414.out⟩

/-! ### spec_l20Good: function 42 -/
def spec_l20Good.f (a0_0 : Int) (a0_1 : Int) (a0_2 : Int) (a0_3 : Int) : Option (Bool) := (spec_l1In.f a0_0 0 1000000).bind fun t419 => (if t419 = true then ((spec_l1In.f a0_1 0 1000000).bind fun t420 => (if t420 = true then ((spec_l1In.f a0_2 0 1000000).bind fun t421 => (if t421 = true then ((spec_l1In.f a0_3 0 1000000).bind fun t422 => (some t422)) else (some false))) else (some false))) else (some false))
set_option maxHeartbeats 8000000 in
set_option maxRecDepth 100000 in
theorem spec_l20Good.calls (a0_0 : Int) (a0_1 : Int) (a0_2 : Int) (a0_3 : Int) (r : Bool) (w : World) (h : spec_l20Good.f a0_0 a0_1 a0_2 a0_3 = some r) :
 Calls Try.prog 42 #[.agg #[.int .i64 a0_0, .int .i64 a0_1, .int .i64 a0_2, .int .i64 a0_3]] w fun e w' => e = .returned (.bool r) ∧ Below w.heap.size w w' := by
 have hu30 := Try.underlying30
 have HB := Aside0.mk (Below.refl w.heap.size w)
 have H : ((spec_l1In.f a0_0 0 1000000).bind fun t419 => (if t419 = true then ((spec_l1In.f a0_1 0 1000000).bind fun t420 => (if t420 = true then ((spec_l1In.f a0_2 0 1000000).bind fun t421 => (if t421 = true then ((spec_l1In.f a0_3 0 1000000).bind fun t422 => (some t422)) else (some false))) else (some false))) else (some false))) = some r := h
 clear h
 replace H := Option.bind_eq_some_iff.mp H
 obtain ⟨t419, A20, H⟩ := H
 replace H : (if t419 = true then ((spec_l1In.f a0_1 0 1000000).bind fun t420 => (if t420 = true then ((spec_l1In.f a0_2 0 1000000).bind fun t421 => (if t421 = true then ((spec_l1In.f a0_3 0 1000000).bind fun t422 => (some t422)) else (some false))) else (some false))) else (some false)) = some r := H
 have A2 := Aside0.mk A20
 clear A20
 by_cases c3 : t419 = true
 ·subst c3
  have H1 : ((spec_l1In.f a0_1 0 1000000).bind fun t420 => (if t420 = true then ((spec_l1In.f a0_2 0 1000000).bind fun t421 => (if t421 = true then ((spec_l1In.f a0_3 0 1000000).bind fun t422 => (some t422)) else (some false))) else (some false))) = some r := by rw [if_pos rfl] at H; exact H
  clear H
  have H := H1
  clear H1
  replace H := Option.bind_eq_some_iff.mp H
  obtain ⟨t420, A40, H⟩ := H
  replace H : (if t420 = true then ((spec_l1In.f a0_2 0 1000000).bind fun t421 => (if t421 = true then ((spec_l1In.f a0_3 0 1000000).bind fun t422 => (some t422)) else (some false))) else (some false)) = some r := H
  have A4 := Aside0.mk A40
  clear A40
  by_cases c5 : t420 = true
  ·subst c5
   have H1 : ((spec_l1In.f a0_2 0 1000000).bind fun t421 => (if t421 = true then ((spec_l1In.f a0_3 0 1000000).bind fun t422 => (some t422)) else (some false))) = some r := by rw [if_pos rfl] at H; exact H
   clear H
   have H := H1
   clear H1
   replace H := Option.bind_eq_some_iff.mp H
   obtain ⟨t421, A60, H⟩ := H
   replace H : (if t421 = true then ((spec_l1In.f a0_3 0 1000000).bind fun t422 => (some t422)) else (some false)) = some r := H
   have A6 := Aside0.mk A60
   clear A60
   by_cases c7 : t421 = true
   ·subst c7
    have H1 : ((spec_l1In.f a0_3 0 1000000).bind fun t422 => (some t422)) = some r := by rw [if_pos rfl] at H; exact H
    clear H
    have H := H1
    clear H1
    replace H := Option.bind_eq_some_iff.mp H
    obtain ⟨t422, A80, H⟩ := H
    replace H : (some t422) = some r := H
    have A8 := Aside0.mk A80
    clear A80
    focus
     obtain rfl := Option.some.inj H
     go_enter Try.func42, Try.ntmps42
     go_wp2_with (first | ((with_reducible refine gate_dst (N := 1) rfl ?_); refine box_event ?hg (N := 1) ?hd (cs := #[.int .i64 a0_0, .int .i64 a0_1, .int .i64 a0_2, .int .i64 a0_3]) (t := 30) ?hr ?_; (case hd => rfl); (case hg => rfl); (case hr => exact zsx); intro gb418 hg w9 hbox hb; have BK418 := Aside0.mk (hbox); have GW418 := zns hg HB.out; have GE418 := zns hg HB.out; replace HB := Aside0.mk (below_step (zBx HB.out) hb); clear hb hbox hg; have hcz10_0 : w9.cell? ⟨gb418, 0, none⟩ = some (.int .i64 a0_0) := (blk_cell BK418.out 0).trans rfl; have hcz10_1 : w9.cell? ⟨gb418, 1, none⟩ = some (.int .i64 a0_1) := (blk_cell BK418.out 1).trans rfl; have hcz10_2 : w9.cell? ⟨gb418, 2, none⟩ = some (.int .i64 a0_2) := (blk_cell BK418.out 2).trans rfl; have hcz10_3 : w9.cell? ⟨gb418, 3, none⟩ = some (.int .i64 a0_3) := (blk_cell BK418.out 3).trans rfl; have hfz10_0 := blk_frozen BK418.out 0; have hfz10_1 := blk_frozen BK418.out 1; have hfz10_2 := blk_frozen BK418.out 2; have hfz10_3 := blk_frozen BK418.out 3) | ((with_reducible refine gate_callee (f := 60) rfl ?_); refine goesL_ (some 5) rfl rfl Try.func60 (by kernel_rfl) rfl #[.int .i64 a0_0, .int .i64 0, .int .i64 1000000] rfl zlx ?_; (with_reducible refine (spec_l1In.calls a0_0 0 1000000 true _ A2.out).mono ?_); rintro e w' ⟨rfl, ⟨nd, rfl⟩⟩; refine ⟨_, rfl, ?_⟩) | (go_at_call 60; (with_reducible refine (spec_l1In.calls a0_1 0 1000000 true _ A4.out).mono ?_); rintro e w' ⟨rfl, ⟨nd, rfl⟩⟩) | (go_at_call 60; (with_reducible refine (spec_l1In.calls a0_2 0 1000000 true _ A6.out).mono ?_); rintro e w' ⟨rfl, ⟨nd, rfl⟩⟩) | (go_at_call 60; (with_reducible refine (spec_l1In.calls a0_3 0 1000000 t422 _ A8.out).mono ?_); rintro e w' ⟨rfl, ⟨nd, rfl⟩⟩))
     go_ret
     exact ⟨by first | rfl | (simp [errW_none, errW_some] <;> rfl) | (simp [*, errW_none, errW_some] <;> rfl), by exact zBy HB.out GE418.out⟩
   ·replace c7 := Bool.eq_false_iff.mpr c7
    subst c7
    have H1 : (some false) = some r := by rw [if_neg (show ¬ (false = true) by decide)] at H; exact H
    clear H
    have H := H1
    clear H1
    focus
     obtain rfl := Option.some.inj H
     go_enter Try.func42, Try.ntmps42
     go_wp2_with (first | ((with_reducible refine gate_dst (N := 1) rfl ?_); refine box_event ?hg (N := 1) ?hd (cs := #[.int .i64 a0_0, .int .i64 a0_1, .int .i64 a0_2, .int .i64 a0_3]) (t := 30) ?hr ?_; (case hd => rfl); (case hg => rfl); (case hr => exact zsx); intro gb418 hg w11 hbox hb; have BK418 := Aside0.mk (hbox); have GW418 := zns hg HB.out; have GE418 := zns hg HB.out; replace HB := Aside0.mk (below_step (zBx HB.out) hb); clear hb hbox hg; have hcz12_0 : w11.cell? ⟨gb418, 0, none⟩ = some (.int .i64 a0_0) := (blk_cell BK418.out 0).trans rfl; have hcz12_1 : w11.cell? ⟨gb418, 1, none⟩ = some (.int .i64 a0_1) := (blk_cell BK418.out 1).trans rfl; have hcz12_2 : w11.cell? ⟨gb418, 2, none⟩ = some (.int .i64 a0_2) := (blk_cell BK418.out 2).trans rfl; have hcz12_3 : w11.cell? ⟨gb418, 3, none⟩ = some (.int .i64 a0_3) := (blk_cell BK418.out 3).trans rfl; have hfz12_0 := blk_frozen BK418.out 0; have hfz12_1 := blk_frozen BK418.out 1; have hfz12_2 := blk_frozen BK418.out 2; have hfz12_3 := blk_frozen BK418.out 3) | ((with_reducible refine gate_callee (f := 60) rfl ?_); refine goesL_ (some 5) rfl rfl Try.func60 (by kernel_rfl) rfl #[.int .i64 a0_0, .int .i64 0, .int .i64 1000000] rfl zlx ?_; (with_reducible refine (spec_l1In.calls a0_0 0 1000000 true _ A2.out).mono ?_); rintro e w' ⟨rfl, ⟨nd, rfl⟩⟩; refine ⟨_, rfl, ?_⟩) | (go_at_call 60; (with_reducible refine (spec_l1In.calls a0_1 0 1000000 true _ A4.out).mono ?_); rintro e w' ⟨rfl, ⟨nd, rfl⟩⟩) | (go_at_call 60; (with_reducible refine (spec_l1In.calls a0_2 0 1000000 false _ A6.out).mono ?_); rintro e w' ⟨rfl, ⟨nd, rfl⟩⟩))
     go_ret
     exact ⟨by first | rfl | (simp [errW_none, errW_some] <;> rfl) | (simp [*, errW_none, errW_some] <;> rfl), by exact zBy HB.out GE418.out⟩
  ·replace c5 := Bool.eq_false_iff.mpr c5
   subst c5
   have H1 : (some false) = some r := by rw [if_neg (show ¬ (false = true) by decide)] at H; exact H
   clear H
   have H := H1
   clear H1
   focus
    obtain rfl := Option.some.inj H
    go_enter Try.func42, Try.ntmps42
    go_wp2_with (first | ((with_reducible refine gate_dst (N := 1) rfl ?_); refine box_event ?hg (N := 1) ?hd (cs := #[.int .i64 a0_0, .int .i64 a0_1, .int .i64 a0_2, .int .i64 a0_3]) (t := 30) ?hr ?_; (case hd => rfl); (case hg => rfl); (case hr => exact zsx); intro gb418 hg w13 hbox hb; have BK418 := Aside0.mk (hbox); have GW418 := zns hg HB.out; have GE418 := zns hg HB.out; replace HB := Aside0.mk (below_step (zBx HB.out) hb); clear hb hbox hg; have hcz14_0 : w13.cell? ⟨gb418, 0, none⟩ = some (.int .i64 a0_0) := (blk_cell BK418.out 0).trans rfl; have hcz14_1 : w13.cell? ⟨gb418, 1, none⟩ = some (.int .i64 a0_1) := (blk_cell BK418.out 1).trans rfl; have hcz14_2 : w13.cell? ⟨gb418, 2, none⟩ = some (.int .i64 a0_2) := (blk_cell BK418.out 2).trans rfl; have hcz14_3 : w13.cell? ⟨gb418, 3, none⟩ = some (.int .i64 a0_3) := (blk_cell BK418.out 3).trans rfl; have hfz14_0 := blk_frozen BK418.out 0; have hfz14_1 := blk_frozen BK418.out 1; have hfz14_2 := blk_frozen BK418.out 2; have hfz14_3 := blk_frozen BK418.out 3) | ((with_reducible refine gate_callee (f := 60) rfl ?_); refine goesL_ (some 5) rfl rfl Try.func60 (by kernel_rfl) rfl #[.int .i64 a0_0, .int .i64 0, .int .i64 1000000] rfl zlx ?_; (with_reducible refine (spec_l1In.calls a0_0 0 1000000 true _ A2.out).mono ?_); rintro e w' ⟨rfl, ⟨nd, rfl⟩⟩; refine ⟨_, rfl, ?_⟩) | (go_at_call 60; (with_reducible refine (spec_l1In.calls a0_1 0 1000000 false _ A4.out).mono ?_); rintro e w' ⟨rfl, ⟨nd, rfl⟩⟩))
    go_ret
    exact ⟨by first | rfl | (simp [errW_none, errW_some] <;> rfl) | (simp [*, errW_none, errW_some] <;> rfl), by exact zBy HB.out GE418.out⟩
 ·replace c3 := Bool.eq_false_iff.mpr c3
  subst c3
  have H1 : (some false) = some r := by rw [if_neg (show ¬ (false = true) by decide)] at H; exact H
  clear H
  have H := H1
  clear H1
  focus
   obtain rfl := Option.some.inj H
   go_enter Try.func42, Try.ntmps42
   go_wp2_with (first | ((with_reducible refine gate_dst (N := 1) rfl ?_); refine box_event ?hg (N := 1) ?hd (cs := #[.int .i64 a0_0, .int .i64 a0_1, .int .i64 a0_2, .int .i64 a0_3]) (t := 30) ?hr ?_; (case hd => rfl); (case hg => rfl); (case hr => exact zsx); intro gb418 hg w15 hbox hb; have BK418 := Aside0.mk (hbox); have GW418 := zns hg HB.out; have GE418 := zns hg HB.out; replace HB := Aside0.mk (below_step (zBx HB.out) hb); clear hb hbox hg; have hcz16_0 : w15.cell? ⟨gb418, 0, none⟩ = some (.int .i64 a0_0) := (blk_cell BK418.out 0).trans rfl; have hcz16_1 : w15.cell? ⟨gb418, 1, none⟩ = some (.int .i64 a0_1) := (blk_cell BK418.out 1).trans rfl; have hcz16_2 : w15.cell? ⟨gb418, 2, none⟩ = some (.int .i64 a0_2) := (blk_cell BK418.out 2).trans rfl; have hcz16_3 : w15.cell? ⟨gb418, 3, none⟩ = some (.int .i64 a0_3) := (blk_cell BK418.out 3).trans rfl; have hfz16_0 := blk_frozen BK418.out 0; have hfz16_1 := blk_frozen BK418.out 1; have hfz16_2 := blk_frozen BK418.out 2; have hfz16_3 := blk_frozen BK418.out 3) | ((with_reducible refine gate_callee (f := 60) rfl ?_); refine goesL_ (some 5) rfl rfl Try.func60 (by kernel_rfl) rfl #[.int .i64 a0_0, .int .i64 0, .int .i64 1000000] rfl zlx ?_; (with_reducible refine (spec_l1In.calls a0_0 0 1000000 false _ A2.out).mono ?_); rintro e w' ⟨rfl, ⟨nd, rfl⟩⟩; refine ⟨_, rfl, ?_⟩))
   go_ret
   exact ⟨by first | rfl | (simp [errW_none, errW_some] <;> rfl) | (simp [*, errW_none, errW_some] <;> rfl), by exact zBy HB.out GE418.out⟩

/-! ### spec_l10Common: function 61 -/
def spec_l10Common.l0 : Nat → Int → Int → Option (Int)
 | 0, _, _ => none
 | k + 1, x0, x1 => if x1 > 0 then (if x1 = 0 then (none) else (spec_l10Common.l0 k x1 (Int.tmod x0 x1))) else (some x0)
def spec_l10Common.f (k : Nat) (a0 : Int) (a1 : Int) : Option (Int) := spec_l10Common.l0 k a0 a1
theorem spec_l10Common.mono_l : ∀ k, (∀ y0 y1, LeO (spec_l10Common.l0 k y0 y1) (spec_l10Common.l0 (k + 1) y0 y1))
 | 0 => fun _ _ r h => by simp [spec_l10Common.l0] at h
 | k + 1 => by
  have ih0 := spec_l10Common.mono_l k
  ·intro y0 y1
   unfold spec_l10Common.l0
   repeat' first
   | (with_reducible exact ih0 _ _)
   | (with_reducible exact LeO.refl _)
   | (with_reducible exact LeO.none _)
   | (with_reducible refine LeO.ite ?_ ?_)
   | (with_reducible refine LeO.bind ?_ (fun _ => ?_))
   | exact ih0 _ _
   | exact LeO.none _
   | refine LeO.ite ?_ ?_
   | refine LeO.bind ?_ (fun _ => ?_)
theorem spec_l10Common.mono : ∀ a0 a1 k, LeO (spec_l10Common.f k a0 a1) (spec_l10Common.f (k + 1) a0 a1) := by
 intro a0 a1 k
 have ih0 := spec_l10Common.mono_l k
 unfold spec_l10Common.f
 repeat' first
  | (with_reducible exact ih0 _ _)
  | (with_reducible exact LeO.refl _)
  | (with_reducible exact LeO.none _)
  | (with_reducible refine LeO.ite ?_ ?_)
  | (with_reducible refine LeO.bind ?_ (fun _ => ?_))
  | exact ih0 _ _
  | exact LeO.none _
  | refine LeO.ite ?_ ?_
  | refine LeO.bind ?_ (fun _ => ?_)
set_option maxHeartbeats 8000000 in
set_option maxRecDepth 100000 in
theorem spec_l10Common.calls (k : Nat) (a0 : Int) (a1 : Int) (r : Int) (w : World) (h : spec_l10Common.f k a0 a1 = some r) :
 Calls Try.prog 61 #[.int .i64 a0, .int .i64 a1] w fun e w' => e = .returned (.int .i64 r) ∧ Drawn0 w w' := by
 have H : (spec_l10Common.l0 k a0 a1) = some r := h
 clear h
 have H' := Aside0.mk H
 clear H
 go_enter Try.func61, Try.ntmps61
 go_wp2
 go_loopg [0, 1] k (fun kq v0 v1 w' => ∃ (x0_1 : Int) (x1_1 : Int), v0 = .int .i64 x0_1 ∧ v1 = .int .i64 x1_1 ∧ Aside0 (spec_l10Common.l0 kq x0_1 x1_1 = some r) ∧ Aside0 (kq ≤ k) ∧ Drawn0 w w')
 case atStart => exact ⟨(a0), (a1), zrx, zrx, H', ⟨Nat.le_refl _⟩, by repeat (first | exact Drawn0.refl _ | apply Drawn0.step)⟩
 case round =>
  clear H'
  try clear p2
  obtain ⟨x0_1, x1_1, rfl, rfl, HA, HK1, ⟨m1, rfl⟩⟩ := hrel
  cases gk with
  | zero => exact absurd HA.out (by simp [spec_l10Common.l0])
  | succ k1 =>
   have H := HA.out
   clear HA
   simp only [spec_l10Common.l0] at H
   by_cases c3 : x1_1 > 0
   ·rw [if_pos c3] at H
    have c3b0 : decide (0 < x1_1) = true := decide_eq_true c3
    clear c3
    by_cases c4 : x1_1 = 0
    ·rw [if_pos c4] at H
     exact absurd H (by simp)
    ·rw [if_neg c4] at H
     have c4b0 : (x1_1 == 0) = false := beq_eq_false_iff_ne.mpr c4
     have c4b1 : (x1_1 != 0) = true := bne_iff_ne.mpr c4
     focus
      have H' := Aside0.mk H
      clear H
      go_wp2
      go_roundg k1
      case measure => have := HK1.out; omega
      case rel => exact ⟨(x1_1), (Int.tmod x0_1 x1_1), zrx, zrx, H', ⟨by have := HK1.out; omega⟩, by repeat (first | exact Drawn0.refl _ | apply Drawn0.step)⟩
   ·rw [if_neg c3] at H
    have c3b0 : decide (0 < x1_1) = false := decide_eq_false c3
    clear c3
    focus
     obtain rfl := Option.some.inj H
     go_wp2
     go_ret
     exact ⟨by first | rfl | (simp; done) | (simp [*]; done), by repeat (first | exact Drawn0.refl _ | apply Drawn0.step)⟩

/-! ### spec_l1Most: function 80 -/
def spec_l1Most.f (a0 : Int) (a1 : Int) : Option (Int) := if a0 > a1 then (some a0) else (some a1)
set_option maxHeartbeats 8000000 in
set_option maxRecDepth 100000 in
theorem spec_l1Most.calls (a0 : Int) (a1 : Int) (r : Int) (w : World) (h : spec_l1Most.f a0 a1 = some r) :
 Calls Try.prog 80 #[.int .i64 a0, .int .i64 a1] w fun e w' => e = .returned (.int .i64 r) ∧ Drawn0 w w' := by
 have H : (if a0 > a1 then (some a0) else (some a1)) = some r := h
 clear h
 by_cases c3 : a0 > a1
 ·rw [if_pos c3] at H
  have c3b0 : decide (a1 < a0) = true := decide_eq_true c3
  clear c3
  focus
   obtain rfl := Option.some.inj H
   go_enter Try.func80, Try.ntmps80
   go_wp2
   go_ret
   exact ⟨by first | rfl | (simp; done) | (simp [*]; done), by repeat (first | exact Drawn0.refl _ | apply Drawn0.step)⟩
 ·rw [if_neg c3] at H
  have c3b0 : decide (a1 < a0) = false := decide_eq_false c3
  clear c3
  focus
   obtain rfl := Option.some.inj H
   go_enter Try.func80, Try.ntmps80
   go_wp2
   go_ret
   exact ⟨by first | rfl | (simp; done) | (simp [*]; done), by repeat (first | exact Drawn0.refl _ | apply Drawn0.step)⟩

/-! ### spec_l11Abs: function 62 -/
def spec_l11Abs.f (a0 : Int) : Option (Int) := (spec_l1Most.f a0 (wrap64 (-a0))).bind fun t423 => (some t423)
set_option maxHeartbeats 8000000 in
set_option maxRecDepth 100000 in
theorem spec_l11Abs.calls (a0 : Int) (r : Int) (w : World) (h : spec_l11Abs.f a0 = some r) :
 Calls Try.prog 62 #[.int .i64 a0] w fun e w' => e = .returned (.int .i64 r) ∧ Drawn0 w w' := by
 have H : ((spec_l1Most.f a0 (wrap64 (-a0))).bind fun t423 => (some t423)) = some r := h
 clear h
 replace H := Option.bind_eq_some_iff.mp H
 obtain ⟨t423, A20, H⟩ := H
 replace H : (some t423) = some r := H
 have A2 := Aside0.mk A20
 clear A20
 focus
  obtain rfl := Option.some.inj H
  go_enter Try.func62, Try.ntmps62
  go_wp2_with (first | ((with_reducible refine gate_callee (f := 80) rfl ?_); refine goesL_ (some 6) rfl rfl Try.func80 (by kernel_rfl) rfl #[.int .i64 a0, .int .i64 (wrap64 (-a0))] rfl zlx ?_; (with_reducible refine (spec_l1Most.calls a0 (wrap64 (-a0)) t423 _ A2.out).mono ?_); rintro e w' ⟨rfl, ⟨nd, rfl⟩⟩; refine ⟨_, rfl, ?_⟩))
  go_ret
  exact ⟨by first | rfl | (simp; done) | (simp [*]; done), by repeat (first | exact Drawn0.refl _ | apply Drawn0.step)⟩

/-! ### spec_l20Ratio: function 43 -/
def spec_l20Ratio.f (k : Nat) (a0 : Int) (a1 : Int) : Option (Int × Int × Bool) := if a1 = 0 then (some (0, 0, false)) else ((spec_l11Abs.f a0).bind fun t425 => ((spec_l10Common.f k t425 a1).bind fun t426 => (if t426 = 0 then (none) else (some (wrap64 (Int.tdiv a0 t426), wrap64 (Int.tdiv a1 t426), true)))))
theorem spec_l20Ratio.mono : ∀ a0 a1 k, LeO (spec_l20Ratio.f k a0 a1) (spec_l20Ratio.f (k + 1) a0 a1) := by
 intro a0 a1 k
 unfold spec_l20Ratio.f
 repeat' first
  | (with_reducible exact spec_l10Common.mono _ _ _)
  | (with_reducible exact LeO.refl _)
  | (with_reducible exact LeO.none _)
  | (with_reducible refine LeO.ite ?_ ?_)
  | (with_reducible refine LeO.bind ?_ (fun _ => ?_))
  | exact spec_l10Common.mono _ _ _
  | exact LeO.none _
  | refine LeO.ite ?_ ?_
  | refine LeO.bind ?_ (fun _ => ?_)
def spec_l20Ratio.T4 : Bool × List (List Nat × List Nat) := (true, [([], []), ([], []), ([0, 1], [0, 1]), ([], []), ([], []), ([3, 4], [3, 4]), ([2, 5], [2, 5]), ([6, 0, 1, 2, 3, 4, 5, 6], [6]), ([7, 0, 1, 2, 3, 4, 5, 6, 7], [])])
def spec_l20Ratio.B4 : List Nat := [0, 0, 3, 0, 0, 24, 63, 127, 255]
theorem spec_l20Ratio.tab4 : rtab .any (opsOf Try.f43 4) = spec_l20Ratio.T4 := by kernel_rfl
theorem spec_l20Ratio.bits4 : waitsOk spec_l20Ratio.T4.2 spec_l20Ratio.B4 = true := by kernel_rfl
set_option maxHeartbeats 8000000 in
set_option maxRecDepth 100000 in
theorem spec_l20Ratio.calls (k : Nat) (a0 : Int) (a1 : Int) (r1 : Int) (r2 : Int) (r3 : Bool) (w : World) (h : spec_l20Ratio.f k a0 a1 = some (r1, r2, r3)) :
 Calls Try.prog 43 #[.int .i64 a0, .int .i64 a1] w fun e w' => e = .returned (.tuple #[.agg #[.int .i64 r1, .int .i64 r2], .bool r3]) ∧ Below w.heap.size w w' := by
 have hu37 := Try.underlying37
 have HB := Aside0.mk (Below.refl w.heap.size w)
 have H : (if a1 = 0 then (some (0, 0, false)) else ((spec_l11Abs.f a0).bind fun t425 => ((spec_l10Common.f k t425 a1).bind fun t426 => (if t426 = 0 then (none) else (some (wrap64 (Int.tdiv a0 t426), wrap64 (Int.tdiv a1 t426), true)))))) = some (r1, r2, r3) := h
 clear h
 by_cases c3 : a1 = 0
 ·rw [if_pos c3] at H
  have c3b0 : (a1 == 0) = true := beq_iff_eq.mpr c3
  have c3b1 : (a1 != 0) = false := bne_eq_false_iff_eq.mpr c3
  clear c3
  focus
   simp only [Option.some.injEq, Prod.mk.injEq] at H
   obtain ⟨rfl, rfl, rfl⟩ := H
   go_enter Try.func43, Try.ntmps43
   go_wp2_with (first | ((with_reducible refine gate_dst (N := 4) rfl ?_); refine box_event ?hg (N := 4) ?hd (cs := #[.int .i64 0, .int .i64 0]) (t := 37) ?hr ?_; (case hd => rfl); (case hg => rfl); (case hr => exact zsx); intro gb424 hg w4 hbox hb; have BK424 := Aside0.mk (hbox); have GW424 := zns hg HB.out; have GE424 := zns hg HB.out; replace HB := Aside0.mk (below_step (zBx HB.out) hb); clear hb hbox hg; have hcz5_0 : w4.cell? ⟨gb424, 0, none⟩ = some (.int .i64 0) := (blk_cell BK424.out 0).trans rfl; have hcz5_1 : w4.cell? ⟨gb424, 1, none⟩ = some (.int .i64 0) := (blk_cell BK424.out 1).trans rfl; have hfz5_0 := blk_frozen BK424.out 0; have hfz5_1 := blk_frozen BK424.out 1))
   refine bodyPost_ret (results_ct rfl _ _ gb424 37 #[.int .i64 0, .int .i64 0] (0, 0) _ rfl (by refine zbx ?_; refine blk_put (cs := #[.int .i64 0, .int .i64 0]) ?_ 1 _ rfl; refine zbx ?_; refine blk_put (cs := #[.int .i64 0, .int .i64 0]) ?_ 0 _ rfl; refine zbx ?_; exact BK424.out) Try.underlying37 rfl (by kernel_rfl)) rfl ?_
   exact ⟨by first | rfl | (simp [errW_none, errW_some] <;> rfl) | (simp [*, errW_none, errW_some] <;> rfl), by exact zBy HB.out GE424.out⟩
 ·rw [if_neg c3] at H
  have c3b0 : (a1 == 0) = false := beq_eq_false_iff_ne.mpr c3
  have c3b1 : (a1 != 0) = true := bne_iff_ne.mpr c3
  replace H := Option.bind_eq_some_iff.mp H
  obtain ⟨t425, A60, H⟩ := H
  replace H : ((spec_l10Common.f k t425 a1).bind fun t426 => (if t426 = 0 then (none) else (some (wrap64 (Int.tdiv a0 t426), wrap64 (Int.tdiv a1 t426), true)))) = some (r1, r2, r3) := H
  have A6 := Aside0.mk A60
  clear A60
  replace H := Option.bind_eq_some_iff.mp H
  obtain ⟨t426, A70, H⟩ := H
  replace H : (if t426 = 0 then (none) else (some (wrap64 (Int.tdiv a0 t426), wrap64 (Int.tdiv a1 t426), true))) = some (r1, r2, r3) := H
  have A7 := Aside0.mk A70
  clear A70
  by_cases c8 : t426 = 0
  ·rw [if_pos c8] at H
   exact absurd H (by simp)
  ·rw [if_neg c8] at H
   have c8b0 : (t426 == 0) = false := beq_eq_false_iff_ne.mpr c8
   have c8b1 : (t426 != 0) = true := bne_iff_ne.mpr c8
   focus
    simp only [Option.some.injEq, Prod.mk.injEq] at H
    obtain ⟨rfl, rfl, rfl⟩ := H
    go_enter Try.func43, Try.ntmps43
    try go_wp2_with (first | ((with_reducible refine gate_dst (N := 4) rfl ?_); refine box_event ?hg (N := 4) ?hd (cs := #[.int .i64 0, .int .i64 0]) (t := 37) ?hr ?_; (case hd => rfl); (case hg => rfl); (case hr => exact zsx); intro gb424 hg w9 hbox hb; have BK424 := Aside0.mk (hbox); have GW424 := zns hg HB.out; have GE424 := zns hg HB.out; replace HB := Aside0.mk (below_step (zBx HB.out) hb); clear hb hbox hg) | ((with_reducible refine gate_callee (f := 62) rfl ?_); refine goesL_ (some 11) rfl rfl Try.func62 (by kernel_rfl) rfl #[.int .i64 a0] rfl zlx ?_; (with_reducible refine (spec_l11Abs.calls a0 t425 _ A6.out).mono ?_); rintro e w' ⟨rfl, ⟨nd, rfl⟩⟩; refine ⟨_, rfl, ?_⟩; (try (rw [drewN_self w9]; generalize hq_ : World.drewN w9 _ = w9; replace BK424 : Aside0 (w9.heap[gb424]? = some (.cells #[.int .i64 0, .int .i64 0] 37 (0, 0))) := ⟨by rw [← hq_]; exact (zbx BK424.out)⟩; replace HB : Aside0 (Below w.heap.size w w9) := ⟨by rw [← hq_]; exact (zBy HB.out GE424.out)⟩; clear hq_))) | ((with_reducible refine gate_callee (f := 61) rfl ?_); refine goesL_ (some 13) rfl rfl Try.func61 (by kernel_rfl) rfl #[.int .i64 t425, .int .i64 a1] rfl zlx ?_; (with_reducible refine (spec_l10Common.calls k t425 a1 t426 _ A7.out).mono ?_); rintro e w' ⟨rfl, ⟨nd, rfl⟩⟩; refine ⟨_, rfl, ?_⟩; (try (rw [drewN_self w9]; generalize hq_ : World.drewN w9 _ = w9; replace BK424 : Aside0 (w9.heap[gb424]? = some (.cells #[.int .i64 0, .int .i64 0] 37 (0, 0))) := ⟨by rw [← hq_]; exact (zbx BK424.out)⟩; replace HB : Aside0 (Below w.heap.size w w9) := ⟨by rw [← hq_]; exact (zBy HB.out GE424.out)⟩; clear hq_))))
    replace BK424 := Aside0.mk (blk_drew BK424.out)
    replace HB := Aside0.mk (below_drew1 HB.out)
    refine start_ (n := 9) (S := fun w' => True) (ds := []) #[F,F,F,F,F,F,F,F,F] (by kernel_rfl) rfl rfl trivial (fun hHeld => ?_); refine with_tabW spec_l20Ratio.tab4 spec_l20Ratio.bits4 (fun HT_ HW_ => ?_)
    generalize w9.drew = w10 at BK424 HB hHeld ⊢
    refine pure_ (i := 0) (N := some 14) (v := ?_) (a' := ?_) #[T,F,F,F,F,F,F,F,F] rfl rfl (any_of HT_.out (by kernel_rfl)) (fun _ _ _ h => h) (Or.inl ⟨by rfl, ?_⟩) ?_ ?_
    rotate_left
    ·exact zwx
    rotate_left
    ·exact zpx
    refine pure_ (i := 1) (N := some 15) (v := ?_) (a' := ?_) #[T,T,F,F,F,F,F,F,F] rfl rfl (any_of HT_.out (by kernel_rfl)) (fun _ _ _ h => h) (Or.inl ⟨by rfl, ?_⟩) ?_ ?_
    rotate_left
    ·exact zwx
    rotate_left
    ·exact zpx
    refine pure_ (i := 2) (N := some 16) (v := ?_) (a' := ?_) #[T,T,T,F,F,F,F,F,F] rfl rfl (any_of HT_.out (by kernel_rfl)) (fun _ _ _ h => h) (Or.inl ⟨by rfl, ?_⟩) ?_ ?_
    rotate_left
    ·exact zwx
    rotate_left
    ·exact zpx
    refine pure_ (i := 3) (N := some 17) (v := ?_) (a' := ?_) #[T,T,T,T,F,F,F,F,F] rfl rfl (any_of HT_.out (by kernel_rfl)) (fun _ _ _ h => h) (Or.inl ⟨by rfl, ?_⟩) ?_ ?_
    rotate_left
    ·exact zwx
    rotate_left
    ·exact zpx
    refine pure_ (i := 4) (N := some 18) (v := ?_) (a' := ?_) #[T,T,T,T,T,F,F,F,F] rfl rfl (any_of HT_.out (by kernel_rfl)) (fun _ _ _ h => h) (Or.inl ⟨by rfl, ?_⟩) ?_ ?_
    rotate_left
    ·exact zwx
    rotate_left
    ·exact zpx
    refine pure_ (i := 5) (N := some 19) (v := ?_) (a' := ?_) #[T,T,T,T,T,T,F,F,F] rfl rfl (any_of HT_.out (by kernel_rfl)) (fun _ _ _ h => h) (Or.inl ⟨by rfl, ?_⟩) ?_ ?_
    rotate_left
    ·exact zwx
    rotate_left
    ·exact zpx
    refine pure_ (i := 6) (N := some 20) (v := ?_) (a' := ?_) #[T,T,T,T,T,T,T,F,F] rfl rfl (any_of HT_.out (by kernel_rfl)) (fun _ _ _ h => h) (Or.inl ⟨by rfl, ?_⟩) ?_ ?_
    rotate_left
    ·exact zwx
    rotate_left
    ·exact zpx
    refine one_ (i := 7) (N := none) #[T,T,T,T,T,T,T,T,F] rfl rfl (one_of HT_.out (by kernel_rfl)) (by decide) (fun K hK => ?_)
    have hs11 : w10.cell? ⟨gb424, 0, none⟩ = some (.int .i64 0) := (blk_cell BK424.out 0).trans rfl
    have hfs11 := blk_frozen BK424.out 0
    have hs12 : w10.cell? ⟨gb424, 1, none⟩ = some (.int .i64 0) := (blk_cell BK424.out 1).trans rfl
    have hfs12 := blk_frozen BK424.out 1
    refine skip_ (w1 := ?_) (by rfl) rfl ?_ ?_
    rotate_left
    ·go_simp
     rfl
    refine hK.out _ _ trivial (fun hHeld => ?_)
    clear hK K
    refine pure_ (i := 8) (N := some 5) (v := ?_) (a' := ?_) #[T,T,T,T,T,T,T,T,T] rfl rfl (any_of HT_.out (by kernel_rfl)) (fun _ _ _ h => h) (Or.inl ⟨by rfl, ?_⟩) ?_ ?_
    rotate_left
    ·exact zwx
    rotate_left
    ·exact zpx
    refine done_ (done_of HT_.out (by kernel_rfl)) ?_
    try go_wp2
    refine bodyPost_ret (results_ct rfl _ _ gb424 37 #[.int .i64 (wrap64 (Int.tdiv a0 t426)), .int .i64 (wrap64 (Int.tdiv a1 t426))] (0, 0) _ rfl (by refine zbx ?_; refine blk_put (cs := #[.int .i64 (wrap64 (Int.tdiv a0 t426)), .int .i64 0]) ?_ 1 _ rfl; refine zbx ?_; refine blk_put (cs := #[.int .i64 0, .int .i64 0]) ?_ 0 _ rfl; refine zbx ?_; exact BK424.out) Try.underlying37 rfl (by kernel_rfl)) rfl ?_
    exact ⟨by first | rfl | (simp [errW_none, errW_some] <;> rfl) | (simp [*, errW_none, errW_some] <;> rfl), by exact zBy HB.out GE424.out⟩

/-! ### spec_l20Valid: function 41 -/
def spec_l20Valid.f (k : Nat) (a0_0 : Int) (a0_1 : Int) (a0_2 : Int) (a0_3 : Int) (a1 : Int) (a2 : Int) : Option (Int × Int × Bool) := (spec_l20Good.f a0_0 a0_1 a0_2 a0_3).bind fun t429 => (if t429 = true then ((spec_l20Ratio.f k a1 a2).bind fun bt430 => (some (bt430.1, bt430.2.1, bt430.2.2))) else (some (0, 0, false)))
theorem spec_l20Valid.mono : ∀ a0 a1 a2 a3 a4 a5 k, LeO (spec_l20Valid.f k a0 a1 a2 a3 a4 a5) (spec_l20Valid.f (k + 1) a0 a1 a2 a3 a4 a5) := by
 intro a0 a1 a2 a3 a4 a5 k
 unfold spec_l20Valid.f
 repeat' first
  | (with_reducible exact spec_l20Ratio.mono _ _ _)
  | (with_reducible exact LeO.refl _)
  | (with_reducible exact LeO.none _)
  | (with_reducible refine LeO.ite ?_ ?_)
  | (with_reducible refine LeO.bind ?_ (fun _ => ?_))
  | exact spec_l20Ratio.mono _ _ _
  | exact LeO.none _
  | refine LeO.ite ?_ ?_
  | refine LeO.bind ?_ (fun _ => ?_)
set_option maxHeartbeats 8000000 in
set_option maxRecDepth 100000 in
theorem spec_l20Valid.calls (k : Nat) (a0_0 : Int) (a0_1 : Int) (a0_2 : Int) (a0_3 : Int) (a1 : Int) (a2 : Int) (r1 : Int) (r2 : Int) (r3 : Bool) (w : World) (h : spec_l20Valid.f k a0_0 a0_1 a0_2 a0_3 a1 a2 = some (r1, r2, r3)) :
 Calls Try.prog 41 #[.agg #[.int .i64 a0_0, .int .i64 a0_1, .int .i64 a0_2, .int .i64 a0_3], .int .i64 a1, .int .i64 a2] w fun e w' => e = .returned (.tuple #[.agg #[.int .i64 r1, .int .i64 r2], .bool r3]) ∧ Below w.heap.size w w' := by
 have hu30 := Try.underlying30
 have hu37 := Try.underlying37
 have HB := Aside0.mk (Below.refl w.heap.size w)
 have H : ((spec_l20Good.f a0_0 a0_1 a0_2 a0_3).bind fun t429 => (if t429 = true then ((spec_l20Ratio.f k a1 a2).bind fun bt430 => (some (bt430.1, bt430.2.1, bt430.2.2))) else (some (0, 0, false)))) = some (r1, r2, r3) := h
 clear h
 replace H := Option.bind_eq_some_iff.mp H
 obtain ⟨t429, A40, H⟩ := H
 replace H : (if t429 = true then ((spec_l20Ratio.f k a1 a2).bind fun bt430 => (some (bt430.1, bt430.2.1, bt430.2.2))) else (some (0, 0, false))) = some (r1, r2, r3) := H
 have A4 := Aside0.mk A40
 clear A40
 by_cases c5 : t429 = true
 ·subst c5
  have H1 : ((spec_l20Ratio.f k a1 a2).bind fun bt430 => (some (bt430.1, bt430.2.1, bt430.2.2))) = some (r1, r2, r3) := by rw [if_pos rfl] at H; exact H
  clear H
  have H := H1
  clear H1
  replace H := Option.bind_eq_some_iff.mp H
  obtain ⟨⟨t430, t431, t432⟩, A60, H⟩ := H
  replace H : (some (t430, t431, t432)) = some (r1, r2, r3) := H
  have A6 := Aside0.mk A60
  clear A60
  focus
   simp only [Option.some.injEq, Prod.mk.injEq] at H
   obtain ⟨rfl, rfl, rfl⟩ := H
   go_enter Try.func41, Try.ntmps41
   go_wp2_with (first | ((with_reducible refine gate_dst (N := 3) rfl ?_); refine box_event ?hg (N := 3) ?hd (cs := #[.int .i64 a0_0, .int .i64 a0_1, .int .i64 a0_2, .int .i64 a0_3]) (t := 30) ?hr ?_; (case hd => rfl); (case hg => rfl); (case hr => exact zsx); intro gb427 hg w7 hbox hb; have BK427 := Aside0.mk (hbox); have GW427 := zns hg HB.out; have GE427 := zns hg HB.out; replace HB := Aside0.mk (below_step (zBx HB.out) hb); clear hb hbox hg) | ((with_reducible refine gate_dst (N := 6) rfl ?_); refine box_event ?hg (N := 6) ?hd (cs := #[.int .i64 0, .int .i64 0]) (t := 37) ?hr ?_; (case hd => rfl); (case hg => rfl); (case hr => exact zsx); intro gb428 hg w8 hbox hb; have BK428 := Aside0.mk (hbox); have GW428 := zns hg HB.out; have GE428 := zns hg HB.out; replace HB := Aside0.mk (below_step (zBy HB.out GE427.out) hb); have NB427_428 := znl hg BK427.out; have NB428_427 := zng hg BK427.out; replace BK427 := zbl BK427.out hb; clear hb hbox hg; have hnb9 := NB427_428.out; have hnc9 := NB428_427.out; have hcz10_0 : w8.cell? ⟨gb427, 0, none⟩ = some (.int .i64 a0_0) := (blk_cell BK427.out 0).trans rfl; have hcz10_1 : w8.cell? ⟨gb427, 1, none⟩ = some (.int .i64 a0_1) := (blk_cell BK427.out 1).trans rfl; have hcz10_2 : w8.cell? ⟨gb427, 2, none⟩ = some (.int .i64 a0_2) := (blk_cell BK427.out 2).trans rfl; have hcz10_3 : w8.cell? ⟨gb427, 3, none⟩ = some (.int .i64 a0_3) := (blk_cell BK427.out 3).trans rfl; have hfz10_0 := blk_frozen BK427.out 0; have hfz10_1 := blk_frozen BK427.out 1; have hfz10_2 := blk_frozen BK427.out 2; have hfz10_3 := blk_frozen BK427.out 3) | ((with_reducible refine gate_callee (f := 42) rfl ?_); refine goesL_ (some 9) rfl rfl Try.func42 (by kernel_rfl) rfl #[.agg #[.int .i64 a0_0, .int .i64 a0_1, .int .i64 a0_2, .int .i64 a0_3]] rfl zlx ?_; (with_reducible refine (spec_l20Good.calls a0_0 a0_1 a0_2 a0_3 true _ A4.out).mono ?_); rintro e w11 ⟨rfl, hb⟩; refine ⟨_, rfl, ?_⟩; replace BK427 := zbl BK427.out hb; replace BK428 := zbl BK428.out hb; replace HB := Aside0.mk (below_step (zBz HB.out GE427.out GE428.out) hb); (try clear hb); (try clear hb2); (try clear hk); (try clear hi)) | ((with_reducible refine gate_callee (f := 43) rfl ?_); refine goesL_ (some 14) rfl rfl Try.func43 (by kernel_rfl) rfl #[.int .i64 a1, .int .i64 a2] rfl zlx ?_; (with_reducible refine (spec_l20Ratio.calls k a1 a2 t430 t431 t432 _ A6.out).mono ?_); rintro e w12 ⟨rfl, hb⟩; refine ⟨_, rfl, ?_⟩; replace BK427 := zbl BK427.out hb; replace BK428 := zbl BK428.out hb; replace HB := Aside0.mk (below_step (zBz HB.out GE427.out GE428.out) hb); (try clear hb); (try clear hb2); (try clear hk); (try clear hi); have hcz13_0 : w12.cell? ⟨gb428, 0, none⟩ = some (.int .i64 0) := (blk_cell BK428.out 0).trans rfl; have hcz13_1 : w12.cell? ⟨gb428, 1, none⟩ = some (.int .i64 0) := (blk_cell BK428.out 1).trans rfl; have hfz13_0 := blk_frozen BK428.out 0; have hfz13_1 := blk_frozen BK428.out 1))
   refine bodyPost_ret (results_ct rfl _ _ gb428 37 #[.int .i64 t430, .int .i64 t431] (0, 0) _ rfl (by refine zbx ?_; refine blk_put (cs := #[.int .i64 t430, .int .i64 0]) ?_ 1 _ rfl; refine zbx ?_; refine blk_put (cs := #[.int .i64 0, .int .i64 0]) ?_ 0 _ rfl; refine zbx ?_; exact BK428.out) Try.underlying37 rfl (by kernel_rfl)) rfl ?_
   exact ⟨by first | rfl | (simp [errW_none, errW_some] <;> rfl) | (simp [*, errW_none, errW_some] <;> rfl), by exact zBz HB.out GE427.out GE428.out⟩
 ·replace c5 := Bool.eq_false_iff.mpr c5
  subst c5
  have H1 : (some (0, 0, false)) = some (r1, r2, r3) := by rw [if_neg (show ¬ (false = true) by decide)] at H; exact H
  clear H
  have H := H1
  clear H1
  focus
   simp only [Option.some.injEq, Prod.mk.injEq] at H
   obtain ⟨rfl, rfl, rfl⟩ := H
   go_enter Try.func41, Try.ntmps41
   go_wp2_with (first | ((with_reducible refine gate_dst (N := 3) rfl ?_); refine box_event ?hg (N := 3) ?hd (cs := #[.int .i64 a0_0, .int .i64 a0_1, .int .i64 a0_2, .int .i64 a0_3]) (t := 30) ?hr ?_; (case hd => rfl); (case hg => rfl); (case hr => exact zsx); intro gb427 hg w14 hbox hb; have BK427 := Aside0.mk (hbox); have GW427 := zns hg HB.out; have GE427 := zns hg HB.out; replace HB := Aside0.mk (below_step (zBx HB.out) hb); clear hb hbox hg) | ((with_reducible refine gate_dst (N := 6) rfl ?_); refine box_event ?hg (N := 6) ?hd (cs := #[.int .i64 0, .int .i64 0]) (t := 37) ?hr ?_; (case hd => rfl); (case hg => rfl); (case hr => exact zsx); intro gb428 hg w15 hbox hb; have BK428 := Aside0.mk (hbox); have GW428 := zns hg HB.out; have GE428 := zns hg HB.out; replace HB := Aside0.mk (below_step (zBy HB.out GE427.out) hb); have NB427_428 := znl hg BK427.out; have NB428_427 := zng hg BK427.out; replace BK427 := zbl BK427.out hb; clear hb hbox hg; have hnb16 := NB427_428.out; have hnc16 := NB428_427.out; have hcz17_0 : w15.cell? ⟨gb427, 0, none⟩ = some (.int .i64 a0_0) := (blk_cell BK427.out 0).trans rfl; have hcz17_1 : w15.cell? ⟨gb427, 1, none⟩ = some (.int .i64 a0_1) := (blk_cell BK427.out 1).trans rfl; have hcz17_2 : w15.cell? ⟨gb427, 2, none⟩ = some (.int .i64 a0_2) := (blk_cell BK427.out 2).trans rfl; have hcz17_3 : w15.cell? ⟨gb427, 3, none⟩ = some (.int .i64 a0_3) := (blk_cell BK427.out 3).trans rfl; have hfz17_0 := blk_frozen BK427.out 0; have hfz17_1 := blk_frozen BK427.out 1; have hfz17_2 := blk_frozen BK427.out 2; have hfz17_3 := blk_frozen BK427.out 3) | ((with_reducible refine gate_callee (f := 42) rfl ?_); refine goesL_ (some 9) rfl rfl Try.func42 (by kernel_rfl) rfl #[.agg #[.int .i64 a0_0, .int .i64 a0_1, .int .i64 a0_2, .int .i64 a0_3]] rfl zlx ?_; (with_reducible refine (spec_l20Good.calls a0_0 a0_1 a0_2 a0_3 false _ A4.out).mono ?_); rintro e w18 ⟨rfl, hb⟩; refine ⟨_, rfl, ?_⟩; replace BK427 := zbl BK427.out hb; replace BK428 := zbl BK428.out hb; replace HB := Aside0.mk (below_step (zBz HB.out GE427.out GE428.out) hb); (try clear hb); (try clear hb2); (try clear hk); (try clear hi); have hcz19_0 : w18.cell? ⟨gb428, 0, none⟩ = some (.int .i64 0) := (blk_cell BK428.out 0).trans rfl; have hcz19_1 : w18.cell? ⟨gb428, 1, none⟩ = some (.int .i64 0) := (blk_cell BK428.out 1).trans rfl; have hfz19_0 := blk_frozen BK428.out 0; have hfz19_1 := blk_frozen BK428.out 1))
   refine bodyPost_ret (results_ct rfl _ _ gb428 37 #[.int .i64 0, .int .i64 0] (0, 0) _ rfl (by refine zbx ?_; refine blk_put (cs := #[.int .i64 0, .int .i64 0]) ?_ 1 _ rfl; refine zbx ?_; refine blk_put (cs := #[.int .i64 0, .int .i64 0]) ?_ 0 _ rfl; refine zbx ?_; exact BK428.out) Try.underlying37 rfl (by kernel_rfl)) rfl ?_
   exact ⟨by first | rfl | (simp [errW_none, errW_some] <;> rfl) | (simp [*, errW_none, errW_some] <;> rfl), by exact zBz HB.out GE427.out GE428.out⟩

/-! ### spec_ThreatScore: function 16 -/
def spec_ThreatScore.f (k : Nat) (a0_0 : Int) (a0_1 : Int) (a0_2 : Int) (a0_3 : Int) : Option (Int × Int × Bool) := (spec_l20Valid.f k a0_0 a0_1 a0_2 a0_3 a0_0 (wrap64 ((wrap64 (a0_0 + a0_1)) + a0_2))).bind fun bt435 => (some (bt435.1, bt435.2.1, bt435.2.2))
theorem spec_ThreatScore.mono : ∀ a0 a1 a2 a3 k, LeO (spec_ThreatScore.f k a0 a1 a2 a3) (spec_ThreatScore.f (k + 1) a0 a1 a2 a3) := by
 intro a0 a1 a2 a3 k
 unfold spec_ThreatScore.f
 repeat' first
  | (with_reducible exact spec_l20Valid.mono _ _ _ _ _ _ _)
  | (with_reducible exact LeO.refl _)
  | (with_reducible exact LeO.none _)
  | (with_reducible refine LeO.ite ?_ ?_)
  | (with_reducible refine LeO.bind ?_ (fun _ => ?_))
  | exact spec_l20Valid.mono _ _ _ _ _ _ _
  | exact LeO.none _
  | refine LeO.ite ?_ ?_
  | refine LeO.bind ?_ (fun _ => ?_)
set_option maxHeartbeats 8000000 in
set_option maxRecDepth 100000 in
theorem spec_ThreatScore.calls (k : Nat) (a0_0 : Int) (a0_1 : Int) (a0_2 : Int) (a0_3 : Int) (r1 : Int) (r2 : Int) (r3 : Bool) (w : World) (h : spec_ThreatScore.f k a0_0 a0_1 a0_2 a0_3 = some (r1, r2, r3)) :
 Calls Try.prog 16 #[.agg #[.int .i64 a0_0, .int .i64 a0_1, .int .i64 a0_2, .int .i64 a0_3]] w fun e w' => e = .returned (.tuple #[.agg #[.int .i64 r1, .int .i64 r2], .bool r3]) ∧ Below w.heap.size w w' := by
 have hu30 := Try.underlying30
 have hu37 := Try.underlying37
 have HB := Aside0.mk (Below.refl w.heap.size w)
 have H : ((spec_l20Valid.f k a0_0 a0_1 a0_2 a0_3 a0_0 (wrap64 ((wrap64 (a0_0 + a0_1)) + a0_2))).bind fun bt435 => (some (bt435.1, bt435.2.1, bt435.2.2))) = some (r1, r2, r3) := h
 clear h
 replace H := Option.bind_eq_some_iff.mp H
 obtain ⟨⟨t435, t436, t437⟩, A20, H⟩ := H
 replace H : (some (t435, t436, t437)) = some (r1, r2, r3) := H
 have A2 := Aside0.mk A20
 clear A20
 focus
  simp only [Option.some.injEq, Prod.mk.injEq] at H
  obtain ⟨rfl, rfl, rfl⟩ := H
  go_enter Try.func16, Try.ntmps16
  go_wp2_with (first | ((with_reducible refine gate_dst (N := 1) rfl ?_); refine box_event ?hg (N := 1) ?hd (cs := #[.int .i64 a0_0, .int .i64 a0_1, .int .i64 a0_2, .int .i64 a0_3]) (t := 30) ?hr ?_; (case hd => rfl); (case hg => rfl); (case hr => exact zsx); intro gb433 hg w3 hbox hb; have BK433 := Aside0.mk (hbox); have GW433 := zns hg HB.out; have GE433 := zns hg HB.out; replace HB := Aside0.mk (below_step (zBx HB.out) hb); clear hb hbox hg) | ((with_reducible refine gate_dst (N := 2) rfl ?_); refine box_event ?hg (N := 2) ?hd (cs := #[.int .i64 0, .int .i64 0]) (t := 37) ?hr ?_; (case hd => rfl); (case hg => rfl); (case hr => exact zsx); intro gb434 hg w4 hbox hb; have BK434 := Aside0.mk (hbox); have GW434 := zns hg HB.out; have GE434 := zns hg HB.out; replace HB := Aside0.mk (below_step (zBy HB.out GE433.out) hb); have NB433_434 := znl hg BK433.out; have NB434_433 := zng hg BK433.out; replace BK433 := zbl BK433.out hb; clear hb hbox hg; have hnb5 := NB433_434.out; have hnc5 := NB434_433.out; have hcz6_0 : w4.cell? ⟨gb433, 0, none⟩ = some (.int .i64 a0_0) := (blk_cell BK433.out 0).trans rfl; have hcz6_1 : w4.cell? ⟨gb433, 1, none⟩ = some (.int .i64 a0_1) := (blk_cell BK433.out 1).trans rfl; have hcz6_2 : w4.cell? ⟨gb433, 2, none⟩ = some (.int .i64 a0_2) := (blk_cell BK433.out 2).trans rfl; have hcz6_3 : w4.cell? ⟨gb433, 3, none⟩ = some (.int .i64 a0_3) := (blk_cell BK433.out 3).trans rfl; have hfz6_0 := blk_frozen BK433.out 0; have hfz6_1 := blk_frozen BK433.out 1; have hfz6_2 := blk_frozen BK433.out 2; have hfz6_3 := blk_frozen BK433.out 3) | ((with_reducible refine gate_callee (f := 41) rfl ?_); refine goesL_ (some 15) rfl rfl Try.func41 (by kernel_rfl) rfl #[.agg #[.int .i64 a0_0, .int .i64 a0_1, .int .i64 a0_2, .int .i64 a0_3], .int .i64 a0_0, .int .i64 (wrap64 ((wrap64 (a0_0 + a0_1)) + a0_2))] rfl zlx ?_; (with_reducible refine (spec_l20Valid.calls k a0_0 a0_1 a0_2 a0_3 a0_0 (wrap64 ((wrap64 (a0_0 + a0_1)) + a0_2)) t435 t436 t437 _ A2.out).mono ?_); rintro e w7 ⟨rfl, hb⟩; refine ⟨_, rfl, ?_⟩; replace BK433 := zbl BK433.out hb; replace BK434 := zbl BK434.out hb; replace HB := Aside0.mk (below_step (zBz HB.out GE433.out GE434.out) hb); (try clear hb); (try clear hb2); (try clear hk); (try clear hi); have hcz8_0 : w7.cell? ⟨gb434, 0, none⟩ = some (.int .i64 0) := (blk_cell BK434.out 0).trans rfl; have hcz8_1 : w7.cell? ⟨gb434, 1, none⟩ = some (.int .i64 0) := (blk_cell BK434.out 1).trans rfl; have hfz8_0 := blk_frozen BK434.out 0; have hfz8_1 := blk_frozen BK434.out 1))
  refine bodyPost_ret (results_ct rfl _ _ gb434 37 #[.int .i64 t435, .int .i64 t436] (0, 0) _ rfl (by refine zbx ?_; refine blk_put (cs := #[.int .i64 t435, .int .i64 0]) ?_ 1 _ rfl; refine zbx ?_; refine blk_put (cs := #[.int .i64 0, .int .i64 0]) ?_ 0 _ rfl; refine zbx ?_; exact BK434.out) Try.underlying37 rfl (by kernel_rfl)) rfl ?_
  exact ⟨by first | rfl | (simp [errW_none, errW_some] <;> rfl) | (simp [*, errW_none, errW_some] <;> rfl), by exact zBz HB.out GE433.out GE434.out⟩

/-! ### spec_HitRate: function 17 -/
def spec_HitRate.f (k : Nat) (a0_0 : Int) (a0_1 : Int) (a0_2 : Int) (a0_3 : Int) : Option (Int × Int × Bool) := (spec_l20Valid.f k a0_0 a0_1 a0_2 a0_3 a0_0 (wrap64 (a0_0 + a0_1))).bind fun bt440 => (some (bt440.1, bt440.2.1, bt440.2.2))
theorem spec_HitRate.mono : ∀ a0 a1 a2 a3 k, LeO (spec_HitRate.f k a0 a1 a2 a3) (spec_HitRate.f (k + 1) a0 a1 a2 a3) := by
 intro a0 a1 a2 a3 k
 unfold spec_HitRate.f
 repeat' first
  | (with_reducible exact spec_l20Valid.mono _ _ _ _ _ _ _)
  | (with_reducible exact LeO.refl _)
  | (with_reducible exact LeO.none _)
  | (with_reducible refine LeO.ite ?_ ?_)
  | (with_reducible refine LeO.bind ?_ (fun _ => ?_))
  | exact spec_l20Valid.mono _ _ _ _ _ _ _
  | exact LeO.none _
  | refine LeO.ite ?_ ?_
  | refine LeO.bind ?_ (fun _ => ?_)
set_option maxHeartbeats 8000000 in
set_option maxRecDepth 100000 in
theorem spec_HitRate.calls (k : Nat) (a0_0 : Int) (a0_1 : Int) (a0_2 : Int) (a0_3 : Int) (r1 : Int) (r2 : Int) (r3 : Bool) (w : World) (h : spec_HitRate.f k a0_0 a0_1 a0_2 a0_3 = some (r1, r2, r3)) :
 Calls Try.prog 17 #[.agg #[.int .i64 a0_0, .int .i64 a0_1, .int .i64 a0_2, .int .i64 a0_3]] w fun e w' => e = .returned (.tuple #[.agg #[.int .i64 r1, .int .i64 r2], .bool r3]) ∧ Below w.heap.size w w' := by
 have hu30 := Try.underlying30
 have hu37 := Try.underlying37
 have HB := Aside0.mk (Below.refl w.heap.size w)
 have H : ((spec_l20Valid.f k a0_0 a0_1 a0_2 a0_3 a0_0 (wrap64 (a0_0 + a0_1))).bind fun bt440 => (some (bt440.1, bt440.2.1, bt440.2.2))) = some (r1, r2, r3) := h
 clear h
 replace H := Option.bind_eq_some_iff.mp H
 obtain ⟨⟨t440, t441, t442⟩, A20, H⟩ := H
 replace H : (some (t440, t441, t442)) = some (r1, r2, r3) := H
 have A2 := Aside0.mk A20
 clear A20
 focus
  simp only [Option.some.injEq, Prod.mk.injEq] at H
  obtain ⟨rfl, rfl, rfl⟩ := H
  go_enter Try.func17, Try.ntmps17
  go_wp2_with (first | ((with_reducible refine gate_dst (N := 1) rfl ?_); refine box_event ?hg (N := 1) ?hd (cs := #[.int .i64 a0_0, .int .i64 a0_1, .int .i64 a0_2, .int .i64 a0_3]) (t := 30) ?hr ?_; (case hd => rfl); (case hg => rfl); (case hr => exact zsx); intro gb438 hg w3 hbox hb; have BK438 := Aside0.mk (hbox); have GW438 := zns hg HB.out; have GE438 := zns hg HB.out; replace HB := Aside0.mk (below_step (zBx HB.out) hb); clear hb hbox hg) | ((with_reducible refine gate_dst (N := 2) rfl ?_); refine box_event ?hg (N := 2) ?hd (cs := #[.int .i64 0, .int .i64 0]) (t := 37) ?hr ?_; (case hd => rfl); (case hg => rfl); (case hr => exact zsx); intro gb439 hg w4 hbox hb; have BK439 := Aside0.mk (hbox); have GW439 := zns hg HB.out; have GE439 := zns hg HB.out; replace HB := Aside0.mk (below_step (zBy HB.out GE438.out) hb); have NB438_439 := znl hg BK438.out; have NB439_438 := zng hg BK438.out; replace BK438 := zbl BK438.out hb; clear hb hbox hg; have hnb5 := NB438_439.out; have hnc5 := NB439_438.out; have hcz6_0 : w4.cell? ⟨gb438, 0, none⟩ = some (.int .i64 a0_0) := (blk_cell BK438.out 0).trans rfl; have hcz6_1 : w4.cell? ⟨gb438, 1, none⟩ = some (.int .i64 a0_1) := (blk_cell BK438.out 1).trans rfl; have hcz6_2 : w4.cell? ⟨gb438, 2, none⟩ = some (.int .i64 a0_2) := (blk_cell BK438.out 2).trans rfl; have hcz6_3 : w4.cell? ⟨gb438, 3, none⟩ = some (.int .i64 a0_3) := (blk_cell BK438.out 3).trans rfl; have hfz6_0 := blk_frozen BK438.out 0; have hfz6_1 := blk_frozen BK438.out 1; have hfz6_2 := blk_frozen BK438.out 2; have hfz6_3 := blk_frozen BK438.out 3) | ((with_reducible refine gate_callee (f := 41) rfl ?_); refine goesL_ (some 12) rfl rfl Try.func41 (by kernel_rfl) rfl #[.agg #[.int .i64 a0_0, .int .i64 a0_1, .int .i64 a0_2, .int .i64 a0_3], .int .i64 a0_0, .int .i64 (wrap64 (a0_0 + a0_1))] rfl zlx ?_; (with_reducible refine (spec_l20Valid.calls k a0_0 a0_1 a0_2 a0_3 a0_0 (wrap64 (a0_0 + a0_1)) t440 t441 t442 _ A2.out).mono ?_); rintro e w7 ⟨rfl, hb⟩; refine ⟨_, rfl, ?_⟩; replace BK438 := zbl BK438.out hb; replace BK439 := zbl BK439.out hb; replace HB := Aside0.mk (below_step (zBz HB.out GE438.out GE439.out) hb); (try clear hb); (try clear hb2); (try clear hk); (try clear hi); have hcz8_0 : w7.cell? ⟨gb439, 0, none⟩ = some (.int .i64 0) := (blk_cell BK439.out 0).trans rfl; have hcz8_1 : w7.cell? ⟨gb439, 1, none⟩ = some (.int .i64 0) := (blk_cell BK439.out 1).trans rfl; have hfz8_0 := blk_frozen BK439.out 0; have hfz8_1 := blk_frozen BK439.out 1))
  refine bodyPost_ret (results_ct rfl _ _ gb439 37 #[.int .i64 t440, .int .i64 t441] (0, 0) _ rfl (by refine zbx ?_; refine blk_put (cs := #[.int .i64 t440, .int .i64 0]) ?_ 1 _ rfl; refine zbx ?_; refine blk_put (cs := #[.int .i64 0, .int .i64 0]) ?_ 0 _ rfl; refine zbx ?_; exact BK439.out) Try.underlying37 rfl (by kernel_rfl)) rfl ?_
  exact ⟨by first | rfl | (simp [errW_none, errW_some] <;> rfl) | (simp [*, errW_none, errW_some] <;> rfl), by exact zBz HB.out GE438.out GE439.out⟩

/-! ### spec_AlarmRatio: function 18 -/
def spec_AlarmRatio.f (k : Nat) (a0_0 : Int) (a0_1 : Int) (a0_2 : Int) (a0_3 : Int) : Option (Int × Int × Bool) := (spec_l20Valid.f k a0_0 a0_1 a0_2 a0_3 a0_2 (wrap64 (a0_0 + a0_2))).bind fun bt445 => (some (bt445.1, bt445.2.1, bt445.2.2))
theorem spec_AlarmRatio.mono : ∀ a0 a1 a2 a3 k, LeO (spec_AlarmRatio.f k a0 a1 a2 a3) (spec_AlarmRatio.f (k + 1) a0 a1 a2 a3) := by
 intro a0 a1 a2 a3 k
 unfold spec_AlarmRatio.f
 repeat' first
  | (with_reducible exact spec_l20Valid.mono _ _ _ _ _ _ _)
  | (with_reducible exact LeO.refl _)
  | (with_reducible exact LeO.none _)
  | (with_reducible refine LeO.ite ?_ ?_)
  | (with_reducible refine LeO.bind ?_ (fun _ => ?_))
  | exact spec_l20Valid.mono _ _ _ _ _ _ _
  | exact LeO.none _
  | refine LeO.ite ?_ ?_
  | refine LeO.bind ?_ (fun _ => ?_)
set_option maxHeartbeats 8000000 in
set_option maxRecDepth 100000 in
theorem spec_AlarmRatio.calls (k : Nat) (a0_0 : Int) (a0_1 : Int) (a0_2 : Int) (a0_3 : Int) (r1 : Int) (r2 : Int) (r3 : Bool) (w : World) (h : spec_AlarmRatio.f k a0_0 a0_1 a0_2 a0_3 = some (r1, r2, r3)) :
 Calls Try.prog 18 #[.agg #[.int .i64 a0_0, .int .i64 a0_1, .int .i64 a0_2, .int .i64 a0_3]] w fun e w' => e = .returned (.tuple #[.agg #[.int .i64 r1, .int .i64 r2], .bool r3]) ∧ Below w.heap.size w w' := by
 have hu30 := Try.underlying30
 have hu37 := Try.underlying37
 have HB := Aside0.mk (Below.refl w.heap.size w)
 have H : ((spec_l20Valid.f k a0_0 a0_1 a0_2 a0_3 a0_2 (wrap64 (a0_0 + a0_2))).bind fun bt445 => (some (bt445.1, bt445.2.1, bt445.2.2))) = some (r1, r2, r3) := h
 clear h
 replace H := Option.bind_eq_some_iff.mp H
 obtain ⟨⟨t445, t446, t447⟩, A20, H⟩ := H
 replace H : (some (t445, t446, t447)) = some (r1, r2, r3) := H
 have A2 := Aside0.mk A20
 clear A20
 focus
  simp only [Option.some.injEq, Prod.mk.injEq] at H
  obtain ⟨rfl, rfl, rfl⟩ := H
  go_enter Try.func18, Try.ntmps18
  go_wp2_with (first | ((with_reducible refine gate_dst (N := 1) rfl ?_); refine box_event ?hg (N := 1) ?hd (cs := #[.int .i64 a0_0, .int .i64 a0_1, .int .i64 a0_2, .int .i64 a0_3]) (t := 30) ?hr ?_; (case hd => rfl); (case hg => rfl); (case hr => exact zsx); intro gb443 hg w3 hbox hb; have BK443 := Aside0.mk (hbox); have GW443 := zns hg HB.out; have GE443 := zns hg HB.out; replace HB := Aside0.mk (below_step (zBx HB.out) hb); clear hb hbox hg) | ((with_reducible refine gate_dst (N := 2) rfl ?_); refine box_event ?hg (N := 2) ?hd (cs := #[.int .i64 0, .int .i64 0]) (t := 37) ?hr ?_; (case hd => rfl); (case hg => rfl); (case hr => exact zsx); intro gb444 hg w4 hbox hb; have BK444 := Aside0.mk (hbox); have GW444 := zns hg HB.out; have GE444 := zns hg HB.out; replace HB := Aside0.mk (below_step (zBy HB.out GE443.out) hb); have NB443_444 := znl hg BK443.out; have NB444_443 := zng hg BK443.out; replace BK443 := zbl BK443.out hb; clear hb hbox hg; have hnb5 := NB443_444.out; have hnc5 := NB444_443.out; have hcz6_0 : w4.cell? ⟨gb443, 0, none⟩ = some (.int .i64 a0_0) := (blk_cell BK443.out 0).trans rfl; have hcz6_1 : w4.cell? ⟨gb443, 1, none⟩ = some (.int .i64 a0_1) := (blk_cell BK443.out 1).trans rfl; have hcz6_2 : w4.cell? ⟨gb443, 2, none⟩ = some (.int .i64 a0_2) := (blk_cell BK443.out 2).trans rfl; have hcz6_3 : w4.cell? ⟨gb443, 3, none⟩ = some (.int .i64 a0_3) := (blk_cell BK443.out 3).trans rfl; have hfz6_0 := blk_frozen BK443.out 0; have hfz6_1 := blk_frozen BK443.out 1; have hfz6_2 := blk_frozen BK443.out 2; have hfz6_3 := blk_frozen BK443.out 3) | ((with_reducible refine gate_callee (f := 41) rfl ?_); refine goesL_ (some 12) rfl rfl Try.func41 (by kernel_rfl) rfl #[.agg #[.int .i64 a0_0, .int .i64 a0_1, .int .i64 a0_2, .int .i64 a0_3], .int .i64 a0_2, .int .i64 (wrap64 (a0_0 + a0_2))] rfl zlx ?_; (with_reducible refine (spec_l20Valid.calls k a0_0 a0_1 a0_2 a0_3 a0_2 (wrap64 (a0_0 + a0_2)) t445 t446 t447 _ A2.out).mono ?_); rintro e w7 ⟨rfl, hb⟩; refine ⟨_, rfl, ?_⟩; replace BK443 := zbl BK443.out hb; replace BK444 := zbl BK444.out hb; replace HB := Aside0.mk (below_step (zBz HB.out GE443.out GE444.out) hb); (try clear hb); (try clear hb2); (try clear hk); (try clear hi); have hcz8_0 : w7.cell? ⟨gb444, 0, none⟩ = some (.int .i64 0) := (blk_cell BK444.out 0).trans rfl; have hcz8_1 : w7.cell? ⟨gb444, 1, none⟩ = some (.int .i64 0) := (blk_cell BK444.out 1).trans rfl; have hfz8_0 := blk_frozen BK444.out 0; have hfz8_1 := blk_frozen BK444.out 1))
  refine bodyPost_ret (results_ct rfl _ _ gb444 37 #[.int .i64 t445, .int .i64 t446] (0, 0) _ rfl (by refine zbx ?_; refine blk_put (cs := #[.int .i64 t445, .int .i64 0]) ?_ 1 _ rfl; refine zbx ?_; refine blk_put (cs := #[.int .i64 0, .int .i64 0]) ?_ 0 _ rfl; refine zbx ?_; exact BK444.out) Try.underlying37 rfl (by kernel_rfl)) rfl ?_
  exact ⟨by first | rfl | (simp [errW_none, errW_some] <;> rfl) | (simp [*, errW_none, errW_some] <;> rfl), by exact zBz HB.out GE443.out GE444.out⟩

/-! ### spec_FrequencyBias: function 19 -/
def spec_FrequencyBias.f (k : Nat) (a0_0 : Int) (a0_1 : Int) (a0_2 : Int) (a0_3 : Int) : Option (Int × Int × Bool) := (spec_l20Valid.f k a0_0 a0_1 a0_2 a0_3 (wrap64 (a0_0 + a0_2)) (wrap64 (a0_0 + a0_1))).bind fun bt450 => (some (bt450.1, bt450.2.1, bt450.2.2))
theorem spec_FrequencyBias.mono : ∀ a0 a1 a2 a3 k, LeO (spec_FrequencyBias.f k a0 a1 a2 a3) (spec_FrequencyBias.f (k + 1) a0 a1 a2 a3) := by
 intro a0 a1 a2 a3 k
 unfold spec_FrequencyBias.f
 repeat' first
  | (with_reducible exact spec_l20Valid.mono _ _ _ _ _ _ _)
  | (with_reducible exact LeO.refl _)
  | (with_reducible exact LeO.none _)
  | (with_reducible refine LeO.ite ?_ ?_)
  | (with_reducible refine LeO.bind ?_ (fun _ => ?_))
  | exact spec_l20Valid.mono _ _ _ _ _ _ _
  | exact LeO.none _
  | refine LeO.ite ?_ ?_
  | refine LeO.bind ?_ (fun _ => ?_)
set_option maxHeartbeats 8000000 in
set_option maxRecDepth 100000 in
theorem spec_FrequencyBias.calls (k : Nat) (a0_0 : Int) (a0_1 : Int) (a0_2 : Int) (a0_3 : Int) (r1 : Int) (r2 : Int) (r3 : Bool) (w : World) (h : spec_FrequencyBias.f k a0_0 a0_1 a0_2 a0_3 = some (r1, r2, r3)) :
 Calls Try.prog 19 #[.agg #[.int .i64 a0_0, .int .i64 a0_1, .int .i64 a0_2, .int .i64 a0_3]] w fun e w' => e = .returned (.tuple #[.agg #[.int .i64 r1, .int .i64 r2], .bool r3]) ∧ Below w.heap.size w w' := by
 have hu30 := Try.underlying30
 have hu37 := Try.underlying37
 have HB := Aside0.mk (Below.refl w.heap.size w)
 have H : ((spec_l20Valid.f k a0_0 a0_1 a0_2 a0_3 (wrap64 (a0_0 + a0_2)) (wrap64 (a0_0 + a0_1))).bind fun bt450 => (some (bt450.1, bt450.2.1, bt450.2.2))) = some (r1, r2, r3) := h
 clear h
 replace H := Option.bind_eq_some_iff.mp H
 obtain ⟨⟨t450, t451, t452⟩, A20, H⟩ := H
 replace H : (some (t450, t451, t452)) = some (r1, r2, r3) := H
 have A2 := Aside0.mk A20
 clear A20
 focus
  simp only [Option.some.injEq, Prod.mk.injEq] at H
  obtain ⟨rfl, rfl, rfl⟩ := H
  go_enter Try.func19, Try.ntmps19
  go_wp2_with (first | ((with_reducible refine gate_dst (N := 1) rfl ?_); refine box_event ?hg (N := 1) ?hd (cs := #[.int .i64 a0_0, .int .i64 a0_1, .int .i64 a0_2, .int .i64 a0_3]) (t := 30) ?hr ?_; (case hd => rfl); (case hg => rfl); (case hr => exact zsx); intro gb448 hg w3 hbox hb; have BK448 := Aside0.mk (hbox); have GW448 := zns hg HB.out; have GE448 := zns hg HB.out; replace HB := Aside0.mk (below_step (zBx HB.out) hb); clear hb hbox hg) | ((with_reducible refine gate_dst (N := 2) rfl ?_); refine box_event ?hg (N := 2) ?hd (cs := #[.int .i64 0, .int .i64 0]) (t := 37) ?hr ?_; (case hd => rfl); (case hg => rfl); (case hr => exact zsx); intro gb449 hg w4 hbox hb; have BK449 := Aside0.mk (hbox); have GW449 := zns hg HB.out; have GE449 := zns hg HB.out; replace HB := Aside0.mk (below_step (zBy HB.out GE448.out) hb); have NB448_449 := znl hg BK448.out; have NB449_448 := zng hg BK448.out; replace BK448 := zbl BK448.out hb; clear hb hbox hg; have hnb5 := NB448_449.out; have hnc5 := NB449_448.out; have hcz6_0 : w4.cell? ⟨gb448, 0, none⟩ = some (.int .i64 a0_0) := (blk_cell BK448.out 0).trans rfl; have hcz6_1 : w4.cell? ⟨gb448, 1, none⟩ = some (.int .i64 a0_1) := (blk_cell BK448.out 1).trans rfl; have hcz6_2 : w4.cell? ⟨gb448, 2, none⟩ = some (.int .i64 a0_2) := (blk_cell BK448.out 2).trans rfl; have hcz6_3 : w4.cell? ⟨gb448, 3, none⟩ = some (.int .i64 a0_3) := (blk_cell BK448.out 3).trans rfl; have hfz6_0 := blk_frozen BK448.out 0; have hfz6_1 := blk_frozen BK448.out 1; have hfz6_2 := blk_frozen BK448.out 2; have hfz6_3 := blk_frozen BK448.out 3) | ((with_reducible refine gate_callee (f := 41) rfl ?_); refine goesL_ (some 15) rfl rfl Try.func41 (by kernel_rfl) rfl #[.agg #[.int .i64 a0_0, .int .i64 a0_1, .int .i64 a0_2, .int .i64 a0_3], .int .i64 (wrap64 (a0_0 + a0_2)), .int .i64 (wrap64 (a0_0 + a0_1))] rfl zlx ?_; (with_reducible refine (spec_l20Valid.calls k a0_0 a0_1 a0_2 a0_3 (wrap64 (a0_0 + a0_2)) (wrap64 (a0_0 + a0_1)) t450 t451 t452 _ A2.out).mono ?_); rintro e w7 ⟨rfl, hb⟩; refine ⟨_, rfl, ?_⟩; replace BK448 := zbl BK448.out hb; replace BK449 := zbl BK449.out hb; replace HB := Aside0.mk (below_step (zBz HB.out GE448.out GE449.out) hb); (try clear hb); (try clear hb2); (try clear hk); (try clear hi); have hcz8_0 : w7.cell? ⟨gb449, 0, none⟩ = some (.int .i64 0) := (blk_cell BK449.out 0).trans rfl; have hcz8_1 : w7.cell? ⟨gb449, 1, none⟩ = some (.int .i64 0) := (blk_cell BK449.out 1).trans rfl; have hfz8_0 := blk_frozen BK449.out 0; have hfz8_1 := blk_frozen BK449.out 1))
  refine bodyPost_ret (results_ct rfl _ _ gb449 37 #[.int .i64 t450, .int .i64 t451] (0, 0) _ rfl (by refine zbx ?_; refine blk_put (cs := #[.int .i64 t450, .int .i64 0]) ?_ 1 _ rfl; refine zbx ?_; refine blk_put (cs := #[.int .i64 0, .int .i64 0]) ?_ 0 _ rfl; refine zbx ?_; exact BK449.out) Try.underlying37 rfl (by kernel_rfl)) rfl ?_
  exact ⟨by first | rfl | (simp [errW_none, errW_some] <;> rfl) | (simp [*, errW_none, errW_some] <;> rfl), by exact zBz HB.out GE448.out GE449.out⟩

/-! ### spec_HeidkeScore: function 20 -/
def spec_HeidkeScore.f (k : Nat) (a0_0 : Int) (a0_1 : Int) (a0_2 : Int) (a0_3 : Int) : Option (Int × Int × Bool) := (spec_l20Good.f a0_0 a0_1 a0_2 a0_3).bind fun t455 => (if t455 = true then ((spec_l20Ratio.f k (wrap64 (2 * (wrap64 ((wrap64 (a0_0 * a0_3)) - (wrap64 (a0_2 * a0_1)))))) (wrap64 ((wrap64 ((wrap64 (a0_0 + a0_1)) * (wrap64 (a0_1 + a0_3)))) + (wrap64 ((wrap64 (a0_0 + a0_2)) * (wrap64 (a0_2 + a0_3))))))).bind fun bt456 => (some (bt456.1, bt456.2.1, bt456.2.2))) else (some (0, 0, false)))
theorem spec_HeidkeScore.mono : ∀ a0 a1 a2 a3 k, LeO (spec_HeidkeScore.f k a0 a1 a2 a3) (spec_HeidkeScore.f (k + 1) a0 a1 a2 a3) := by
 intro a0 a1 a2 a3 k
 unfold spec_HeidkeScore.f
 repeat' first
  | (with_reducible exact spec_l20Ratio.mono _ _ _)
  | (with_reducible exact LeO.refl _)
  | (with_reducible exact LeO.none _)
  | (with_reducible refine LeO.ite ?_ ?_)
  | (with_reducible refine LeO.bind ?_ (fun _ => ?_))
  | exact spec_l20Ratio.mono _ _ _
  | exact LeO.none _
  | refine LeO.ite ?_ ?_
  | refine LeO.bind ?_ (fun _ => ?_)
set_option maxHeartbeats 8000000 in
set_option maxRecDepth 100000 in
theorem spec_HeidkeScore.calls (k : Nat) (a0_0 : Int) (a0_1 : Int) (a0_2 : Int) (a0_3 : Int) (r1 : Int) (r2 : Int) (r3 : Bool) (w : World) (h : spec_HeidkeScore.f k a0_0 a0_1 a0_2 a0_3 = some (r1, r2, r3)) :
 Calls Try.prog 20 #[.agg #[.int .i64 a0_0, .int .i64 a0_1, .int .i64 a0_2, .int .i64 a0_3]] w fun e w' => e = .returned (.tuple #[.agg #[.int .i64 r1, .int .i64 r2], .bool r3]) ∧ Below w.heap.size w w' := by
 have hu30 := Try.underlying30
 have hu37 := Try.underlying37
 have HB := Aside0.mk (Below.refl w.heap.size w)
 have H : ((spec_l20Good.f a0_0 a0_1 a0_2 a0_3).bind fun t455 => (if t455 = true then ((spec_l20Ratio.f k (wrap64 (2 * (wrap64 ((wrap64 (a0_0 * a0_3)) - (wrap64 (a0_2 * a0_1)))))) (wrap64 ((wrap64 ((wrap64 (a0_0 + a0_1)) * (wrap64 (a0_1 + a0_3)))) + (wrap64 ((wrap64 (a0_0 + a0_2)) * (wrap64 (a0_2 + a0_3))))))).bind fun bt456 => (some (bt456.1, bt456.2.1, bt456.2.2))) else (some (0, 0, false)))) = some (r1, r2, r3) := h
 clear h
 replace H := Option.bind_eq_some_iff.mp H
 obtain ⟨t455, A20, H⟩ := H
 replace H : (if t455 = true then ((spec_l20Ratio.f k (wrap64 (2 * (wrap64 ((wrap64 (a0_0 * a0_3)) - (wrap64 (a0_2 * a0_1)))))) (wrap64 ((wrap64 ((wrap64 (a0_0 + a0_1)) * (wrap64 (a0_1 + a0_3)))) + (wrap64 ((wrap64 (a0_0 + a0_2)) * (wrap64 (a0_2 + a0_3))))))).bind fun bt456 => (some (bt456.1, bt456.2.1, bt456.2.2))) else (some (0, 0, false))) = some (r1, r2, r3) := H
 have A2 := Aside0.mk A20
 clear A20
 by_cases c3 : t455 = true
 ·subst c3
  have H1 : ((spec_l20Ratio.f k (wrap64 (2 * (wrap64 ((wrap64 (a0_0 * a0_3)) - (wrap64 (a0_2 * a0_1)))))) (wrap64 ((wrap64 ((wrap64 (a0_0 + a0_1)) * (wrap64 (a0_1 + a0_3)))) + (wrap64 ((wrap64 (a0_0 + a0_2)) * (wrap64 (a0_2 + a0_3))))))).bind fun bt456 => (some (bt456.1, bt456.2.1, bt456.2.2))) = some (r1, r2, r3) := by rw [if_pos rfl] at H; exact H
  clear H
  have H := H1
  clear H1
  replace H := Option.bind_eq_some_iff.mp H
  obtain ⟨⟨t456, t457, t458⟩, A40, H⟩ := H
  replace H : (some (t456, t457, t458)) = some (r1, r2, r3) := H
  have A4 := Aside0.mk A40
  clear A40
  focus
   simp only [Option.some.injEq, Prod.mk.injEq] at H
   obtain ⟨rfl, rfl, rfl⟩ := H
   go_enter Try.func20, Try.ntmps20
   go_wp2_with (first | ((with_reducible refine gate_dst (N := 1) rfl ?_); refine box_event ?hg (N := 1) ?hd (cs := #[.int .i64 a0_0, .int .i64 a0_1, .int .i64 a0_2, .int .i64 a0_3]) (t := 30) ?hr ?_; (case hd => rfl); (case hg => rfl); (case hr => exact zsx); intro gb453 hg w5 hbox hb; have BK453 := Aside0.mk (hbox); have GW453 := zns hg HB.out; have GE453 := zns hg HB.out; replace HB := Aside0.mk (below_step (zBx HB.out) hb); clear hb hbox hg) | ((with_reducible refine gate_dst (N := 2) rfl ?_); refine box_event ?hg (N := 2) ?hd (cs := #[.int .i64 0, .int .i64 0]) (t := 37) ?hr ?_; (case hd => rfl); (case hg => rfl); (case hr => exact zsx); intro gb454 hg w6 hbox hb; have BK454 := Aside0.mk (hbox); have GW454 := zns hg HB.out; have GE454 := zns hg HB.out; replace HB := Aside0.mk (below_step (zBy HB.out GE453.out) hb); have NB453_454 := znl hg BK453.out; have NB454_453 := zng hg BK453.out; replace BK453 := zbl BK453.out hb; clear hb hbox hg; have hnb7 := NB453_454.out; have hnc7 := NB454_453.out; have hcz8_0 : w6.cell? ⟨gb453, 0, none⟩ = some (.int .i64 a0_0) := (blk_cell BK453.out 0).trans rfl; have hcz8_1 : w6.cell? ⟨gb453, 1, none⟩ = some (.int .i64 a0_1) := (blk_cell BK453.out 1).trans rfl; have hcz8_2 : w6.cell? ⟨gb453, 2, none⟩ = some (.int .i64 a0_2) := (blk_cell BK453.out 2).trans rfl; have hcz8_3 : w6.cell? ⟨gb453, 3, none⟩ = some (.int .i64 a0_3) := (blk_cell BK453.out 3).trans rfl; have hfz8_0 := blk_frozen BK453.out 0; have hfz8_1 := blk_frozen BK453.out 1; have hfz8_2 := blk_frozen BK453.out 2; have hfz8_3 := blk_frozen BK453.out 3) | (go_at_call 42; (with_reducible refine (spec_l20Good.calls a0_0 a0_1 a0_2 a0_3 true _ A2.out).mono ?_); rintro e w9 ⟨rfl, hb⟩; replace BK453 := zbl BK453.out hb; replace BK454 := zbl BK454.out hb; replace HB := Aside0.mk (below_step (zBz HB.out GE453.out GE454.out) hb); (try clear hb); (try clear hb2); (try clear hk); (try clear hi); have hcz10_0 : w9.cell? ⟨gb453, 0, none⟩ = some (.int .i64 a0_0) := (blk_cell BK453.out 0).trans rfl; have hcz10_1 : w9.cell? ⟨gb453, 1, none⟩ = some (.int .i64 a0_1) := (blk_cell BK453.out 1).trans rfl; have hcz10_2 : w9.cell? ⟨gb453, 2, none⟩ = some (.int .i64 a0_2) := (blk_cell BK453.out 2).trans rfl; have hcz10_3 : w9.cell? ⟨gb453, 3, none⟩ = some (.int .i64 a0_3) := (blk_cell BK453.out 3).trans rfl; have hfz10_0 := blk_frozen BK453.out 0; have hfz10_1 := blk_frozen BK453.out 1; have hfz10_2 := blk_frozen BK453.out 2; have hfz10_3 := blk_frozen BK453.out 3) | (go_at_call 43; (with_reducible refine (spec_l20Ratio.calls k (wrap64 (2 * (wrap64 ((wrap64 (a0_0 * a0_3)) - (wrap64 (a0_2 * a0_1)))))) (wrap64 ((wrap64 ((wrap64 (a0_0 + a0_1)) * (wrap64 (a0_1 + a0_3)))) + (wrap64 ((wrap64 (a0_0 + a0_2)) * (wrap64 (a0_2 + a0_3)))))) t456 t457 t458 _ A4.out).mono ?_); rintro e w11 ⟨rfl, hb⟩; replace BK453 := zbl BK453.out hb; replace BK454 := zbl BK454.out hb; replace HB := Aside0.mk (below_step (zBz HB.out GE453.out GE454.out) hb); (try clear hb); (try clear hb2); (try clear hk); (try clear hi); have hcz12_0 : w11.cell? ⟨gb454, 0, none⟩ = some (.int .i64 0) := (blk_cell BK454.out 0).trans rfl; have hcz12_1 : w11.cell? ⟨gb454, 1, none⟩ = some (.int .i64 0) := (blk_cell BK454.out 1).trans rfl; have hfz12_0 := blk_frozen BK454.out 0; have hfz12_1 := blk_frozen BK454.out 1))
   repeat (go_quiet (first | ((with_reducible refine gate_dst (N := 1) rfl ?_); refine box_event ?hg (N := 1) ?hd (cs := #[.int .i64 a0_0, .int .i64 a0_1, .int .i64 a0_2, .int .i64 a0_3]) (t := 30) ?hr ?_; (case hd => rfl); (case hg => rfl); (case hr => exact zsx); intro gb453 hg w5 hbox hb; have BK453 := Aside0.mk (hbox); have GW453 := zns hg HB.out; have GE453 := zns hg HB.out; replace HB := Aside0.mk (below_step (zBx HB.out) hb); clear hb hbox hg) | ((with_reducible refine gate_dst (N := 2) rfl ?_); refine box_event ?hg (N := 2) ?hd (cs := #[.int .i64 0, .int .i64 0]) (t := 37) ?hr ?_; (case hd => rfl); (case hg => rfl); (case hr => exact zsx); intro gb454 hg w6 hbox hb; have BK454 := Aside0.mk (hbox); have GW454 := zns hg HB.out; have GE454 := zns hg HB.out; replace HB := Aside0.mk (below_step (zBy HB.out GE453.out) hb); have NB453_454 := znl hg BK453.out; have NB454_453 := zng hg BK453.out; replace BK453 := zbl BK453.out hb; clear hb hbox hg; have hnb7 := NB453_454.out; have hnc7 := NB454_453.out; have hcz8_0 : w6.cell? ⟨gb453, 0, none⟩ = some (.int .i64 a0_0) := (blk_cell BK453.out 0).trans rfl; have hcz8_1 : w6.cell? ⟨gb453, 1, none⟩ = some (.int .i64 a0_1) := (blk_cell BK453.out 1).trans rfl; have hcz8_2 : w6.cell? ⟨gb453, 2, none⟩ = some (.int .i64 a0_2) := (blk_cell BK453.out 2).trans rfl; have hcz8_3 : w6.cell? ⟨gb453, 3, none⟩ = some (.int .i64 a0_3) := (blk_cell BK453.out 3).trans rfl; have hfz8_0 := blk_frozen BK453.out 0; have hfz8_1 := blk_frozen BK453.out 1; have hfz8_2 := blk_frozen BK453.out 2; have hfz8_3 := blk_frozen BK453.out 3) | (go_at_call 42; (with_reducible refine (spec_l20Good.calls a0_0 a0_1 a0_2 a0_3 true _ A2.out).mono ?_); rintro e w9 ⟨rfl, hb⟩; replace BK453 := zbl BK453.out hb; replace BK454 := zbl BK454.out hb; replace HB := Aside0.mk (below_step (zBz HB.out GE453.out GE454.out) hb); (try clear hb); (try clear hb2); (try clear hk); (try clear hi); have hcz10_0 : w9.cell? ⟨gb453, 0, none⟩ = some (.int .i64 a0_0) := (blk_cell BK453.out 0).trans rfl; have hcz10_1 : w9.cell? ⟨gb453, 1, none⟩ = some (.int .i64 a0_1) := (blk_cell BK453.out 1).trans rfl; have hcz10_2 : w9.cell? ⟨gb453, 2, none⟩ = some (.int .i64 a0_2) := (blk_cell BK453.out 2).trans rfl; have hcz10_3 : w9.cell? ⟨gb453, 3, none⟩ = some (.int .i64 a0_3) := (blk_cell BK453.out 3).trans rfl; have hfz10_0 := blk_frozen BK453.out 0; have hfz10_1 := blk_frozen BK453.out 1; have hfz10_2 := blk_frozen BK453.out 2; have hfz10_3 := blk_frozen BK453.out 3) | (go_at_call 43; (with_reducible refine (spec_l20Ratio.calls k (wrap64 (2 * (wrap64 ((wrap64 (a0_0 * a0_3)) - (wrap64 (a0_2 * a0_1)))))) (wrap64 ((wrap64 ((wrap64 (a0_0 + a0_1)) * (wrap64 (a0_1 + a0_3)))) + (wrap64 ((wrap64 (a0_0 + a0_2)) * (wrap64 (a0_2 + a0_3)))))) t456 t457 t458 _ A4.out).mono ?_); rintro e w11 ⟨rfl, hb⟩; replace BK453 := zbl BK453.out hb; replace BK454 := zbl BK454.out hb; replace HB := Aside0.mk (below_step (zBz HB.out GE453.out GE454.out) hb); (try clear hb); (try clear hb2); (try clear hk); (try clear hi); have hcz12_0 : w11.cell? ⟨gb454, 0, none⟩ = some (.int .i64 0) := (blk_cell BK454.out 0).trans rfl; have hcz12_1 : w11.cell? ⟨gb454, 1, none⟩ = some (.int .i64 0) := (blk_cell BK454.out 1).trans rfl; have hfz12_0 := blk_frozen BK454.out 0; have hfz12_1 := blk_frozen BK454.out 1)); try go_wp2_with (first | ((with_reducible refine gate_dst (N := 1) rfl ?_); refine box_event ?hg (N := 1) ?hd (cs := #[.int .i64 a0_0, .int .i64 a0_1, .int .i64 a0_2, .int .i64 a0_3]) (t := 30) ?hr ?_; (case hd => rfl); (case hg => rfl); (case hr => exact zsx); intro gb453 hg w5 hbox hb; have BK453 := Aside0.mk (hbox); have GW453 := zns hg HB.out; have GE453 := zns hg HB.out; replace HB := Aside0.mk (below_step (zBx HB.out) hb); clear hb hbox hg) | ((with_reducible refine gate_dst (N := 2) rfl ?_); refine box_event ?hg (N := 2) ?hd (cs := #[.int .i64 0, .int .i64 0]) (t := 37) ?hr ?_; (case hd => rfl); (case hg => rfl); (case hr => exact zsx); intro gb454 hg w6 hbox hb; have BK454 := Aside0.mk (hbox); have GW454 := zns hg HB.out; have GE454 := zns hg HB.out; replace HB := Aside0.mk (below_step (zBy HB.out GE453.out) hb); have NB453_454 := znl hg BK453.out; have NB454_453 := zng hg BK453.out; replace BK453 := zbl BK453.out hb; clear hb hbox hg; have hnb7 := NB453_454.out; have hnc7 := NB454_453.out; have hcz8_0 : w6.cell? ⟨gb453, 0, none⟩ = some (.int .i64 a0_0) := (blk_cell BK453.out 0).trans rfl; have hcz8_1 : w6.cell? ⟨gb453, 1, none⟩ = some (.int .i64 a0_1) := (blk_cell BK453.out 1).trans rfl; have hcz8_2 : w6.cell? ⟨gb453, 2, none⟩ = some (.int .i64 a0_2) := (blk_cell BK453.out 2).trans rfl; have hcz8_3 : w6.cell? ⟨gb453, 3, none⟩ = some (.int .i64 a0_3) := (blk_cell BK453.out 3).trans rfl; have hfz8_0 := blk_frozen BK453.out 0; have hfz8_1 := blk_frozen BK453.out 1; have hfz8_2 := blk_frozen BK453.out 2; have hfz8_3 := blk_frozen BK453.out 3) | (go_at_call 42; (with_reducible refine (spec_l20Good.calls a0_0 a0_1 a0_2 a0_3 true _ A2.out).mono ?_); rintro e w9 ⟨rfl, hb⟩; replace BK453 := zbl BK453.out hb; replace BK454 := zbl BK454.out hb; replace HB := Aside0.mk (below_step (zBz HB.out GE453.out GE454.out) hb); (try clear hb); (try clear hb2); (try clear hk); (try clear hi); have hcz10_0 : w9.cell? ⟨gb453, 0, none⟩ = some (.int .i64 a0_0) := (blk_cell BK453.out 0).trans rfl; have hcz10_1 : w9.cell? ⟨gb453, 1, none⟩ = some (.int .i64 a0_1) := (blk_cell BK453.out 1).trans rfl; have hcz10_2 : w9.cell? ⟨gb453, 2, none⟩ = some (.int .i64 a0_2) := (blk_cell BK453.out 2).trans rfl; have hcz10_3 : w9.cell? ⟨gb453, 3, none⟩ = some (.int .i64 a0_3) := (blk_cell BK453.out 3).trans rfl; have hfz10_0 := blk_frozen BK453.out 0; have hfz10_1 := blk_frozen BK453.out 1; have hfz10_2 := blk_frozen BK453.out 2; have hfz10_3 := blk_frozen BK453.out 3) | (go_at_call 43; (with_reducible refine (spec_l20Ratio.calls k (wrap64 (2 * (wrap64 ((wrap64 (a0_0 * a0_3)) - (wrap64 (a0_2 * a0_1)))))) (wrap64 ((wrap64 ((wrap64 (a0_0 + a0_1)) * (wrap64 (a0_1 + a0_3)))) + (wrap64 ((wrap64 (a0_0 + a0_2)) * (wrap64 (a0_2 + a0_3)))))) t456 t457 t458 _ A4.out).mono ?_); rintro e w11 ⟨rfl, hb⟩; replace BK453 := zbl BK453.out hb; replace BK454 := zbl BK454.out hb; replace HB := Aside0.mk (below_step (zBz HB.out GE453.out GE454.out) hb); (try clear hb); (try clear hb2); (try clear hk); (try clear hi); have hcz12_0 : w11.cell? ⟨gb454, 0, none⟩ = some (.int .i64 0) := (blk_cell BK454.out 0).trans rfl; have hcz12_1 : w11.cell? ⟨gb454, 1, none⟩ = some (.int .i64 0) := (blk_cell BK454.out 1).trans rfl; have hfz12_0 := blk_frozen BK454.out 0; have hfz12_1 := blk_frozen BK454.out 1)))
   refine bodyPost_ret (results_ct rfl _ _ gb454 37 #[.int .i64 t456, .int .i64 t457] (0, 0) _ rfl (by refine zbx ?_; refine blk_put (cs := #[.int .i64 t456, .int .i64 0]) ?_ 1 _ rfl; refine zbx ?_; refine blk_put (cs := #[.int .i64 0, .int .i64 0]) ?_ 0 _ rfl; refine zbx ?_; exact BK454.out) Try.underlying37 rfl (by kernel_rfl)) rfl ?_
   exact ⟨by first | rfl | (simp [errW_none, errW_some] <;> rfl) | (simp [*, errW_none, errW_some] <;> rfl), by exact zBz HB.out GE453.out GE454.out⟩
 ·replace c3 := Bool.eq_false_iff.mpr c3
  subst c3
  have H1 : (some (0, 0, false)) = some (r1, r2, r3) := by rw [if_neg (show ¬ (false = true) by decide)] at H; exact H
  clear H
  have H := H1
  clear H1
  focus
   simp only [Option.some.injEq, Prod.mk.injEq] at H
   obtain ⟨rfl, rfl, rfl⟩ := H
   go_enter Try.func20, Try.ntmps20
   go_wp2_with (first | ((with_reducible refine gate_dst (N := 1) rfl ?_); refine box_event ?hg (N := 1) ?hd (cs := #[.int .i64 a0_0, .int .i64 a0_1, .int .i64 a0_2, .int .i64 a0_3]) (t := 30) ?hr ?_; (case hd => rfl); (case hg => rfl); (case hr => exact zsx); intro gb453 hg w13 hbox hb; have BK453 := Aside0.mk (hbox); have GW453 := zns hg HB.out; have GE453 := zns hg HB.out; replace HB := Aside0.mk (below_step (zBx HB.out) hb); clear hb hbox hg) | ((with_reducible refine gate_dst (N := 2) rfl ?_); refine box_event ?hg (N := 2) ?hd (cs := #[.int .i64 0, .int .i64 0]) (t := 37) ?hr ?_; (case hd => rfl); (case hg => rfl); (case hr => exact zsx); intro gb454 hg w14 hbox hb; have BK454 := Aside0.mk (hbox); have GW454 := zns hg HB.out; have GE454 := zns hg HB.out; replace HB := Aside0.mk (below_step (zBy HB.out GE453.out) hb); have NB453_454 := znl hg BK453.out; have NB454_453 := zng hg BK453.out; replace BK453 := zbl BK453.out hb; clear hb hbox hg; have hnb15 := NB453_454.out; have hnc15 := NB454_453.out; have hcz16_0 : w14.cell? ⟨gb453, 0, none⟩ = some (.int .i64 a0_0) := (blk_cell BK453.out 0).trans rfl; have hcz16_1 : w14.cell? ⟨gb453, 1, none⟩ = some (.int .i64 a0_1) := (blk_cell BK453.out 1).trans rfl; have hcz16_2 : w14.cell? ⟨gb453, 2, none⟩ = some (.int .i64 a0_2) := (blk_cell BK453.out 2).trans rfl; have hcz16_3 : w14.cell? ⟨gb453, 3, none⟩ = some (.int .i64 a0_3) := (blk_cell BK453.out 3).trans rfl; have hfz16_0 := blk_frozen BK453.out 0; have hfz16_1 := blk_frozen BK453.out 1; have hfz16_2 := blk_frozen BK453.out 2; have hfz16_3 := blk_frozen BK453.out 3) | (go_at_call 42; (with_reducible refine (spec_l20Good.calls a0_0 a0_1 a0_2 a0_3 false _ A2.out).mono ?_); rintro e w17 ⟨rfl, hb⟩; replace BK453 := zbl BK453.out hb; replace BK454 := zbl BK454.out hb; replace HB := Aside0.mk (below_step (zBz HB.out GE453.out GE454.out) hb); (try clear hb); (try clear hb2); (try clear hk); (try clear hi); have hcz18_0 : w17.cell? ⟨gb454, 0, none⟩ = some (.int .i64 0) := (blk_cell BK454.out 0).trans rfl; have hcz18_1 : w17.cell? ⟨gb454, 1, none⟩ = some (.int .i64 0) := (blk_cell BK454.out 1).trans rfl; have hfz18_0 := blk_frozen BK454.out 0; have hfz18_1 := blk_frozen BK454.out 1))
   repeat (go_quiet (first | ((with_reducible refine gate_dst (N := 1) rfl ?_); refine box_event ?hg (N := 1) ?hd (cs := #[.int .i64 a0_0, .int .i64 a0_1, .int .i64 a0_2, .int .i64 a0_3]) (t := 30) ?hr ?_; (case hd => rfl); (case hg => rfl); (case hr => exact zsx); intro gb453 hg w13 hbox hb; have BK453 := Aside0.mk (hbox); have GW453 := zns hg HB.out; have GE453 := zns hg HB.out; replace HB := Aside0.mk (below_step (zBx HB.out) hb); clear hb hbox hg) | ((with_reducible refine gate_dst (N := 2) rfl ?_); refine box_event ?hg (N := 2) ?hd (cs := #[.int .i64 0, .int .i64 0]) (t := 37) ?hr ?_; (case hd => rfl); (case hg => rfl); (case hr => exact zsx); intro gb454 hg w14 hbox hb; have BK454 := Aside0.mk (hbox); have GW454 := zns hg HB.out; have GE454 := zns hg HB.out; replace HB := Aside0.mk (below_step (zBy HB.out GE453.out) hb); have NB453_454 := znl hg BK453.out; have NB454_453 := zng hg BK453.out; replace BK453 := zbl BK453.out hb; clear hb hbox hg; have hnb15 := NB453_454.out; have hnc15 := NB454_453.out; have hcz16_0 : w14.cell? ⟨gb453, 0, none⟩ = some (.int .i64 a0_0) := (blk_cell BK453.out 0).trans rfl; have hcz16_1 : w14.cell? ⟨gb453, 1, none⟩ = some (.int .i64 a0_1) := (blk_cell BK453.out 1).trans rfl; have hcz16_2 : w14.cell? ⟨gb453, 2, none⟩ = some (.int .i64 a0_2) := (blk_cell BK453.out 2).trans rfl; have hcz16_3 : w14.cell? ⟨gb453, 3, none⟩ = some (.int .i64 a0_3) := (blk_cell BK453.out 3).trans rfl; have hfz16_0 := blk_frozen BK453.out 0; have hfz16_1 := blk_frozen BK453.out 1; have hfz16_2 := blk_frozen BK453.out 2; have hfz16_3 := blk_frozen BK453.out 3) | (go_at_call 42; (with_reducible refine (spec_l20Good.calls a0_0 a0_1 a0_2 a0_3 false _ A2.out).mono ?_); rintro e w17 ⟨rfl, hb⟩; replace BK453 := zbl BK453.out hb; replace BK454 := zbl BK454.out hb; replace HB := Aside0.mk (below_step (zBz HB.out GE453.out GE454.out) hb); (try clear hb); (try clear hb2); (try clear hk); (try clear hi); have hcz18_0 : w17.cell? ⟨gb454, 0, none⟩ = some (.int .i64 0) := (blk_cell BK454.out 0).trans rfl; have hcz18_1 : w17.cell? ⟨gb454, 1, none⟩ = some (.int .i64 0) := (blk_cell BK454.out 1).trans rfl; have hfz18_0 := blk_frozen BK454.out 0; have hfz18_1 := blk_frozen BK454.out 1)); try go_wp2_with (first | ((with_reducible refine gate_dst (N := 1) rfl ?_); refine box_event ?hg (N := 1) ?hd (cs := #[.int .i64 a0_0, .int .i64 a0_1, .int .i64 a0_2, .int .i64 a0_3]) (t := 30) ?hr ?_; (case hd => rfl); (case hg => rfl); (case hr => exact zsx); intro gb453 hg w13 hbox hb; have BK453 := Aside0.mk (hbox); have GW453 := zns hg HB.out; have GE453 := zns hg HB.out; replace HB := Aside0.mk (below_step (zBx HB.out) hb); clear hb hbox hg) | ((with_reducible refine gate_dst (N := 2) rfl ?_); refine box_event ?hg (N := 2) ?hd (cs := #[.int .i64 0, .int .i64 0]) (t := 37) ?hr ?_; (case hd => rfl); (case hg => rfl); (case hr => exact zsx); intro gb454 hg w14 hbox hb; have BK454 := Aside0.mk (hbox); have GW454 := zns hg HB.out; have GE454 := zns hg HB.out; replace HB := Aside0.mk (below_step (zBy HB.out GE453.out) hb); have NB453_454 := znl hg BK453.out; have NB454_453 := zng hg BK453.out; replace BK453 := zbl BK453.out hb; clear hb hbox hg; have hnb15 := NB453_454.out; have hnc15 := NB454_453.out; have hcz16_0 : w14.cell? ⟨gb453, 0, none⟩ = some (.int .i64 a0_0) := (blk_cell BK453.out 0).trans rfl; have hcz16_1 : w14.cell? ⟨gb453, 1, none⟩ = some (.int .i64 a0_1) := (blk_cell BK453.out 1).trans rfl; have hcz16_2 : w14.cell? ⟨gb453, 2, none⟩ = some (.int .i64 a0_2) := (blk_cell BK453.out 2).trans rfl; have hcz16_3 : w14.cell? ⟨gb453, 3, none⟩ = some (.int .i64 a0_3) := (blk_cell BK453.out 3).trans rfl; have hfz16_0 := blk_frozen BK453.out 0; have hfz16_1 := blk_frozen BK453.out 1; have hfz16_2 := blk_frozen BK453.out 2; have hfz16_3 := blk_frozen BK453.out 3) | (go_at_call 42; (with_reducible refine (spec_l20Good.calls a0_0 a0_1 a0_2 a0_3 false _ A2.out).mono ?_); rintro e w17 ⟨rfl, hb⟩; replace BK453 := zbl BK453.out hb; replace BK454 := zbl BK454.out hb; replace HB := Aside0.mk (below_step (zBz HB.out GE453.out GE454.out) hb); (try clear hb); (try clear hb2); (try clear hk); (try clear hi); have hcz18_0 : w17.cell? ⟨gb454, 0, none⟩ = some (.int .i64 0) := (blk_cell BK454.out 0).trans rfl; have hcz18_1 : w17.cell? ⟨gb454, 1, none⟩ = some (.int .i64 0) := (blk_cell BK454.out 1).trans rfl; have hfz18_0 := blk_frozen BK454.out 0; have hfz18_1 := blk_frozen BK454.out 1)))
   refine bodyPost_ret (results_ct rfl _ _ gb454 37 #[.int .i64 0, .int .i64 0] (0, 0) _ rfl (by refine zbx ?_; refine blk_put (cs := #[.int .i64 0, .int .i64 0]) ?_ 1 _ rfl; refine zbx ?_; refine blk_put (cs := #[.int .i64 0, .int .i64 0]) ?_ 0 _ rfl; refine zbx ?_; exact BK454.out) Try.underlying37 rfl (by kernel_rfl)) rfl ?_
   exact ⟨by first | rfl | (simp [errW_none, errW_some] <;> rfl) | (simp [*, errW_none, errW_some] <;> rfl), by exact zBz HB.out GE453.out GE454.out⟩

end Go.Proofs.Ytddgbaohepfekaa.XFnScores
