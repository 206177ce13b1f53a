-- written by wip/tools/xprint.py (a program of this project) out of the translation
import Derived.Test.YtddgbaohepfekaaXFnLimitsx0
import Derived.Test.YtddgbaohepfekaaXFnLimitsx5
import Derived.Test.YtddgbaohepfekaaXFnLimitsx6
import Derived.Test.YtddgbaohepfekaaXFnLimitsx10
import Derived.Test.YtddgbaohepfekaaXFnLimitsx11
import Derived.Test.YtddgbaohepfekaaXFnLimitsx12
import Derived.Test.YtddgbaohepfekaaXFnLimitsx13
namespace Go.Proofs.Ytddgbaohepfekaa.XFnLimits
open Go.RowKit Go.Proofs.YtddgbaohepfekaaW.PrintWords Go.Proofs.YtddgbaohepfekaaW.PrintLast Go.Proofs.YtddgbaohepfekaaW.PrintMore
attribute [local go_sem] max2_int min2_int max_two min_two max_three min_three max_four min_four   -- for this text's walks alone
set_option linter.unusedVariables false
set_option linter.unusedSimpArgs false

theorem ratios3 {a b c d t : Int} (h : impl_compareRatios.f a b c d = some t) : t = -1 ∨ t = 0 ∨ t = 1 := by
  simp only [impl_compareRatios.f, cmp_Compare_int.f, cmp_isNaN_int.f, Option.bind_some, bne_self_eq_false, Bool.false_eq_true, if_false] at h
  split at h
  · simp at h; omega
  · split at h
    · simp at h; omega
    · simp at h; omega
theorem ix_0 (w : World) : (Instr.index 68 (.agg #[.int .i64 2, .int .i64 0, .int .i64 1]) (.int .i64 0)).run Try.prog w = .ok (.int .i64 2) w := by
  obtain ⟨i0, hi0, _, hsz, _⟩ := info_parts info3
  have hs : (sizeOf 3).run Try.prog w = .ok 1 w := by simp [sizeOf, typeInfo, hi0, hsz]
  simp [Instr.index, asIntOf, Sem.run_bind, run_underlying Try.underlying68, hs, part, Result.andThen]
theorem ix_1 (w : World) : (Instr.index 68 (.agg #[.int .i64 2, .int .i64 0, .int .i64 1]) (.int .i64 1)).run Try.prog w = .ok (.int .i64 0) w := by
  obtain ⟨i0, hi0, _, hsz, _⟩ := info_parts info3
  have hs : (sizeOf 3).run Try.prog w = .ok 1 w := by simp [sizeOf, typeInfo, hi0, hsz]
  simp [Instr.index, asIntOf, Sem.run_bind, run_underlying Try.underlying68, hs, part, Result.andThen]
theorem ix_2 (w : World) : (Instr.index 68 (.agg #[.int .i64 2, .int .i64 0, .int .i64 1]) (.int .i64 2)).run Try.prog w = .ok (.int .i64 1) w := by
  obtain ⟨i0, hi0, _, hsz, _⟩ := info_parts info3
  have hs : (sizeOf 3).run Try.prog w = .ok 1 w := by simp [sizeOf, typeInfo, hi0, hsz]
  simp [Instr.index, asIntOf, Sem.run_bind, run_underlying Try.underlying68, hs, part, Result.andThen]
attribute [local go_sem] ix_0 ix_1 ix_2
/-! ### impl_CompareTables: function 26 -/
def impl_CompareTables.f (k : Nat) (a0_0 : Int) (a0_1 : Int) (a0_2 : Int) (a0_3 : Int) (a1_0 : Int) (a1_1 : Int) (a1_2 : Int) (a1_3 : Int) : Option (Int × Bool) := (impl_ThreatScore.f k a0_0 a0_1 a0_2 a0_3).bind fun bt500 => ((impl_ThreatScore.f k a1_0 a1_1 a1_2 a1_3).bind fun bt504 => (if bt500.2.2 = true then (if bt504.2.2 = true then ((impl_compareRatios.f bt500.1 bt500.2.1 bt504.1 bt504.2.1).bind fun t508 => (some (Int.tmod (wrap64 (t508 + 3)) 3, true))) else (some (0, false))) else (some (0, false))))
theorem impl_CompareTables.mono : ∀ a0 a1 a2 a3 a4 a5 a6 a7 k, LeO (impl_CompareTables.f k a0 a1 a2 a3 a4 a5 a6 a7) (impl_CompareTables.f (k + 1) a0 a1 a2 a3 a4 a5 a6 a7) := by
 intro a0 a1 a2 a3 a4 a5 a6 a7 k
 unfold impl_CompareTables.f
 repeat' first
  | (with_reducible exact impl_ThreatScore.mono _ _ _ _ _)
  | (with_reducible exact LeO.refl _)
  | (with_reducible exact LeO.none _)
  | (with_reducible refine LeO.ite ?_ ?_)
  | (with_reducible refine LeO.bind ?_ (fun _ => ?_))
  | exact impl_ThreatScore.mono _ _ _ _ _
  | exact LeO.none _
  | refine LeO.ite ?_ ?_
  | refine LeO.bind ?_ (fun _ => ?_)
theorem zendXFnLimitsx15_0 {P_ : Prop} (h_ : P_ := by
  simp only [Option.some.injEq, Prod.mk.injEq] at H
  obtain ⟨rfl, rfl⟩ := H
  go_enter Try.func26, Try.ntmps26
  go_wp2_with (first | ((with_reducible refine gate_dst (N := 2) rfl ?_); refine box_event ?hg (N := 2) ?hd (cs := #[.int .i64 a0_0, .int .i64 a0_1, .int .i64 a0_2, .int .i64 a0_3]) (t := 30) ?hr ?_; (case hd => rfl); (case hg => rfl); (case hr => exact zsx); intro gb498 hg w26 hbox hb; have BK498 := Aside0.mk (hbox); have GW498 := zns hg HB.out; have GE498 := zns hg HB.out; replace HB := Aside0.mk (below_step (zBx HB.out) hb); clear hb hbox hg) | ((with_reducible refine gate_dst (N := 3) rfl ?_); refine box_event ?hg (N := 3) ?hd (cs := #[.int .i64 a1_0, .int .i64 a1_1, .int .i64 a1_2, .int .i64 a1_3]) (t := 30) ?hr ?_; (case hd => rfl); (case hg => rfl); (case hr => exact zsx); intro gb499 hg w27 hbox hb; have BK499 := Aside0.mk (hbox); have GW499 := zns hg HB.out; have GE499 := zns hg HB.out; replace HB := Aside0.mk (below_step (zBy HB.out GE498.out) hb); have NB498_499 := znl hg BK498.out; have NB499_498 := zng hg BK498.out; replace BK498 := zbl BK498.out hb; clear hb hbox hg; have hnb28 := NB498_499.out; have hnc28 := NB499_498.out; have hcz29_0 : w27.cell? ⟨gb498, 0, none⟩ = some (.int .i64 a0_0) := (blk_cell BK498.out 0).trans rfl; have hcz29_1 : w27.cell? ⟨gb498, 1, none⟩ = some (.int .i64 a0_1) := (blk_cell BK498.out 1).trans rfl; have hcz29_2 : w27.cell? ⟨gb498, 2, none⟩ = some (.int .i64 a0_2) := (blk_cell BK498.out 2).trans rfl; have hcz29_3 : w27.cell? ⟨gb498, 3, none⟩ = some (.int .i64 a0_3) := (blk_cell BK498.out 3).trans rfl; have hfz29_0 := blk_frozen BK498.out 0; have hfz29_1 := blk_frozen BK498.out 1; have hfz29_2 := blk_frozen BK498.out 2; have hfz29_3 := blk_frozen BK498.out 3) | ((with_reducible refine gate_callee (f := 11) rfl ?_); refine goesL_ (some 12) rfl rfl Try.func11 (by kernel_rfl) rfl #[.agg #[.int .i64 a0_0, .int .i64 a0_1, .int .i64 a0_2, .int .i64 a0_3]] rfl zlx ?_; (with_reducible refine (impl_ThreatScore.calls k a0_0 a0_1 a0_2 a0_3 t500 t501 _ _ A3.out).mono ?_); rintro e w30 ⟨rfl, hb⟩; refine ⟨_, rfl, ?_⟩; replace BK498 := zbl BK498.out hb; replace BK499 := zbl BK499.out hb; replace HB := Aside0.mk (below_step (zBz HB.out GE498.out GE499.out) hb); (try clear hb)) | ((with_reducible refine gate_dst (N := 6) rfl ?_); refine box_event ?hg (N := 6) ?hd (cs := #[.int .i64 0, .int .i64 0]) (t := 37) ?hr ?_; (case hd => rfl); (case hg => rfl); (case hr => exact zsx); intro gb503 hg w31 hbox hb; have BK503 := Aside0.mk (hbox); have GW503 := zns hg HB.out; have GE503 := zns hg HB.out; replace HB := Aside0.mk (below_step (zBz HB.out GE498.out GE499.out) hb); have NB498_503 := znl hg BK498.out; have NB503_498 := zng hg BK498.out; replace BK498 := zbl BK498.out hb; have NB499_503 := znl hg BK499.out; have NB503_499 := zng hg BK499.out; replace BK499 := zbl BK499.out hb; clear hb hbox hg; have hnb32 := NB503_498.out; have hnc32 := NB498_503.out; have hnb33 := NB503_499.out; have hnc33 := NB499_503.out; have hcz34_0 : w31.cell? ⟨gb503, 0, none⟩ = some (.int .i64 0) := (blk_cell BK503.out 0).trans rfl; have hcz34_1 : w31.cell? ⟨gb503, 1, none⟩ = some (.int .i64 0) := (blk_cell BK503.out 1).trans rfl; have hfz34_0 := blk_frozen BK503.out 0; have hfz34_1 := blk_frozen BK503.out 1; have hcz35_0 : w31.cell? ⟨gb499, 0, none⟩ = some (.int .i64 a1_0) := (blk_cell BK499.out 0).trans rfl; have hcz35_1 : w31.cell? ⟨gb499, 1, none⟩ = some (.int .i64 a1_1) := (blk_cell BK499.out 1).trans rfl; have hcz35_2 : w31.cell? ⟨gb499, 2, none⟩ = some (.int .i64 a1_2) := (blk_cell BK499.out 2).trans rfl; have hcz35_3 : w31.cell? ⟨gb499, 3, none⟩ = some (.int .i64 a1_3) := (blk_cell BK499.out 3).trans rfl; have hfz35_0 := blk_frozen BK499.out 0; have hfz35_1 := blk_frozen BK499.out 1; have hfz35_2 := blk_frozen BK499.out 2; have hfz35_3 := blk_frozen BK499.out 3) | ((with_reducible refine gate_callee (f := 11) rfl ?_); refine goesL_ (some 17) rfl rfl Try.func11 (by kernel_rfl) rfl #[.agg #[.int .i64 a1_0, .int .i64 a1_1, .int .i64 a1_2, .int .i64 a1_3]] rfl zlx ?_; (with_reducible refine (impl_ThreatScore.calls k a1_0 a1_1 a1_2 a1_3 t504 t505 _ _ A4.out).mono ?_); rintro e w36 ⟨rfl, hb⟩; refine ⟨_, rfl, ?_⟩; replace BK498 := zbl BK498.out hb; replace BK499 := zbl BK499.out hb; replace BK503 := Aside0.mk (blk_below (g := gb503) (o := .cells #[.int .i64 t500, .int .i64 t501] 37 (0, 0)) (zbp BK503.out) hb); replace HB := Aside0.mk (below_step (zhB HB.out) hb); (try clear hb)) | ((with_reducible refine gate_dst (N := 8) rfl ?_); refine box_event ?hg (N := 8) ?hd (cs := #[.int .i64 0, .int .i64 0]) (t := 37) ?hr ?_; (case hd => rfl); (case hg => rfl); (case hr => exact zsx); intro gb507 hg w37 hbox hb; have BK507 := Aside0.mk (hbox); have GW507 := zns hg HB.out; have GE507 := zns hg HB.out; replace HB := Aside0.mk (below_step (zhB HB.out) hb); have NB498_507 := znl hg BK498.out; have NB507_498 := zng hg BK498.out; replace BK498 := zbl BK498.out hb; have NB499_507 := znl hg BK499.out; have NB507_499 := zng hg BK499.out; replace BK499 := zbl BK499.out hb; have NB503_507 := znl hg BK503.out; have NB507_503 := zng hg BK503.out; replace BK503 := zbl BK503.out hb; clear hb hbox hg; have hnb38 := NB507_498.out; have hnc38 := NB498_507.out; have hnb39 := NB507_499.out; have hnc39 := NB499_507.out; have hnb40 := NB507_503.out; have hnc40 := NB503_507.out; have hcz41_0 : w37.cell? ⟨gb507, 0, none⟩ = some (.int .i64 0) := (blk_cell BK507.out 0).trans rfl; have hcz41_1 : w37.cell? ⟨gb507, 1, none⟩ = some (.int .i64 0) := (blk_cell BK507.out 1).trans rfl; have hfz41_0 := blk_frozen BK507.out 0; have hfz41_1 := blk_frozen BK507.out 1))
  go_ret2
  exact ⟨by first | rfl | (simp [errW_none, errW_some] <;> rfl) | (simp [*, errW_none, errW_some] <;> rfl), zhB HB.out⟩) : P_ := h_
set_option maxHeartbeats 8000000 in
set_option maxRecDepth 100000 in
theorem impl_CompareTables.calls (k : Nat) (a0_0 : Int) (a0_1 : Int) (a0_2 : Int) (a0_3 : Int) (a1_0 : Int) (a1_1 : Int) (a1_2 : Int) (a1_3 : Int) (r1 : Int) (r2 : Bool) (w : World) (h : impl_CompareTables.f k a0_0 a0_1 a0_2 a0_3 a1_0 a1_1 a1_2 a1_3 = some (r1, r2)) :
 Calls Try.prog 26 #[.agg #[.int .i64 a0_0, .int .i64 a0_1, .int .i64 a0_2, .int .i64 a0_3], .agg #[.int .i64 a1_0, .int .i64 a1_1, .int .i64 a1_2, .int .i64 a1_3]] w fun e w' => e = .returned (.tuple #[.int .i64 r1, .bool r2]) ∧ Below w.heap.size w w' := by
 have hu30 := Try.underlying30
 have hu37 := Try.underlying37
 have HB := Aside0.mk (Below.refl w.heap.size w)
 have H : ((impl_ThreatScore.f k a0_0 a0_1 a0_2 a0_3).bind fun bt500 => ((impl_ThreatScore.f k a1_0 a1_1 a1_2 a1_3).bind fun bt504 => (if bt500.2.2 = true then (if bt504.2.2 = true then ((impl_compareRatios.f bt500.1 bt500.2.1 bt504.1 bt504.2.1).bind fun t508 => (some (Int.tmod (wrap64 (t508 + 3)) 3, true))) else (some (0, false))) else (some (0, false))))) = some (r1, r2) := h
 clear h
 replace H := Option.bind_eq_some_iff.mp H
 obtain ⟨⟨t500, t501, t502⟩, A30, H⟩ := H
 replace H : ((impl_ThreatScore.f k a1_0 a1_1 a1_2 a1_3).bind fun bt504 => (if t502 = true then (if bt504.2.2 = true then ((impl_compareRatios.f t500 t501 bt504.1 bt504.2.1).bind fun t508 => (some (Int.tmod (wrap64 (t508 + 3)) 3, true))) else (some (0, false))) else (some (0, false)))) = some (r1, r2) := H
 have A3 := Aside0.mk A30
 clear A30
 replace H := Option.bind_eq_some_iff.mp H
 obtain ⟨⟨t504, t505, t506⟩, A40, H⟩ := H
 replace H : (if t502 = true then (if t506 = true then ((impl_compareRatios.f t500 t501 t504 t505).bind fun t508 => (some (Int.tmod (wrap64 (t508 + 3)) 3, true))) else (some (0, false))) else (some (0, false))) = some (r1, r2) := H
 have A4 := Aside0.mk A40
 clear A40
 by_cases c5 : t502 = true
 ·subst c5
  rw [if_pos rfl] at H
  by_cases c6 : t506 = true
  ·subst c6
   rw [if_pos rfl] at H
   replace H := Option.bind_eq_some_iff.mp H
   obtain ⟨t508, A70, H⟩ := H
   replace H : (some (Int.tmod (wrap64 (t508 + 3)) 3, true)) = some (r1, r2) := H
   have A7 := Aside0.mk A70
   clear A70
   rcases ratios3 A7.out with e_ | e_ | e_
   · subst e_
     rw [show Int.tmod (wrap64 ((-1) + 3)) 3 = 2 from by rw [show wrap64 ((-1) + 3) = 2 from by unfold wrap64; omega]; rfl] at H
     focus
      simp only [Option.some.injEq, Prod.mk.injEq] at H
      obtain ⟨rfl, rfl⟩ := H
      go_enter Try.func26, Try.ntmps26
      go_wp2_with (first | ((with_reducible refine gate_dst (N := 2) rfl ?_); refine box_event ?hg (N := 2) ?hd (cs := #[.int .i64 a0_0, .int .i64 a0_1, .int .i64 a0_2, .int .i64 a0_3]) (t := 30) ?hr ?_; (case hd => rfl); (case hg => rfl); (case hr => exact zsx); intro gb498 hg w8 hbox hb; have BK498 := Aside0.mk (hbox); have GW498 := zns hg HB.out; have GE498 := zns hg HB.out; replace HB := Aside0.mk (below_step (zBx HB.out) hb); clear hb hbox hg) | ((with_reducible refine gate_dst (N := 3) rfl ?_); refine box_event ?hg (N := 3) ?hd (cs := #[.int .i64 a1_0, .int .i64 a1_1, .int .i64 a1_2, .int .i64 a1_3]) (t := 30) ?hr ?_; (case hd => rfl); (case hg => rfl); (case hr => exact zsx); intro gb499 hg w9 hbox hb; have BK499 := Aside0.mk (hbox); have GW499 := zns hg HB.out; have GE499 := zns hg HB.out; replace HB := Aside0.mk (below_step (zBy HB.out GE498.out) hb); have NB498_499 := znl hg BK498.out; have NB499_498 := zng hg BK498.out; replace BK498 := zbl BK498.out hb; clear hb hbox hg; have hnb10 := NB498_499.out; have hnc10 := NB499_498.out; have hcz11_0 : w9.cell? ⟨gb498, 0, none⟩ = some (.int .i64 a0_0) := (blk_cell BK498.out 0).trans rfl; have hcz11_1 : w9.cell? ⟨gb498, 1, none⟩ = some (.int .i64 a0_1) := (blk_cell BK498.out 1).trans rfl; have hcz11_2 : w9.cell? ⟨gb498, 2, none⟩ = some (.int .i64 a0_2) := (blk_cell BK498.out 2).trans rfl; have hcz11_3 : w9.cell? ⟨gb498, 3, none⟩ = some (.int .i64 a0_3) := (blk_cell BK498.out 3).trans rfl; have hfz11_0 := blk_frozen BK498.out 0; have hfz11_1 := blk_frozen BK498.out 1; have hfz11_2 := blk_frozen BK498.out 2; have hfz11_3 := blk_frozen BK498.out 3) | ((with_reducible refine gate_callee (f := 11) rfl ?_); refine goesL_ (some 12) rfl rfl Try.func11 (by kernel_rfl) rfl #[.agg #[.int .i64 a0_0, .int .i64 a0_1, .int .i64 a0_2, .int .i64 a0_3]] rfl zlx ?_; (with_reducible refine (impl_ThreatScore.calls k a0_0 a0_1 a0_2 a0_3 t500 t501 true _ A3.out).mono ?_); rintro e w12 ⟨rfl, hb⟩; refine ⟨_, rfl, ?_⟩; replace BK498 := zbl BK498.out hb; replace BK499 := zbl BK499.out hb; replace HB := Aside0.mk (below_step (zBz HB.out GE498.out GE499.out) hb); (try clear hb)) | ((with_reducible refine gate_dst (N := 6) rfl ?_); refine box_event ?hg (N := 6) ?hd (cs := #[.int .i64 0, .int .i64 0]) (t := 37) ?hr ?_; (case hd => rfl); (case hg => rfl); (case hr => exact zsx); intro gb503 hg w13 hbox hb; have BK503 := Aside0.mk (hbox); have GW503 := zns hg HB.out; have GE503 := zns hg HB.out; replace HB := Aside0.mk (below_step (zBz HB.out GE498.out GE499.out) hb); have NB498_503 := znl hg BK498.out; have NB503_498 := zng hg BK498.out; replace BK498 := zbl BK498.out hb; have NB499_503 := znl hg BK499.out; have NB503_499 := zng hg BK499.out; replace BK499 := zbl BK499.out hb; clear hb hbox hg; have hnb14 := NB503_498.out; have hnc14 := NB498_503.out; have hnb15 := NB503_499.out; have hnc15 := NB499_503.out; have hcz16_0 : w13.cell? ⟨gb503, 0, none⟩ = some (.int .i64 0) := (blk_cell BK503.out 0).trans rfl; have hcz16_1 : w13.cell? ⟨gb503, 1, none⟩ = some (.int .i64 0) := (blk_cell BK503.out 1).trans rfl; have hfz16_0 := blk_frozen BK503.out 0; have hfz16_1 := blk_frozen BK503.out 1; have hcz17_0 : w13.cell? ⟨gb499, 0, none⟩ = some (.int .i64 a1_0) := (blk_cell BK499.out 0).trans rfl; have hcz17_1 : w13.cell? ⟨gb499, 1, none⟩ = some (.int .i64 a1_1) := (blk_cell BK499.out 1).trans rfl; have hcz17_2 : w13.cell? ⟨gb499, 2, none⟩ = some (.int .i64 a1_2) := (blk_cell BK499.out 2).trans rfl; have hcz17_3 : w13.cell? ⟨gb499, 3, none⟩ = some (.int .i64 a1_3) := (blk_cell BK499.out 3).trans rfl; have hfz17_0 := blk_frozen BK499.out 0; have hfz17_1 := blk_frozen BK499.out 1; have hfz17_2 := blk_frozen BK499.out 2; have hfz17_3 := blk_frozen BK499.out 3) | ((with_reducible refine gate_callee (f := 11) rfl ?_); refine goesL_ (some 17) rfl rfl Try.func11 (by kernel_rfl) rfl #[.agg #[.int .i64 a1_0, .int .i64 a1_1, .int .i64 a1_2, .int .i64 a1_3]] rfl zlx ?_; (with_reducible refine (impl_ThreatScore.calls k a1_0 a1_1 a1_2 a1_3 t504 t505 true _ A4.out).mono ?_); rintro e w18 ⟨rfl, hb⟩; refine ⟨_, rfl, ?_⟩; replace BK498 := zbl BK498.out hb; replace BK499 := zbl BK499.out hb; replace BK503 := Aside0.mk (blk_below (g := gb503) (o := .cells #[.int .i64 t500, .int .i64 t501] 37 (0, 0)) (zbp BK503.out) hb); replace HB := Aside0.mk (below_step (zhB HB.out) hb); (try clear hb)) | ((with_reducible refine gate_dst (N := 8) rfl ?_); refine box_event ?hg (N := 8) ?hd (cs := #[.int .i64 0, .int .i64 0]) (t := 37) ?hr ?_; (case hd => rfl); (case hg => rfl); (case hr => exact zsx); intro gb507 hg w19 hbox hb; have BK507 := Aside0.mk (hbox); have GW507 := zns hg HB.out; have GE507 := zns hg HB.out; replace HB := Aside0.mk (below_step (zhB HB.out) hb); have NB498_507 := znl hg BK498.out; have NB507_498 := zng hg BK498.out; replace BK498 := zbl BK498.out hb; have NB499_507 := znl hg BK499.out; have NB507_499 := zng hg BK499.out; replace BK499 := zbl BK499.out hb; have NB503_507 := znl hg BK503.out; have NB507_503 := zng hg BK503.out; replace BK503 := zbl BK503.out hb; clear hb hbox hg; have hnb20 := NB507_498.out; have hnc20 := NB498_507.out; have hnb21 := NB507_499.out; have hnc21 := NB499_507.out; have hnb22 := NB507_503.out; have hnc22 := NB503_507.out; have hcz23_0 : w19.cell? ⟨gb507, 0, none⟩ = some (.int .i64 0) := (blk_cell BK507.out 0).trans rfl; have hcz23_1 : w19.cell? ⟨gb507, 1, none⟩ = some (.int .i64 0) := (blk_cell BK507.out 1).trans rfl; have hfz23_0 := blk_frozen BK507.out 0; have hfz23_1 := blk_frozen BK507.out 1; have hcz24_0 : w19.cell? ⟨gb503, 0, none⟩ = some (.int .i64 t500) := (blk_cell BK503.out 0).trans rfl; have hcz24_1 : w19.cell? ⟨gb503, 1, none⟩ = some (.int .i64 t501) := (blk_cell BK503.out 1).trans rfl; have hfz24_0 := blk_frozen BK503.out 0; have hfz24_1 := blk_frozen BK503.out 1) | ((with_reducible refine gate_callee (f := 47) rfl ?_); refine goesL_ (some 29) rfl rfl Try.func47 (by kernel_rfl) rfl #[.agg #[.int .i64 t500, .int .i64 t501], .agg #[.int .i64 t504, .int .i64 t505]] rfl zlx ?_; (with_reducible refine (impl_compareRatios.calls t500 t501 t504 t505 (-1 : Int) _ A7.out).mono ?_); rintro e w25 ⟨rfl, hb⟩; refine ⟨_, rfl, ?_⟩; replace BK498 := zbl BK498.out hb; replace BK499 := zbl BK499.out hb; replace BK503 := zbl BK503.out hb; replace BK507 := Aside0.mk (blk_below (g := gb507) (o := .cells #[.int .i64 t504, .int .i64 t505] 37 (0, 0)) (zbp BK507.out) hb); replace HB := Aside0.mk (below_step (zhB HB.out) hb); (try clear hb)))
      go_ret2
      exact ⟨by first | rfl | (simp [errW_none, errW_some] <;> rfl) | (simp [*, errW_none, errW_some] <;> rfl), zhB HB.out⟩
   · subst e_
     rw [show Int.tmod (wrap64 (0 + 3)) 3 = 0 from by rw [show wrap64 (0 + 3) = 3 from by unfold wrap64; omega]; rfl] at H
     focus
      simp only [Option.some.injEq, Prod.mk.injEq] at H
      obtain ⟨rfl, rfl⟩ := H
      go_enter Try.func26, Try.ntmps26
      go_wp2_with (first | ((with_reducible refine gate_dst (N := 2) rfl ?_); refine box_event ?hg (N := 2) ?hd (cs := #[.int .i64 a0_0, .int .i64 a0_1, .int .i64 a0_2, .int .i64 a0_3]) (t := 30) ?hr ?_; (case hd => rfl); (case hg => rfl); (case hr => exact zsx); intro gb498 hg w8 hbox hb; have BK498 := Aside0.mk (hbox); have GW498 := zns hg HB.out; have GE498 := zns hg HB.out; replace HB := Aside0.mk (below_step (zBx HB.out) hb); clear hb hbox hg) | ((with_reducible refine gate_dst (N := 3) rfl ?_); refine box_event ?hg (N := 3) ?hd (cs := #[.int .i64 a1_0, .int .i64 a1_1, .int .i64 a1_2, .int .i64 a1_3]) (t := 30) ?hr ?_; (case hd => rfl); (case hg => rfl); (case hr => exact zsx); intro gb499 hg w9 hbox hb; have BK499 := Aside0.mk (hbox); have GW499 := zns hg HB.out; have GE499 := zns hg HB.out; replace HB := Aside0.mk (below_step (zBy HB.out GE498.out) hb); have NB498_499 := znl hg BK498.out; have NB499_498 := zng hg BK498.out; replace BK498 := zbl BK498.out hb; clear hb hbox hg; have hnb10 := NB498_499.out; have hnc10 := NB499_498.out; have hcz11_0 : w9.cell? ⟨gb498, 0, none⟩ = some (.int .i64 a0_0) := (blk_cell BK498.out 0).trans rfl; have hcz11_1 : w9.cell? ⟨gb498, 1, none⟩ = some (.int .i64 a0_1) := (blk_cell BK498.out 1).trans rfl; have hcz11_2 : w9.cell? ⟨gb498, 2, none⟩ = some (.int .i64 a0_2) := (blk_cell BK498.out 2).trans rfl; have hcz11_3 : w9.cell? ⟨gb498, 3, none⟩ = some (.int .i64 a0_3) := (blk_cell BK498.out 3).trans rfl; have hfz11_0 := blk_frozen BK498.out 0; have hfz11_1 := blk_frozen BK498.out 1; have hfz11_2 := blk_frozen BK498.out 2; have hfz11_3 := blk_frozen BK498.out 3) | ((with_reducible refine gate_callee (f := 11) rfl ?_); refine goesL_ (some 12) rfl rfl Try.func11 (by kernel_rfl) rfl #[.agg #[.int .i64 a0_0, .int .i64 a0_1, .int .i64 a0_2, .int .i64 a0_3]] rfl zlx ?_; (with_reducible refine (impl_ThreatScore.calls k a0_0 a0_1 a0_2 a0_3 t500 t501 true _ A3.out).mono ?_); rintro e w12 ⟨rfl, hb⟩; refine ⟨_, rfl, ?_⟩; replace BK498 := zbl BK498.out hb; replace BK499 := zbl BK499.out hb; replace HB := Aside0.mk (below_step (zBz HB.out GE498.out GE499.out) hb); (try clear hb)) | ((with_reducible refine gate_dst (N := 6) rfl ?_); refine box_event ?hg (N := 6) ?hd (cs := #[.int .i64 0, .int .i64 0]) (t := 37) ?hr ?_; (case hd => rfl); (case hg => rfl); (case hr => exact zsx); intro gb503 hg w13 hbox hb; have BK503 := Aside0.mk (hbox); have GW503 := zns hg HB.out; have GE503 := zns hg HB.out; replace HB := Aside0.mk (below_step (zBz HB.out GE498.out GE499.out) hb); have NB498_503 := znl hg BK498.out; have NB503_498 := zng hg BK498.out; replace BK498 := zbl BK498.out hb; have NB499_503 := znl hg BK499.out; have NB503_499 := zng hg BK499.out; replace BK499 := zbl BK499.out hb; clear hb hbox hg; have hnb14 := NB503_498.out; have hnc14 := NB498_503.out; have hnb15 := NB503_499.out; have hnc15 := NB499_503.out; have hcz16_0 : w13.cell? ⟨gb503, 0, none⟩ = some (.int .i64 0) := (blk_cell BK503.out 0).trans rfl; have hcz16_1 : w13.cell? ⟨gb503, 1, none⟩ = some (.int .i64 0) := (blk_cell BK503.out 1).trans rfl; have hfz16_0 := blk_frozen BK503.out 0; have hfz16_1 := blk_frozen BK503.out 1; have hcz17_0 : w13.cell? ⟨gb499, 0, none⟩ = some (.int .i64 a1_0) := (blk_cell BK499.out 0).trans rfl; have hcz17_1 : w13.cell? ⟨gb499, 1, none⟩ = some (.int .i64 a1_1) := (blk_cell BK499.out 1).trans rfl; have hcz17_2 : w13.cell? ⟨gb499, 2, none⟩ = some (.int .i64 a1_2) := (blk_cell BK499.out 2).trans rfl; have hcz17_3 : w13.cell? ⟨gb499, 3, none⟩ = some (.int .i64 a1_3) := (blk_cell BK499.out 3).trans rfl; have hfz17_0 := blk_frozen BK499.out 0; have hfz17_1 := blk_frozen BK499.out 1; have hfz17_2 := blk_frozen BK499.out 2; have hfz17_3 := blk_frozen BK499.out 3) | ((with_reducible refine gate_callee (f := 11) rfl ?_); refine goesL_ (some 17) rfl rfl Try.func11 (by kernel_rfl) rfl #[.agg #[.int .i64 a1_0, .int .i64 a1_1, .int .i64 a1_2, .int .i64 a1_3]] rfl zlx ?_; (with_reducible refine (impl_ThreatScore.calls k a1_0 a1_1 a1_2 a1_3 t504 t505 true _ A4.out).mono ?_); rintro e w18 ⟨rfl, hb⟩; refine ⟨_, rfl, ?_⟩; replace BK498 := zbl BK498.out hb; replace BK499 := zbl BK499.out hb; replace BK503 := Aside0.mk (blk_below (g := gb503) (o := .cells #[.int .i64 t500, .int .i64 t501] 37 (0, 0)) (zbp BK503.out) hb); replace HB := Aside0.mk (below_step (zhB HB.out) hb); (try clear hb)) | ((with_reducible refine gate_dst (N := 8) rfl ?_); refine box_event ?hg (N := 8) ?hd (cs := #[.int .i64 0, .int .i64 0]) (t := 37) ?hr ?_; (case hd => rfl); (case hg => rfl); (case hr => exact zsx); intro gb507 hg w19 hbox hb; have BK507 := Aside0.mk (hbox); have GW507 := zns hg HB.out; have GE507 := zns hg HB.out; replace HB := Aside0.mk (below_step (zhB HB.out) hb); have NB498_507 := znl hg BK498.out; have NB507_498 := zng hg BK498.out; replace BK498 := zbl BK498.out hb; have NB499_507 := znl hg BK499.out; have NB507_499 := zng hg BK499.out; replace BK499 := zbl BK499.out hb; have NB503_507 := znl hg BK503.out; have NB507_503 := zng hg BK503.out; replace BK503 := zbl BK503.out hb; clear hb hbox hg; have hnb20 := NB507_498.out; have hnc20 := NB498_507.out; have hnb21 := NB507_499.out; have hnc21 := NB499_507.out; have hnb22 := NB507_503.out; have hnc22 := NB503_507.out; have hcz23_0 : w19.cell? ⟨gb507, 0, none⟩ = some (.int .i64 0) := (blk_cell BK507.out 0).trans rfl; have hcz23_1 : w19.cell? ⟨gb507, 1, none⟩ = some (.int .i64 0) := (blk_cell BK507.out 1).trans rfl; have hfz23_0 := blk_frozen BK507.out 0; have hfz23_1 := blk_frozen BK507.out 1; have hcz24_0 : w19.cell? ⟨gb503, 0, none⟩ = some (.int .i64 t500) := (blk_cell BK503.out 0).trans rfl; have hcz24_1 : w19.cell? ⟨gb503, 1, none⟩ = some (.int .i64 t501) := (blk_cell BK503.out 1).trans rfl; have hfz24_0 := blk_frozen BK503.out 0; have hfz24_1 := blk_frozen BK503.out 1) | ((with_reducible refine gate_callee (f := 47) rfl ?_); refine goesL_ (some 29) rfl rfl Try.func47 (by kernel_rfl) rfl #[.agg #[.int .i64 t500, .int .i64 t501], .agg #[.int .i64 t504, .int .i64 t505]] rfl zlx ?_; (with_reducible refine (impl_compareRatios.calls t500 t501 t504 t505 (0 : Int) _ A7.out).mono ?_); rintro e w25 ⟨rfl, hb⟩; refine ⟨_, rfl, ?_⟩; replace BK498 := zbl BK498.out hb; replace BK499 := zbl BK499.out hb; replace BK503 := zbl BK503.out hb; replace BK507 := Aside0.mk (blk_below (g := gb507) (o := .cells #[.int .i64 t504, .int .i64 t505] 37 (0, 0)) (zbp BK507.out) hb); replace HB := Aside0.mk (below_step (zhB HB.out) hb); (try clear hb)))
      go_ret2
      exact ⟨by first | rfl | (simp [errW_none, errW_some] <;> rfl) | (simp [*, errW_none, errW_some] <;> rfl), zhB HB.out⟩
   · subst e_
     rw [show Int.tmod (wrap64 (1 + 3)) 3 = 1 from by rw [show wrap64 (1 + 3) = 4 from by unfold wrap64; omega]; rfl] at H
     focus
      simp only [Option.some.injEq, Prod.mk.injEq] at H
      obtain ⟨rfl, rfl⟩ := H
      go_enter Try.func26, Try.ntmps26
      go_wp2_with (first | ((with_reducible refine gate_dst (N := 2) rfl ?_); refine box_event ?hg (N := 2) ?hd (cs := #[.int .i64 a0_0, .int .i64 a0_1, .int .i64 a0_2, .int .i64 a0_3]) (t := 30) ?hr ?_; (case hd => rfl); (case hg => rfl); (case hr => exact zsx); intro gb498 hg w8 hbox hb; have BK498 := Aside0.mk (hbox); have GW498 := zns hg HB.out; have GE498 := zns hg HB.out; replace HB := Aside0.mk (below_step (zBx HB.out) hb); clear hb hbox hg) | ((with_reducible refine gate_dst (N := 3) rfl ?_); refine box_event ?hg (N := 3) ?hd (cs := #[.int .i64 a1_0, .int .i64 a1_1, .int .i64 a1_2, .int .i64 a1_3]) (t := 30) ?hr ?_; (case hd => rfl); (case hg => rfl); (case hr => exact zsx); intro gb499 hg w9 hbox hb; have BK499 := Aside0.mk (hbox); have GW499 := zns hg HB.out; have GE499 := zns hg HB.out; replace HB := Aside0.mk (below_step (zBy HB.out GE498.out) hb); have NB498_499 := znl hg BK498.out; have NB499_498 := zng hg BK498.out; replace BK498 := zbl BK498.out hb; clear hb hbox hg; have hnb10 := NB498_499.out; have hnc10 := NB499_498.out; have hcz11_0 : w9.cell? ⟨gb498, 0, none⟩ = some (.int .i64 a0_0) := (blk_cell BK498.out 0).trans rfl; have hcz11_1 : w9.cell? ⟨gb498, 1, none⟩ = some (.int .i64 a0_1) := (blk_cell BK498.out 1).trans rfl; have hcz11_2 : w9.cell? ⟨gb498, 2, none⟩ = some (.int .i64 a0_2) := (blk_cell BK498.out 2).trans rfl; have hcz11_3 : w9.cell? ⟨gb498, 3, none⟩ = some (.int .i64 a0_3) := (blk_cell BK498.out 3).trans rfl; have hfz11_0 := blk_frozen BK498.out 0; have hfz11_1 := blk_frozen BK498.out 1; have hfz11_2 := blk_frozen BK498.out 2; have hfz11_3 := blk_frozen BK498.out 3) | ((with_reducible refine gate_callee (f := 11) rfl ?_); refine goesL_ (some 12) rfl rfl Try.func11 (by kernel_rfl) rfl #[.agg #[.int .i64 a0_0, .int .i64 a0_1, .int .i64 a0_2, .int .i64 a0_3]] rfl zlx ?_; (with_reducible refine (impl_ThreatScore.calls k a0_0 a0_1 a0_2 a0_3 t500 t501 true _ A3.out).mono ?_); rintro e w12 ⟨rfl, hb⟩; refine ⟨_, rfl, ?_⟩; replace BK498 := zbl BK498.out hb; replace BK499 := zbl BK499.out hb; replace HB := Aside0.mk (below_step (zBz HB.out GE498.out GE499.out) hb); (try clear hb)) | ((with_reducible refine gate_dst (N := 6) rfl ?_); refine box_event ?hg (N := 6) ?hd (cs := #[.int .i64 0, .int .i64 0]) (t := 37) ?hr ?_; (case hd => rfl); (case hg => rfl); (case hr => exact zsx); intro gb503 hg w13 hbox hb; have BK503 := Aside0.mk (hbox); have GW503 := zns hg HB.out; have GE503 := zns hg HB.out; replace HB := Aside0.mk (below_step (zBz HB.out GE498.out GE499.out) hb); have NB498_503 := znl hg BK498.out; have NB503_498 := zng hg BK498.out; replace BK498 := zbl BK498.out hb; have NB499_503 := znl hg BK499.out; have NB503_499 := zng hg BK499.out; replace BK499 := zbl BK499.out hb; clear hb hbox hg; have hnb14 := NB503_498.out; have hnc14 := NB498_503.out; have hnb15 := NB503_499.out; have hnc15 := NB499_503.out; have hcz16_0 : w13.cell? ⟨gb503, 0, none⟩ = some (.int .i64 0) := (blk_cell BK503.out 0).trans rfl; have hcz16_1 : w13.cell? ⟨gb503, 1, none⟩ = some (.int .i64 0) := (blk_cell BK503.out 1).trans rfl; have hfz16_0 := blk_frozen BK503.out 0; have hfz16_1 := blk_frozen BK503.out 1; have hcz17_0 : w13.cell? ⟨gb499, 0, none⟩ = some (.int .i64 a1_0) := (blk_cell BK499.out 0).trans rfl; have hcz17_1 : w13.cell? ⟨gb499, 1, none⟩ = some (.int .i64 a1_1) := (blk_cell BK499.out 1).trans rfl; have hcz17_2 : w13.cell? ⟨gb499, 2, none⟩ = some (.int .i64 a1_2) := (blk_cell BK499.out 2).trans rfl; have hcz17_3 : w13.cell? ⟨gb499, 3, none⟩ = some (.int .i64 a1_3) := (blk_cell BK499.out 3).trans rfl; have hfz17_0 := blk_frozen BK499.out 0; have hfz17_1 := blk_frozen BK499.out 1; have hfz17_2 := blk_frozen BK499.out 2; have hfz17_3 := blk_frozen BK499.out 3) | ((with_reducible refine gate_callee (f := 11) rfl ?_); refine goesL_ (some 17) rfl rfl Try.func11 (by kernel_rfl) rfl #[.agg #[.int .i64 a1_0, .int .i64 a1_1, .int .i64 a1_2, .int .i64 a1_3]] rfl zlx ?_; (with_reducible refine (impl_ThreatScore.calls k a1_0 a1_1 a1_2 a1_3 t504 t505 true _ A4.out).mono ?_); rintro e w18 ⟨rfl, hb⟩; refine ⟨_, rfl, ?_⟩; replace BK498 := zbl BK498.out hb; replace BK499 := zbl BK499.out hb; replace BK503 := Aside0.mk (blk_below (g := gb503) (o := .cells #[.int .i64 t500, .int .i64 t501] 37 (0, 0)) (zbp BK503.out) hb); replace HB := Aside0.mk (below_step (zhB HB.out) hb); (try clear hb)) | ((with_reducible refine gate_dst (N := 8) rfl ?_); refine box_event ?hg (N := 8) ?hd (cs := #[.int .i64 0, .int .i64 0]) (t := 37) ?hr ?_; (case hd => rfl); (case hg => rfl); (case hr => exact zsx); intro gb507 hg w19 hbox hb; have BK507 := Aside0.mk (hbox); have GW507 := zns hg HB.out; have GE507 := zns hg HB.out; replace HB := Aside0.mk (below_step (zhB HB.out) hb); have NB498_507 := znl hg BK498.out; have NB507_498 := zng hg BK498.out; replace BK498 := zbl BK498.out hb; have NB499_507 := znl hg BK499.out; have NB507_499 := zng hg BK499.out; replace BK499 := zbl BK499.out hb; have NB503_507 := znl hg BK503.out; have NB507_503 := zng hg BK503.out; replace BK503 := zbl BK503.out hb; clear hb hbox hg; have hnb20 := NB507_498.out; have hnc20 := NB498_507.out; have hnb21 := NB507_499.out; have hnc21 := NB499_507.out; have hnb22 := NB507_503.out; have hnc22 := NB503_507.out; have hcz23_0 : w19.cell? ⟨gb507, 0, none⟩ = some (.int .i64 0) := (blk_cell BK507.out 0).trans rfl; have hcz23_1 : w19.cell? ⟨gb507, 1, none⟩ = some (.int .i64 0) := (blk_cell BK507.out 1).trans rfl; have hfz23_0 := blk_frozen BK507.out 0; have hfz23_1 := blk_frozen BK507.out 1; have hcz24_0 : w19.cell? ⟨gb503, 0, none⟩ = some (.int .i64 t500) := (blk_cell BK503.out 0).trans rfl; have hcz24_1 : w19.cell? ⟨gb503, 1, none⟩ = some (.int .i64 t501) := (blk_cell BK503.out 1).trans rfl; have hfz24_0 := blk_frozen BK503.out 0; have hfz24_1 := blk_frozen BK503.out 1) | ((with_reducible refine gate_callee (f := 47) rfl ?_); refine goesL_ (some 29) rfl rfl Try.func47 (by kernel_rfl) rfl #[.agg #[.int .i64 t500, .int .i64 t501], .agg #[.int .i64 t504, .int .i64 t505]] rfl zlx ?_; (with_reducible refine (impl_compareRatios.calls t500 t501 t504 t505 (1 : Int) _ A7.out).mono ?_); rintro e w25 ⟨rfl, hb⟩; refine ⟨_, rfl, ?_⟩; replace BK498 := zbl BK498.out hb; replace BK499 := zbl BK499.out hb; replace BK503 := zbl BK503.out hb; replace BK507 := Aside0.mk (blk_below (g := gb507) (o := .cells #[.int .i64 t504, .int .i64 t505] 37 (0, 0)) (zbp BK507.out) hb); replace HB := Aside0.mk (below_step (zhB HB.out) hb); (try clear hb)))
      go_ret2
      exact ⟨by first | rfl | (simp [errW_none, errW_some] <;> rfl) | (simp [*, errW_none, errW_some] <;> rfl), zhB HB.out⟩
  ·replace c6 := Bool.eq_false_iff.mpr c6
   subst c6
   rw [if_neg (show ¬ (false = true) by decide)] at H
   focus
    exact zendXFnLimitsx15_0
 ·replace c5 := Bool.eq_false_iff.mpr c5
  subst c5
  rw [if_neg (show ¬ (false = true) by decide)] at H
  focus
   exact zendXFnLimitsx15_0

/-! ### spec_CompareTables: function 27 -/
def spec_CompareTables.j0 : Nat → Bool → Int → Int → Int → Int → Option (Int × Bool)
 | 0, _, _, _, _, _ => none
 | k + 1, x20, x515000, x515001, x519000, x519001 => if x20 = true then (some (0, false)) else ((spec_l20Less.f x519000 x519001 x515000 x515001).bind fun t519 => (if t519 = true then (some (1, true)) else ((spec_l20Less.f x515000 x515001 x519000 x519001).bind fun t520 => (if t520 = true then (some (2, true)) else (some (0, true))))))
def spec_CompareTables.f (k : Nat) (a0_0 : Int) (a0_1 : Int) (a0_2 : Int) (a0_3 : Int) (a1_0 : Int) (a1_1 : Int) (a1_2 : Int) (a1_3 : Int) : Option (Int × Bool) := (spec_ThreatScore.f k a0_0 a0_1 a0_2 a0_3).bind fun bt511 => ((spec_ThreatScore.f k a1_0 a1_1 a1_2 a1_3).bind fun bt515 => (if bt511.2.2 = true then (spec_CompareTables.j0 k (!bt515.2.2) bt511.1 bt511.2.1 bt515.1 bt515.2.1) else (spec_CompareTables.j0 k true bt511.1 bt511.2.1 bt515.1 bt515.2.1)))
theorem spec_CompareTables.mono_l : ∀ k, (∀ y0 y1 y2 y3 y4, LeO (spec_CompareTables.j0 k y0 y1 y2 y3 y4) (spec_CompareTables.j0 (k + 1) y0 y1 y2 y3 y4))
 | 0 => fun _ _ _ _ _ r h => by simp [spec_CompareTables.j0] at h
 | k + 1 => by
  have ih0 := spec_CompareTables.mono_l k
  ·intro y0 y1 y2 y3 y4
   unfold spec_CompareTables.j0
   repeat' first
   | (with_reducible exact ih0 _ _ _ _ _)
   | (with_reducible exact spec_ThreatScore.mono _ _ _ _ _)
   | (with_reducible exact LeO.refl _)
   | (with_reducible exact LeO.none _)
   | (with_reducible refine LeO.ite ?_ ?_)
   | (with_reducible refine LeO.bind ?_ (fun _ => ?_))
   | exact ih0 _ _ _ _ _
   | exact spec_ThreatScore.mono _ _ _ _ _
   | exact LeO.none _
   | refine LeO.ite ?_ ?_
   | refine LeO.bind ?_ (fun _ => ?_)
theorem spec_CompareTables.mono : ∀ a0 a1 a2 a3 a4 a5 a6 a7 k, LeO (spec_CompareTables.f k a0 a1 a2 a3 a4 a5 a6 a7) (spec_CompareTables.f (k + 1) a0 a1 a2 a3 a4 a5 a6 a7) := by
 intro a0 a1 a2 a3 a4 a5 a6 a7 k
 have ih0 := spec_CompareTables.mono_l k
 unfold spec_CompareTables.f
 repeat' first
  | (with_reducible exact ih0 _ _ _ _ _)
  | (with_reducible exact spec_ThreatScore.mono _ _ _ _ _)
  | (with_reducible exact LeO.refl _)
  | (with_reducible exact LeO.none _)
  | (with_reducible refine LeO.ite ?_ ?_)
  | (with_reducible refine LeO.bind ?_ (fun _ => ?_))
  | exact ih0 _ _ _ _ _
  | exact spec_ThreatScore.mono _ _ _ _ _
  | exact LeO.none _
  | refine LeO.ite ?_ ?_
  | refine LeO.bind ?_ (fun _ => ?_)
theorem zendXFnLimitsx15_1 {P_ : Prop} (h_ : P_ := by
  simp only [Option.some.injEq, Prod.mk.injEq] at H
  obtain ⟨rfl, rfl⟩ := H
  have hnb36 := NB518_509.out
  have hnc36 := NB509_518.out
  have hnb37 := NB518_510.out
  have hnc37 := NB510_518.out
  have hnb38 := NB518_514.out
  have hnc38 := NB514_518.out
  have hcz39_0 : wc.cell? ⟨gb518, 0, none⟩ = some (.int .i64 t515) := (blk_cell BK518.out 0).trans rfl
  have hcz39_1 : wc.cell? ⟨gb518, 1, none⟩ = some (.int .i64 t516) := (blk_cell BK518.out 1).trans rfl
  have hfz39_0 := blk_frozen BK518.out 0
  have hfz39_1 := blk_frozen BK518.out 1
  have hnb40 := NB514_509.out
  have hnc40 := NB509_514.out
  have hnb41 := NB514_510.out
  have hnc41 := NB510_514.out
  have hcz42_0 : wc.cell? ⟨gb514, 0, none⟩ = some (.int .i64 t511) := (blk_cell BK514.out 0).trans rfl
  have hcz42_1 : wc.cell? ⟨gb514, 1, none⟩ = some (.int .i64 t512) := (blk_cell BK514.out 1).trans rfl
  have hfz42_0 := blk_frozen BK514.out 0
  have hfz42_1 := blk_frozen BK514.out 1
  go_wp2_with (first | ((with_reducible refine gate_callee (f := 48) rfl ?_); refine goesL_ (some 30) rfl rfl Try.func48 (by kernel_rfl) rfl #[.agg #[.int .i64 t515, .int .i64 t516], .agg #[.int .i64 t511, .int .i64 t512]] rfl zlx ?_; (with_reducible refine (spec_l20Less.calls t515 t516 t511 t512 false _ A24.out).mono ?_); rintro e w43 ⟨rfl, hb⟩; refine ⟨_, rfl, ?_⟩; replace BK509 := zbl BK509.out hb; replace BK510 := zbl BK510.out hb; replace BK514 := zbl BK514.out hb; replace BK518 := zbl BK518.out hb; replace HB := Aside0.mk (below_step (zhB HB.out) hb); (try clear hb); have hcz44_0 : w43.cell? ⟨gb514, 0, none⟩ = some (.int .i64 t511) := (blk_cell BK514.out 0).trans rfl; have hcz44_1 : w43.cell? ⟨gb514, 1, none⟩ = some (.int .i64 t512) := (blk_cell BK514.out 1).trans rfl; have hfz44_0 := blk_frozen BK514.out 0; have hfz44_1 := blk_frozen BK514.out 1; have hcz45_0 : w43.cell? ⟨gb518, 0, none⟩ = some (.int .i64 t515) := (blk_cell BK518.out 0).trans rfl; have hcz45_1 : w43.cell? ⟨gb518, 1, none⟩ = some (.int .i64 t516) := (blk_cell BK518.out 1).trans rfl; have hfz45_0 := blk_frozen BK518.out 0; have hfz45_1 := blk_frozen BK518.out 1) | ((with_reducible refine gate_callee (f := 48) rfl ?_); refine goesL_ (some 34) rfl rfl Try.func48 (by kernel_rfl) rfl #[.agg #[.int .i64 t511, .int .i64 t512], .agg #[.int .i64 t515, .int .i64 t516]] rfl zlx ?_; (with_reducible refine (spec_l20Less.calls t511 t512 t515 t516 _ _ A34.out).mono ?_); rintro e w46 ⟨rfl, hb⟩; refine ⟨_, rfl, ?_⟩; replace BK509 := zbl BK509.out hb; replace BK510 := zbl BK510.out hb; replace BK514 := zbl BK514.out hb; replace BK518 := zbl BK518.out hb; replace HB := Aside0.mk (below_step (zhB HB.out) hb); (try clear hb)))
  go_ret2
  exact ⟨by first | rfl | (simp [errW_none, errW_some] <;> rfl) | (simp [*, errW_none, errW_some] <;> rfl), zhB HB.out⟩) : P_ := h_
set_option maxHeartbeats 8000000 in
set_option maxRecDepth 100000 in
theorem spec_CompareTables.calls (k : Nat) (a0_0 : Int) (a0_1 : Int) (a0_2 : Int) (a0_3 : Int) (a1_0 : Int) (a1_1 : Int) (a1_2 : Int) (a1_3 : Int) (r1 : Int) (r2 : Bool) (w : World) (h : spec_CompareTables.f k a0_0 a0_1 a0_2 a0_3 a1_0 a1_1 a1_2 a1_3 = some (r1, r2)) :
 Calls Try.prog 27 #[.agg #[.int .i64 a0_0, .int .i64 a0_1, .int .i64 a0_2, .int .i64 a0_3], .agg #[.int .i64 a1_0, .int .i64 a1_1, .int .i64 a1_2, .int .i64 a1_3]] w fun e w' => e = .returned (.tuple #[.int .i64 r1, .bool r2]) ∧ Below w.heap.size w w' := by
 have hu30 := Try.underlying30
 have hu37 := Try.underlying37
 have HB := Aside0.mk (Below.refl w.heap.size w)
 have H : ((spec_ThreatScore.f k a0_0 a0_1 a0_2 a0_3).bind fun bt511 => ((spec_ThreatScore.f k a1_0 a1_1 a1_2 a1_3).bind fun bt515 => (if bt511.2.2 = true then (spec_CompareTables.j0 k (!bt515.2.2) bt511.1 bt511.2.1 bt515.1 bt515.2.1) else (spec_CompareTables.j0 k true bt511.1 bt511.2.1 bt515.1 bt515.2.1)))) = some (r1, r2) := h
 clear h
 replace H := Option.bind_eq_some_iff.mp H
 obtain ⟨⟨t511, t512, t513⟩, A30, H⟩ := H
 replace H : ((spec_ThreatScore.f k a1_0 a1_1 a1_2 a1_3).bind fun bt515 => (if t513 = true then (spec_CompareTables.j0 k (!bt515.2.2) t511 t512 bt515.1 bt515.2.1) else (spec_CompareTables.j0 k true t511 t512 bt515.1 bt515.2.1))) = some (r1, r2) := H
 have A3 := Aside0.mk A30
 clear A30
 replace H := Option.bind_eq_some_iff.mp H
 obtain ⟨⟨t515, t516, t517⟩, A40, H⟩ := H
 replace H : (if t513 = true then (spec_CompareTables.j0 k (!t517) t511 t512 t515 t516) else (spec_CompareTables.j0 k true t511 t512 t515 t516)) = some (r1, r2) := H
 have A4 := Aside0.mk A40
 clear A40
 have HC5 := Aside0.mk H
 clear H
 go_enter Try.func27, Try.ntmps27
 go_upto_region 3 with (first | ((with_reducible refine gate_dst (N := 2) rfl ?_); refine box_event ?hg (N := 2) ?hd (cs := #[.int .i64 a0_0, .int .i64 a0_1, .int .i64 a0_2, .int .i64 a0_3]) (t := 30) ?hr ?_; (case hd => rfl); (case hg => rfl); (case hr => exact zsx); intro gb509 hg w6 hbox hb; have BK509 := Aside0.mk (hbox); have GW509 := zns hg HB.out; have GE509 := zns hg HB.out; replace HB := Aside0.mk (below_step (zBx HB.out) hb); clear hb hbox hg) | ((with_reducible refine gate_dst (N := 3) rfl ?_); refine box_event ?hg (N := 3) ?hd (cs := #[.int .i64 a1_0, .int .i64 a1_1, .int .i64 a1_2, .int .i64 a1_3]) (t := 30) ?hr ?_; (case hd => rfl); (case hg => rfl); (case hr => exact zsx); intro gb510 hg w7 hbox hb; have BK510 := Aside0.mk (hbox); have GW510 := zns hg HB.out; have GE510 := zns hg HB.out; replace HB := Aside0.mk (below_step (zBy HB.out GE509.out) hb); have NB509_510 := znl hg BK509.out; have NB510_509 := zng hg BK509.out; replace BK509 := zbl BK509.out hb; clear hb hbox hg; have hnb8 := NB509_510.out; have hnc8 := NB510_509.out; have hcz9_0 : w7.cell? ⟨gb509, 0, none⟩ = some (.int .i64 a0_0) := (blk_cell BK509.out 0).trans rfl; have hcz9_1 : w7.cell? ⟨gb509, 1, none⟩ = some (.int .i64 a0_1) := (blk_cell BK509.out 1).trans rfl; have hcz9_2 : w7.cell? ⟨gb509, 2, none⟩ = some (.int .i64 a0_2) := (blk_cell BK509.out 2).trans rfl; have hcz9_3 : w7.cell? ⟨gb509, 3, none⟩ = some (.int .i64 a0_3) := (blk_cell BK509.out 3).trans rfl; have hfz9_0 := blk_frozen BK509.out 0; have hfz9_1 := blk_frozen BK509.out 1; have hfz9_2 := blk_frozen BK509.out 2; have hfz9_3 := blk_frozen BK509.out 3) | ((with_reducible refine gate_callee (f := 16) rfl ?_); refine goesL_ (some 12) rfl rfl Try.func16 (by kernel_rfl) rfl #[.agg #[.int .i64 a0_0, .int .i64 a0_1, .int .i64 a0_2, .int .i64 a0_3]] rfl zlx ?_; (with_reducible refine (spec_ThreatScore.calls k a0_0 a0_1 a0_2 a0_3 t511 t512 t513 _ A3.out).mono ?_); rintro e w10 ⟨rfl, hb⟩; refine ⟨_, rfl, ?_⟩; replace BK509 := zbl BK509.out hb; replace BK510 := zbl BK510.out hb; replace HB := Aside0.mk (below_step (zBz HB.out GE509.out GE510.out) hb); (try clear hb)) | ((with_reducible refine gate_dst (N := 6) rfl ?_); refine box_event ?hg (N := 6) ?hd (cs := #[.int .i64 0, .int .i64 0]) (t := 37) ?hr ?_; (case hd => rfl); (case hg => rfl); (case hr => exact zsx); intro gb514 hg w11 hbox hb; have BK514 := Aside0.mk (hbox); have GW514 := zns hg HB.out; have GE514 := zns hg HB.out; replace HB := Aside0.mk (below_step (zBz HB.out GE509.out GE510.out) hb); have NB509_514 := znl hg BK509.out; have NB514_509 := zng hg BK509.out; replace BK509 := zbl BK509.out hb; have NB510_514 := znl hg BK510.out; have NB514_510 := zng hg BK510.out; replace BK510 := zbl BK510.out hb; clear hb hbox hg; have hnb12 := NB514_509.out; have hnc12 := NB509_514.out; have hnb13 := NB514_510.out; have hnc13 := NB510_514.out; have hcz14_0 : w11.cell? ⟨gb514, 0, none⟩ = some (.int .i64 0) := (blk_cell BK514.out 0).trans rfl; have hcz14_1 : w11.cell? ⟨gb514, 1, none⟩ = some (.int .i64 0) := (blk_cell BK514.out 1).trans rfl; have hfz14_0 := blk_frozen BK514.out 0; have hfz14_1 := blk_frozen BK514.out 1; have hcz15_0 : w11.cell? ⟨gb510, 0, none⟩ = some (.int .i64 a1_0) := (blk_cell BK510.out 0).trans rfl; have hcz15_1 : w11.cell? ⟨gb510, 1, none⟩ = some (.int .i64 a1_1) := (blk_cell BK510.out 1).trans rfl; have hcz15_2 : w11.cell? ⟨gb510, 2, none⟩ = some (.int .i64 a1_2) := (blk_cell BK510.out 2).trans rfl; have hcz15_3 : w11.cell? ⟨gb510, 3, none⟩ = some (.int .i64 a1_3) := (blk_cell BK510.out 3).trans rfl; have hfz15_0 := blk_frozen BK510.out 0; have hfz15_1 := blk_frozen BK510.out 1; have hfz15_2 := blk_frozen BK510.out 2; have hfz15_3 := blk_frozen BK510.out 3) | ((with_reducible refine gate_callee (f := 16) rfl ?_); refine goesL_ (some 17) rfl rfl Try.func16 (by kernel_rfl) rfl #[.agg #[.int .i64 a1_0, .int .i64 a1_1, .int .i64 a1_2, .int .i64 a1_3]] rfl zlx ?_; (with_reducible refine (spec_ThreatScore.calls k a1_0 a1_1 a1_2 a1_3 t515 t516 t517 _ A4.out).mono ?_); rintro e w16 ⟨rfl, hb⟩; refine ⟨_, rfl, ?_⟩; replace BK509 := zbl BK509.out hb; replace BK510 := zbl BK510.out hb; replace BK514 := Aside0.mk (blk_below (g := gb514) (o := .cells #[.int .i64 t511, .int .i64 t512] 37 (0, 0)) (zbp BK514.out) hb); replace HB := Aside0.mk (below_step (zhB HB.out) hb); (try clear hb)) | ((with_reducible refine gate_dst (N := 8) rfl ?_); refine box_event ?hg (N := 8) ?hd (cs := #[.int .i64 0, .int .i64 0]) (t := 37) ?hr ?_; (case hd => rfl); (case hg => rfl); (case hr => exact zsx); intro gb518 hg w17 hbox hb; have BK518 := Aside0.mk (hbox); have GW518 := zns hg HB.out; have GE518 := zns hg HB.out; replace HB := Aside0.mk (below_step (zhB HB.out) hb); have NB509_518 := znl hg BK509.out; have NB518_509 := zng hg BK509.out; replace BK509 := zbl BK509.out hb; have NB510_518 := znl hg BK510.out; have NB518_510 := zng hg BK510.out; replace BK510 := zbl BK510.out hb; have NB514_518 := znl hg BK514.out; have NB518_514 := zng hg BK514.out; replace BK514 := zbl BK514.out hb; clear hb hbox hg; have hnb18 := NB518_509.out; have hnc18 := NB509_518.out; have hnb19 := NB518_510.out; have hnc19 := NB510_518.out; have hnb20 := NB518_514.out; have hnc20 := NB514_518.out; have hcz21_0 : w17.cell? ⟨gb518, 0, none⟩ = some (.int .i64 0) := (blk_cell BK518.out 0).trans rfl; have hcz21_1 : w17.cell? ⟨gb518, 1, none⟩ = some (.int .i64 0) := (blk_cell BK518.out 1).trans rfl; have hfz21_0 := blk_frozen BK518.out 0; have hfz21_1 := blk_frozen BK518.out 1))
 (try simp only [Act.put, List.setIfInBounds_toArray, List.set_cons_zero, List.set_cons_succ])
 go_cut [20] (fun v20 wc => ∃ (kq : Nat) (x20_4 : Bool), v20 = .bool x20_4 ∧ Aside0 (spec_CompareTables.j0 kq x20_4 t511 t512 t515 t516 = some (r1, r2)) ∧ Aside0 (kq ≤ k) ∧ Aside0 (wc.heap[gb509]? = some (.cells #[.int .i64 a0_0, .int .i64 a0_1, .int .i64 a0_2, .int .i64 a0_3] 30 (0, 0))) ∧ Aside0 (wc.heap[gb510]? = some (.cells #[.int .i64 a1_0, .int .i64 a1_1, .int .i64 a1_2, .int .i64 a1_3] 30 (0, 0))) ∧ Aside0 (wc.heap[gb514]? = some (.cells #[.int .i64 t511, .int .i64 t512] 37 (0, 0))) ∧ Aside0 (wc.heap[gb518]? = some (.cells #[.int .i64 t515, .int .i64 t516] 37 (0, 0))) ∧ Aside0 (Below w.heap.size w wc))
 case first =>
  have H := HC5.out
  clear HC5
  by_cases c22 : t513 = true
  ·subst c22
   rw [if_pos rfl] at H
   focus
    have H' := Aside0.mk H
    clear H
    go_wp2
    go_meet
    case rel => exact ⟨_, (!t517), zrx, H', ⟨by first | omega | exact Nat.le_refl _⟩, ⟨zbp BK509.out⟩, ⟨zbp BK510.out⟩, ⟨zbp BK514.out⟩, ⟨zbp BK518.out⟩, ⟨zhB HB.out⟩⟩
  ·replace c22 := Bool.eq_false_iff.mpr c22
   subst c22
   rw [if_neg (show ¬ (false = true) by decide)] at H
   focus
    have H' := Aside0.mk H
    clear H
    go_wp2
    go_meet
    case rel => exact ⟨_, (true), zrx, H', ⟨by first | omega | exact Nat.le_refl _⟩, ⟨zbp BK509.out⟩, ⟨zbp BK510.out⟩, ⟨zbp BK514.out⟩, ⟨zbp BK518.out⟩, ⟨zhB HB.out⟩⟩
 case rest =>
  clear HC5
  try clear c1
  try clear c2
  try clear p2
  try clear c8
  try clear c12
  try clear c13
  try clear c16
  try clear c18
  try clear c19
  try clear c20
  try clear c22
  try clear hcz14_0
  try clear hcz14_1
  try clear hcz15_0
  try clear hcz15_1
  try clear hcz15_2
  try clear hcz15_3
  try clear hcz21_0
  try clear hcz21_1
  try clear hcz9_0
  try clear hcz9_1
  try clear hcz9_2
  try clear hcz9_3
  try clear hfz14_0
  try clear hfz14_1
  try clear hfz15_0
  try clear hfz15_1
  try clear hfz15_2
  try clear hfz15_3
  try clear hfz21_0
  try clear hfz21_1
  try clear hfz9_0
  try clear hfz9_1
  try clear hfz9_2
  try clear hfz9_3
  obtain ⟨kq, x20_4, rfl, HA, HJ4, BK509, BK510, BK514, BK518, HB⟩ := hcut
  cases kq with
  | zero => exact absurd HA.out (by simp [spec_CompareTables.j0])
  | succ kj4 =>
   have H := HA.out
   clear HA
   simp only [spec_CompareTables.j0] at H
   by_cases c23 : x20_4 = true
   ·subst c23
    rw [if_pos rfl] at H
    focus
     simp only [Option.some.injEq, Prod.mk.injEq] at H
     obtain ⟨rfl, rfl⟩ := H
     go_wp2
     go_ret2
     exact ⟨by first | rfl | (simp [errW_none, errW_some] <;> rfl) | (simp [*, errW_none, errW_some] <;> rfl), zhB HB.out⟩
   ·replace c23 := Bool.eq_false_iff.mpr c23
    subst c23
    rw [if_neg (show ¬ (false = true) by decide)] at H
    replace H := Option.bind_eq_some_iff.mp H
    obtain ⟨t519, A240, H⟩ := H
    replace H : (if t519 = true then (some (1, true)) else ((spec_l20Less.f t511 t512 t515 t516).bind fun t520 => (if t520 = true then (some (2, true)) else (some (0, true))))) = some (r1, r2) := H
    have A24 := Aside0.mk A240
    clear A240
    by_cases c25 : t519 = true
    ·subst c25
     rw [if_pos rfl] at H
     focus
      simp only [Option.some.injEq, Prod.mk.injEq] at H
      obtain ⟨rfl, rfl⟩ := H
      have hnb26 := NB518_509.out
      have hnc26 := NB509_518.out
      have hnb27 := NB518_510.out
      have hnc27 := NB510_518.out
      have hnb28 := NB518_514.out
      have hnc28 := NB514_518.out
      have hcz29_0 : wc.cell? ⟨gb518, 0, none⟩ = some (.int .i64 t515) := (blk_cell BK518.out 0).trans rfl
      have hcz29_1 : wc.cell? ⟨gb518, 1, none⟩ = some (.int .i64 t516) := (blk_cell BK518.out 1).trans rfl
      have hfz29_0 := blk_frozen BK518.out 0
      have hfz29_1 := blk_frozen BK518.out 1
      have hnb30 := NB514_509.out
      have hnc30 := NB509_514.out
      have hnb31 := NB514_510.out
      have hnc31 := NB510_514.out
      have hcz32_0 : wc.cell? ⟨gb514, 0, none⟩ = some (.int .i64 t511) := (blk_cell BK514.out 0).trans rfl
      have hcz32_1 : wc.cell? ⟨gb514, 1, none⟩ = some (.int .i64 t512) := (blk_cell BK514.out 1).trans rfl
      have hfz32_0 := blk_frozen BK514.out 0
      have hfz32_1 := blk_frozen BK514.out 1
      go_wp2_with (first | ((with_reducible refine gate_callee (f := 48) rfl ?_); refine goesL_ (some 30) rfl rfl Try.func48 (by kernel_rfl) rfl #[.agg #[.int .i64 t515, .int .i64 t516], .agg #[.int .i64 t511, .int .i64 t512]] rfl zlx ?_; (with_reducible refine (spec_l20Less.calls t515 t516 t511 t512 true _ A24.out).mono ?_); rintro e w33 ⟨rfl, hb⟩; refine ⟨_, rfl, ?_⟩; replace BK509 := zbl BK509.out hb; replace BK510 := zbl BK510.out hb; replace BK514 := zbl BK514.out hb; replace BK518 := zbl BK518.out hb; replace HB := Aside0.mk (below_step (zhB HB.out) hb); (try clear hb)))
      go_ret2
      exact ⟨by first | rfl | (simp [errW_none, errW_some] <;> rfl) | (simp [*, errW_none, errW_some] <;> rfl), zhB HB.out⟩
    ·replace c25 := Bool.eq_false_iff.mpr c25
     subst c25
     rw [if_neg (show ¬ (false = true) by decide)] at H
     replace H := Option.bind_eq_some_iff.mp H
     obtain ⟨t520, A340, H⟩ := H
     replace H : (if t520 = true then (some (2, true)) else (some (0, true))) = some (r1, r2) := H
     have A34 := Aside0.mk A340
     clear A340
     by_cases c35 : t520 = true
     ·subst c35
      rw [if_pos rfl] at H
      focus
       exact zendXFnLimitsx15_1
     ·replace c35 := Bool.eq_false_iff.mpr c35
      subst c35
      rw [if_neg (show ¬ (false = true) by decide)] at H
      focus
       exact zendXFnLimitsx15_1

/-! ### impl_AddTables: function 29 -/
def impl_AddTables.j0 : Nat → Bool → Int → Int → Int → Int → Int → Int → Int → Int → Option (Int × Int × Int × Int × Bool)
 | 0, _, _, _, _, _, _, _, _, _ => none
 | k + 1, x14, x522000, x522001, x522002, x522003, x523000, x523001, x523002, x523003 => if x14 = true then (some (0, 0, 0, 0, false)) else ((impl_isTable.f k (wrap64 (x522000 + x523000)) (wrap64 (x522001 + x523001)) (wrap64 (x522002 + x523002)) (wrap64 (x522003 + x523003))).bind fun t527 => (if t527 = true then (some (wrap64 (x522000 + x523000), wrap64 (x522001 + x523001), wrap64 (x522002 + x523002), wrap64 (x522003 + x523003), true)) else (some (0, 0, 0, 0, false))))
def impl_AddTables.f (k : Nat) (a0_0 : Int) (a0_1 : Int) (a0_2 : Int) (a0_3 : Int) (a1_0 : Int) (a1_1 : Int) (a1_2 : Int) (a1_3 : Int) : Option (Int × Int × Int × Int × Bool) := (impl_isTable.f k a0_0 a0_1 a0_2 a0_3).bind fun t524 => (if t524 = true then ((impl_isTable.f k a1_0 a1_1 a1_2 a1_3).bind fun t525 => (impl_AddTables.j0 k (!t525) a0_0 a0_1 a0_2 a0_3 a1_0 a1_1 a1_2 a1_3)) else (impl_AddTables.j0 k true a0_0 a0_1 a0_2 a0_3 a1_0 a1_1 a1_2 a1_3))
theorem impl_AddTables.mono_l : ∀ k, (∀ y0 y1 y2 y3 y4 y5 y6 y7 y8, LeO (impl_AddTables.j0 k y0 y1 y2 y3 y4 y5 y6 y7 y8) (impl_AddTables.j0 (k + 1) y0 y1 y2 y3 y4 y5 y6 y7 y8))
 | 0 => fun _ _ _ _ _ _ _ _ _ r h => by simp [impl_AddTables.j0] at h
 | k + 1 => by
  have ih0 := impl_AddTables.mono_l k
  ·intro y0 y1 y2 y3 y4 y5 y6 y7 y8
   unfold impl_AddTables.j0
   repeat' first
   | (with_reducible exact ih0 _ _ _ _ _ _ _ _ _)
   | (with_reducible exact impl_isTable.mono _ _ _ _ _)
   | (with_reducible exact LeO.refl _)
   | (with_reducible exact LeO.none _)
   | (with_reducible refine LeO.ite ?_ ?_)
   | (with_reducible refine LeO.bind ?_ (fun _ => ?_))
   | exact ih0 _ _ _ _ _ _ _ _ _
   | exact impl_isTable.mono _ _ _ _ _
   | exact LeO.none _
   | refine LeO.ite ?_ ?_
   | refine LeO.bind ?_ (fun _ => ?_)
theorem impl_AddTables.mono : ∀ a0 a1 a2 a3 a4 a5 a6 a7 k, LeO (impl_AddTables.f k a0 a1 a2 a3 a4 a5 a6 a7) (impl_AddTables.f (k + 1) a0 a1 a2 a3 a4 a5 a6 a7) := by
 intro a0 a1 a2 a3 a4 a5 a6 a7 k
 have ih0 := impl_AddTables.mono_l k
 unfold impl_AddTables.f
 repeat' first
  | (with_reducible exact ih0 _ _ _ _ _ _ _ _ _)
  | (with_reducible exact impl_isTable.mono _ _ _ _ _)
  | (with_reducible exact LeO.refl _)
  | (with_reducible exact LeO.none _)
  | (with_reducible refine LeO.ite ?_ ?_)
  | (with_reducible refine LeO.bind ?_ (fun _ => ?_))
  | exact ih0 _ _ _ _ _ _ _ _ _
  | exact impl_isTable.mono _ _ _ _ _
  | exact LeO.none _
  | refine LeO.ite ?_ ?_
  | refine LeO.bind ?_ (fun _ => ?_)
set_option maxHeartbeats 8000000 in
set_option maxRecDepth 100000 in
theorem impl_AddTables.calls (k : Nat) (a0_0 : Int) (a0_1 : Int) (a0_2 : Int) (a0_3 : Int) (a1_0 : Int) (a1_1 : Int) (a1_2 : Int) (a1_3 : Int) (r1 : Int) (r2 : Int) (r3 : Int) (r4 : Int) (r5 : Bool) (w : World) (h : impl_AddTables.f k a0_0 a0_1 a0_2 a0_3 a1_0 a1_1 a1_2 a1_3 = some (r1, r2, r3, r4, r5)) :
 Calls Try.prog 29 #[.agg #[.int .i64 a0_0, .int .i64 a0_1, .int .i64 a0_2, .int .i64 a0_3], .agg #[.int .i64 a1_0, .int .i64 a1_1, .int .i64 a1_2, .int .i64 a1_3]] w fun e w' => e = .returned (.tuple #[.agg #[.int .i64 r1, .int .i64 r2, .int .i64 r3, .int .i64 r4], .bool r5]) ∧ Below w.heap.size w w' := by
 have hu30 := Try.underlying30
 have HB := Aside0.mk (Below.refl w.heap.size w)
 have H : ((impl_isTable.f k a0_0 a0_1 a0_2 a0_3).bind fun t524 => (if t524 = true then ((impl_isTable.f k a1_0 a1_1 a1_2 a1_3).bind fun t525 => (impl_AddTables.j0 k (!t525) a0_0 a0_1 a0_2 a0_3 a1_0 a1_1 a1_2 a1_3)) else (impl_AddTables.j0 k true a0_0 a0_1 a0_2 a0_3 a1_0 a1_1 a1_2 a1_3))) = some (r1, r2, r3, r4, r5) := h
 clear h
 have HC3 := Aside0.mk H
 clear H
 go_enter Try.func29, Try.ntmps29
 go_upto_region 1 with (first | ((with_reducible refine gate_dst (N := 2) rfl ?_); refine box_event ?hg (N := 2) ?hd (cs := #[.int .i64 a0_0, .int .i64 a0_1, .int .i64 a0_2, .int .i64 a0_3]) (t := 30) ?hr ?_; (case hd => rfl); (case hg => rfl); (case hr => exact zsx); intro gb521 hg w4 hbox hb; have BK521 := Aside0.mk (hbox); have GW521 := zns hg HB.out; have GE521 := zns hg HB.out; replace HB := Aside0.mk (below_step (zBx HB.out) hb); clear hb hbox hg) | ((with_reducible refine gate_dst (N := 3) rfl ?_); refine box_event ?hg (N := 3) ?hd (cs := #[.int .i64 a1_0, .int .i64 a1_1, .int .i64 a1_2, .int .i64 a1_3]) (t := 30) ?hr ?_; (case hd => rfl); (case hg => rfl); (case hr => exact zsx); intro gb522 hg w5 hbox hb; have BK522 := Aside0.mk (hbox); have GW522 := zns hg HB.out; have GE522 := zns hg HB.out; replace HB := Aside0.mk (below_step (zBy HB.out GE521.out) hb); have NB521_522 := znl hg BK521.out; have NB522_521 := zng hg BK521.out; replace BK521 := zbl BK521.out hb; clear hb hbox hg) | ((with_reducible refine gate_dst (N := 4) rfl ?_); refine box_event ?hg (N := 4) ?hd (cs := #[.int .i64 0, .int .i64 0, .int .i64 0, .int .i64 0]) (t := 30) ?hr ?_; (case hd => rfl); (case hg => rfl); (case hr => exact zsx); intro gb523 hg w6 hbox hb; have BK523 := Aside0.mk (hbox); have GW523 := zns hg HB.out; have GE523 := zns hg HB.out; replace HB := Aside0.mk (below_step (zBz HB.out GE521.out GE522.out) hb); have NB521_523 := znl hg BK521.out; have NB523_521 := zng hg BK521.out; replace BK521 := zbl BK521.out hb; have NB522_523 := znl hg BK522.out; have NB523_522 := zng hg BK522.out; replace BK522 := zbl BK522.out hb; clear hb hbox hg))
 (try simp only [Act.put, List.setIfInBounds_toArray, List.set_cons_zero, List.set_cons_succ])
 go_cut [14] (fun v14 wc => ∃ (kq : Nat) (x14_2 : Bool), v14 = .bool x14_2 ∧ Aside0 (impl_AddTables.j0 kq x14_2 a0_0 a0_1 a0_2 a0_3 a1_0 a1_1 a1_2 a1_3 = some (r1, r2, r3, r4, r5)) ∧ Aside0 (kq ≤ k) ∧ Aside0 (wc.heap[gb521]? = some (.cells #[.int .i64 a0_0, .int .i64 a0_1, .int .i64 a0_2, .int .i64 a0_3] 30 (0, 0))) ∧ Aside0 (wc.heap[gb522]? = some (.cells #[.int .i64 a1_0, .int .i64 a1_1, .int .i64 a1_2, .int .i64 a1_3] 30 (0, 0))) ∧ Aside0 (wc.heap[gb523]? = some (.cells #[.int .i64 0, .int .i64 0, .int .i64 0, .int .i64 0] 30 (0, 0))) ∧ Aside0 (Below w.heap.size w wc))
 case first =>
  have H := HC3.out
  clear HC3
  replace H := Option.bind_eq_some_iff.mp H
  obtain ⟨t524, A70, H⟩ := H
  replace H : (if t524 = true then ((impl_isTable.f k a1_0 a1_1 a1_2 a1_3).bind fun t525 => (impl_AddTables.j0 k (!t525) a0_0 a0_1 a0_2 a0_3 a1_0 a1_1 a1_2 a1_3)) else (impl_AddTables.j0 k true a0_0 a0_1 a0_2 a0_3 a1_0 a1_1 a1_2 a1_3)) = some (r1, r2, r3, r4, r5) := H
  have A7 := Aside0.mk A70
  clear A70
  by_cases c8 : t524 = true
  ·subst c8
   rw [if_pos rfl] at H
   replace H := Option.bind_eq_some_iff.mp H
   obtain ⟨t525, A90, H⟩ := H
   replace H : (impl_AddTables.j0 k (!t525) a0_0 a0_1 a0_2 a0_3 a1_0 a1_1 a1_2 a1_3) = some (r1, r2, r3, r4, r5) := H
   have A9 := Aside0.mk A90
   clear A90
   focus
    have H' := Aside0.mk H
    clear H
    have hnb10 := NB521_522.out
    have hnc10 := NB522_521.out
    have hnb11 := NB521_523.out
    have hnc11 := NB523_521.out
    have hcz12_0 : w6.cell? ⟨gb521, 0, none⟩ = some (.int .i64 a0_0) := (blk_cell BK521.out 0).trans rfl
    have hcz12_1 : w6.cell? ⟨gb521, 1, none⟩ = some (.int .i64 a0_1) := (blk_cell BK521.out 1).trans rfl
    have hcz12_2 : w6.cell? ⟨gb521, 2, none⟩ = some (.int .i64 a0_2) := (blk_cell BK521.out 2).trans rfl
    have hcz12_3 : w6.cell? ⟨gb521, 3, none⟩ = some (.int .i64 a0_3) := (blk_cell BK521.out 3).trans rfl
    have hfz12_0 := blk_frozen BK521.out 0
    have hfz12_1 := blk_frozen BK521.out 1
    have hfz12_2 := blk_frozen BK521.out 2
    have hfz12_3 := blk_frozen BK521.out 3
    go_wp2_with (first | ((with_reducible refine gate_callee (f := 50) rfl ?_); refine goesL_ (some 8) rfl rfl Try.func50 (by kernel_rfl) rfl #[.agg #[.int .i64 a0_0, .int .i64 a0_1, .int .i64 a0_2, .int .i64 a0_3]] rfl zlx ?_; (with_reducible refine (impl_isTable.calls k a0_0 a0_1 a0_2 a0_3 true _ A7.out).mono ?_); rintro e w13 ⟨rfl, hb⟩; refine ⟨_, rfl, ?_⟩; replace BK521 := zbl BK521.out hb; replace BK522 := zbl BK522.out hb; replace BK523 := zbl BK523.out hb; replace HB := Aside0.mk (below_step (zhB HB.out) hb); (try clear hb); (try clear hb2); (try clear hk); (try clear hi); have hnb14 := NB522_523.out; have hnc14 := NB523_522.out; have hcz15_0 : w13.cell? ⟨gb522, 0, none⟩ = some (.int .i64 a1_0) := (blk_cell BK522.out 0).trans rfl; have hcz15_1 : w13.cell? ⟨gb522, 1, none⟩ = some (.int .i64 a1_1) := (blk_cell BK522.out 1).trans rfl; have hcz15_2 : w13.cell? ⟨gb522, 2, none⟩ = some (.int .i64 a1_2) := (blk_cell BK522.out 2).trans rfl; have hcz15_3 : w13.cell? ⟨gb522, 3, none⟩ = some (.int .i64 a1_3) := (blk_cell BK522.out 3).trans rfl; have hfz15_0 := blk_frozen BK522.out 0; have hfz15_1 := blk_frozen BK522.out 1; have hfz15_2 := blk_frozen BK522.out 2; have hfz15_3 := blk_frozen BK522.out 3) | (go_at_call 50; (with_reducible refine (impl_isTable.calls k a1_0 a1_1 a1_2 a1_3 t525 _ A9.out).mono ?_); rintro e w16 ⟨rfl, hb⟩; replace BK521 := zbl BK521.out hb; replace BK522 := zbl BK522.out hb; replace BK523 := zbl BK523.out hb; replace HB := Aside0.mk (below_step (zhB HB.out) hb); (try clear hb); (try clear hb2); (try clear hk); (try clear hi)))
    go_meet
    case rel => exact ⟨_, (!t525), zrx, H', ⟨by first | omega | exact Nat.le_refl _⟩, ⟨by refine zbx ?_; exact BK521.out⟩, ⟨by refine zbx ?_; exact BK522.out⟩, ⟨by refine zbx ?_; exact BK523.out⟩, ⟨zhB HB.out⟩⟩
  ·replace c8 := Bool.eq_false_iff.mpr c8
   subst c8
   rw [if_neg (show ¬ (false = true) by decide)] at H
   focus
    have H' := Aside0.mk H
    clear H
    have hnb17 := NB521_522.out
    have hnc17 := NB522_521.out
    have hnb18 := NB521_523.out
    have hnc18 := NB523_521.out
    have hcz19_0 : w6.cell? ⟨gb521, 0, none⟩ = some (.int .i64 a0_0) := (blk_cell BK521.out 0).trans rfl
    have hcz19_1 : w6.cell? ⟨gb521, 1, none⟩ = some (.int .i64 a0_1) := (blk_cell BK521.out 1).trans rfl
    have hcz19_2 : w6.cell? ⟨gb521, 2, none⟩ = some (.int .i64 a0_2) := (blk_cell BK521.out 2).trans rfl
    have hcz19_3 : w6.cell? ⟨gb521, 3, none⟩ = some (.int .i64 a0_3) := (blk_cell BK521.out 3).trans rfl
    have hfz19_0 := blk_frozen BK521.out 0
    have hfz19_1 := blk_frozen BK521.out 1
    have hfz19_2 := blk_frozen BK521.out 2
    have hfz19_3 := blk_frozen BK521.out 3
    go_wp2_with (first | ((with_reducible refine gate_callee (f := 50) rfl ?_); refine goesL_ (some 8) rfl rfl Try.func50 (by kernel_rfl) rfl #[.agg #[.int .i64 a0_0, .int .i64 a0_1, .int .i64 a0_2, .int .i64 a0_3]] rfl zlx ?_; (with_reducible refine (impl_isTable.calls k a0_0 a0_1 a0_2 a0_3 false _ A7.out).mono ?_); rintro e w20 ⟨rfl, hb⟩; refine ⟨_, rfl, ?_⟩; replace BK521 := zbl BK521.out hb; replace BK522 := zbl BK522.out hb; replace BK523 := zbl BK523.out hb; replace HB := Aside0.mk (below_step (zhB HB.out) hb); (try clear hb)))
    go_meet
    case rel => exact ⟨_, (true), zrx, H', ⟨by first | omega | exact Nat.le_refl _⟩, ⟨by refine zbx ?_; exact BK521.out⟩, ⟨by refine zbx ?_; exact BK522.out⟩, ⟨by refine zbx ?_; exact BK523.out⟩, ⟨zhB HB.out⟩⟩
 case rest =>
  clear HC3
  try clear c1
  try clear c2
  try clear p2
  try clear c5
  try clear c8
  try clear c10
  try clear c11
  try clear c14
  try clear c17
  try clear c18
  try clear hcz12_0
  try clear hcz12_1
  try clear hcz12_2
  try clear hcz12_3
  try clear hcz15_0
  try clear hcz15_1
  try clear hcz15_2
  try clear hcz15_3
  try clear hcz19_0
  try clear hcz19_1
  try clear hcz19_2
  try clear hcz19_3
  try clear hfz12_0
  try clear hfz12_1
  try clear hfz12_2
  try clear hfz12_3
  try clear hfz15_0
  try clear hfz15_1
  try clear hfz15_2
  try clear hfz15_3
  try clear hfz19_0
  try clear hfz19_1
  try clear hfz19_2
  try clear hfz19_3
  obtain ⟨kq, x14_2, rfl, HA, HJ2, BK521, BK522, BK523, HB⟩ := hcut
  cases kq with
  | zero => exact absurd HA.out (by simp [impl_AddTables.j0])
  | succ kj2 =>
   have H := HA.out
   clear HA
   simp only [impl_AddTables.j0] at H
   by_cases c21 : x14_2 = true
   ·subst c21
    rw [if_pos rfl] at H
    focus
     simp only [Option.some.injEq, Prod.mk.injEq] at H
     obtain ⟨rfl, rfl, rfl, rfl, rfl⟩ := H
     have hnb22 := NB523_521.out
     have hnc22 := NB521_523.out
     have hnb23 := NB523_522.out
     have hnc23 := NB522_523.out
     have hcz24_0 : wc.cell? ⟨gb523, 0, none⟩ = some (.int .i64 0) := (blk_cell BK523.out 0).trans rfl
     have hcz24_1 : wc.cell? ⟨gb523, 1, none⟩ = some (.int .i64 0) := (blk_cell BK523.out 1).trans rfl
     have hcz24_2 : wc.cell? ⟨gb523, 2, none⟩ = some (.int .i64 0) := (blk_cell BK523.out 2).trans rfl
     have hcz24_3 : wc.cell? ⟨gb523, 3, none⟩ = some (.int .i64 0) := (blk_cell BK523.out 3).trans rfl
     have hfz24_0 := blk_frozen BK523.out 0
     have hfz24_1 := blk_frozen BK523.out 1
     have hfz24_2 := blk_frozen BK523.out 2
     have hfz24_3 := blk_frozen BK523.out 3
     go_wp2
     refine bodyPost_ret (results_ct rfl _ _ gb523 30 #[.int .i64 0, .int .i64 0, .int .i64 0, .int .i64 0] (0, 0) _ rfl (zbp BK523.out) Try.underlying30 rfl (by kernel_rfl)) rfl ?_
     exact ⟨by first | rfl | (simp [errW_none, errW_some] <;> rfl) | (simp [*, errW_none, errW_some] <;> rfl), zhB HB.out⟩
   ·replace c21 := Bool.eq_false_iff.mpr c21
    subst c21
    rw [if_neg (show ¬ (false = true) by decide)] at H
    replace H := Option.bind_eq_some_iff.mp H
    obtain ⟨t527, A250, H⟩ := H
    replace H : (if t527 = true then (some (wrap64 (a0_0 + a1_0), wrap64 (a0_1 + a1_1), wrap64 (a0_2 + a1_2), wrap64 (a0_3 + a1_3), true)) else (some (0, 0, 0, 0, false))) = some (r1, r2, r3, r4, r5) := H
    have A25 := Aside0.mk A250
    clear A250
    by_cases c26 : t527 = true
    ·subst c26
     rw [if_pos rfl] at H
     focus
      simp only [Option.some.injEq, Prod.mk.injEq] at H
      obtain ⟨rfl, rfl, rfl, rfl, rfl⟩ := H
      have hnb27 := NB521_522.out
      have hnc27 := NB522_521.out
      have hnb28 := NB521_523.out
      have hnc28 := NB523_521.out
      have hcz29_0 : wc.cell? ⟨gb521, 0, none⟩ = some (.int .i64 a0_0) := (blk_cell BK521.out 0).trans rfl
      have hcz29_1 : wc.cell? ⟨gb521, 1, none⟩ = some (.int .i64 a0_1) := (blk_cell BK521.out 1).trans rfl
      have hcz29_2 : wc.cell? ⟨gb521, 2, none⟩ = some (.int .i64 a0_2) := (blk_cell BK521.out 2).trans rfl
      have hcz29_3 : wc.cell? ⟨gb521, 3, none⟩ = some (.int .i64 a0_3) := (blk_cell BK521.out 3).trans rfl
      have hfz29_0 := blk_frozen BK521.out 0
      have hfz29_1 := blk_frozen BK521.out 1
      have hfz29_2 := blk_frozen BK521.out 2
      have hfz29_3 := blk_frozen BK521.out 3
      have hnb30 := NB522_523.out
      have hnc30 := NB523_522.out
      have hcz31_0 : wc.cell? ⟨gb522, 0, none⟩ = some (.int .i64 a1_0) := (blk_cell BK522.out 0).trans rfl
      have hcz31_1 : wc.cell? ⟨gb522, 1, none⟩ = some (.int .i64 a1_1) := (blk_cell BK522.out 1).trans rfl
      have hcz31_2 : wc.cell? ⟨gb522, 2, none⟩ = some (.int .i64 a1_2) := (blk_cell BK522.out 2).trans rfl
      have hcz31_3 : wc.cell? ⟨gb522, 3, none⟩ = some (.int .i64 a1_3) := (blk_cell BK522.out 3).trans rfl
      have hfz31_0 := blk_frozen BK522.out 0
      have hfz31_1 := blk_frozen BK522.out 1
      have hfz31_2 := blk_frozen BK522.out 2
      have hfz31_3 := blk_frozen BK522.out 3
      go_wp2_with (first | ((with_reducible refine gate_dst (N := 6) rfl ?_); refine box_event ?hg (N := 6) ?hd (cs := #[.int .i64 0, .int .i64 0, .int .i64 0, .int .i64 0]) (t := 30) ?hr ?_; (case hd => rfl); (case hg => rfl); (case hr => exact zsx); intro gb526 hg w32 hbox hb; have BK526 := Aside0.mk (hbox); have GW526 := zns hg HB.out; have GE526 := zns hg HB.out; replace HB := Aside0.mk (below_step (zhB HB.out) hb); have NB521_526 := znl hg BK521.out; have NB526_521 := zng hg BK521.out; replace BK521 := zbl BK521.out hb; have NB522_526 := znl hg BK522.out; have NB526_522 := zng hg BK522.out; replace BK522 := zbl BK522.out hb; have NB523_526 := znl hg BK523.out; have NB526_523 := zng hg BK523.out; replace BK523 := zbl BK523.out hb; clear hb hbox hg; have hnb33 := NB526_521.out; have hnc33 := NB521_526.out; have hnb34 := NB526_522.out; have hnc34 := NB522_526.out; have hnb35 := NB526_523.out; have hnc35 := NB523_526.out; have hcz36_0 : w32.cell? ⟨gb526, 0, none⟩ = some (.int .i64 0) := (blk_cell BK526.out 0).trans rfl; have hcz36_1 : w32.cell? ⟨gb526, 1, none⟩ = some (.int .i64 0) := (blk_cell BK526.out 1).trans rfl; have hcz36_2 : w32.cell? ⟨gb526, 2, none⟩ = some (.int .i64 0) := (blk_cell BK526.out 2).trans rfl; have hcz36_3 : w32.cell? ⟨gb526, 3, none⟩ = some (.int .i64 0) := (blk_cell BK526.out 3).trans rfl; have hfz36_0 := blk_frozen BK526.out 0; have hfz36_1 := blk_frozen BK526.out 1; have hfz36_2 := blk_frozen BK526.out 2; have hfz36_3 := blk_frozen BK526.out 3) | ((with_reducible refine gate_callee (f := 50) rfl ?_); refine goesL_ (some 38) rfl rfl Try.func50 (by kernel_rfl) rfl #[.agg #[.int .i64 (wrap64 (a0_0 + a1_0)), .int .i64 (wrap64 (a0_1 + a1_1)), .int .i64 (wrap64 (a0_2 + a1_2)), .int .i64 (wrap64 (a0_3 + a1_3))]] rfl zlx ?_; (with_reducible refine (impl_isTable.calls kj2 (wrap64 (a0_0 + a1_0)) (wrap64 (a0_1 + a1_1)) (wrap64 (a0_2 + a1_2)) (wrap64 (a0_3 + a1_3)) true _ A25.out).mono ?_); rintro e w37 ⟨rfl, hb⟩; refine ⟨_, rfl, ?_⟩; replace BK521 := zbl BK521.out hb; replace BK522 := zbl BK522.out hb; replace BK523 := zbl BK523.out hb; replace BK526 := Aside0.mk (blk_below (g := gb526) (o := .cells #[.int .i64 (wrap64 (a0_0 + a1_0)), .int .i64 (wrap64 (a0_1 + a1_1)), .int .i64 (wrap64 (a0_2 + a1_2)), .int .i64 (wrap64 (a0_3 + a1_3))] 30 (0, 0)) (zbp BK526.out) hb); replace HB := Aside0.mk (below_step (zhB HB.out) hb); (try clear hb); have hcz38_0 : w37.cell? ⟨gb526, 0, none⟩ = some (.int .i64 (wrap64 (a0_0 + a1_0))) := (blk_cell BK526.out 0).trans rfl; have hcz38_1 : w37.cell? ⟨gb526, 1, none⟩ = some (.int .i64 (wrap64 (a0_1 + a1_1))) := (blk_cell BK526.out 1).trans rfl; have hcz38_2 : w37.cell? ⟨gb526, 2, none⟩ = some (.int .i64 (wrap64 (a0_2 + a1_2))) := (blk_cell BK526.out 2).trans rfl; have hcz38_3 : w37.cell? ⟨gb526, 3, none⟩ = some (.int .i64 (wrap64 (a0_3 + a1_3))) := (blk_cell BK526.out 3).trans rfl; have hfz38_0 := blk_frozen BK526.out 0; have hfz38_1 := blk_frozen BK526.out 1; have hfz38_2 := blk_frozen BK526.out 2; have hfz38_3 := blk_frozen BK526.out 3; have hcz39_0 : w37.cell? ⟨gb523, 0, none⟩ = some (.int .i64 0) := (blk_cell BK523.out 0).trans rfl; have hcz39_1 : w37.cell? ⟨gb523, 1, none⟩ = some (.int .i64 0) := (blk_cell BK523.out 1).trans rfl; have hcz39_2 : w37.cell? ⟨gb523, 2, none⟩ = some (.int .i64 0) := (blk_cell BK523.out 2).trans rfl; have hcz39_3 : w37.cell? ⟨gb523, 3, none⟩ = some (.int .i64 0) := (blk_cell BK523.out 3).trans rfl; have hfz39_0 := blk_frozen BK523.out 0; have hfz39_1 := blk_frozen BK523.out 1; have hfz39_2 := blk_frozen BK523.out 2; have hfz39_3 := blk_frozen BK523.out 3))
      refine bodyPost_ret (results_ct rfl _ _ gb523 30 #[.int .i64 (wrap64 (a0_0 + a1_0)), .int .i64 (wrap64 (a0_1 + a1_1)), .int .i64 (wrap64 (a0_2 + a1_2)), .int .i64 (wrap64 (a0_3 + a1_3))] (0, 0) _ rfl (zbp BK523.out) Try.underlying30 rfl (by kernel_rfl)) rfl ?_
      exact ⟨by first | rfl | (simp [errW_none, errW_some] <;> rfl) | (simp [*, errW_none, errW_some] <;> rfl), zhB HB.out⟩
    ·replace c26 := Bool.eq_false_iff.mpr c26
     subst c26
     rw [if_neg (show ¬ (false = true) by decide)] at H
     focus
      simp only [Option.some.injEq, Prod.mk.injEq] at H
      obtain ⟨rfl, rfl, rfl, rfl, rfl⟩ := H
      have hnb40 := NB521_522.out
      have hnc40 := NB522_521.out
      have hnb41 := NB521_523.out
      have hnc41 := NB523_521.out
      have hcz42_0 : wc.cell? ⟨gb521, 0, none⟩ = some (.int .i64 a0_0) := (blk_cell BK521.out 0).trans rfl
      have hcz42_1 : wc.cell? ⟨gb521, 1, none⟩ = some (.int .i64 a0_1) := (blk_cell BK521.out 1).trans rfl
      have hcz42_2 : wc.cell? ⟨gb521, 2, none⟩ = some (.int .i64 a0_2) := (blk_cell BK521.out 2).trans rfl
      have hcz42_3 : wc.cell? ⟨gb521, 3, none⟩ = some (.int .i64 a0_3) := (blk_cell BK521.out 3).trans rfl
      have hfz42_0 := blk_frozen BK521.out 0
      have hfz42_1 := blk_frozen BK521.out 1
      have hfz42_2 := blk_frozen BK521.out 2
      have hfz42_3 := blk_frozen BK521.out 3
      have hnb43 := NB522_523.out
      have hnc43 := NB523_522.out
      have hcz44_0 : wc.cell? ⟨gb522, 0, none⟩ = some (.int .i64 a1_0) := (blk_cell BK522.out 0).trans rfl
      have hcz44_1 : wc.cell? ⟨gb522, 1, none⟩ = some (.int .i64 a1_1) := (blk_cell BK522.out 1).trans rfl
      have hcz44_2 : wc.cell? ⟨gb522, 2, none⟩ = some (.int .i64 a1_2) := (blk_cell BK522.out 2).trans rfl
      have hcz44_3 : wc.cell? ⟨gb522, 3, none⟩ = some (.int .i64 a1_3) := (blk_cell BK522.out 3).trans rfl
      have hfz44_0 := blk_frozen BK522.out 0
      have hfz44_1 := blk_frozen BK522.out 1
      have hfz44_2 := blk_frozen BK522.out 2
      have hfz44_3 := blk_frozen BK522.out 3
      go_wp2_with (first | ((with_reducible refine gate_dst (N := 6) rfl ?_); refine box_event ?hg (N := 6) ?hd (cs := #[.int .i64 0, .int .i64 0, .int .i64 0, .int .i64 0]) (t := 30) ?hr ?_; (case hd => rfl); (case hg => rfl); (case hr => exact zsx); intro gb526 hg w45 hbox hb; have BK526 := Aside0.mk (hbox); have GW526 := zns hg HB.out; have GE526 := zns hg HB.out; replace HB := Aside0.mk (below_step (zhB HB.out) hb); have NB521_526 := znl hg BK521.out; have NB526_521 := zng hg BK521.out; replace BK521 := zbl BK521.out hb; have NB522_526 := znl hg BK522.out; have NB526_522 := zng hg BK522.out; replace BK522 := zbl BK522.out hb; have NB523_526 := znl hg BK523.out; have NB526_523 := zng hg BK523.out; replace BK523 := zbl BK523.out hb; clear hb hbox hg; have hnb46 := NB526_521.out; have hnc46 := NB521_526.out; have hnb47 := NB526_522.out; have hnc47 := NB522_526.out; have hnb48 := NB526_523.out; have hnc48 := NB523_526.out; have hcz49_0 : w45.cell? ⟨gb526, 0, none⟩ = some (.int .i64 0) := (blk_cell BK526.out 0).trans rfl; have hcz49_1 : w45.cell? ⟨gb526, 1, none⟩ = some (.int .i64 0) := (blk_cell BK526.out 1).trans rfl; have hcz49_2 : w45.cell? ⟨gb526, 2, none⟩ = some (.int .i64 0) := (blk_cell BK526.out 2).trans rfl; have hcz49_3 : w45.cell? ⟨gb526, 3, none⟩ = some (.int .i64 0) := (blk_cell BK526.out 3).trans rfl; have hfz49_0 := blk_frozen BK526.out 0; have hfz49_1 := blk_frozen BK526.out 1; have hfz49_2 := blk_frozen BK526.out 2; have hfz49_3 := blk_frozen BK526.out 3) | ((with_reducible refine gate_callee (f := 50) rfl ?_); refine goesL_ (some 38) rfl rfl Try.func50 (by kernel_rfl) rfl #[.agg #[.int .i64 (wrap64 (a0_0 + a1_0)), .int .i64 (wrap64 (a0_1 + a1_1)), .int .i64 (wrap64 (a0_2 + a1_2)), .int .i64 (wrap64 (a0_3 + a1_3))]] rfl zlx ?_; (with_reducible refine (impl_isTable.calls kj2 (wrap64 (a0_0 + a1_0)) (wrap64 (a0_1 + a1_1)) (wrap64 (a0_2 + a1_2)) (wrap64 (a0_3 + a1_3)) false _ A25.out).mono ?_); rintro e w50 ⟨rfl, hb⟩; refine ⟨_, rfl, ?_⟩; replace BK521 := zbl BK521.out hb; replace BK522 := zbl BK522.out hb; replace BK523 := zbl BK523.out hb; replace BK526 := Aside0.mk (blk_below (g := gb526) (o := .cells #[.int .i64 (wrap64 (a0_0 + a1_0)), .int .i64 (wrap64 (a0_1 + a1_1)), .int .i64 (wrap64 (a0_2 + a1_2)), .int .i64 (wrap64 (a0_3 + a1_3))] 30 (0, 0)) (zbp BK526.out) hb); replace HB := Aside0.mk (below_step (zhB HB.out) hb); (try clear hb); have hcz51_0 : w50.cell? ⟨gb523, 0, none⟩ = some (.int .i64 0) := (blk_cell BK523.out 0).trans rfl; have hcz51_1 : w50.cell? ⟨gb523, 1, none⟩ = some (.int .i64 0) := (blk_cell BK523.out 1).trans rfl; have hcz51_2 : w50.cell? ⟨gb523, 2, none⟩ = some (.int .i64 0) := (blk_cell BK523.out 2).trans rfl; have hcz51_3 : w50.cell? ⟨gb523, 3, none⟩ = some (.int .i64 0) := (blk_cell BK523.out 3).trans rfl; have hfz51_0 := blk_frozen BK523.out 0; have hfz51_1 := blk_frozen BK523.out 1; have hfz51_2 := blk_frozen BK523.out 2; have hfz51_3 := blk_frozen BK523.out 3))
      refine bodyPost_ret (results_ct rfl _ _ gb523 30 #[.int .i64 0, .int .i64 0, .int .i64 0, .int .i64 0] (0, 0) _ rfl (zbp BK523.out) Try.underlying30 rfl (by kernel_rfl)) rfl ?_
      exact ⟨by first | rfl | (simp [errW_none, errW_some] <;> rfl) | (simp [*, errW_none, errW_some] <;> rfl), zhB HB.out⟩

/-! ### spec_AddTables: function 30 -/
def spec_AddTables.f (a0_0 : Int) (a0_1 : Int) (a0_2 : Int) (a0_3 : Int) (a1_0 : Int) (a1_1 : Int) (a1_2 : Int) (a1_3 : Int) : Option (Int × Int × Int × Int × Bool) := (spec_l20Good.f a0_0 a0_1 a0_2 a0_3).bind fun t532 => (if t532 = true then ((spec_l20Good.f a1_0 a1_1 a1_2 a1_3).bind fun t533 => (if t533 = true then ((spec_l20Good.f (wrap64 (a0_0 + a1_0)) (wrap64 (a0_1 + a1_1)) (wrap64 (a0_2 + a1_2)) (wrap64 (a0_3 + a1_3))).bind fun t534 => (if t534 = true then (some (wrap64 (a0_0 + a1_0), wrap64 (a0_1 + a1_1), wrap64 (a0_2 + a1_2), wrap64 (a0_3 + a1_3), true)) else (some (0, 0, 0, 0, false)))) else (some (0, 0, 0, 0, false)))) else (some (0, 0, 0, 0, false)))
set_option maxHeartbeats 8000000 in
set_option maxRecDepth 100000 in
theorem spec_AddTables.calls (a0_0 : Int) (a0_1 : Int) (a0_2 : Int) (a0_3 : Int) (a1_0 : Int) (a1_1 : Int) (a1_2 : Int) (a1_3 : Int) (r1 : Int) (r2 : Int) (r3 : Int) (r4 : Int) (r5 : Bool) (w : World) (h : spec_AddTables.f a0_0 a0_1 a0_2 a0_3 a1_0 a1_1 a1_2 a1_3 = some (r1, r2, r3, r4, r5)) :
 Calls Try.prog 30 #[.agg #[.int .i64 a0_0, .int .i64 a0_1, .int .i64 a0_2, .int .i64 a0_3], .agg #[.int .i64 a1_0, .int .i64 a1_1, .int .i64 a1_2, .int .i64 a1_3]] w fun e w' => e = .returned (.tuple #[.agg #[.int .i64 r1, .int .i64 r2, .int .i64 r3, .int .i64 r4], .bool r5]) ∧ Below w.heap.size w w' := by
 have hu30 := Try.underlying30
 have HB := Aside0.mk (Below.refl w.heap.size w)
 have H : ((spec_l20Good.f a0_0 a0_1 a0_2 a0_3).bind fun t532 => (if t532 = true then ((spec_l20Good.f a1_0 a1_1 a1_2 a1_3).bind fun t533 => (if t533 = true then ((spec_l20Good.f (wrap64 (a0_0 + a1_0)) (wrap64 (a0_1 + a1_1)) (wrap64 (a0_2 + a1_2)) (wrap64 (a0_3 + a1_3))).bind fun t534 => (if t534 = true then (some (wrap64 (a0_0 + a1_0), wrap64 (a0_1 + a1_1), wrap64 (a0_2 + a1_2), wrap64 (a0_3 + a1_3), true)) else (some (0, 0, 0, 0, false)))) else (some (0, 0, 0, 0, false)))) else (some (0, 0, 0, 0, false)))) = some (r1, r2, r3, r4, r5) := h
 clear h
 replace H := Option.bind_eq_some_iff.mp H
 obtain ⟨t532, A30, H⟩ := H
 replace H : (if t532 = true then ((spec_l20Good.f a1_0 a1_1 a1_2 a1_3).bind fun t533 => (if t533 = true then ((spec_l20Good.f (wrap64 (a0_0 + a1_0)) (wrap64 (a0_1 + a1_1)) (wrap64 (a0_2 + a1_2)) (wrap64 (a0_3 + a1_3))).bind fun t534 => (if t534 = true then (some (wrap64 (a0_0 + a1_0), wrap64 (a0_1 + a1_1), wrap64 (a0_2 + a1_2), wrap64 (a0_3 + a1_3), true)) else (some (0, 0, 0, 0, false)))) else (some (0, 0, 0, 0, false)))) else (some (0, 0, 0, 0, false))) = some (r1, r2, r3, r4, r5) := H
 have A3 := Aside0.mk A30
 clear A30
 by_cases c4 : t532 = true
 ·subst c4
  rw [if_pos rfl] at H
  replace H := Option.bind_eq_some_iff.mp H
  obtain ⟨t533, A50, H⟩ := H
  replace H : (if t533 = true then ((spec_l20Good.f (wrap64 (a0_0 + a1_0)) (wrap64 (a0_1 + a1_1)) (wrap64 (a0_2 + a1_2)) (wrap64 (a0_3 + a1_3))).bind fun t534 => (if t534 = true then (some (wrap64 (a0_0 + a1_0), wrap64 (a0_1 + a1_1), wrap64 (a0_2 + a1_2), wrap64 (a0_3 + a1_3), true)) else (some (0, 0, 0, 0, false)))) else (some (0, 0, 0, 0, false))) = some (r1, r2, r3, r4, r5) := H
  have A5 := Aside0.mk A50
  clear A50
  by_cases c6 : t533 = true
  ·subst c6
   rw [if_pos rfl] at H
   replace H := Option.bind_eq_some_iff.mp H
   obtain ⟨t534, A70, H⟩ := H
   replace H : (if t534 = true then (some (wrap64 (a0_0 + a1_0), wrap64 (a0_1 + a1_1), wrap64 (a0_2 + a1_2), wrap64 (a0_3 + a1_3), true)) else (some (0, 0, 0, 0, false))) = some (r1, r2, r3, r4, r5) := H
   have A7 := Aside0.mk A70
   clear A70
   by_cases c8 : t534 = true
   ·subst c8
    rw [if_pos rfl] at H
    focus
     simp only [Option.some.injEq, Prod.mk.injEq] at H
     obtain ⟨rfl, rfl, rfl, rfl, rfl⟩ := H
     go_enter Try.func30, Try.ntmps30
     go_wp2_with (first | ((with_reducible refine gate_dst (N := 2) rfl ?_); refine box_event ?hg (N := 2) ?hd (cs := #[.int .i64 a0_0, .int .i64 a0_1, .int .i64 a0_2, .int .i64 a0_3]) (t := 30) ?hr ?_; (case hd => rfl); (case hg => rfl); (case hr => exact zsx); intro gb528 hg w9 hbox hb; have BK528 := Aside0.mk (hbox); have GW528 := zns hg HB.out; have GE528 := zns hg HB.out; replace HB := Aside0.mk (below_step (zBx HB.out) hb); clear hb hbox hg) | ((with_reducible refine gate_dst (N := 3) rfl ?_); refine box_event ?hg (N := 3) ?hd (cs := #[.int .i64 a1_0, .int .i64 a1_1, .int .i64 a1_2, .int .i64 a1_3]) (t := 30) ?hr ?_; (case hd => rfl); (case hg => rfl); (case hr => exact zsx); intro gb529 hg w10 hbox hb; have BK529 := Aside0.mk (hbox); have GW529 := zns hg HB.out; have GE529 := zns hg HB.out; replace HB := Aside0.mk (below_step (zBy HB.out GE528.out) hb); have NB528_529 := znl hg BK528.out; have NB529_528 := zng hg BK528.out; replace BK528 := zbl BK528.out hb; clear hb hbox hg) | ((with_reducible refine gate_dst (N := 4) rfl ?_); refine box_event ?hg (N := 4) ?hd (cs := #[.int .i64 0, .int .i64 0, .int .i64 0, .int .i64 0]) (t := 30) ?hr ?_; (case hd => rfl); (case hg => rfl); (case hr => exact zsx); intro gb530 hg w11 hbox hb; have BK530 := Aside0.mk (hbox); have GW530 := zns hg HB.out; have GE530 := zns hg HB.out; replace HB := Aside0.mk (below_step (zBz HB.out GE528.out GE529.out) hb); have NB528_530 := znl hg BK528.out; have NB530_528 := zng hg BK528.out; replace BK528 := zbl BK528.out hb; have NB529_530 := znl hg BK529.out; have NB530_529 := zng hg BK529.out; replace BK529 := zbl BK529.out hb; clear hb hbox hg; have hnb12 := NB528_529.out; have hnc12 := NB529_528.out; have hnb13 := NB528_530.out; have hnc13 := NB530_528.out; have hcz14_0 : w11.cell? ⟨gb528, 0, none⟩ = some (.int .i64 a0_0) := (blk_cell BK528.out 0).trans rfl; have hcz14_1 : w11.cell? ⟨gb528, 1, none⟩ = some (.int .i64 a0_1) := (blk_cell BK528.out 1).trans rfl; have hcz14_2 : w11.cell? ⟨gb528, 2, none⟩ = some (.int .i64 a0_2) := (blk_cell BK528.out 2).trans rfl; have hcz14_3 : w11.cell? ⟨gb528, 3, none⟩ = some (.int .i64 a0_3) := (blk_cell BK528.out 3).trans rfl; have hfz14_0 := blk_frozen BK528.out 0; have hfz14_1 := blk_frozen BK528.out 1; have hfz14_2 := blk_frozen BK528.out 2; have hfz14_3 := blk_frozen BK528.out 3; have hnb15 := NB529_530.out; have hnc15 := NB530_529.out; have hcz16_0 : w11.cell? ⟨gb529, 0, none⟩ = some (.int .i64 a1_0) := (blk_cell BK529.out 0).trans rfl; have hcz16_1 : w11.cell? ⟨gb529, 1, none⟩ = some (.int .i64 a1_1) := (blk_cell BK529.out 1).trans rfl; have hcz16_2 : w11.cell? ⟨gb529, 2, none⟩ = some (.int .i64 a1_2) := (blk_cell BK529.out 2).trans rfl; have hcz16_3 : w11.cell? ⟨gb529, 3, none⟩ = some (.int .i64 a1_3) := (blk_cell BK529.out 3).trans rfl; have hfz16_0 := blk_frozen BK529.out 0; have hfz16_1 := blk_frozen BK529.out 1; have hfz16_2 := blk_frozen BK529.out 2; have hfz16_3 := blk_frozen BK529.out 3) | ((with_reducible refine gate_dst (N := 6) rfl ?_); refine box_event ?hg (N := 6) ?hd (cs := #[.int .i64 0, .int .i64 0, .int .i64 0, .int .i64 0]) (t := 30) ?hr ?_; (case hd => rfl); (case hg => rfl); (case hr => exact zsx); intro gb531 hg w17 hbox hb; have BK531 := Aside0.mk (hbox); have GW531 := zns hg HB.out; have GE531 := zns hg HB.out; replace HB := Aside0.mk (below_step (zhB HB.out) hb); have NB528_531 := znl hg BK528.out; have NB531_528 := zng hg BK528.out; replace BK528 := zbl BK528.out hb; have NB529_531 := znl hg BK529.out; have NB531_529 := zng hg BK529.out; replace BK529 := zbl BK529.out hb; have NB530_531 := znl hg BK530.out; have NB531_530 := zng hg BK530.out; replace BK530 := zbl BK530.out hb; clear hb hbox hg; have hnb18 := NB531_528.out; have hnc18 := NB528_531.out; have hnb19 := NB531_529.out; have hnc19 := NB529_531.out; have hnb20 := NB531_530.out; have hnc20 := NB530_531.out; have hcz21_0 : w17.cell? ⟨gb531, 0, none⟩ = some (.int .i64 0) := (blk_cell BK531.out 0).trans rfl; have hcz21_1 : w17.cell? ⟨gb531, 1, none⟩ = some (.int .i64 0) := (blk_cell BK531.out 1).trans rfl; have hcz21_2 : w17.cell? ⟨gb531, 2, none⟩ = some (.int .i64 0) := (blk_cell BK531.out 2).trans rfl; have hcz21_3 : w17.cell? ⟨gb531, 3, none⟩ = some (.int .i64 0) := (blk_cell BK531.out 3).trans rfl; have hfz21_0 := blk_frozen BK531.out 0; have hfz21_1 := blk_frozen BK531.out 1; have hfz21_2 := blk_frozen BK531.out 2; have hfz21_3 := blk_frozen BK531.out 3; have hcz22_0 : w17.cell? ⟨gb528, 0, none⟩ = some (.int .i64 a0_0) := (blk_cell BK528.out 0).trans rfl; have hcz22_1 : w17.cell? ⟨gb528, 1, none⟩ = some (.int .i64 a0_1) := (blk_cell BK528.out 1).trans rfl; have hcz22_2 : w17.cell? ⟨gb528, 2, none⟩ = some (.int .i64 a0_2) := (blk_cell BK528.out 2).trans rfl; have hcz22_3 : w17.cell? ⟨gb528, 3, none⟩ = some (.int .i64 a0_3) := (blk_cell BK528.out 3).trans rfl; have hfz22_0 := blk_frozen BK528.out 0; have hfz22_1 := blk_frozen BK528.out 1; have hfz22_2 := blk_frozen BK528.out 2; have hfz22_3 := blk_frozen BK528.out 3) | ((with_reducible refine gate_callee (f := 42) rfl ?_); refine goesL_ (some 29) rfl rfl Try.func42 (by kernel_rfl) rfl #[.agg #[.int .i64 a0_0, .int .i64 a0_1, .int .i64 a0_2, .int .i64 a0_3]] rfl zlx ?_; (with_reducible refine (spec_l20Good.calls a0_0 a0_1 a0_2 a0_3 true _ A3.out).mono ?_); rintro e w23 ⟨rfl, hb⟩; refine ⟨_, rfl, ?_⟩; replace BK528 := zbl BK528.out hb; replace BK529 := zbl BK529.out hb; replace BK530 := zbl BK530.out hb; replace BK531 := Aside0.mk (blk_below (g := gb531) (o := .cells #[.int .i64 (wrap64 (a0_0 + a1_0)), .int .i64 (wrap64 (a0_1 + a1_1)), .int .i64 (wrap64 (a0_2 + a1_2)), .int .i64 (wrap64 (a0_3 + a1_3))] 30 (0, 0)) (zbp BK531.out) hb); replace HB := Aside0.mk (below_step (zhB HB.out) hb); (try clear hb); (try clear hb2); (try clear hk); (try clear hi); have hcz24_0 : w23.cell? ⟨gb529, 0, none⟩ = some (.int .i64 a1_0) := (blk_cell BK529.out 0).trans rfl; have hcz24_1 : w23.cell? ⟨gb529, 1, none⟩ = some (.int .i64 a1_1) := (blk_cell BK529.out 1).trans rfl; have hcz24_2 : w23.cell? ⟨gb529, 2, none⟩ = some (.int .i64 a1_2) := (blk_cell BK529.out 2).trans rfl; have hcz24_3 : w23.cell? ⟨gb529, 3, none⟩ = some (.int .i64 a1_3) := (blk_cell BK529.out 3).trans rfl; have hfz24_0 := blk_frozen BK529.out 0; have hfz24_1 := blk_frozen BK529.out 1; have hfz24_2 := blk_frozen BK529.out 2; have hfz24_3 := blk_frozen BK529.out 3) | (go_at_call 42; (with_reducible refine (spec_l20Good.calls a1_0 a1_1 a1_2 a1_3 true _ A5.out).mono ?_); rintro e w25 ⟨rfl, hb⟩; replace BK528 := zbl BK528.out hb; replace BK529 := zbl BK529.out hb; replace BK530 := zbl BK530.out hb; replace BK531 := zbl BK531.out hb; replace HB := Aside0.mk (below_step (zhB HB.out) hb); (try clear hb); (try clear hb2); (try clear hk); (try clear hi); have hcz26_0 : w25.cell? ⟨gb531, 0, none⟩ = some (.int .i64 (wrap64 (a0_0 + a1_0))) := (blk_cell BK531.out 0).trans rfl; have hcz26_1 : w25.cell? ⟨gb531, 1, none⟩ = some (.int .i64 (wrap64 (a0_1 + a1_1))) := (blk_cell BK531.out 1).trans rfl; have hcz26_2 : w25.cell? ⟨gb531, 2, none⟩ = some (.int .i64 (wrap64 (a0_2 + a1_2))) := (blk_cell BK531.out 2).trans rfl; have hcz26_3 : w25.cell? ⟨gb531, 3, none⟩ = some (.int .i64 (wrap64 (a0_3 + a1_3))) := (blk_cell BK531.out 3).trans rfl; have hfz26_0 := blk_frozen BK531.out 0; have hfz26_1 := blk_frozen BK531.out 1; have hfz26_2 := blk_frozen BK531.out 2; have hfz26_3 := blk_frozen BK531.out 3) | (go_at_call 42; (with_reducible refine (spec_l20Good.calls (wrap64 (a0_0 + a1_0)) (wrap64 (a0_1 + a1_1)) (wrap64 (a0_2 + a1_2)) (wrap64 (a0_3 + a1_3)) true _ A7.out).mono ?_); rintro e w27 ⟨rfl, hb⟩; replace BK528 := zbl BK528.out hb; replace BK529 := zbl BK529.out hb; replace BK530 := zbl BK530.out hb; replace BK531 := zbl BK531.out hb; replace HB := Aside0.mk (below_step (zhB HB.out) hb); (try clear hb); (try clear hb2); (try clear hk); (try clear hi); have hcz28_0 : w27.cell? ⟨gb531, 0, none⟩ = some (.int .i64 (wrap64 (a0_0 + a1_0))) := (blk_cell BK531.out 0).trans rfl; have hcz28_1 : w27.cell? ⟨gb531, 1, none⟩ = some (.int .i64 (wrap64 (a0_1 + a1_1))) := (blk_cell BK531.out 1).trans rfl; have hcz28_2 : w27.cell? ⟨gb531, 2, none⟩ = some (.int .i64 (wrap64 (a0_2 + a1_2))) := (blk_cell BK531.out 2).trans rfl; have hcz28_3 : w27.cell? ⟨gb531, 3, none⟩ = some (.int .i64 (wrap64 (a0_3 + a1_3))) := (blk_cell BK531.out 3).trans rfl; have hfz28_0 := blk_frozen BK531.out 0; have hfz28_1 := blk_frozen BK531.out 1; have hfz28_2 := blk_frozen BK531.out 2; have hfz28_3 := blk_frozen BK531.out 3; have hcz29_0 : w27.cell? ⟨gb530, 0, none⟩ = some (.int .i64 0) := (blk_cell BK530.out 0).trans rfl; have hcz29_1 : w27.cell? ⟨gb530, 1, none⟩ = some (.int .i64 0) := (blk_cell BK530.out 1).trans rfl; have hcz29_2 : w27.cell? ⟨gb530, 2, none⟩ = some (.int .i64 0) := (blk_cell BK530.out 2).trans rfl; have hcz29_3 : w27.cell? ⟨gb530, 3, none⟩ = some (.int .i64 0) := (blk_cell BK530.out 3).trans rfl; have hfz29_0 := blk_frozen BK530.out 0; have hfz29_1 := blk_frozen BK530.out 1; have hfz29_2 := blk_frozen BK530.out 2; have hfz29_3 := blk_frozen BK530.out 3))
     refine bodyPost_ret (results_ct rfl _ _ gb530 30 #[.int .i64 (wrap64 (a0_0 + a1_0)), .int .i64 (wrap64 (a0_1 + a1_1)), .int .i64 (wrap64 (a0_2 + a1_2)), .int .i64 (wrap64 (a0_3 + a1_3))] (0, 0) _ rfl (zbp BK530.out) Try.underlying30 rfl (by kernel_rfl)) rfl ?_
     exact ⟨by first | rfl | (simp [errW_none, errW_some] <;> rfl) | (simp [*, errW_none, errW_some] <;> rfl), zhB HB.out⟩
   ·replace c8 := Bool.eq_false_iff.mpr c8
    subst c8
    rw [if_neg (show ¬ (false = true) by decide)] at H
    focus
     simp only [Option.some.injEq, Prod.mk.injEq] at H
     obtain ⟨rfl, rfl, rfl, rfl, rfl⟩ := H
     go_enter Try.func30, Try.ntmps30
     go_wp2_with (first | ((with_reducible refine gate_dst (N := 2) rfl ?_); refine box_event ?hg (N := 2) ?hd (cs := #[.int .i64 a0_0, .int .i64 a0_1, .int .i64 a0_2, .int .i64 a0_3]) (t := 30) ?hr ?_; (case hd => rfl); (case hg => rfl); (case hr => exact zsx); intro gb528 hg w30 hbox hb; have BK528 := Aside0.mk (hbox); have GW528 := zns hg HB.out; have GE528 := zns hg HB.out; replace HB := Aside0.mk (below_step (zBx HB.out) hb); clear hb hbox hg) | ((with_reducible refine gate_dst (N := 3) rfl ?_); refine box_event ?hg (N := 3) ?hd (cs := #[.int .i64 a1_0, .int .i64 a1_1, .int .i64 a1_2, .int .i64 a1_3]) (t := 30) ?hr ?_; (case hd => rfl); (case hg => rfl); (case hr => exact zsx); intro gb529 hg w31 hbox hb; have BK529 := Aside0.mk (hbox); have GW529 := zns hg HB.out; have GE529 := zns hg HB.out; replace HB := Aside0.mk (below_step (zBy HB.out GE528.out) hb); have NB528_529 := znl hg BK528.out; have NB529_528 := zng hg BK528.out; replace BK528 := zbl BK528.out hb; clear hb hbox hg) | ((with_reducible refine gate_dst (N := 4) rfl ?_); refine box_event ?hg (N := 4) ?hd (cs := #[.int .i64 0, .int .i64 0, .int .i64 0, .int .i64 0]) (t := 30) ?hr ?_; (case hd => rfl); (case hg => rfl); (case hr => exact zsx); intro gb530 hg w32 hbox hb; have BK530 := Aside0.mk (hbox); have GW530 := zns hg HB.out; have GE530 := zns hg HB.out; replace HB := Aside0.mk (below_step (zBz HB.out GE528.out GE529.out) hb); have NB528_530 := znl hg BK528.out; have NB530_528 := zng hg BK528.out; replace BK528 := zbl BK528.out hb; have NB529_530 := znl hg BK529.out; have NB530_529 := zng hg BK529.out; replace BK529 := zbl BK529.out hb; clear hb hbox hg; have hnb33 := NB528_529.out; have hnc33 := NB529_528.out; have hnb34 := NB528_530.out; have hnc34 := NB530_528.out; have hcz35_0 : w32.cell? ⟨gb528, 0, none⟩ = some (.int .i64 a0_0) := (blk_cell BK528.out 0).trans rfl; have hcz35_1 : w32.cell? ⟨gb528, 1, none⟩ = some (.int .i64 a0_1) := (blk_cell BK528.out 1).trans rfl; have hcz35_2 : w32.cell? ⟨gb528, 2, none⟩ = some (.int .i64 a0_2) := (blk_cell BK528.out 2).trans rfl; have hcz35_3 : w32.cell? ⟨gb528, 3, none⟩ = some (.int .i64 a0_3) := (blk_cell BK528.out 3).trans rfl; have hfz35_0 := blk_frozen BK528.out 0; have hfz35_1 := blk_frozen BK528.out 1; have hfz35_2 := blk_frozen BK528.out 2; have hfz35_3 := blk_frozen BK528.out 3; have hnb36 := NB529_530.out; have hnc36 := NB530_529.out; have hcz37_0 : w32.cell? ⟨gb529, 0, none⟩ = some (.int .i64 a1_0) := (blk_cell BK529.out 0).trans rfl; have hcz37_1 : w32.cell? ⟨gb529, 1, none⟩ = some (.int .i64 a1_1) := (blk_cell BK529.out 1).trans rfl; have hcz37_2 : w32.cell? ⟨gb529, 2, none⟩ = some (.int .i64 a1_2) := (blk_cell BK529.out 2).trans rfl; have hcz37_3 : w32.cell? ⟨gb529, 3, none⟩ = some (.int .i64 a1_3) := (blk_cell BK529.out 3).trans rfl; have hfz37_0 := blk_frozen BK529.out 0; have hfz37_1 := blk_frozen BK529.out 1; have hfz37_2 := blk_frozen BK529.out 2; have hfz37_3 := blk_frozen BK529.out 3) | ((with_reducible refine gate_dst (N := 6) rfl ?_); refine box_event ?hg (N := 6) ?hd (cs := #[.int .i64 0, .int .i64 0, .int .i64 0, .int .i64 0]) (t := 30) ?hr ?_; (case hd => rfl); (case hg => rfl); (case hr => exact zsx); intro gb531 hg w38 hbox hb; have BK531 := Aside0.mk (hbox); have GW531 := zns hg HB.out; have GE531 := zns hg HB.out; replace HB := Aside0.mk (below_step (zhB HB.out) hb); have NB528_531 := znl hg BK528.out; have NB531_528 := zng hg BK528.out; replace BK528 := zbl BK528.out hb; have NB529_531 := znl hg BK529.out; have NB531_529 := zng hg BK529.out; replace BK529 := zbl BK529.out hb; have NB530_531 := znl hg BK530.out; have NB531_530 := zng hg BK530.out; replace BK530 := zbl BK530.out hb; clear hb hbox hg; have hnb39 := NB531_528.out; have hnc39 := NB528_531.out; have hnb40 := NB531_529.out; have hnc40 := NB529_531.out; have hnb41 := NB531_530.out; have hnc41 := NB530_531.out; have hcz42_0 : w38.cell? ⟨gb531, 0, none⟩ = some (.int .i64 0) := (blk_cell BK531.out 0).trans rfl; have hcz42_1 : w38.cell? ⟨gb531, 1, none⟩ = some (.int .i64 0) := (blk_cell BK531.out 1).trans rfl; have hcz42_2 : w38.cell? ⟨gb531, 2, none⟩ = some (.int .i64 0) := (blk_cell BK531.out 2).trans rfl; have hcz42_3 : w38.cell? ⟨gb531, 3, none⟩ = some (.int .i64 0) := (blk_cell BK531.out 3).trans rfl; have hfz42_0 := blk_frozen BK531.out 0; have hfz42_1 := blk_frozen BK531.out 1; have hfz42_2 := blk_frozen BK531.out 2; have hfz42_3 := blk_frozen BK531.out 3; have hcz43_0 : w38.cell? ⟨gb528, 0, none⟩ = some (.int .i64 a0_0) := (blk_cell BK528.out 0).trans rfl; have hcz43_1 : w38.cell? ⟨gb528, 1, none⟩ = some (.int .i64 a0_1) := (blk_cell BK528.out 1).trans rfl; have hcz43_2 : w38.cell? ⟨gb528, 2, none⟩ = some (.int .i64 a0_2) := (blk_cell BK528.out 2).trans rfl; have hcz43_3 : w38.cell? ⟨gb528, 3, none⟩ = some (.int .i64 a0_3) := (blk_cell BK528.out 3).trans rfl; have hfz43_0 := blk_frozen BK528.out 0; have hfz43_1 := blk_frozen BK528.out 1; have hfz43_2 := blk_frozen BK528.out 2; have hfz43_3 := blk_frozen BK528.out 3) | ((with_reducible refine gate_callee (f := 42) rfl ?_); refine goesL_ (some 29) rfl rfl Try.func42 (by kernel_rfl) rfl #[.agg #[.int .i64 a0_0, .int .i64 a0_1, .int .i64 a0_2, .int .i64 a0_3]] rfl zlx ?_; (with_reducible refine (spec_l20Good.calls a0_0 a0_1 a0_2 a0_3 true _ A3.out).mono ?_); rintro e w44 ⟨rfl, hb⟩; refine ⟨_, rfl, ?_⟩; replace BK528 := zbl BK528.out hb; replace BK529 := zbl BK529.out hb; replace BK530 := zbl BK530.out hb; replace BK531 := Aside0.mk (blk_below (g := gb531) (o := .cells #[.int .i64 (wrap64 (a0_0 + a1_0)), .int .i64 (wrap64 (a0_1 + a1_1)), .int .i64 (wrap64 (a0_2 + a1_2)), .int .i64 (wrap64 (a0_3 + a1_3))] 30 (0, 0)) (zbp BK531.out) hb); replace HB := Aside0.mk (below_step (zhB HB.out) hb); (try clear hb); (try clear hb2); (try clear hk); (try clear hi); have hcz45_0 : w44.cell? ⟨gb529, 0, none⟩ = some (.int .i64 a1_0) := (blk_cell BK529.out 0).trans rfl; have hcz45_1 : w44.cell? ⟨gb529, 1, none⟩ = some (.int .i64 a1_1) := (blk_cell BK529.out 1).trans rfl; have hcz45_2 : w44.cell? ⟨gb529, 2, none⟩ = some (.int .i64 a1_2) := (blk_cell BK529.out 2).trans rfl; have hcz45_3 : w44.cell? ⟨gb529, 3, none⟩ = some (.int .i64 a1_3) := (blk_cell BK529.out 3).trans rfl; have hfz45_0 := blk_frozen BK529.out 0; have hfz45_1 := blk_frozen BK529.out 1; have hfz45_2 := blk_frozen BK529.out 2; have hfz45_3 := blk_frozen BK529.out 3) | (go_at_call 42; (with_reducible refine (spec_l20Good.calls a1_0 a1_1 a1_2 a1_3 true _ A5.out).mono ?_); rintro e w46 ⟨rfl, hb⟩; replace BK528 := zbl BK528.out hb; replace BK529 := zbl BK529.out hb; replace BK530 := zbl BK530.out hb; replace BK531 := zbl BK531.out hb; replace HB := Aside0.mk (below_step (zhB HB.out) hb); (try clear hb); (try clear hb2); (try clear hk); (try clear hi); have hcz47_0 : w46.cell? ⟨gb531, 0, none⟩ = some (.int .i64 (wrap64 (a0_0 + a1_0))) := (blk_cell BK531.out 0).trans rfl; have hcz47_1 : w46.cell? ⟨gb531, 1, none⟩ = some (.int .i64 (wrap64 (a0_1 + a1_1))) := (blk_cell BK531.out 1).trans rfl; have hcz47_2 : w46.cell? ⟨gb531, 2, none⟩ = some (.int .i64 (wrap64 (a0_2 + a1_2))) := (blk_cell BK531.out 2).trans rfl; have hcz47_3 : w46.cell? ⟨gb531, 3, none⟩ = some (.int .i64 (wrap64 (a0_3 + a1_3))) := (blk_cell BK531.out 3).trans rfl; have hfz47_0 := blk_frozen BK531.out 0; have hfz47_1 := blk_frozen BK531.out 1; have hfz47_2 := blk_frozen BK531.out 2; have hfz47_3 := blk_frozen BK531.out 3) | (go_at_call 42; (with_reducible refine (spec_l20Good.calls (wrap64 (a0_0 + a1_0)) (wrap64 (a0_1 + a1_1)) (wrap64 (a0_2 + a1_2)) (wrap64 (a0_3 + a1_3)) false _ A7.out).mono ?_); rintro e w48 ⟨rfl, hb⟩; replace BK528 := zbl BK528.out hb; replace BK529 := zbl BK529.out hb; replace BK530 := zbl BK530.out hb; replace BK531 := zbl BK531.out hb; replace HB := Aside0.mk (below_step (zhB HB.out) hb); (try clear hb); (try clear hb2); (try clear hk); (try clear hi); have hcz49_0 : w48.cell? ⟨gb530, 0, none⟩ = some (.int .i64 0) := (blk_cell BK530.out 0).trans rfl; have hcz49_1 : w48.cell? ⟨gb530, 1, none⟩ = some (.int .i64 0) := (blk_cell BK530.out 1).trans rfl; have hcz49_2 : w48.cell? ⟨gb530, 2, none⟩ = some (.int .i64 0) := (blk_cell BK530.out 2).trans rfl; have hcz49_3 : w48.cell? ⟨gb530, 3, none⟩ = some (.int .i64 0) := (blk_cell BK530.out 3).trans rfl; have hfz49_0 := blk_frozen BK530.out 0; have hfz49_1 := blk_frozen BK530.out 1; have hfz49_2 := blk_frozen BK530.out 2; have hfz49_3 := blk_frozen BK530.out 3))
     refine bodyPost_ret (results_ct rfl _ _ gb530 30 #[.int .i64 0, .int .i64 0, .int .i64 0, .int .i64 0] (0, 0) _ rfl (zbp BK530.out) Try.underlying30 rfl (by kernel_rfl)) rfl ?_
     exact ⟨by first | rfl | (simp [errW_none, errW_some] <;> rfl) | (simp [*, errW_none, errW_some] <;> rfl), zhB HB.out⟩
  ·replace c6 := Bool.eq_false_iff.mpr c6
   subst c6
   rw [if_neg (show ¬ (false = true) by decide)] at H
   focus
    simp only [Option.some.injEq, Prod.mk.injEq] at H
    obtain ⟨rfl, rfl, rfl, rfl, rfl⟩ := H
    go_enter Try.func30, Try.ntmps30
    go_wp2_with (first | ((with_reducible refine gate_dst (N := 2) rfl ?_); refine box_event ?hg (N := 2) ?hd (cs := #[.int .i64 a0_0, .int .i64 a0_1, .int .i64 a0_2, .int .i64 a0_3]) (t := 30) ?hr ?_; (case hd => rfl); (case hg => rfl); (case hr => exact zsx); intro gb528 hg w50 hbox hb; have BK528 := Aside0.mk (hbox); have GW528 := zns hg HB.out; have GE528 := zns hg HB.out; replace HB := Aside0.mk (below_step (zBx HB.out) hb); clear hb hbox hg) | ((with_reducible refine gate_dst (N := 3) rfl ?_); refine box_event ?hg (N := 3) ?hd (cs := #[.int .i64 a1_0, .int .i64 a1_1, .int .i64 a1_2, .int .i64 a1_3]) (t := 30) ?hr ?_; (case hd => rfl); (case hg => rfl); (case hr => exact zsx); intro gb529 hg w51 hbox hb; have BK529 := Aside0.mk (hbox); have GW529 := zns hg HB.out; have GE529 := zns hg HB.out; replace HB := Aside0.mk (below_step (zBy HB.out GE528.out) hb); have NB528_529 := znl hg BK528.out; have NB529_528 := zng hg BK528.out; replace BK528 := zbl BK528.out hb; clear hb hbox hg) | ((with_reducible refine gate_dst (N := 4) rfl ?_); refine box_event ?hg (N := 4) ?hd (cs := #[.int .i64 0, .int .i64 0, .int .i64 0, .int .i64 0]) (t := 30) ?hr ?_; (case hd => rfl); (case hg => rfl); (case hr => exact zsx); intro gb530 hg w52 hbox hb; have BK530 := Aside0.mk (hbox); have GW530 := zns hg HB.out; have GE530 := zns hg HB.out; replace HB := Aside0.mk (below_step (zBz HB.out GE528.out GE529.out) hb); have NB528_530 := znl hg BK528.out; have NB530_528 := zng hg BK528.out; replace BK528 := zbl BK528.out hb; have NB529_530 := znl hg BK529.out; have NB530_529 := zng hg BK529.out; replace BK529 := zbl BK529.out hb; clear hb hbox hg; have hnb53 := NB528_529.out; have hnc53 := NB529_528.out; have hnb54 := NB528_530.out; have hnc54 := NB530_528.out; have hcz55_0 : w52.cell? ⟨gb528, 0, none⟩ = some (.int .i64 a0_0) := (blk_cell BK528.out 0).trans rfl; have hcz55_1 : w52.cell? ⟨gb528, 1, none⟩ = some (.int .i64 a0_1) := (blk_cell BK528.out 1).trans rfl; have hcz55_2 : w52.cell? ⟨gb528, 2, none⟩ = some (.int .i64 a0_2) := (blk_cell BK528.out 2).trans rfl; have hcz55_3 : w52.cell? ⟨gb528, 3, none⟩ = some (.int .i64 a0_3) := (blk_cell BK528.out 3).trans rfl; have hfz55_0 := blk_frozen BK528.out 0; have hfz55_1 := blk_frozen BK528.out 1; have hfz55_2 := blk_frozen BK528.out 2; have hfz55_3 := blk_frozen BK528.out 3; have hnb56 := NB529_530.out; have hnc56 := NB530_529.out; have hcz57_0 : w52.cell? ⟨gb529, 0, none⟩ = some (.int .i64 a1_0) := (blk_cell BK529.out 0).trans rfl; have hcz57_1 : w52.cell? ⟨gb529, 1, none⟩ = some (.int .i64 a1_1) := (blk_cell BK529.out 1).trans rfl; have hcz57_2 : w52.cell? ⟨gb529, 2, none⟩ = some (.int .i64 a1_2) := (blk_cell BK529.out 2).trans rfl; have hcz57_3 : w52.cell? ⟨gb529, 3, none⟩ = some (.int .i64 a1_3) := (blk_cell BK529.out 3).trans rfl; have hfz57_0 := blk_frozen BK529.out 0; have hfz57_1 := blk_frozen BK529.out 1; have hfz57_2 := blk_frozen BK529.out 2; have hfz57_3 := blk_frozen BK529.out 3) | ((with_reducible refine gate_dst (N := 6) rfl ?_); refine box_event ?hg (N := 6) ?hd (cs := #[.int .i64 0, .int .i64 0, .int .i64 0, .int .i64 0]) (t := 30) ?hr ?_; (case hd => rfl); (case hg => rfl); (case hr => exact zsx); intro gb531 hg w58 hbox hb; have BK531 := Aside0.mk (hbox); have GW531 := zns hg HB.out; have GE531 := zns hg HB.out; replace HB := Aside0.mk (below_step (zhB HB.out) hb); have NB528_531 := znl hg BK528.out; have NB531_528 := zng hg BK528.out; replace BK528 := zbl BK528.out hb; have NB529_531 := znl hg BK529.out; have NB531_529 := zng hg BK529.out; replace BK529 := zbl BK529.out hb; have NB530_531 := znl hg BK530.out; have NB531_530 := zng hg BK530.out; replace BK530 := zbl BK530.out hb; clear hb hbox hg; have hnb59 := NB531_528.out; have hnc59 := NB528_531.out; have hnb60 := NB531_529.out; have hnc60 := NB529_531.out; have hnb61 := NB531_530.out; have hnc61 := NB530_531.out; have hcz62_0 : w58.cell? ⟨gb531, 0, none⟩ = some (.int .i64 0) := (blk_cell BK531.out 0).trans rfl; have hcz62_1 : w58.cell? ⟨gb531, 1, none⟩ = some (.int .i64 0) := (blk_cell BK531.out 1).trans rfl; have hcz62_2 : w58.cell? ⟨gb531, 2, none⟩ = some (.int .i64 0) := (blk_cell BK531.out 2).trans rfl; have hcz62_3 : w58.cell? ⟨gb531, 3, none⟩ = some (.int .i64 0) := (blk_cell BK531.out 3).trans rfl; have hfz62_0 := blk_frozen BK531.out 0; have hfz62_1 := blk_frozen BK531.out 1; have hfz62_2 := blk_frozen BK531.out 2; have hfz62_3 := blk_frozen BK531.out 3; have hcz63_0 : w58.cell? ⟨gb528, 0, none⟩ = some (.int .i64 a0_0) := (blk_cell BK528.out 0).trans rfl; have hcz63_1 : w58.cell? ⟨gb528, 1, none⟩ = some (.int .i64 a0_1) := (blk_cell BK528.out 1).trans rfl; have hcz63_2 : w58.cell? ⟨gb528, 2, none⟩ = some (.int .i64 a0_2) := (blk_cell BK528.out 2).trans rfl; have hcz63_3 : w58.cell? ⟨gb528, 3, none⟩ = some (.int .i64 a0_3) := (blk_cell BK528.out 3).trans rfl; have hfz63_0 := blk_frozen BK528.out 0; have hfz63_1 := blk_frozen BK528.out 1; have hfz63_2 := blk_frozen BK528.out 2; have hfz63_3 := blk_frozen BK528.out 3) | ((with_reducible refine gate_callee (f := 42) rfl ?_); refine goesL_ (some 29) rfl rfl Try.func42 (by kernel_rfl) rfl #[.agg #[.int .i64 a0_0, .int .i64 a0_1, .int .i64 a0_2, .int .i64 a0_3]] rfl zlx ?_; (with_reducible refine (spec_l20Good.calls a0_0 a0_1 a0_2 a0_3 true _ A3.out).mono ?_); rintro e w64 ⟨rfl, hb⟩; refine ⟨_, rfl, ?_⟩; replace BK528 := zbl BK528.out hb; replace BK529 := zbl BK529.out hb; replace BK530 := zbl BK530.out hb; replace BK531 := Aside0.mk (blk_below (g := gb531) (o := .cells #[.int .i64 (wrap64 (a0_0 + a1_0)), .int .i64 (wrap64 (a0_1 + a1_1)), .int .i64 (wrap64 (a0_2 + a1_2)), .int .i64 (wrap64 (a0_3 + a1_3))] 30 (0, 0)) (zbp BK531.out) hb); replace HB := Aside0.mk (below_step (zhB HB.out) hb); (try clear hb); (try clear hb2); (try clear hk); (try clear hi); have hcz65_0 : w64.cell? ⟨gb529, 0, none⟩ = some (.int .i64 a1_0) := (blk_cell BK529.out 0).trans rfl; have hcz65_1 : w64.cell? ⟨gb529, 1, none⟩ = some (.int .i64 a1_1) := (blk_cell BK529.out 1).trans rfl; have hcz65_2 : w64.cell? ⟨gb529, 2, none⟩ = some (.int .i64 a1_2) := (blk_cell BK529.out 2).trans rfl; have hcz65_3 : w64.cell? ⟨gb529, 3, none⟩ = some (.int .i64 a1_3) := (blk_cell BK529.out 3).trans rfl; have hfz65_0 := blk_frozen BK529.out 0; have hfz65_1 := blk_frozen BK529.out 1; have hfz65_2 := blk_frozen BK529.out 2; have hfz65_3 := blk_frozen BK529.out 3) | (go_at_call 42; (with_reducible refine (spec_l20Good.calls a1_0 a1_1 a1_2 a1_3 false _ A5.out).mono ?_); rintro e w66 ⟨rfl, hb⟩; replace BK528 := zbl BK528.out hb; replace BK529 := zbl BK529.out hb; replace BK530 := zbl BK530.out hb; replace BK531 := zbl BK531.out hb; replace HB := Aside0.mk (below_step (zhB HB.out) hb); (try clear hb); (try clear hb2); (try clear hk); (try clear hi); have hcz67_0 : w66.cell? ⟨gb530, 0, none⟩ = some (.int .i64 0) := (blk_cell BK530.out 0).trans rfl; have hcz67_1 : w66.cell? ⟨gb530, 1, none⟩ = some (.int .i64 0) := (blk_cell BK530.out 1).trans rfl; have hcz67_2 : w66.cell? ⟨gb530, 2, none⟩ = some (.int .i64 0) := (blk_cell BK530.out 2).trans rfl; have hcz67_3 : w66.cell? ⟨gb530, 3, none⟩ = some (.int .i64 0) := (blk_cell BK530.out 3).trans rfl; have hfz67_0 := blk_frozen BK530.out 0; have hfz67_1 := blk_frozen BK530.out 1; have hfz67_2 := blk_frozen BK530.out 2; have hfz67_3 := blk_frozen BK530.out 3))
    refine bodyPost_ret (results_ct rfl _ _ gb530 30 #[.int .i64 0, .int .i64 0, .int .i64 0, .int .i64 0] (0, 0) _ rfl (zbp BK530.out) Try.underlying30 rfl (by kernel_rfl)) rfl ?_
    exact ⟨by first | rfl | (simp [errW_none, errW_some] <;> rfl) | (simp [*, errW_none, errW_some] <;> rfl), zhB HB.out⟩
 ·replace c4 := Bool.eq_false_iff.mpr c4
  subst c4
  rw [if_neg (show ¬ (false = true) by decide)] at H
  focus
   simp only [Option.some.injEq, Prod.mk.injEq] at H
   obtain ⟨rfl, rfl, rfl, rfl, rfl⟩ := H
   go_enter Try.func30, Try.ntmps30
   go_wp2_with (first | ((with_reducible refine gate_dst (N := 2) rfl ?_); refine box_event ?hg (N := 2) ?hd (cs := #[.int .i64 a0_0, .int .i64 a0_1, .int .i64 a0_2, .int .i64 a0_3]) (t := 30) ?hr ?_; (case hd => rfl); (case hg => rfl); (case hr => exact zsx); intro gb528 hg w68 hbox hb; have BK528 := Aside0.mk (hbox); have GW528 := zns hg HB.out; have GE528 := zns hg HB.out; replace HB := Aside0.mk (below_step (zBx HB.out) hb); clear hb hbox hg) | ((with_reducible refine gate_dst (N := 3) rfl ?_); refine box_event ?hg (N := 3) ?hd (cs := #[.int .i64 a1_0, .int .i64 a1_1, .int .i64 a1_2, .int .i64 a1_3]) (t := 30) ?hr ?_; (case hd => rfl); (case hg => rfl); (case hr => exact zsx); intro gb529 hg w69 hbox hb; have BK529 := Aside0.mk (hbox); have GW529 := zns hg HB.out; have GE529 := zns hg HB.out; replace HB := Aside0.mk (below_step (zBy HB.out GE528.out) hb); have NB528_529 := znl hg BK528.out; have NB529_528 := zng hg BK528.out; replace BK528 := zbl BK528.out hb; clear hb hbox hg) | ((with_reducible refine gate_dst (N := 4) rfl ?_); refine box_event ?hg (N := 4) ?hd (cs := #[.int .i64 0, .int .i64 0, .int .i64 0, .int .i64 0]) (t := 30) ?hr ?_; (case hd => rfl); (case hg => rfl); (case hr => exact zsx); intro gb530 hg w70 hbox hb; have BK530 := Aside0.mk (hbox); have GW530 := zns hg HB.out; have GE530 := zns hg HB.out; replace HB := Aside0.mk (below_step (zBz HB.out GE528.out GE529.out) hb); have NB528_530 := znl hg BK528.out; have NB530_528 := zng hg BK528.out; replace BK528 := zbl BK528.out hb; have NB529_530 := znl hg BK529.out; have NB530_529 := zng hg BK529.out; replace BK529 := zbl BK529.out hb; clear hb hbox hg; have hnb71 := NB528_529.out; have hnc71 := NB529_528.out; have hnb72 := NB528_530.out; have hnc72 := NB530_528.out; have hcz73_0 : w70.cell? ⟨gb528, 0, none⟩ = some (.int .i64 a0_0) := (blk_cell BK528.out 0).trans rfl; have hcz73_1 : w70.cell? ⟨gb528, 1, none⟩ = some (.int .i64 a0_1) := (blk_cell BK528.out 1).trans rfl; have hcz73_2 : w70.cell? ⟨gb528, 2, none⟩ = some (.int .i64 a0_2) := (blk_cell BK528.out 2).trans rfl; have hcz73_3 : w70.cell? ⟨gb528, 3, none⟩ = some (.int .i64 a0_3) := (blk_cell BK528.out 3).trans rfl; have hfz73_0 := blk_frozen BK528.out 0; have hfz73_1 := blk_frozen BK528.out 1; have hfz73_2 := blk_frozen BK528.out 2; have hfz73_3 := blk_frozen BK528.out 3; have hnb74 := NB529_530.out; have hnc74 := NB530_529.out; have hcz75_0 : w70.cell? ⟨gb529, 0, none⟩ = some (.int .i64 a1_0) := (blk_cell BK529.out 0).trans rfl; have hcz75_1 : w70.cell? ⟨gb529, 1, none⟩ = some (.int .i64 a1_1) := (blk_cell BK529.out 1).trans rfl; have hcz75_2 : w70.cell? ⟨gb529, 2, none⟩ = some (.int .i64 a1_2) := (blk_cell BK529.out 2).trans rfl; have hcz75_3 : w70.cell? ⟨gb529, 3, none⟩ = some (.int .i64 a1_3) := (blk_cell BK529.out 3).trans rfl; have hfz75_0 := blk_frozen BK529.out 0; have hfz75_1 := blk_frozen BK529.out 1; have hfz75_2 := blk_frozen BK529.out 2; have hfz75_3 := blk_frozen BK529.out 3) | ((with_reducible refine gate_dst (N := 6) rfl ?_); refine box_event ?hg (N := 6) ?hd (cs := #[.int .i64 0, .int .i64 0, .int .i64 0, .int .i64 0]) (t := 30) ?hr ?_; (case hd => rfl); (case hg => rfl); (case hr => exact zsx); intro gb531 hg w76 hbox hb; have BK531 := Aside0.mk (hbox); have GW531 := zns hg HB.out; have GE531 := zns hg HB.out; replace HB := Aside0.mk (below_step (zhB HB.out) hb); have NB528_531 := znl hg BK528.out; have NB531_528 := zng hg BK528.out; replace BK528 := zbl BK528.out hb; have NB529_531 := znl hg BK529.out; have NB531_529 := zng hg BK529.out; replace BK529 := zbl BK529.out hb; have NB530_531 := znl hg BK530.out; have NB531_530 := zng hg BK530.out; replace BK530 := zbl BK530.out hb; clear hb hbox hg; have hnb77 := NB531_528.out; have hnc77 := NB528_531.out; have hnb78 := NB531_529.out; have hnc78 := NB529_531.out; have hnb79 := NB531_530.out; have hnc79 := NB530_531.out; have hcz80_0 : w76.cell? ⟨gb531, 0, none⟩ = some (.int .i64 0) := (blk_cell BK531.out 0).trans rfl; have hcz80_1 : w76.cell? ⟨gb531, 1, none⟩ = some (.int .i64 0) := (blk_cell BK531.out 1).trans rfl; have hcz80_2 : w76.cell? ⟨gb531, 2, none⟩ = some (.int .i64 0) := (blk_cell BK531.out 2).trans rfl; have hcz80_3 : w76.cell? ⟨gb531, 3, none⟩ = some (.int .i64 0) := (blk_cell BK531.out 3).trans rfl; have hfz80_0 := blk_frozen BK531.out 0; have hfz80_1 := blk_frozen BK531.out 1; have hfz80_2 := blk_frozen BK531.out 2; have hfz80_3 := blk_frozen BK531.out 3; have hcz81_0 : w76.cell? ⟨gb528, 0, none⟩ = some (.int .i64 a0_0) := (blk_cell BK528.out 0).trans rfl; have hcz81_1 : w76.cell? ⟨gb528, 1, none⟩ = some (.int .i64 a0_1) := (blk_cell BK528.out 1).trans rfl; have hcz81_2 : w76.cell? ⟨gb528, 2, none⟩ = some (.int .i64 a0_2) := (blk_cell BK528.out 2).trans rfl; have hcz81_3 : w76.cell? ⟨gb528, 3, none⟩ = some (.int .i64 a0_3) := (blk_cell BK528.out 3).trans rfl; have hfz81_0 := blk_frozen BK528.out 0; have hfz81_1 := blk_frozen BK528.out 1; have hfz81_2 := blk_frozen BK528.out 2; have hfz81_3 := blk_frozen BK528.out 3) | ((with_reducible refine gate_callee (f := 42) rfl ?_); refine goesL_ (some 29) rfl rfl Try.func42 (by kernel_rfl) rfl #[.agg #[.int .i64 a0_0, .int .i64 a0_1, .int .i64 a0_2, .int .i64 a0_3]] rfl zlx ?_; (with_reducible refine (spec_l20Good.calls a0_0 a0_1 a0_2 a0_3 false _ A3.out).mono ?_); rintro e w82 ⟨rfl, hb⟩; refine ⟨_, rfl, ?_⟩; replace BK528 := zbl BK528.out hb; replace BK529 := zbl BK529.out hb; replace BK530 := zbl BK530.out hb; replace BK531 := Aside0.mk (blk_below (g := gb531) (o := .cells #[.int .i64 (wrap64 (a0_0 + a1_0)), .int .i64 (wrap64 (a0_1 + a1_1)), .int .i64 (wrap64 (a0_2 + a1_2)), .int .i64 (wrap64 (a0_3 + a1_3))] 30 (0, 0)) (zbp BK531.out) hb); replace HB := Aside0.mk (below_step (zhB HB.out) hb); (try clear hb); have hcz83_0 : w82.cell? ⟨gb530, 0, none⟩ = some (.int .i64 0) := (blk_cell BK530.out 0).trans rfl; have hcz83_1 : w82.cell? ⟨gb530, 1, none⟩ = some (.int .i64 0) := (blk_cell BK530.out 1).trans rfl; have hcz83_2 : w82.cell? ⟨gb530, 2, none⟩ = some (.int .i64 0) := (blk_cell BK530.out 2).trans rfl; have hcz83_3 : w82.cell? ⟨gb530, 3, none⟩ = some (.int .i64 0) := (blk_cell BK530.out 3).trans rfl; have hfz83_0 := blk_frozen BK530.out 0; have hfz83_1 := blk_frozen BK530.out 1; have hfz83_2 := blk_frozen BK530.out 2; have hfz83_3 := blk_frozen BK530.out 3))
   refine bodyPost_ret (results_ct rfl _ _ gb530 30 #[.int .i64 0, .int .i64 0, .int .i64 0, .int .i64 0] (0, 0) _ rfl (zbp BK530.out) Try.underlying30 rfl (by kernel_rfl)) rfl ?_
   exact ⟨by first | rfl | (simp [errW_none, errW_some] <;> rfl) | (simp [*, errW_none, errW_some] <;> rfl), zhB HB.out⟩

end Go.Proofs.Ytddgbaohepfekaa.XFnLimits
