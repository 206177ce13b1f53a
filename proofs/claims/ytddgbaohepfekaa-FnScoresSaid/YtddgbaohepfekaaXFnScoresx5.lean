-- written by wip/tools/xprint.py (a program of this project) out of the translation
import Derived.Test.YtddgbaohepfekaaXFnScoresx0
import Derived.Test.YtddgbaohepfekaaXFnScoresx3
import Derived.Test.YtddgbaohepfekaaXFnScoresx4
namespace Go.Proofs.Ytddgbaohepfekaa.XFnScores
open Go.RowKit Go.Proofs.YtddgbaohepfekaaW.PrintWords Go.Proofs.YtddgbaohepfekaaW.PrintLast Go.Proofs.YtddgbaohepfekaaW.PrintMore
attribute [local go_sem] max2_int min2_int max_two min_two max_three min_three max_four min_four   -- for this text's walks alone
set_option linter.unusedVariables false
set_option linter.unusedSimpArgs false

/-! ### spec_l1Cur_anyField: function 31 -/
def spec_l1Cur_anyField.f (k : Nat) (s0_0 : List Int) (s0_1 : Int) (s0_2 : Int) : Option (Int × Int × List Int × Int × Int) := (spec_l1Cur_field.f k s0_0 s0_1 s0_2).bind fun bt168 => ((spec_l1Cur_pick.f s0_0 bt168.2.2.2.1 bt168.2.2.2.2 24).bind fun bt176 => (if bt176.1 = 0 then ((spec_l1Cur_among.f s0_0 bt176.2.1 bt176.2.2 (([0, 9, 8, bt168.2.1] : List Int))).bind fun bt182 => (some (bt182.1, bt168.2.1, bt168.2.2.1, bt182.2.1, bt182.2.2))) else (if bt176.1 = 1 then ((spec_l1Cur_pick.f s0_0 bt176.2.1 bt176.2.2 (bt168.2.2.1.length : Int)).bind fun bt185 => ((spec_l1Cur_among.f s0_0 bt185.2.1 bt185.2.2 (([9001, (-9001), (-9998), (-9999)] : List Int))).bind fun bt191 => (if 0 ≤ bt185.1 then (if bt185.1 < (bt168.2.2.1.length : Int) then (some (bt168.1, bt168.2.1, (bt168.2.2.1.set (bt185.1 : Int).toNat bt191.1), bt191.2.1, bt191.2.2)) else (none)) else (none)))) else (if bt176.1 = 2 then (if 1 ≤ (bt168.2.2.1.length : Int) then (some (bt168.1, bt168.2.1, (bt168.2.2.1.drop (1 : Int).toNat), bt176.2.1, bt176.2.2)) else (none)) else (some (bt168.1, bt168.2.1, bt168.2.2.1, bt176.2.1, bt176.2.2))))))
theorem spec_l1Cur_anyField.mono : ∀ a0 a1 a2 k, LeO (spec_l1Cur_anyField.f k a0 a1 a2) (spec_l1Cur_anyField.f (k + 1) a0 a1 a2) := by
 intro a0 a1 a2 k
 unfold spec_l1Cur_anyField.f
 repeat' first
  | (with_reducible exact spec_l1Cur_field.mono _ _ _ _)
  | (with_reducible exact LeO.refl _)
  | (with_reducible exact LeO.none _)
  | (with_reducible refine LeO.ite ?_ ?_)
  | (with_reducible refine LeO.bind ?_ (fun _ => ?_))
  | exact spec_l1Cur_field.mono _ _ _ _
  | exact LeO.none _
  | refine LeO.ite ?_ ?_
  | refine LeO.bind ?_ (fun _ => ?_)
def spec_l1Cur_anyField.T6 : Bool × List (List Nat × List Nat) := (true, [([], []), ([0], [0]), ([], []), ([], []), ([3], [3]), ([4], [4]), ([2, 5], [2, 5]), ([], []), ([], []), ([7, 8, 6], [7, 8]), ([1, 6, 0, 1, 2, 3, 4, 5, 6, 7, 8, 9], [1, 6]), ([10, 9, 9, 0, 1, 2, 3, 4, 5, 6, 7, 8, 9], [9, 10])])
def spec_l1Cur_anyField.B6 : List Nat := [0, 1, 0, 0, 8, 24, 60, 0, 0, 508, 1023, 2047]
theorem spec_l1Cur_anyField.tab6 : rtab .any (opsOf Try.f31 6) = spec_l1Cur_anyField.T6 := by kernel_rfl
theorem spec_l1Cur_anyField.bits6 : waitsOk spec_l1Cur_anyField.T6.2 spec_l1Cur_anyField.B6 = true := by kernel_rfl
set_option maxHeartbeats 8000000 in
set_option maxRecDepth 100000 in
theorem spec_l1Cur_anyField.calls (k : Nat) (g : Nat) (s0_0 : List Int) (s0_1 : Int) (s0_2 : Int) (r1 : Int) (r2 : Int) (r3 : List Int) (r4 : Int) (r5 : Int) (w0 w : World) (hI : IsS51 w0 w g s0_0 s0_1 s0_2) (hB : Below w0.heap.size w0 w) (h : spec_l1Cur_anyField.f k s0_0 s0_1 s0_2 = some (r1, r2, r3, r4, r5)) :
 Calls Try.prog 31 #[.pointer (some ⟨g, 0, none⟩)] w fun e w' => ∃ v2_ : Value, e = .returned (.agg #[.int .i64 r1, .int .i64 r2, v2_]) ∧ Kd.Q (Kd.int .i64) 3 w' w.heap.size (fun _ => True) v2_ r3 ∧ IsS51 w0 w' g s0_0 r4 r5 ∧ Below w0.heap.size w0 w' ∧ KeepBut w w' g none := by
 have hu26 := Try.underlying26
 have HI0 := Aside0.mk hI
 have HK := Aside0.mk (KeepBut.refl w g none)
 have HL := Aside0.mk hB.size
 clear hI
 have HW0 := Aside0.mk hB.size
 have HB := Aside0.mk hB
 clear hB
 have H : ((spec_l1Cur_field.f k s0_0 s0_1 s0_2).bind fun bt168 => ((spec_l1Cur_pick.f s0_0 bt168.2.2.2.1 bt168.2.2.2.2 24).bind fun bt176 => (if bt176.1 = 0 then ((spec_l1Cur_among.f s0_0 bt176.2.1 bt176.2.2 (([0, 9, 8, bt168.2.1] : List Int))).bind fun bt182 => (some (bt182.1, bt168.2.1, bt168.2.2.1, bt182.2.1, bt182.2.2))) else (if bt176.1 = 1 then ((spec_l1Cur_pick.f s0_0 bt176.2.1 bt176.2.2 (bt168.2.2.1.length : Int)).bind fun bt185 => ((spec_l1Cur_among.f s0_0 bt185.2.1 bt185.2.2 (([9001, (-9001), (-9998), (-9999)] : List Int))).bind fun bt191 => (if 0 ≤ bt185.1 then (if bt185.1 < (bt168.2.2.1.length : Int) then (some (bt168.1, bt168.2.1, (bt168.2.2.1.set (bt185.1 : Int).toNat bt191.1), bt191.2.1, bt191.2.2)) else (none)) else (none)))) else (if bt176.1 = 2 then (if 1 ≤ (bt168.2.2.1.length : Int) then (some (bt168.1, bt168.2.1, (bt168.2.2.1.drop (1 : Int).toNat), bt176.2.1, bt176.2.2)) else (none)) else (some (bt168.1, bt168.2.1, bt168.2.2.1, bt176.2.1, bt176.2.2))))))) = some (r1, r2, r3, r4, r5) := h
 clear h
 replace H := Option.bind_eq_some_iff.mp H
 obtain ⟨⟨t168, t169, t170, t173, t174⟩, A20, H⟩ := H
 replace H : ((spec_l1Cur_pick.f s0_0 t173 t174 24).bind fun bt176 => (if bt176.1 = 0 then ((spec_l1Cur_among.f s0_0 bt176.2.1 bt176.2.2 (([0, 9, 8, t169] : List Int))).bind fun bt182 => (some (bt182.1, t169, t170, bt182.2.1, bt182.2.2))) else (if bt176.1 = 1 then ((spec_l1Cur_pick.f s0_0 bt176.2.1 bt176.2.2 (t170.length : Int)).bind fun bt185 => ((spec_l1Cur_among.f s0_0 bt185.2.1 bt185.2.2 (([9001, (-9001), (-9998), (-9999)] : List Int))).bind fun bt191 => (if 0 ≤ bt185.1 then (if bt185.1 < (t170.length : Int) then (some (t168, t169, (t170.set (bt185.1 : Int).toNat bt191.1), bt191.2.1, bt191.2.2)) else (none)) else (none)))) else (if bt176.1 = 2 then (if 1 ≤ (t170.length : Int) then (some (t168, t169, (t170.drop (1 : Int).toNat), bt176.2.1, bt176.2.2)) else (none)) else (some (t168, t169, t170, bt176.2.1, bt176.2.2)))))) = some (r1, r2, r3, r4, r5) := H
 have A2 := Aside0.mk A20
 clear A20
 replace H := Option.bind_eq_some_iff.mp H
 obtain ⟨⟨t176, t177, t178⟩, A30, H⟩ := H
 replace H : (if t176 = 0 then ((spec_l1Cur_among.f s0_0 t177 t178 (([0, 9, 8, t169] : List Int))).bind fun bt182 => (some (bt182.1, t169, t170, bt182.2.1, bt182.2.2))) else (if t176 = 1 then ((spec_l1Cur_pick.f s0_0 t177 t178 (t170.length : Int)).bind fun bt185 => ((spec_l1Cur_among.f s0_0 bt185.2.1 bt185.2.2 (([9001, (-9001), (-9998), (-9999)] : List Int))).bind fun bt191 => (if 0 ≤ bt185.1 then (if bt185.1 < (t170.length : Int) then (some (t168, t169, (t170.set (bt185.1 : Int).toNat bt191.1), bt191.2.1, bt191.2.2)) else (none)) else (none)))) else (if t176 = 2 then (if 1 ≤ (t170.length : Int) then (some (t168, t169, (t170.drop (1 : Int).toNat), t177, t178)) else (none)) else (some (t168, t169, t170, t177, t178))))) = some (r1, r2, r3, r4, r5) := H
 have A3 := Aside0.mk A30
 clear A30
 by_cases c4 : t176 = 0
 ·rw [if_pos c4] at H
  have c4b0 : (t176 == 0) = true := beq_iff_eq.mpr c4
  have c4b1 : (t176 != 0) = false := bne_eq_false_iff_eq.mpr c4
  clear c4
  obtain ⟨y179, hy179⟩ : ∃ y_ : List Int, y_ = (([0, 9, 8, t169] : List Int)) := ⟨_, rfl⟩
  replace H : ((spec_l1Cur_among.f s0_0 t177 t178 y179).bind fun bt182 => (some (bt182.1, t169, t170, bt182.2.1, bt182.2.2))) = some (r1, r2, r3, r4, r5) := by first | (rw [hy179]; with_reducible exact H) | (have H2_ := (Option.bind_some _ _).symm.trans H; rw [hy179]; with_reducible exact H2_) | (have H2_ := (Option.bind_some _ _).symm.trans H; with_reducible exact H2_) | with_reducible exact H | (rw [hy179]; exact H) | exact H
  have Ny179 := Aside0.mk hy179
  clear hy179
  replace H := Option.bind_eq_some_iff.mp H
  obtain ⟨⟨t182, t183, t184⟩, A50, H⟩ := H
  replace H : (some (t182, t169, t170, t183, t184)) = some (r1, r2, r3, r4, r5) := H
  have A5 := Aside0.mk A50
  clear A50
  focus
   simp only [Option.some.injEq, Prod.mk.injEq] at H
   obtain ⟨rfl, rfl, rfl, rfl, rfl⟩ := H
   go_enter Try.func31, Try.ntmps31
   go_wp2_with (first | ((with_reducible refine gate_dst (N := 2) rfl ?_); refine box_event ?hg (N := 2) ?hd (cs := #[.int .i64 0, .int .i64 0, .slice none 0 0]) (t := 26) ?hr ?_; (case hd => rfl); (case hg => rfl); (case hr => exact zsx); intro gb167 hg w6 hbox hb; replace HB := Aside0.mk (below_step (by first | exact zBy HB.out (IsS51.ge HI0.out) | exact zBx HB.out) hb); have BK167 := Aside0.mk (hbox); have GW167 := Aside0.mk ((by rw [hg]; exact (keep_size (w := w) (g := g) (row := none) (zKx HK.out)) : w.heap.size ≤ gb167)); have GE167 := Aside0.mk ((Nat.le_trans HW0.out (by rw [hg]; exact (keep_size (w := w) (g := g) (row := none) (zKx HK.out)) : w.heap.size ≤ gb167) : w0.heap.size ≤ gb167)); replace HK := Aside0.mk (KeepBut.trans (zKx HK.out) (KeepBut.of_below hb g none) (.inl rfl)); have NB0_167 := Aside0.mk ((by rw [hg]; exact Nat.ne_of_lt (IsS51.lt (show IsS51 w0 _ g s0_0 s0_1 s0_2 from IsS51.zI HI0.out)) : g ≠ gb167)); have NB167_0 := Aside0.mk ((by rw [hg]; exact Nat.ne_of_gt (IsS51.lt (show IsS51 w0 _ g s0_0 s0_1 s0_2 from IsS51.zI HI0.out)) : gb167 ≠ g)); replace HI0 := Aside0.mk (IsS51.below (IsS51.zI HI0.out) hb); clear hb hbox hg) | ((with_reducible refine gate_callee (f := 51) rfl ?_); refine goesL_ (some 5) rfl rfl Try.func51 (by kernel_rfl) rfl #[.pointer (some ⟨g, 0, none⟩)] rfl zlx ?_; (with_reducible refine (spec_l1Cur_field.calls k g s0_0 s0_1 s0_2 t168 t169 t170 t173 t174 w0 _ ?side1 ?side2 A2.out).mono ?_); (case side1 => exact IsS51.zJ HI0.out NB0_167.out); (case side2 => first | exact zBz HB.out (IsS51.ge HI0.out) GE167.out | exact zBy HB.out GE167.out); rintro e w7 ⟨v171, rfl, ho0, hi, hb, hk⟩; refine ⟨_, rfl, ?_⟩; replace BK167 := Aside0.mk (KeepBut.blk hk (g' := gb167) (o := .cells #[.int .i64 0, .int .i64 0, .slice none 0 0] 26 (0, 0)) (zbx BK167.out) NB167_0.out (by simp)); have HO172 := Aside0.mk (Kd.R_lower ho0 (keep_size (w := w) (g := g) (row := none) (zKy HK.out GW167.out))); replace HK := Aside0.mk (KeepBut.trans (zKy HK.out GW167.out) hk (.inl rfl)); replace HB := Aside0.mk (hb); replace HI0 := Aside0.mk (hi); (try clear hb); (try clear hb2); (try clear hk); (try clear hi); (try clear ho0)) | ((with_reducible refine gate_dst (N := 3) rfl ?_); refine box_event ?hg (N := 3) ?hd (cs := #[.int .i64 0, .int .i64 0, .slice none 0 0]) (t := 26) ?hr ?_; (case hd => rfl); (case hg => rfl); (case hr => exact zsx); intro gb175 hg w8 hbox hb; replace HO172 := Aside0.mk (Kd.R_below (zRx HO172.out) hb); replace HB := Aside0.mk (below_step (by first | exact zBz HB.out (IsS51.ge HI0.out) GE167.out | exact zBy HB.out GE167.out) hb); have BK175 := Aside0.mk (hbox); have GW175 := Aside0.mk ((by rw [hg]; exact (keep_size (w := w) (g := g) (row := none) (zKy HK.out GW167.out)) : w.heap.size ≤ gb175)); have GE175 := Aside0.mk ((Nat.le_trans HW0.out (by rw [hg]; exact (keep_size (w := w) (g := g) (row := none) (zKy HK.out GW167.out)) : w.heap.size ≤ gb175) : w0.heap.size ≤ gb175)); replace HK := Aside0.mk (KeepBut.trans (zKy HK.out GW167.out) (KeepBut.of_below hb g none) (.inl rfl)); have NB167_175 := znl hg BK167.out; have NB175_167 := zng hg BK167.out; replace BK167 := zbl BK167.out hb; have NB0_175 := Aside0.mk ((by rw [hg]; exact Nat.ne_of_lt (IsS51.lt (show IsS51 w0 _ g s0_0 t173 t174 from IsS51.zJ HI0.out NB0_167.out)) : g ≠ gb175)); have NB175_0 := Aside0.mk ((by rw [hg]; exact Nat.ne_of_gt (IsS51.lt (show IsS51 w0 _ g s0_0 t173 t174 from IsS51.zJ HI0.out NB0_167.out)) : gb175 ≠ g)); replace HI0 := Aside0.mk (IsS51.below (IsS51.zF HI0.out NB0_167.out) hb); clear hb hbox hg; have hnb9 := NB175_167.out; have hnc9 := NB167_175.out; have hnb10 := NB175_0.out; have hnc10 := NB0_175.out; have hcz11_0 : w8.cell? ⟨gb175, 0, none⟩ = some (.int .i64 0) := (blk_cell BK175.out 0).trans rfl; have hcz11_1 : w8.cell? ⟨gb175, 1, none⟩ = some (.int .i64 0) := (blk_cell BK175.out 1).trans rfl; have hcz11_2 : w8.cell? ⟨gb175, 2, none⟩ = some (.slice none 0 0) := (blk_cell BK175.out 2).trans rfl; have hfz11_0 := blk_frozen BK175.out 0; have hfz11_1 := blk_frozen BK175.out 1; have hfz11_2 := blk_frozen BK175.out 2; obtain ⟨Ao12, co12, eo12⟩ := Kd.R_slice HO172.out; subst eo12) | ((with_reducible refine gate_callee (f := 52) rfl ?_); refine goesL_ (some 7) rfl rfl Try.func52 (by kernel_rfl) rfl #[.pointer (some ⟨g, 0, none⟩), .int .i64 24] rfl zlx ?_; (with_reducible refine (spec_l1Cur_pick.calls g s0_0 t173 t174 24 t176 t177 t178 w0 _ ?side1 ?side2 A3.out).mono ?_); (case side1 => exact zhI51 HI0.out); (case side2 => exact zhB HB.out); rintro e w13 ⟨rfl, hi, hb, hk⟩; refine ⟨_, rfl, ?_⟩; replace BK167 := Aside0.mk (KeepBut.blk hk (g' := gb167) (o := .cells #[.int .i64 0, .int .i64 0, .slice none 0 0] 26 (0, 0)) (zbq BK167.out) NB167_0.out (by simp)); replace HO172 := Aside0.mk (Kd.R_mono (Kd.R_keep (IsS51.apart (show IsS51 w0 _ g s0_0 t173 t174 from zhI51 HI0.out) (by (with_reducible repeat (first | apply Kd.R_alloc | apply Kd.R_drewN | apply Kd.R_drew)); exact (Kd.R_mono (Kd.R_far (p := ⟨gb175, 2, none⟩) (Kd.R_far (p := ⟨gb175, 1, none⟩) (Kd.R_far (p := ⟨gb175, 0, none⟩) (Kd.R_types HO172.out BK175.out (by decide)) (fun _ hk => hk.2) (.int .i64 t168)) (fun _ hk => hk.2) (.int .i64 t169)) (fun _ hk => hk.2) (.slice Ao12 t170.length co12)) (fun _ h_ => h_.1))) (by decide)) hk (fun _ h => h.2)) (fun _ h => h.1)); replace BK175 := Aside0.mk (KeepBut.blk hk (g' := gb175) (o := .cells #[.int .i64 t168, .int .i64 t169, .slice Ao12 t170.length co12] 26 (0, 0)) (by refine zbx ?_; refine blk_put (cs := #[.int .i64 t168, .int .i64 t169, .slice none 0 0]) ?_ 2 _ rfl; refine zbx ?_; refine blk_put (cs := #[.int .i64 t168, .int .i64 0, .slice none 0 0]) ?_ 1 _ rfl; refine zbx ?_; refine blk_put (cs := #[.int .i64 0, .int .i64 0, .slice none 0 0]) ?_ 0 _ rfl; refine zbx ?_; exact BK175.out) NB175_0.out (by simp)); replace HK := Aside0.mk (KeepBut.trans (zhK HK.out) hk (.inl rfl)); replace HB := Aside0.mk (hb); replace HI0 := Aside0.mk (hi); (try clear hb); (try clear hb2); (try clear hk); (try clear hi); have hcz14_0 : w13.cell? ⟨gb175, 0, none⟩ = some (.int .i64 t168) := (blk_cell BK175.out 0).trans rfl; have hcz14_1 : w13.cell? ⟨gb175, 1, none⟩ = some (.int .i64 t169) := (blk_cell BK175.out 1).trans rfl; have hcz14_2 : w13.cell? ⟨gb175, 2, none⟩ = some (.slice Ao12 t170.length co12) := (blk_cell BK175.out 2).trans rfl; have hfz14_0 := blk_frozen BK175.out 0; have hfz14_1 := blk_frozen BK175.out 1; have hfz14_2 := blk_frozen BK175.out 2) | ((with_reducible refine gate_dst (N := 13) rfl ?_); refine Kd.R_lit (Kd.int .i64) _ 3 ?hg (N := 13) ?hd (xs := ([0, 9, 8, t169] : List Int)) (inner := [.int .i64 0, .int .i64 9, .int .i64 8, .int .i64 t169]) (ok := fun _ => True) (okp := fun _ => True) ?hr ?hp (fun _ hk => hk) trivial (Below.refl _ _) (Nat.le_refl _) (by simp) ?_; (case hd => rfl); (case hg => rfl); (case hr => exact zsx); (case hp => exact (Reps.one (show Kd.M (Kd.int .i64) _ _ _ 0 [.int .i64 0] from rfl) (Reps.one (show Kd.M (Kd.int .i64) _ _ _ 9 [.int .i64 9] from rfl) (Reps.one (show Kd.M (Kd.int .i64) _ _ _ 8 [.int .i64 8] from rfl) (Reps.one (show Kd.M (Kd.int .i64) _ _ _ t169 [.int .i64 t169] from rfl) (Reps.none _ _)))))); intro v180 w15 ho16 hb hg_ hnew_; clear hg_ hnew_; (first | rw [← Ny179.out] at ho16 | (simp only [Int.reduceToNat] at ho16; rw [← Ny179.out] at ho16)); have HO181 := Aside0.mk (Kd.R_lower (Kd.R_new' ho16 (Kd.R_lt (zRx HO172.out))) (keep_size (w := w) (g := g) (row := none) (zhK HK.out))); replace HO172 := Aside0.mk (Kd.R_elder' (zRx HO172.out) (Kd.R_base ho16) hb); replace HI0 := Aside0.mk (IsS51.below (zhI51 HI0.out) hb); replace BK167 := zbl BK167.out hb; replace BK175 := zbl BK175.out hb; replace HK := Aside0.mk (KeepBut.trans (zhK HK.out) (KeepBut.of_below hb g none) (.inl rfl)); replace HB := Aside0.mk (below_step (zhB HB.out) hb); clear hb ho16; obtain ⟨Ao17, co17, eo17⟩ := Kd.R_slice HO181.out; subst eo17) | ((with_reducible refine gate_callee (f := 33) rfl ?_); refine goesL_ (some 14) rfl rfl Try.func33 (by kernel_rfl) rfl #[.pointer (some ⟨g, 0, none⟩), .slice Ao17 y179.length co17] rfl zlx ?_; (with_reducible refine (spec_l1Cur_among.calls g s0_0 t177 t178 _ _ y179 t182 t183 t184 w0 _ ?side1 ?side2 ?side3 ?side4 ?side5 A5.out).mono ?_); (case side1 => exact zhI51 HI0.out); (case side2 => exact zhB HB.out); (case side3 => repeat (first | exact (Kd.R_reads' HO181.out).2.2 | (with_reducible refine Kd.C_alloc ?_ _) | (with_reducible refine Kd.C_drewN ?_ _) | (with_reducible refine Kd.C_drew ?_))); (case side4 => exact (Kd.R_reads' HO181.out).2.1); (case side5 => exact far_slice (IsS51.own_ne HI0.out HO181.out (by decide))); rintro e w18 ⟨rfl, hi, hb, hk⟩; refine ⟨_, rfl, ?_⟩; replace BK167 := Aside0.mk (KeepBut.blk hk (g' := gb167) (o := .cells #[.int .i64 0, .int .i64 0, .slice none 0 0] 26 (0, 0)) (zbx BK167.out) NB167_0.out (by simp)); replace HO172 := Aside0.mk (Kd.R_mono (Kd.R_keep (IsS51.apart (show IsS51 w0 _ g s0_0 t177 t178 from zhI51 HI0.out) (zRx HO172.out) (by decide)) hk (fun _ h => h.2)) (fun _ h => h.1)); replace BK175 := Aside0.mk (KeepBut.blk hk (g' := gb175) (o := .cells #[.int .i64 t168, .int .i64 t169, .slice Ao12 t170.length co12] 26 (0, 0)) (zbx BK175.out) NB175_0.out (by simp)); replace HO181 := Aside0.mk (Kd.R_mono (Kd.R_keep (IsS51.apart (show IsS51 w0 _ g s0_0 t177 t178 from zhI51 HI0.out) (zRx HO181.out) (by decide)) hk (fun _ h => h.2)) (fun _ h => h.1)); replace HK := Aside0.mk (KeepBut.trans (zhK HK.out) hk (.inl rfl)); replace HB := Aside0.mk (hb); replace HI0 := Aside0.mk (hi); (try clear hb); (try clear hb2); (try clear hk); (try clear hi); have hcz19_0 : w18.cell? ⟨gb175, 0, none⟩ = some (.int .i64 t168) := (blk_cell BK175.out 0).trans rfl; have hcz19_1 : w18.cell? ⟨gb175, 1, none⟩ = some (.int .i64 t169) := (blk_cell BK175.out 1).trans rfl; have hcz19_2 : w18.cell? ⟨gb175, 2, none⟩ = some (.slice Ao12 t170.length co12) := (blk_cell BK175.out 2).trans rfl; have hfz19_0 := blk_frozen BK175.out 0; have hfz19_1 := blk_frozen BK175.out 1; have hfz19_2 := blk_frozen BK175.out 2; have hnb20 := NB167_0.out; have hnc20 := NB0_167.out; have hcz21_0 : w18.cell? ⟨gb167, 0, none⟩ = some (.int .i64 0) := (blk_cell BK167.out 0).trans rfl; have hcz21_1 : w18.cell? ⟨gb167, 1, none⟩ = some (.int .i64 0) := (blk_cell BK167.out 1).trans rfl; have hcz21_2 : w18.cell? ⟨gb167, 2, none⟩ = some (.slice none 0 0) := (blk_cell BK167.out 2).trans rfl; have hfz21_0 := blk_frozen BK167.out 0; have hfz21_1 := blk_frozen BK167.out 1; have hfz21_2 := blk_frozen BK167.out 2))
   refine bodyPost_ret (results_cell_row rfl _ _ gb167 26 #[.int .i64 t182, .int .i64 t169, .slice Ao12 t170.length co12] (0, 0) _ rfl (by refine zbx ?_; refine blk_put (cs := #[.int .i64 t182, .int .i64 t169, .slice none 0 0]) ?_ 2 _ rfl; refine zbx ?_; refine blk_put (cs := #[.int .i64 t182, .int .i64 0, .slice none 0 0]) ?_ 1 _ rfl; refine zbx ?_; refine blk_put (cs := #[.int .i64 0, .int .i64 0, .slice none 0 0]) ?_ 0 _ rfl; refine zbx ?_; refine blk_far ?_ NB167_175.out _; refine zbx ?_; exact BK167.out) Try.underlying26 rfl (by kernel_rfl)) rfl ?_
   exact ⟨_, by first | rfl | (simp [errW_none, errW_some] <;> rfl) | (simp [*, errW_none, errW_some] <;> rfl), Kd.Q_of_R (by (with_reducible repeat (first | apply Kd.R_alloc | apply Kd.R_drewN | apply Kd.R_drew)); exact Kd.R_mono (Kd.R_far (p := ⟨gb167, 2, none⟩) (Kd.R_far (p := ⟨gb167, 1, none⟩) (Kd.R_far (p := ⟨gb167, 0, none⟩) (Kd.R_far (p := ⟨gb175, 0, none⟩) (Kd.R_types (Kd.R_types HO172.out BK175.out (by decide)) BK167.out (by decide)) (fun _ hk => hk.1.2) (.int .i64 t182)) (fun _ hk => hk.2) (.int .i64 t182)) (fun _ hk => hk.2) (.int .i64 t169)) (fun _ hk => hk.2) (.slice Ao12 t170.length co12)) (fun _ hk => trivial)), zhI51 HI0.out, zhB HB.out, zhK HK.out⟩
 ·rw [if_neg c4] at H
  have c4b0 : (t176 == 0) = false := beq_eq_false_iff_ne.mpr c4
  have c4b1 : (t176 != 0) = true := bne_iff_ne.mpr c4
  by_cases c22 : t176 = 1
  ·rw [if_pos c22] at H
   have c22b0 : (t176 == 1) = true := beq_iff_eq.mpr c22
   have c22b1 : (t176 != 1) = false := bne_eq_false_iff_eq.mpr c22
   clear c22
   replace H := Option.bind_eq_some_iff.mp H
   obtain ⟨⟨t185, t186, t187⟩, A230, H⟩ := H
   replace H : ((spec_l1Cur_among.f s0_0 t186 t187 (([9001, (-9001), (-9998), (-9999)] : List Int))).bind fun bt191 => (if 0 ≤ t185 then (if t185 < (t170.length : Int) then (some (t168, t169, (t170.set (t185 : Int).toNat bt191.1), bt191.2.1, bt191.2.2)) else (none)) else (none))) = some (r1, r2, r3, r4, r5) := H
   have A23 := Aside0.mk A230
   clear A230
   obtain ⟨y188, hy188⟩ : ∃ y_ : List Int, y_ = (([9001, (-9001), (-9998), (-9999)] : List Int)) := ⟨_, rfl⟩
   replace H : ((spec_l1Cur_among.f s0_0 t186 t187 y188).bind fun bt191 => (if 0 ≤ t185 then (if t185 < (t170.length : Int) then (some (t168, t169, (t170.set (t185 : Int).toNat bt191.1), bt191.2.1, bt191.2.2)) else (none)) else (none))) = some (r1, r2, r3, r4, r5) := by first | (rw [hy188]; with_reducible exact H) | (have H2_ := (Option.bind_some _ _).symm.trans H; rw [hy188]; with_reducible exact H2_) | (have H2_ := (Option.bind_some _ _).symm.trans H; with_reducible exact H2_) | with_reducible exact H | (rw [hy188]; exact H) | exact H
   have Ny188 := Aside0.mk hy188
   clear hy188
   replace H := Option.bind_eq_some_iff.mp H
   obtain ⟨⟨t191, t192, t193⟩, A240, H⟩ := H
   replace H : (if 0 ≤ t185 then (if t185 < (t170.length : Int) then (some (t168, t169, (t170.set (t185 : Int).toNat t191), t192, t193)) else (none)) else (none)) = some (r1, r2, r3, r4, r5) := H
   have A24 := Aside0.mk A240
   clear A240
   by_cases c25 : 0 ≤ t185
   ·rw [if_pos c25] at H
    have c25b0 : decide (0 ≤ t185) = true := decide_eq_true c25
    clear c25
    by_cases c26 : t185 < (t170.length : Int)
    ·rw [if_pos c26] at H
     have c26b0 : decide (t185 < (t170.length : Int)) = true := decide_eq_true c26
     clear c26
     obtain ⟨y194, hy194⟩ : ∃ y_ : List Int, y_ = (t170.set (t185 : Int).toNat t191) := ⟨_, rfl⟩
     replace H : (some (t168, t169, y194, t192, t193)) = some (r1, r2, r3, r4, r5) := by first | (rw [hy194]; with_reducible exact H) | (have H2_ := (Option.bind_some _ _).symm.trans H; rw [hy194]; with_reducible exact H2_) | (have H2_ := (Option.bind_some _ _).symm.trans H; with_reducible exact H2_) | with_reducible exact H | (rw [hy194]; exact H) | exact H
     have Ny194 := Aside0.mk hy194
     clear hy194
     focus
      simp only [Option.some.injEq, Prod.mk.injEq] at H
      obtain ⟨rfl, rfl, rfl, rfl, rfl⟩ := H
      go_enter Try.func31, Try.ntmps31
      try go_wp2_with (first | ((with_reducible refine gate_dst (N := 2) rfl ?_); refine box_event ?hg (N := 2) ?hd (cs := #[.int .i64 0, .int .i64 0, .slice none 0 0]) (t := 26) ?hr ?_; (case hd => rfl); (case hg => rfl); (case hr => exact zsx); intro gb167 hg w28 hbox hb; replace HB := Aside0.mk (below_step (by first | exact zBy HB.out (IsS51.ge HI0.out) | exact zBx HB.out) hb); have BK167 := Aside0.mk (hbox); have GW167 := Aside0.mk ((by rw [hg]; exact (keep_size (w := w) (g := g) (row := none) (zKx HK.out)) : w.heap.size ≤ gb167)); have GE167 := Aside0.mk ((Nat.le_trans HW0.out (by rw [hg]; exact (keep_size (w := w) (g := g) (row := none) (zKx HK.out)) : w.heap.size ≤ gb167) : w0.heap.size ≤ gb167)); replace HK := Aside0.mk (KeepBut.trans (zKx HK.out) (KeepBut.of_below hb g none) (.inl rfl)); have NB0_167 := Aside0.mk ((by rw [hg]; exact Nat.ne_of_lt (IsS51.lt (show IsS51 w0 _ g s0_0 s0_1 s0_2 from IsS51.zI HI0.out)) : g ≠ gb167)); have NB167_0 := Aside0.mk ((by rw [hg]; exact Nat.ne_of_gt (IsS51.lt (show IsS51 w0 _ g s0_0 s0_1 s0_2 from IsS51.zI HI0.out)) : gb167 ≠ g)); replace HI0 := Aside0.mk (IsS51.below (IsS51.zI HI0.out) hb); clear hb hbox hg) | ((with_reducible refine gate_callee (f := 51) rfl ?_); refine goesL_ (some 5) rfl rfl Try.func51 (by kernel_rfl) rfl #[.pointer (some ⟨g, 0, none⟩)] rfl zlx ?_; (with_reducible refine (spec_l1Cur_field.calls k g s0_0 s0_1 s0_2 t168 t169 t170 t173 t174 w0 _ ?side1 ?side2 A2.out).mono ?_); (case side1 => exact IsS51.zJ HI0.out NB0_167.out); (case side2 => first | exact zBz HB.out (IsS51.ge HI0.out) GE167.out | exact zBy HB.out GE167.out); rintro e w29 ⟨v171, rfl, ho0, hi, hb, hk⟩; refine ⟨_, rfl, ?_⟩; replace BK167 := Aside0.mk (KeepBut.blk hk (g' := gb167) (o := .cells #[.int .i64 0, .int .i64 0, .slice none 0 0] 26 (0, 0)) (zbx BK167.out) NB167_0.out (by simp)); have HO172 := Aside0.mk (Kd.R_lower ho0 (keep_size (w := w) (g := g) (row := none) (zKy HK.out GW167.out))); replace HK := Aside0.mk (KeepBut.trans (zKy HK.out GW167.out) hk (.inl rfl)); replace HB := Aside0.mk (hb); replace HI0 := Aside0.mk (hi); (try clear hb); (try clear hb2); (try clear hk); (try clear hi); (try clear ho0)) | ((with_reducible refine gate_dst (N := 3) rfl ?_); refine box_event ?hg (N := 3) ?hd (cs := #[.int .i64 0, .int .i64 0, .slice none 0 0]) (t := 26) ?hr ?_; (case hd => rfl); (case hg => rfl); (case hr => exact zsx); intro gb175 hg w30 hbox hb; replace HO172 := Aside0.mk (Kd.R_below (zRx HO172.out) hb); replace HB := Aside0.mk (below_step (by first | exact zBz HB.out (IsS51.ge HI0.out) GE167.out | exact zBy HB.out GE167.out) hb); have BK175 := Aside0.mk (hbox); have GW175 := Aside0.mk ((by rw [hg]; exact (keep_size (w := w) (g := g) (row := none) (zKy HK.out GW167.out)) : w.heap.size ≤ gb175)); have GE175 := Aside0.mk ((Nat.le_trans HW0.out (by rw [hg]; exact (keep_size (w := w) (g := g) (row := none) (zKy HK.out GW167.out)) : w.heap.size ≤ gb175) : w0.heap.size ≤ gb175)); replace HK := Aside0.mk (KeepBut.trans (zKy HK.out GW167.out) (KeepBut.of_below hb g none) (.inl rfl)); have NB167_175 := znl hg BK167.out; have NB175_167 := zng hg BK167.out; replace BK167 := zbl BK167.out hb; have NB0_175 := Aside0.mk ((by rw [hg]; exact Nat.ne_of_lt (IsS51.lt (show IsS51 w0 _ g s0_0 t173 t174 from IsS51.zJ HI0.out NB0_167.out)) : g ≠ gb175)); have NB175_0 := Aside0.mk ((by rw [hg]; exact Nat.ne_of_gt (IsS51.lt (show IsS51 w0 _ g s0_0 t173 t174 from IsS51.zJ HI0.out NB0_167.out)) : gb175 ≠ g)); replace HI0 := Aside0.mk (IsS51.below (IsS51.zF HI0.out NB0_167.out) hb); clear hb hbox hg; have hnb31 := NB175_167.out; have hnc31 := NB167_175.out; have hnb32 := NB175_0.out; have hnc32 := NB0_175.out; have hcz33_0 : w30.cell? ⟨gb175, 0, none⟩ = some (.int .i64 0) := (blk_cell BK175.out 0).trans rfl; have hcz33_1 : w30.cell? ⟨gb175, 1, none⟩ = some (.int .i64 0) := (blk_cell BK175.out 1).trans rfl; have hcz33_2 : w30.cell? ⟨gb175, 2, none⟩ = some (.slice none 0 0) := (blk_cell BK175.out 2).trans rfl; have hfz33_0 := blk_frozen BK175.out 0; have hfz33_1 := blk_frozen BK175.out 1; have hfz33_2 := blk_frozen BK175.out 2; obtain ⟨Ao34, co34, eo34⟩ := Kd.R_slice HO172.out; subst eo34) | ((with_reducible refine gate_callee (f := 52) rfl ?_); refine goesL_ (some 7) rfl rfl Try.func52 (by kernel_rfl) rfl #[.pointer (some ⟨g, 0, none⟩), .int .i64 24] rfl zlx ?_; (with_reducible refine (spec_l1Cur_pick.calls g s0_0 t173 t174 24 t176 t177 t178 w0 _ ?side1 ?side2 A3.out).mono ?_); (case side1 => exact zhI51 HI0.out); (case side2 => exact zhB HB.out); rintro e w35 ⟨rfl, hi, hb, hk⟩; refine ⟨_, rfl, ?_⟩; replace BK167 := Aside0.mk (KeepBut.blk hk (g' := gb167) (o := .cells #[.int .i64 0, .int .i64 0, .slice none 0 0] 26 (0, 0)) (zbq BK167.out) NB167_0.out (by simp)); replace HO172 := Aside0.mk (Kd.R_mono (Kd.R_keep (IsS51.apart (show IsS51 w0 _ g s0_0 t173 t174 from zhI51 HI0.out) (by (with_reducible repeat (first | apply Kd.R_alloc | apply Kd.R_drewN | apply Kd.R_drew)); exact (Kd.R_mono (Kd.R_far (p := ⟨gb175, 2, none⟩) (Kd.R_far (p := ⟨gb175, 1, none⟩) (Kd.R_far (p := ⟨gb175, 0, none⟩) (Kd.R_types HO172.out BK175.out (by decide)) (fun _ hk => hk.2) (.int .i64 t168)) (fun _ hk => hk.2) (.int .i64 t169)) (fun _ hk => hk.2) (.slice Ao34 t170.length co34)) (fun _ h_ => h_.1))) (by decide)) hk (fun _ h => h.2)) (fun _ h => h.1)); replace BK175 := Aside0.mk (KeepBut.blk hk (g' := gb175) (o := .cells #[.int .i64 t168, .int .i64 t169, .slice Ao34 t170.length co34] 26 (0, 0)) (by refine zbx ?_; refine blk_put (cs := #[.int .i64 t168, .int .i64 t169, .slice none 0 0]) ?_ 2 _ rfl; refine zbx ?_; refine blk_put (cs := #[.int .i64 t168, .int .i64 0, .slice none 0 0]) ?_ 1 _ rfl; refine zbx ?_; refine blk_put (cs := #[.int .i64 0, .int .i64 0, .slice none 0 0]) ?_ 0 _ rfl; refine zbx ?_; exact BK175.out) NB175_0.out (by simp)); replace HK := Aside0.mk (KeepBut.trans (zhK HK.out) hk (.inl rfl)); replace HB := Aside0.mk (hb); replace HI0 := Aside0.mk (hi); (try clear hb); (try clear hb2); (try clear hk); (try clear hi)))
      replace HO172 := Aside0.mk (Kd.R_drew HO172.out)
      replace BK167 := Aside0.mk (blk_drew BK167.out)
      replace BK175 := Aside0.mk (blk_drew BK175.out)
      replace HI0 := Aside0.mk (IsS51.drew HI0.out)
      replace HK := Aside0.mk (keep_drew HK.out)
      replace HB := Aside0.mk (below_drew1 HB.out)
      refine start_ (n := 12) (S := fun w' => w'.cell? ⟨gb175, 0, none⟩ = some (.int .i64 t168) ∧ w'.cell? ⟨gb175, 1, none⟩ = some (.int .i64 t169) ∧ w'.cell? ⟨gb175, 2, none⟩ = some (.slice Ao34 t170.length co34)) (ds := [11]) #[F,F,F,F,F,F,F,F,F,F,F,F] (by kernel_rfl) rfl rfl ⟨(blk_cell BK175.out 0).trans rfl, (blk_cell BK175.out 1).trans rfl, (blk_cell BK175.out 2).trans rfl⟩ (fun hHeld => ?_); refine with_tabW spec_l1Cur_anyField.tab6 spec_l1Cur_anyField.bits6 (fun HT_ HW_ => ?_)
      generalize w35.drew = w36 at HO172 BK167 BK175 HI0 HK HB hHeld ⊢
      refine pure_ (i := 0) (N := some 18) (v := ?_) (a' := ?_) #[T,F,F,F,F,F,F,F,F,F,F,F] rfl rfl (any_of HT_.out (by kernel_rfl)) (fun _ _ _ h => h) (Or.inl ⟨by rfl, ?_⟩) ?_ ?_
      rotate_left
      ·exact zwx
      rotate_left
      ·exact zpx
      refine pure_ (i := 2) (N := some 20) (v := ?_) (a' := ?_) #[T,F,T,F,F,F,F,F,F,F,F,F] rfl rfl (any_of HT_.out (by kernel_rfl)) (fun _ _ _ h => h) (Or.inl ⟨by rfl, ?_⟩) ?_ ?_
      rotate_left
      ·exact zwx
      rotate_left
      ·exact zpx
      refine pure_ (i := 3) (N := some 21) (v := ?_) (a' := ?_) #[T,F,T,T,F,F,F,F,F,F,F,F] rfl rfl (any_of HT_.out (by kernel_rfl)) (fun _ _ _ h => h) (Or.inl ⟨by rfl, ?_⟩) ?_ ?_
      rotate_left
      ·exact zwx
      rotate_left
      ·exact zpx
      refine pure_ (i := 7) (N := some 25) (v := ?_) (a' := ?_) #[T,F,T,T,F,F,F,T,F,F,F,F] rfl rfl (any_of HT_.out (by kernel_rfl)) (fun _ _ _ h => h) (Or.inl ⟨by rfl, ?_⟩) ?_ ?_
      rotate_left
      ·exact zwx
      rotate_left
      ·exact zpx
      refine take_ (i := 1) (N := some 19) (v := ?_) (a' := ?_) #[T,T,T,T,F,F,F,T,F,F,F,F] rfl rfl (take_ofW HT_.out HW_.out (by kernel_rfl)) (fun _ _ _ h => h) (Or.inl ⟨by rfl, ?_⟩) hHeld ?_ ?_
      rotate_left
      ·rintro w' ⟨s0, s1, s2⟩
       go_simp
       with_reducible rfl
      rotate_left
      ·exact zpx
      refine take_ (i := 4) (N := some 22) (v := ?_) (a' := ?_) #[T,T,T,T,T,F,F,T,F,F,F,F] rfl rfl (take_ofW HT_.out HW_.out (by kernel_rfl)) (fun _ _ _ h => h) (Or.inl ⟨by rfl, ?_⟩) hHeld ?_ ?_
      rotate_left
      ·rintro w' ⟨s0, s1, s2⟩
       go_simp
       with_reducible rfl
      rotate_left
      ·exact zpx
      refine pure_ (i := 5) (N := some 23) (v := ?_) (a' := ?_) #[T,T,T,T,T,T,F,T,F,F,F,F] rfl rfl (any_of HT_.out (by kernel_rfl)) (fun _ _ _ h => h) (Or.inl ⟨by rfl, ?_⟩) ?_ ?_
      rotate_left
      ·exact zwx
      rotate_left
      ·exact zpx
      refine join_ (σ := Value) 3 #[T,T,T,T,T,T,T,T,T,F,F,F] (fun s_ => [(24, .int .i64 t185), (26, s_)]) (fun s_ w' => (w'.cell? ⟨gb175, 0, none⟩ = some (.int .i64 t168) ∧ w'.cell? ⟨gb175, 1, none⟩ = some (.int .i64 t169) ∧ w'.cell? ⟨gb175, 2, none⟩ = some (.slice Ao34 t170.length co34)) ∧ (Kd.R (Kd.int .i64) 3 w' w.heap.size (fun k_ => some k_ ≠ (s_ : Value).ownBlock) (.slice Ao34 t170.length co34) t170) ∧ (Kd.R (Kd.int .i64) 3 w' w.heap.size (fun k_ => some k_ ≠ (.slice Ao34 t170.length co34 : Value).ownBlock) s_ y188) ∧ (w'.heap[gb167]? = some (.cells #[.int .i64 0, .int .i64 0, .slice none 0 0] 26 (0, 0))) ∧ (w'.heap[gb175]? = some (.cells #[.int .i64 t168, .int .i64 t169, .slice Ao34 t170.length co34] 26 (0, 0))) ∧ (IsS51 w0 w' g s0_0 t186 t187) ∧ (KeepBut w w' g none) ∧ (Below w0.heap.size w0 w')) ?_ ?_
      rotate_left
      ·intro hCont
       refine two_ (i := 6) (j := 8) (Ni := some 24) (Nj := some 26) #[T,T,T,T,T,T,T,T,F,F,F,F] #[T,T,T,T,T,T,F,T,T,F,F,F] rfl rfl rfl rfl (two_of HT_.out (by kernel_rfl)) (by decide) (by decide) (fun K hK => ?_) (fun K hK => ?_)
       ·skip
        refine goes_ Try.func52 (by kernel_rfl) rfl #[.pointer (some ⟨g, 0, none⟩), .int .i64 (t170.length : Int)] (by rfl) rfl rfl zlx ?_
        with_reducible refine (spec_l1Cur_pick.calls g s0_0 t177 t178 (t170.length : Int) t185 t186 t187 w0 _ ?side1 ?side2 A23.out).mono ?_
        (case side1 => exact zhI51 HI0.out)
        (case side2 => exact zhB HB.out)
        rintro e w37 ⟨rfl, hi, hb, hk⟩
        refine ⟨_, rfl, ?_⟩
        replace BK167 := Aside0.mk (KeepBut.blk hk (g' := gb167) (o := .cells #[.int .i64 0, .int .i64 0, .slice none 0 0] 26 (0, 0)) (zbx BK167.out) NB167_0.out (by simp))
        replace HO172 := Aside0.mk (Kd.R_mono (Kd.R_keep (IsS51.apart (show IsS51 w0 _ g s0_0 t177 t178 from zhI51 HI0.out) (zRx HO172.out) (by decide)) hk (fun _ h => h.2)) (fun _ h => h.1))
        replace BK175 := Aside0.mk (KeepBut.blk hk (g' := gb175) (o := .cells #[.int .i64 t168, .int .i64 t169, .slice Ao34 t170.length co34] 26 (0, 0)) (zbx BK175.out) NB175_0.out (by simp))
        replace HK := Aside0.mk (KeepBut.trans (zhK HK.out) hk (.inl rfl))
        replace HB := Aside0.mk (hb)
        replace HI0 := Aside0.mk (hi)
        (try clear hb)
        (try clear hb2)
        (try clear hk)
        (try clear hi)
        refine hK.out _ _ ⟨(blk_cell BK175.out 0).trans rfl, (blk_cell BK175.out 1).trans rfl, (blk_cell BK175.out 2).trans rfl⟩ (fun hHeld => ?_)
        clear hK K
        refine norm_ (a' := ?_) ?_ ?_
        rotate_left
        ·show Act.put _ (some 24) _ = _
         simp only [Act.put, List.setIfInBounds_toArray, List.set_cons_zero, List.set_cons_succ, i64_w, i32_w]
         rfl
        refine one_ (i := 8) (N := some 26) #[T,T,T,T,T,T,T,T,T,F,F,F] rfl rfl (one_of HT_.out (by kernel_rfl)) (by decide) (fun K hK => ?_)
        refine Kd.R_lit_step (Kd.int .i64) _ 3 ?hg (N := 26) ?hd (xs := ([9001, (-9001), (-9998), (-9999)] : List Int)) (inner := [.int .i64 9001, .int .i64 (-9001), .int .i64 (-9998), .int .i64 (-9999)]) (ok := fun _ => True) (okp := fun _ => True) ?hr ?hp (fun _ hk => hk) trivial (Below.refl _ _) (Nat.le_refl _) (by simp) ?_; (case hd => rfl); (case hg => rfl); (case hr => exact zsx); (case hp => exact (Reps.one (show Kd.M (Kd.int .i64) _ _ _ 9001 [.int .i64 9001] from rfl) (Reps.one (show Kd.M (Kd.int .i64) _ _ _ (-9001) [.int .i64 (-9001)] from rfl) (Reps.one (show Kd.M (Kd.int .i64) _ _ _ (-9998) [.int .i64 (-9998)] from rfl) (Reps.one (show Kd.M (Kd.int .i64) _ _ _ (-9999) [.int .i64 (-9999)] from rfl) (Reps.none _ _))))))
        intro v189 w38 ho39 hb hg_ hnew_
        clear hg_ hnew_
        (first | rw [← Ny188.out] at ho39 | (simp only [Int.reduceToNat] at ho39; rw [← Ny188.out] at ho39))
        have HO190 := Aside0.mk (Kd.R_lower (Kd.R_new' ho39 (Kd.R_lt (zRx HO172.out))) (keep_size (w := w) (g := g) (row := none) (zhK HK.out)))
        replace HO172 := Aside0.mk (Kd.R_elder' (zRx HO172.out) (Kd.R_base ho39) hb)
        replace HI0 := Aside0.mk (IsS51.below (zhI51 HI0.out) hb)
        replace BK167 := zbl BK167.out hb
        replace BK175 := zbl BK175.out hb
        replace HK := Aside0.mk (KeepBut.trans (zhK HK.out) (KeepBut.of_below hb g none) (.inl rfl))
        replace HB := Aside0.mk (below_step (zhB HB.out) hb)
        clear hb ho39
        refine hK.out _ _ ⟨(blk_cell BK175.out 0).trans rfl, (blk_cell BK175.out 1).trans rfl, (blk_cell BK175.out 2).trans rfl⟩ (fun hHeld => ?_)
        clear hK K
        refine norm_ (a' := ?_) ?_ ?_
        rotate_left
        ·show Act.put _ (some 26) _ = _
         simp only [Act.put, List.setIfInBounds_toArray, List.set_cons_zero, List.set_cons_succ, i64_w, i32_w]
         rfl
        exact norm_ (by simp only [putAll, Act.put, List.setIfInBounds_toArray, List.set_cons_zero, List.set_cons_succ]) (hCont (v189) _ ⟨hHeld, (by (with_reducible repeat (first | apply Kd.R_alloc | apply Kd.R_drewN | apply Kd.R_drew)); exact Kd.R_mono HO172.out (fun _ hk => hk.2)), (by (with_reducible repeat (first | apply Kd.R_alloc | apply Kd.R_drewN | apply Kd.R_drew)); exact Kd.R_mono HO190.out (fun _ hk => hk.2)), (zbx BK167.out), (zbx BK175.out), (zhI51 HI0.out), (zhK HK.out), (zhB HB.out)⟩)
       ·skip
        refine Kd.R_lit_step (Kd.int .i64) _ 3 ?hg (N := 26) ?hd (xs := ([9001, (-9001), (-9998), (-9999)] : List Int)) (inner := [.int .i64 9001, .int .i64 (-9001), .int .i64 (-9998), .int .i64 (-9999)]) (ok := fun _ => True) (okp := fun _ => True) ?hr ?hp (fun _ hk => hk) trivial (Below.refl _ _) (Nat.le_refl _) (by simp) ?_; (case hd => rfl); (case hg => rfl); (case hr => exact zsx); (case hp => exact (Reps.one (show Kd.M (Kd.int .i64) _ _ _ 9001 [.int .i64 9001] from rfl) (Reps.one (show Kd.M (Kd.int .i64) _ _ _ (-9001) [.int .i64 (-9001)] from rfl) (Reps.one (show Kd.M (Kd.int .i64) _ _ _ (-9998) [.int .i64 (-9998)] from rfl) (Reps.one (show Kd.M (Kd.int .i64) _ _ _ (-9999) [.int .i64 (-9999)] from rfl) (Reps.none _ _))))))
        intro v189 w37 ho38 hb hg_ hnew_
        clear hg_ hnew_
        (first | rw [← Ny188.out] at ho38 | (simp only [Int.reduceToNat] at ho38; rw [← Ny188.out] at ho38))
        have HO190 := Aside0.mk (Kd.R_lower (Kd.R_new' ho38 (Kd.R_lt (zRx HO172.out))) (keep_size (w := w) (g := g) (row := none) (zhK HK.out)))
        replace HO172 := Aside0.mk (Kd.R_elder' (zRx HO172.out) (Kd.R_base ho38) hb)
        replace HI0 := Aside0.mk (IsS51.below (zhI51 HI0.out) hb)
        replace BK167 := zbl BK167.out hb
        replace BK175 := zbl BK175.out hb
        replace HK := Aside0.mk (KeepBut.trans (zhK HK.out) (KeepBut.of_below hb g none) (.inl rfl))
        replace HB := Aside0.mk (below_step (zhB HB.out) hb)
        clear hb ho38
        refine hK.out _ _ ⟨(blk_cell BK175.out 0).trans rfl, (blk_cell BK175.out 1).trans rfl, (blk_cell BK175.out 2).trans rfl⟩ (fun hHeld => ?_)
        clear hK K
        refine norm_ (a' := ?_) ?_ ?_
        rotate_left
        ·show Act.put _ (some 26) _ = _
         simp only [Act.put, List.setIfInBounds_toArray, List.set_cons_zero, List.set_cons_succ, i64_w, i32_w]
         rfl
        refine one_ (i := 6) (N := some 24) #[T,T,T,T,T,T,T,T,T,F,F,F] rfl rfl (one_of HT_.out (by kernel_rfl)) (by decide) (fun K hK => ?_)
        refine goes_ Try.func52 (by kernel_rfl) rfl #[.pointer (some ⟨g, 0, none⟩), .int .i64 (t170.length : Int)] (by rfl) rfl rfl zlx ?_
        with_reducible refine (spec_l1Cur_pick.calls g s0_0 t177 t178 (t170.length : Int) t185 t186 t187 w0 _ ?side1 ?side2 A23.out).mono ?_
        (case side1 => exact zhI51 HI0.out)
        (case side2 => exact zhB HB.out)
        rintro e w39 ⟨rfl, hi, hb, hk⟩
        refine ⟨_, rfl, ?_⟩
        replace BK167 := Aside0.mk (KeepBut.blk hk (g' := gb167) (o := .cells #[.int .i64 0, .int .i64 0, .slice none 0 0] 26 (0, 0)) (zbx BK167.out) NB167_0.out (by simp))
        replace HO172 := Aside0.mk (Kd.R_mono (Kd.R_keep (IsS51.apart (show IsS51 w0 _ g s0_0 t177 t178 from zhI51 HI0.out) (zRx HO172.out) (by decide)) hk (fun _ h => h.2)) (fun _ h => h.1))
        replace BK175 := Aside0.mk (KeepBut.blk hk (g' := gb175) (o := .cells #[.int .i64 t168, .int .i64 t169, .slice Ao34 t170.length co34] 26 (0, 0)) (zbx BK175.out) NB175_0.out (by simp))
        replace HO190 := Aside0.mk (Kd.R_mono (Kd.R_keep (IsS51.apart (show IsS51 w0 _ g s0_0 t177 t178 from zhI51 HI0.out) (zRx HO190.out) (by decide)) hk (fun _ h => h.2)) (fun _ h => h.1))
        replace HK := Aside0.mk (KeepBut.trans (zhK HK.out) hk (.inl rfl))
        replace HB := Aside0.mk (hb)
        replace HI0 := Aside0.mk (hi)
        (try clear hb)
        (try clear hb2)
        (try clear hk)
        (try clear hi)
        refine hK.out _ _ ⟨(blk_cell BK175.out 0).trans rfl, (blk_cell BK175.out 1).trans rfl, (blk_cell BK175.out 2).trans rfl⟩ (fun hHeld => ?_)
        clear hK K
        refine norm_ (a' := ?_) ?_ ?_
        rotate_left
        ·show Act.put _ (some 24) _ = _
         simp only [Act.put, List.setIfInBounds_toArray, List.set_cons_zero, List.set_cons_succ, i64_w, i32_w]
         rfl
        exact norm_ (by simp only [putAll, Act.put, List.setIfInBounds_toArray, List.set_cons_zero, List.set_cons_succ]) (hCont (v189) _ ⟨hHeld, (by (with_reducible repeat (first | apply Kd.R_alloc | apply Kd.R_drewN | apply Kd.R_drew)); exact Kd.R_mono HO172.out (fun _ hk => hk.2)), (by (with_reducible repeat (first | apply Kd.R_alloc | apply Kd.R_drewN | apply Kd.R_drew)); exact Kd.R_mono HO190.out (fun _ hk => hk.2)), (zbx BK167.out), (zbx BK175.out), (zhI51 HI0.out), (zhK HK.out), (zhB HB.out)⟩)
      rintro v189 w40 ⟨hS_, h0_, h1_, h2_, h3_, h4_, h5_, h6_⟩
      replace HO172 : Aside0 (Kd.R (Kd.int .i64) 3 w40 w.heap.size (fun k_ => some k_ ≠ (v189 : Value).ownBlock) (.slice Ao34 t170.length co34) t170) := ⟨h0_⟩
      have HO190 : Aside0 (Kd.R (Kd.int .i64) 3 w40 w.heap.size (fun k_ => some k_ ≠ (.slice Ao34 t170.length co34 : Value).ownBlock) v189 y188) := ⟨h1_⟩
      replace BK167 : Aside0 (w40.heap[gb167]? = some (.cells #[.int .i64 0, .int .i64 0, .slice none 0 0] 26 (0, 0))) := ⟨h2_⟩
      replace BK175 : Aside0 (w40.heap[gb175]? = some (.cells #[.int .i64 t168, .int .i64 t169, .slice Ao34 t170.length co34] 26 (0, 0))) := ⟨h3_⟩
      replace HI0 : Aside0 (IsS51 w0 w40 g s0_0 t186 t187) := ⟨h4_⟩
      replace HK : Aside0 (KeepBut w w40 g none) := ⟨h5_⟩
      replace HB : Aside0 (Below w0.heap.size w0 w40) := ⟨h6_⟩
      clear h0_
      clear h1_
      clear h2_
      clear h3_
      clear h4_
      clear h5_
      clear h6_
      have hHeld : w40.cell? ⟨gb175, 0, none⟩ = some (.int .i64 t168) ∧ w40.cell? ⟨gb175, 1, none⟩ = some (.int .i64 t169) ∧ w40.cell? ⟨gb175, 2, none⟩ = some (.slice Ao34 t170.length co34) := hS_
      obtain ⟨Ao41, co41, eo41⟩ := Kd.R_slice HO190.out
      (first | subst eo41 | (injection eo41 with f1_ f2_ f3_; have f4_ := f1_.symm; have f5_ := f3_.symm; clear f1_ f2_ f3_; subst f4_; subst f5_))
      refine norm_ (a' := ?_) ?_ ?_
      rotate_left
      ·simp only [putAll, Act.put, List.setIfInBounds_toArray, List.set_cons_zero, List.set_cons_succ]
       rfl
      refine one_ (i := 9) (N := some 27) #[T,T,T,T,T,T,T,T,T,T,F,F] rfl rfl (one_of HT_.out (by kernel_rfl)) (by decide) (fun K hK => ?_)
      refine goes_ Try.func33 (by kernel_rfl) rfl #[.pointer (some ⟨g, 0, none⟩), .slice Ao41 y188.length co41] (by rfl) rfl rfl zlx ?_
      with_reducible refine (spec_l1Cur_among.calls g s0_0 t186 t187 _ _ y188 t191 t192 t193 w0 _ ?side1 ?side2 ?side3 ?side4 ?side5 A24.out).mono ?_
      (case side1 => exact zhI51 HI0.out)
      (case side2 => exact zhB HB.out)
      (case side3 => repeat (first | exact (Kd.R_reads' HO190.out).2.2 | (with_reducible refine Kd.C_alloc ?_ _) | (with_reducible refine Kd.C_drewN ?_ _) | (with_reducible refine Kd.C_drew ?_)))
      (case side4 => exact (Kd.R_reads' HO190.out).2.1)
      (case side5 => exact far_slice (IsS51.own_ne HI0.out HO190.out (by decide)))
      rintro e w42 ⟨rfl, hi, hb, hk⟩
      refine ⟨_, rfl, ?_⟩
      replace BK167 := Aside0.mk (KeepBut.blk hk (g' := gb167) (o := .cells #[.int .i64 0, .int .i64 0, .slice none 0 0] 26 (0, 0)) (zbx BK167.out) NB167_0.out (by simp))
      replace HO172 := Aside0.mk (Kd.R_mono (Kd.R_keep (IsS51.apart (show IsS51 w0 _ g s0_0 t186 t187 from zhI51 HI0.out) (zRx HO172.out) (by decide)) hk (fun _ h => h.2)) (fun _ h => h.1))
      replace BK175 := Aside0.mk (KeepBut.blk hk (g' := gb175) (o := .cells #[.int .i64 t168, .int .i64 t169, .slice Ao34 t170.length co34] 26 (0, 0)) (zbx BK175.out) NB175_0.out (by simp))
      replace HO190 := Aside0.mk (Kd.R_mono (Kd.R_keep (IsS51.apart (show IsS51 w0 _ g s0_0 t186 t187 from zhI51 HI0.out) (zRx HO190.out) (by decide)) hk (fun _ h => h.2)) (fun _ h => h.1))
      replace HK := Aside0.mk (KeepBut.trans (zhK HK.out) hk (.inl rfl))
      replace HB := Aside0.mk (hb)
      replace HI0 := Aside0.mk (hi)
      (try clear hb)
      (try clear hb2)
      (try clear hk)
      (try clear hi)
      have p27 : 0 ≤ (t185 : Int) := of_decide_eq_true zax
      have q27 : (t185 : Int) < ((t170.length : Int) : Int) := of_decide_eq_true zax
      obtain ⟨go27, co27, eo27, gb27, gl27, cl27, HG27⟩ := Kd.R_form HO172.out (by omega)
      (first | cases eo27 | (injection eo27 with ea_ en_ ec_; (first | subst ea_ | (injection ea_ with ea_; subst ea_)); subst ec_; clear en_))
      have GB27 := Aside0.mk gb27
      have GG27 := Aside0.mk HG27
      clear gb27 gl27 HG27
      obtain ⟨hx27_0, hf27_0⟩ := Kd.R_celln 0 HO172.out (t185 : Int) p27 q27
      replace p27 := eq_true p27
      replace q27 := eq_true q27
      have HN0_go27 := Aside0.mk (show g ≠ go27 from by have h_ := IsS51.own_ne HI0.out HO172.out (by decide); intro e_; exact h_ (by rw [e_]; rfl))
      have HP43 := Kd.R_putn HO172.out (t185 : Int) t191
      rw [← Ny194.out] at HP43
      have HQ43 := Aside0.mk HP43
      clear HP43
      refine hK.out _ _ ⟨(blk_cell BK175.out 0).trans rfl, (blk_cell BK175.out 1).trans rfl, (blk_cell BK175.out 2).trans rfl⟩ (fun hHeld => ?_)
      clear hK K
      refine norm_ (a' := ?_) ?_ ?_
      rotate_left
      ·show Act.put _ (some 27) _ = _
       simp only [Act.put, List.setIfInBounds_toArray, List.set_cons_zero, List.set_cons_succ, i64_w, i32_w]
       rfl
      refine pure_ (i := 10) (N := some 28) (v := ?_) (a' := ?_) #[T,T,T,T,T,T,T,T,T,T,T,F] rfl rfl (any_of HT_.out (by kernel_rfl)) (fun _ _ _ h => h) (Or.inl ⟨by rfl, ?_⟩) ?_ ?_
      rotate_left
      ·exact zwx
      rotate_left
      ·exact zpx
      refine last_ (i := 11) (N := none) #[T,T,T,T,T,T,T,T,T,T,T,T] rfl rfl (one_of HT_.out (by kernel_rfl)) (by decide) (fun K hK => ?_)
      refine skip_ (w1 := ?_) (by rfl) rfl ?_ ?_
      rotate_left
      ·go_simp
       rfl
      refine hK.out _ _ ?_
      clear hK K
      refine done_ (done_of HT_.out (by kernel_rfl)) ?_
      have n0_ : Aside0 (Kd.R (Kd.int .i64) 3 (w42.setCell ⟨go27, (t185 : Int).toNat, none⟩ (.int .i64 t191)) w.heap.size (fun k_ => some k_ ≠ (.slice Ao41 y188.length co41 : Value).ownBlock) (.slice (some ⟨go27, 0, none⟩) t170.length co34) y194) := ⟨by (with_reducible repeat (first | apply Kd.R_alloc | apply Kd.R_drewN | apply Kd.R_drew)); exact HQ43.out⟩
      have n1_ : Aside0 (Kd.R (Kd.int .i64) 3 (w42.setCell ⟨go27, (t185 : Int).toNat, none⟩ (.int .i64 t191)) w.heap.size (fun k_ => some k_ ≠ (.slice (some ⟨go27, 0, none⟩) t170.length co34 : Value).ownBlock) (.slice Ao41 y188.length co41) y188) := ⟨by (with_reducible repeat (first | apply Kd.R_alloc | apply Kd.R_drewN | apply Kd.R_drew)); exact Kd.R_mono (Kd.R_far (p := ⟨go27, (t185 : Int).toNat, none⟩) (Kd.R_mono HO190.out (fun k_ hk => (⟨hk, fun e_ => hk (by rw [e_]; rfl)⟩ : _ ∧ k_ ≠ go27))) (fun _ hk => hk.2) (.int .i64 t191)) (fun _ hk => hk.1)⟩
      have n2_ : Aside0 ((w42.setCell ⟨go27, (t185 : Int).toNat, none⟩ (.int .i64 t191)).heap[gb167]? = some (.cells #[.int .i64 0, .int .i64 0, .slice none 0 0] 26 (0, 0))) := ⟨by refine zbx ?_; refine blk_far ?_ (by have h_ := Kd.R_ne HO172.out BK167.out (by decide); intro e_; exact h_ (by rw [e_]; rfl)) _; refine zbx ?_; exact BK167.out⟩
      have n3_ : Aside0 ((w42.setCell ⟨go27, (t185 : Int).toNat, none⟩ (.int .i64 t191)).heap[gb175]? = some (.cells #[.int .i64 t168, .int .i64 t169, .slice (some ⟨go27, 0, none⟩) t170.length co34] 26 (0, 0))) := ⟨by refine zbx ?_; refine blk_far ?_ (by have h_ := Kd.R_ne HO172.out BK175.out (by decide); intro e_; exact h_ (by rw [e_]; rfl)) _; refine zbx ?_; exact BK175.out⟩
      have n4_ : Aside0 (IsS51 w0 (w42.setCell ⟨go27, (t185 : Int).toNat, none⟩ (.int .i64 t191)) g s0_0 t192 t193) := ⟨zhI51 HI0.out⟩
      have n5_ : Aside0 (KeepBut w (w42.setCell ⟨go27, (t185 : Int).toNat, none⟩ (.int .i64 t191)) g none) := ⟨zhK HK.out⟩
      have n6_ : Aside0 (Below w0.heap.size w0 (w42.setCell ⟨go27, (t185 : Int).toNat, none⟩ (.int .i64 t191))) := ⟨by repeat (first | (with_reducible first | exact HB.out | apply below_alloc | apply pw_below_drewN | apply below_drew1 | refine below_set ?_ (Nat.le_trans HL.out GB27.out) | refine below_set ?_ (IsS51.ge HI0.out) | refine below_set ?_ GE167.out | refine below_set ?_ GE175.out) | exact HB.out)⟩
      (try clear HO172)
      (try clear HO190)
      (try clear BK167)
      (try clear BK175)
      (try clear HI0)
      (try clear HK)
      (try clear HB)
      generalize (w42.setCell ⟨go27, (t185 : Int).toNat, none⟩ (.int .i64 t191)) = w44 at n0_ n1_ n2_ n3_ n4_ n5_ n6_ ⊢
      have HO172 := n0_
      have HO190 := n1_
      have BK167 := n2_
      have BK175 := n3_
      have HI0 := n4_
      have HK := n5_
      have HB := n6_
      clear n0_ n1_ n2_ n3_ n4_ n5_ n6_
      have hcz45_0 : w44.cell? ⟨gb175, 0, none⟩ = some (.int .i64 t168) := (blk_cell BK175.out 0).trans rfl
      have hcz45_1 : w44.cell? ⟨gb175, 1, none⟩ = some (.int .i64 t169) := (blk_cell BK175.out 1).trans rfl
      have hcz45_2 : w44.cell? ⟨gb175, 2, none⟩ = some (.slice (some ⟨go27, 0, none⟩) t170.length co34) := (blk_cell BK175.out 2).trans rfl
      have hfz45_0 := blk_frozen BK175.out 0
      have hfz45_1 := blk_frozen BK175.out 1
      have hfz45_2 := blk_frozen BK175.out 2
      have hnb46 := NB167_0.out
      have hnc46 := NB0_167.out
      have hcz47_0 : w44.cell? ⟨gb167, 0, none⟩ = some (.int .i64 0) := (blk_cell BK167.out 0).trans rfl
      have hcz47_1 : w44.cell? ⟨gb167, 1, none⟩ = some (.int .i64 0) := (blk_cell BK167.out 1).trans rfl
      have hcz47_2 : w44.cell? ⟨gb167, 2, none⟩ = some (.slice none 0 0) := (blk_cell BK167.out 2).trans rfl
      have hfz47_0 := blk_frozen BK167.out 0
      have hfz47_1 := blk_frozen BK167.out 1
      have hfz47_2 := blk_frozen BK167.out 2
      try go_wp2
      refine bodyPost_ret (results_cell_row rfl _ _ gb167 26 #[.int .i64 t168, .int .i64 t169, .slice (some ⟨go27, 0, none⟩) t170.length co34] (0, 0) _ rfl (by refine zbx ?_; refine blk_put (cs := #[.int .i64 t168, .int .i64 t169, .slice none 0 0]) ?_ 2 _ rfl; refine zbx ?_; refine blk_put (cs := #[.int .i64 t168, .int .i64 0, .slice none 0 0]) ?_ 1 _ rfl; refine zbx ?_; refine blk_put (cs := #[.int .i64 0, .int .i64 0, .slice none 0 0]) ?_ 0 _ rfl; refine zbx ?_; exact BK167.out) Try.underlying26 rfl (by kernel_rfl)) rfl ?_
      exact ⟨_, by first | rfl | (simp [errW_none, errW_some] <;> rfl) | (simp [*, errW_none, errW_some] <;> rfl), Kd.Q_of_R (by (with_reducible repeat (first | apply Kd.R_alloc | apply Kd.R_drewN | apply Kd.R_drew)); exact Kd.R_mono (Kd.R_far (p := ⟨gb167, 2, none⟩) (Kd.R_far (p := ⟨gb167, 1, none⟩) (Kd.R_far (p := ⟨gb167, 0, none⟩) (Kd.R_types HO172.out BK167.out (by decide)) (fun _ hk => hk.2) (.int .i64 t168)) (fun _ hk => hk.2) (.int .i64 t169)) (fun _ hk => hk.2) (.slice (some ⟨go27, 0, none⟩) t170.length co34)) (fun _ hk => trivial)), zhI51 HI0.out, zhB HB.out, zhK HK.out⟩
    ·rw [if_neg c26] at H
     exact absurd H (by simp)
   ·rw [if_neg c25] at H
    exact absurd H (by simp)
  ·rw [if_neg c22] at H
   have c22b0 : (t176 == 1) = false := beq_eq_false_iff_ne.mpr c22
   have c22b1 : (t176 != 1) = true := bne_iff_ne.mpr c22
   by_cases c48 : t176 = 2
   ·rw [if_pos c48] at H
    have c48b0 : (t176 == 2) = true := beq_iff_eq.mpr c48
    have c48b1 : (t176 != 2) = false := bne_eq_false_iff_eq.mpr c48
    clear c48
    by_cases c49 : 1 ≤ (t170.length : Int)
    ·rw [if_pos c49] at H
     have c49b0 := eq_true c49
     have c49b1 : decide (1 ≤ (t170.length : Int)) = true := decide_eq_true c49
     clear c49
     obtain ⟨y195, hy195⟩ : ∃ y_ : List Int, y_ = (t170.drop (1 : Int).toNat) := ⟨_, rfl⟩
     replace H : (some (t168, t169, y195, t177, t178)) = some (r1, r2, r3, r4, r5) := by first | (rw [hy195]; with_reducible exact H) | (have H2_ := (Option.bind_some _ _).symm.trans H; rw [hy195]; with_reducible exact H2_) | (have H2_ := (Option.bind_some _ _).symm.trans H; with_reducible exact H2_) | with_reducible exact H | (rw [hy195]; exact H) | exact H
     have Ny195 := Aside0.mk hy195
     clear hy195
     focus
      simp only [Option.some.injEq, Prod.mk.injEq] at H
      obtain ⟨rfl, rfl, rfl, rfl, rfl⟩ := H
      go_enter Try.func31, Try.ntmps31
      go_wp2_with (first | ((with_reducible refine gate_dst (N := 2) rfl ?_); refine box_event ?hg (N := 2) ?hd (cs := #[.int .i64 0, .int .i64 0, .slice none 0 0]) (t := 26) ?hr ?_; (case hd => rfl); (case hg => rfl); (case hr => exact zsx); intro gb167 hg w50 hbox hb; replace HB := Aside0.mk (below_step (by first | exact zBy HB.out (IsS51.ge HI0.out) | exact zBx HB.out) hb); have BK167 := Aside0.mk (hbox); have GW167 := Aside0.mk ((by rw [hg]; exact (keep_size (w := w) (g := g) (row := none) (zKx HK.out)) : w.heap.size ≤ gb167)); have GE167 := Aside0.mk ((Nat.le_trans HW0.out (by rw [hg]; exact (keep_size (w := w) (g := g) (row := none) (zKx HK.out)) : w.heap.size ≤ gb167) : w0.heap.size ≤ gb167)); replace HK := Aside0.mk (KeepBut.trans (zKx HK.out) (KeepBut.of_below hb g none) (.inl rfl)); have NB0_167 := Aside0.mk ((by rw [hg]; exact Nat.ne_of_lt (IsS51.lt (show IsS51 w0 _ g s0_0 s0_1 s0_2 from IsS51.zI HI0.out)) : g ≠ gb167)); have NB167_0 := Aside0.mk ((by rw [hg]; exact Nat.ne_of_gt (IsS51.lt (show IsS51 w0 _ g s0_0 s0_1 s0_2 from IsS51.zI HI0.out)) : gb167 ≠ g)); replace HI0 := Aside0.mk (IsS51.below (IsS51.zI HI0.out) hb); clear hb hbox hg) | ((with_reducible refine gate_callee (f := 51) rfl ?_); refine goesL_ (some 5) rfl rfl Try.func51 (by kernel_rfl) rfl #[.pointer (some ⟨g, 0, none⟩)] rfl zlx ?_; (with_reducible refine (spec_l1Cur_field.calls k g s0_0 s0_1 s0_2 t168 t169 t170 t173 t174 w0 _ ?side1 ?side2 A2.out).mono ?_); (case side1 => exact IsS51.zJ HI0.out NB0_167.out); (case side2 => first | exact zBz HB.out (IsS51.ge HI0.out) GE167.out | exact zBy HB.out GE167.out); rintro e w51 ⟨v171, rfl, ho0, hi, hb, hk⟩; refine ⟨_, rfl, ?_⟩; replace BK167 := Aside0.mk (KeepBut.blk hk (g' := gb167) (o := .cells #[.int .i64 0, .int .i64 0, .slice none 0 0] 26 (0, 0)) (zbx BK167.out) NB167_0.out (by simp)); have HO172 := Aside0.mk (Kd.R_lower ho0 (keep_size (w := w) (g := g) (row := none) (zKy HK.out GW167.out))); replace HK := Aside0.mk (KeepBut.trans (zKy HK.out GW167.out) hk (.inl rfl)); replace HB := Aside0.mk (hb); replace HI0 := Aside0.mk (hi); (try clear hb); (try clear hb2); (try clear hk); (try clear hi); (try clear ho0)) | ((with_reducible refine gate_dst (N := 3) rfl ?_); refine box_event ?hg (N := 3) ?hd (cs := #[.int .i64 0, .int .i64 0, .slice none 0 0]) (t := 26) ?hr ?_; (case hd => rfl); (case hg => rfl); (case hr => exact zsx); intro gb175 hg w52 hbox hb; replace HO172 := Aside0.mk (Kd.R_below (zRx HO172.out) hb); replace HB := Aside0.mk (below_step (by first | exact zBz HB.out (IsS51.ge HI0.out) GE167.out | exact zBy HB.out GE167.out) hb); have BK175 := Aside0.mk (hbox); have GW175 := Aside0.mk ((by rw [hg]; exact (keep_size (w := w) (g := g) (row := none) (zKy HK.out GW167.out)) : w.heap.size ≤ gb175)); have GE175 := Aside0.mk ((Nat.le_trans HW0.out (by rw [hg]; exact (keep_size (w := w) (g := g) (row := none) (zKy HK.out GW167.out)) : w.heap.size ≤ gb175) : w0.heap.size ≤ gb175)); replace HK := Aside0.mk (KeepBut.trans (zKy HK.out GW167.out) (KeepBut.of_below hb g none) (.inl rfl)); have NB167_175 := znl hg BK167.out; have NB175_167 := zng hg BK167.out; replace BK167 := zbl BK167.out hb; have NB0_175 := Aside0.mk ((by rw [hg]; exact Nat.ne_of_lt (IsS51.lt (show IsS51 w0 _ g s0_0 t173 t174 from IsS51.zJ HI0.out NB0_167.out)) : g ≠ gb175)); have NB175_0 := Aside0.mk ((by rw [hg]; exact Nat.ne_of_gt (IsS51.lt (show IsS51 w0 _ g s0_0 t173 t174 from IsS51.zJ HI0.out NB0_167.out)) : gb175 ≠ g)); replace HI0 := Aside0.mk (IsS51.below (IsS51.zF HI0.out NB0_167.out) hb); clear hb hbox hg; have hnb53 := NB175_167.out; have hnc53 := NB167_175.out; have hnb54 := NB175_0.out; have hnc54 := NB0_175.out; have hcz55_0 : w52.cell? ⟨gb175, 0, none⟩ = some (.int .i64 0) := (blk_cell BK175.out 0).trans rfl; have hcz55_1 : w52.cell? ⟨gb175, 1, none⟩ = some (.int .i64 0) := (blk_cell BK175.out 1).trans rfl; have hcz55_2 : w52.cell? ⟨gb175, 2, none⟩ = some (.slice none 0 0) := (blk_cell BK175.out 2).trans rfl; have hfz55_0 := blk_frozen BK175.out 0; have hfz55_1 := blk_frozen BK175.out 1; have hfz55_2 := blk_frozen BK175.out 2; obtain ⟨Ao56, co56, eo56⟩ := Kd.R_slice HO172.out; subst eo56) | ((with_reducible refine gate_callee (f := 52) rfl ?_); refine goesL_ (some 7) rfl rfl Try.func52 (by kernel_rfl) rfl #[.pointer (some ⟨g, 0, none⟩), .int .i64 24] rfl zlx ?_; (with_reducible refine (spec_l1Cur_pick.calls g s0_0 t173 t174 24 t176 t177 t178 w0 _ ?side1 ?side2 A3.out).mono ?_); (case side1 => exact zhI51 HI0.out); (case side2 => exact zhB HB.out); rintro e w57 ⟨rfl, hi, hb, hk⟩; refine ⟨_, rfl, ?_⟩; replace BK167 := Aside0.mk (KeepBut.blk hk (g' := gb167) (o := .cells #[.int .i64 0, .int .i64 0, .slice none 0 0] 26 (0, 0)) (zbq BK167.out) NB167_0.out (by simp)); replace HO172 := Aside0.mk (Kd.R_mono (Kd.R_keep (IsS51.apart (show IsS51 w0 _ g s0_0 t173 t174 from zhI51 HI0.out) (by (with_reducible repeat (first | apply Kd.R_alloc | apply Kd.R_drewN | apply Kd.R_drew)); exact (Kd.R_mono (Kd.R_far (p := ⟨gb175, 2, none⟩) (Kd.R_far (p := ⟨gb175, 1, none⟩) (Kd.R_far (p := ⟨gb175, 0, none⟩) (Kd.R_types HO172.out BK175.out (by decide)) (fun _ hk => hk.2) (.int .i64 t168)) (fun _ hk => hk.2) (.int .i64 t169)) (fun _ hk => hk.2) (.slice Ao56 t170.length co56)) (fun _ h_ => h_.1))) (by decide)) hk (fun _ h => h.2)) (fun _ h => h.1)); replace BK175 := Aside0.mk (KeepBut.blk hk (g' := gb175) (o := .cells #[.int .i64 t168, .int .i64 t169, .slice Ao56 t170.length co56] 26 (0, 0)) (by refine zbx ?_; refine blk_put (cs := #[.int .i64 t168, .int .i64 t169, .slice none 0 0]) ?_ 2 _ rfl; refine zbx ?_; refine blk_put (cs := #[.int .i64 t168, .int .i64 0, .slice none 0 0]) ?_ 1 _ rfl; refine zbx ?_; refine blk_put (cs := #[.int .i64 0, .int .i64 0, .slice none 0 0]) ?_ 0 _ rfl; refine zbx ?_; exact BK175.out) NB175_0.out (by simp)); replace HK := Aside0.mk (KeepBut.trans (zhK HK.out) hk (.inl rfl)); replace HB := Aside0.mk (hb); replace HI0 := Aside0.mk (hi); (try clear hb); (try clear hb2); (try clear hk); (try clear hi); have hcz58_0 : w57.cell? ⟨gb175, 0, none⟩ = some (.int .i64 t168) := (blk_cell BK175.out 0).trans rfl; have hcz58_1 : w57.cell? ⟨gb175, 1, none⟩ = some (.int .i64 t169) := (blk_cell BK175.out 1).trans rfl; have hcz58_2 : w57.cell? ⟨gb175, 2, none⟩ = some (.slice Ao56 t170.length co56) := (blk_cell BK175.out 2).trans rfl; have hfz58_0 := blk_frozen BK175.out 0; have hfz58_1 := blk_frozen BK175.out 1; have hfz58_2 := blk_frozen BK175.out 2; have q59 : (1 : Int) ≤ ((t170.length : Int) : Int) := of_decide_eq_true zax; obtain ⟨i059, hi059, _, hsz59, _⟩ := info_parts info3; have hcut59 := cut_from (P := Try.prog) 24 3 .i64 Try.underlying24 hi059 1 hsz59 Ao56 t170.length co56 1 (by omega) q59; have hr59 := Kd.Q_drop (k := (1 : Int).toNat) (Kd.Q_of_R HO172.out) (by omega); obtain ⟨A59, hA59⟩ : ∃ A1, A1 = (if co56 = (1 : Int).toNat then Ao56 else (Ao56 : Option Addr).map (·.add ((1 : Int).toNat * 1))) := ⟨_, rfl⟩; obtain ⟨c59, hc59⟩ : ∃ c1, c1 = co56 - (1 : Int).toNat := ⟨_, rfl⟩; have hy59 : y195.length = t170.length - (1 : Int).toNat := (by rw [Ny195.out, List.length_drop]); rw [← Ny195.out] at hr59; rw [← hy59, ← hA59, ← hc59] at hcut59; replace hr59 : Kd.Q (Kd.int .i64) 3 w57 w.heap.size (fun _ => True) (.slice A59 y195.length c59) y195 := (by rw [hA59, hc59, hy59]; exact hr59); have HE59 : Aside0 ((Value.slice A59 y195.length c59).ownBlock = (.slice Ao56 t170.length co56 : Value).ownBlock) := ⟨by rw [hA59]; split <;> (cases (Ao56 : Option Addr) <;> rfl)⟩; clear hy59 hi059 hsz59 HO172 hA59 hc59; have HO197 := Aside0.mk hr59; clear hr59; replace q59 := eq_true q59; have hnb60 := NB167_0.out; have hnc60 := NB0_167.out; have hcz61_0 : w57.cell? ⟨gb167, 0, none⟩ = some (.int .i64 0) := (blk_cell BK167.out 0).trans rfl; have hcz61_1 : w57.cell? ⟨gb167, 1, none⟩ = some (.int .i64 0) := (blk_cell BK167.out 1).trans rfl; have hcz61_2 : w57.cell? ⟨gb167, 2, none⟩ = some (.slice none 0 0) := (blk_cell BK167.out 2).trans rfl; have hfz61_0 := blk_frozen BK167.out 0; have hfz61_1 := blk_frozen BK167.out 1; have hfz61_2 := blk_frozen BK167.out 2))
      refine bodyPost_ret (results_cell_row rfl _ _ gb167 26 #[.int .i64 t168, .int .i64 t169, .slice A59 y195.length c59] (0, 0) _ rfl (by refine zbx ?_; refine blk_put (cs := #[.int .i64 t168, .int .i64 t169, .slice none 0 0]) ?_ 2 _ rfl; refine zbx ?_; refine blk_put (cs := #[.int .i64 t168, .int .i64 0, .slice none 0 0]) ?_ 1 _ rfl; refine zbx ?_; refine blk_put (cs := #[.int .i64 0, .int .i64 0, .slice none 0 0]) ?_ 0 _ rfl; refine zbx ?_; refine blk_far ?_ NB167_175.out _; refine zbx ?_; exact BK167.out) Try.underlying26 rfl (by kernel_rfl)) rfl ?_
      exact ⟨_, by first | rfl | (simp [errW_none, errW_some] <;> rfl) | (simp [*, errW_none, errW_some] <;> rfl), by (with_reducible repeat (first | apply Kd.Q_alloc | apply Kd.Q_drewN | apply Kd.Q_drew)); exact Kd.Q_mono (Kd.Q_far (p := ⟨gb167, 2, none⟩) (Kd.Q_far (p := ⟨gb167, 1, none⟩) (Kd.Q_far (p := ⟨gb167, 0, none⟩) (Kd.Q_far (p := ⟨gb175, 2, none⟩) (Kd.Q_types (Kd.Q_types HO197.out BK175.out (by decide)) BK167.out (by decide)) (fun _ hk => hk.1.2) (.slice A59 y195.length c59)) (fun _ hk => hk.2) (.int .i64 t168)) (fun _ hk => hk.2) (.int .i64 t169)) (fun _ hk => hk.2) (.slice A59 y195.length c59)) (fun _ hk => trivial), zhI51 HI0.out, zhB HB.out, zhK HK.out⟩
    ·rw [if_neg c49] at H
     exact absurd H (by simp)
   ·rw [if_neg c48] at H
    have c48b0 : (t176 == 2) = false := beq_eq_false_iff_ne.mpr c48
    have c48b1 : (t176 != 2) = true := bne_iff_ne.mpr c48
    focus
     simp only [Option.some.injEq, Prod.mk.injEq] at H
     obtain ⟨rfl, rfl, rfl, rfl, rfl⟩ := H
     go_enter Try.func31, Try.ntmps31
     go_wp2_with (first | ((with_reducible refine gate_dst (N := 2) rfl ?_); refine box_event ?hg (N := 2) ?hd (cs := #[.int .i64 0, .int .i64 0, .slice none 0 0]) (t := 26) ?hr ?_; (case hd => rfl); (case hg => rfl); (case hr => exact zsx); intro gb167 hg w62 hbox hb; replace HB := Aside0.mk (below_step (by first | exact zBy HB.out (IsS51.ge HI0.out) | exact zBx HB.out) hb); have BK167 := Aside0.mk (hbox); have GW167 := Aside0.mk ((by rw [hg]; exact (keep_size (w := w) (g := g) (row := none) (zKx HK.out)) : w.heap.size ≤ gb167)); have GE167 := Aside0.mk ((Nat.le_trans HW0.out (by rw [hg]; exact (keep_size (w := w) (g := g) (row := none) (zKx HK.out)) : w.heap.size ≤ gb167) : w0.heap.size ≤ gb167)); replace HK := Aside0.mk (KeepBut.trans (zKx HK.out) (KeepBut.of_below hb g none) (.inl rfl)); have NB0_167 := Aside0.mk ((by rw [hg]; exact Nat.ne_of_lt (IsS51.lt (show IsS51 w0 _ g s0_0 s0_1 s0_2 from IsS51.zI HI0.out)) : g ≠ gb167)); have NB167_0 := Aside0.mk ((by rw [hg]; exact Nat.ne_of_gt (IsS51.lt (show IsS51 w0 _ g s0_0 s0_1 s0_2 from IsS51.zI HI0.out)) : gb167 ≠ g)); replace HI0 := Aside0.mk (IsS51.below (IsS51.zI HI0.out) hb); clear hb hbox hg) | ((with_reducible refine gate_callee (f := 51) rfl ?_); refine goesL_ (some 5) rfl rfl Try.func51 (by kernel_rfl) rfl #[.pointer (some ⟨g, 0, none⟩)] rfl zlx ?_; (with_reducible refine (spec_l1Cur_field.calls k g s0_0 s0_1 s0_2 t168 t169 t170 t173 t174 w0 _ ?side1 ?side2 A2.out).mono ?_); (case side1 => exact IsS51.zJ HI0.out NB0_167.out); (case side2 => first | exact zBz HB.out (IsS51.ge HI0.out) GE167.out | exact zBy HB.out GE167.out); rintro e w63 ⟨v171, rfl, ho0, hi, hb, hk⟩; refine ⟨_, rfl, ?_⟩; replace BK167 := Aside0.mk (KeepBut.blk hk (g' := gb167) (o := .cells #[.int .i64 0, .int .i64 0, .slice none 0 0] 26 (0, 0)) (zbx BK167.out) NB167_0.out (by simp)); have HO172 := Aside0.mk (Kd.R_lower ho0 (keep_size (w := w) (g := g) (row := none) (zKy HK.out GW167.out))); replace HK := Aside0.mk (KeepBut.trans (zKy HK.out GW167.out) hk (.inl rfl)); replace HB := Aside0.mk (hb); replace HI0 := Aside0.mk (hi); (try clear hb); (try clear hb2); (try clear hk); (try clear hi); (try clear ho0)) | ((with_reducible refine gate_dst (N := 3) rfl ?_); refine box_event ?hg (N := 3) ?hd (cs := #[.int .i64 0, .int .i64 0, .slice none 0 0]) (t := 26) ?hr ?_; (case hd => rfl); (case hg => rfl); (case hr => exact zsx); intro gb175 hg w64 hbox hb; replace HO172 := Aside0.mk (Kd.R_below (zRx HO172.out) hb); replace HB := Aside0.mk (below_step (by first | exact zBz HB.out (IsS51.ge HI0.out) GE167.out | exact zBy HB.out GE167.out) hb); have BK175 := Aside0.mk (hbox); have GW175 := Aside0.mk ((by rw [hg]; exact (keep_size (w := w) (g := g) (row := none) (zKy HK.out GW167.out)) : w.heap.size ≤ gb175)); have GE175 := Aside0.mk ((Nat.le_trans HW0.out (by rw [hg]; exact (keep_size (w := w) (g := g) (row := none) (zKy HK.out GW167.out)) : w.heap.size ≤ gb175) : w0.heap.size ≤ gb175)); replace HK := Aside0.mk (KeepBut.trans (zKy HK.out GW167.out) (KeepBut.of_below hb g none) (.inl rfl)); have NB167_175 := znl hg BK167.out; have NB175_167 := zng hg BK167.out; replace BK167 := zbl BK167.out hb; have NB0_175 := Aside0.mk ((by rw [hg]; exact Nat.ne_of_lt (IsS51.lt (show IsS51 w0 _ g s0_0 t173 t174 from IsS51.zJ HI0.out NB0_167.out)) : g ≠ gb175)); have NB175_0 := Aside0.mk ((by rw [hg]; exact Nat.ne_of_gt (IsS51.lt (show IsS51 w0 _ g s0_0 t173 t174 from IsS51.zJ HI0.out NB0_167.out)) : gb175 ≠ g)); replace HI0 := Aside0.mk (IsS51.below (IsS51.zF HI0.out NB0_167.out) hb); clear hb hbox hg; have hnb65 := NB175_167.out; have hnc65 := NB167_175.out; have hnb66 := NB175_0.out; have hnc66 := NB0_175.out; have hcz67_0 : w64.cell? ⟨gb175, 0, none⟩ = some (.int .i64 0) := (blk_cell BK175.out 0).trans rfl; have hcz67_1 : w64.cell? ⟨gb175, 1, none⟩ = some (.int .i64 0) := (blk_cell BK175.out 1).trans rfl; have hcz67_2 : w64.cell? ⟨gb175, 2, none⟩ = some (.slice none 0 0) := (blk_cell BK175.out 2).trans rfl; have hfz67_0 := blk_frozen BK175.out 0; have hfz67_1 := blk_frozen BK175.out 1; have hfz67_2 := blk_frozen BK175.out 2; obtain ⟨Ao68, co68, eo68⟩ := Kd.R_slice HO172.out; subst eo68) | ((with_reducible refine gate_callee (f := 52) rfl ?_); refine goesL_ (some 7) rfl rfl Try.func52 (by kernel_rfl) rfl #[.pointer (some ⟨g, 0, none⟩), .int .i64 24] rfl zlx ?_; (with_reducible refine (spec_l1Cur_pick.calls g s0_0 t173 t174 24 t176 t177 t178 w0 _ ?side1 ?side2 A3.out).mono ?_); (case side1 => exact zhI51 HI0.out); (case side2 => exact zhB HB.out); rintro e w69 ⟨rfl, hi, hb, hk⟩; refine ⟨_, rfl, ?_⟩; replace BK167 := Aside0.mk (KeepBut.blk hk (g' := gb167) (o := .cells #[.int .i64 0, .int .i64 0, .slice none 0 0] 26 (0, 0)) (zbq BK167.out) NB167_0.out (by simp)); replace HO172 := Aside0.mk (Kd.R_mono (Kd.R_keep (IsS51.apart (show IsS51 w0 _ g s0_0 t173 t174 from zhI51 HI0.out) (by (with_reducible repeat (first | apply Kd.R_alloc | apply Kd.R_drewN | apply Kd.R_drew)); exact (Kd.R_mono (Kd.R_far (p := ⟨gb175, 2, none⟩) (Kd.R_far (p := ⟨gb175, 1, none⟩) (Kd.R_far (p := ⟨gb175, 0, none⟩) (Kd.R_types HO172.out BK175.out (by decide)) (fun _ hk => hk.2) (.int .i64 t168)) (fun _ hk => hk.2) (.int .i64 t169)) (fun _ hk => hk.2) (.slice Ao68 t170.length co68)) (fun _ h_ => h_.1))) (by decide)) hk (fun _ h => h.2)) (fun _ h => h.1)); replace BK175 := Aside0.mk (KeepBut.blk hk (g' := gb175) (o := .cells #[.int .i64 t168, .int .i64 t169, .slice Ao68 t170.length co68] 26 (0, 0)) (by refine zbx ?_; refine blk_put (cs := #[.int .i64 t168, .int .i64 t169, .slice none 0 0]) ?_ 2 _ rfl; refine zbx ?_; refine blk_put (cs := #[.int .i64 t168, .int .i64 0, .slice none 0 0]) ?_ 1 _ rfl; refine zbx ?_; refine blk_put (cs := #[.int .i64 0, .int .i64 0, .slice none 0 0]) ?_ 0 _ rfl; refine zbx ?_; exact BK175.out) NB175_0.out (by simp)); replace HK := Aside0.mk (KeepBut.trans (zhK HK.out) hk (.inl rfl)); replace HB := Aside0.mk (hb); replace HI0 := Aside0.mk (hi); (try clear hb); (try clear hb2); (try clear hk); (try clear hi); have hcz70_0 : w69.cell? ⟨gb175, 0, none⟩ = some (.int .i64 t168) := (blk_cell BK175.out 0).trans rfl; have hcz70_1 : w69.cell? ⟨gb175, 1, none⟩ = some (.int .i64 t169) := (blk_cell BK175.out 1).trans rfl; have hcz70_2 : w69.cell? ⟨gb175, 2, none⟩ = some (.slice Ao68 t170.length co68) := (blk_cell BK175.out 2).trans rfl; have hfz70_0 := blk_frozen BK175.out 0; have hfz70_1 := blk_frozen BK175.out 1; have hfz70_2 := blk_frozen BK175.out 2; have hnb71 := NB167_0.out; have hnc71 := NB0_167.out; have hcz72_0 : w69.cell? ⟨gb167, 0, none⟩ = some (.int .i64 0) := (blk_cell BK167.out 0).trans rfl; have hcz72_1 : w69.cell? ⟨gb167, 1, none⟩ = some (.int .i64 0) := (blk_cell BK167.out 1).trans rfl; have hcz72_2 : w69.cell? ⟨gb167, 2, none⟩ = some (.slice none 0 0) := (blk_cell BK167.out 2).trans rfl; have hfz72_0 := blk_frozen BK167.out 0; have hfz72_1 := blk_frozen BK167.out 1; have hfz72_2 := blk_frozen BK167.out 2))
     refine bodyPost_ret (results_cell_row rfl _ _ gb167 26 #[.int .i64 t168, .int .i64 t169, .slice Ao68 t170.length co68] (0, 0) _ rfl (by refine zbx ?_; refine blk_put (cs := #[.int .i64 t168, .int .i64 t169, .slice none 0 0]) ?_ 2 _ rfl; refine zbx ?_; refine blk_put (cs := #[.int .i64 t168, .int .i64 0, .slice none 0 0]) ?_ 1 _ rfl; refine zbx ?_; refine blk_put (cs := #[.int .i64 0, .int .i64 0, .slice none 0 0]) ?_ 0 _ rfl; refine zbx ?_; exact BK167.out) Try.underlying26 rfl (by kernel_rfl)) rfl ?_
     exact ⟨_, by first | rfl | (simp [errW_none, errW_some] <;> rfl) | (simp [*, errW_none, errW_some] <;> rfl), Kd.Q_of_R (by (with_reducible repeat (first | apply Kd.R_alloc | apply Kd.R_drewN | apply Kd.R_drew)); exact Kd.R_mono (Kd.R_far (p := ⟨gb167, 2, none⟩) (Kd.R_far (p := ⟨gb167, 1, none⟩) (Kd.R_far (p := ⟨gb167, 0, none⟩) (Kd.R_types HO172.out BK167.out (by decide)) (fun _ hk => hk.2) (.int .i64 t168)) (fun _ hk => hk.2) (.int .i64 t169)) (fun _ hk => hk.2) (.slice Ao68 t170.length co68)) (fun _ hk => trivial)), zhI51 HI0.out, zhB HB.out, zhK HK.out⟩

/-! ### spec_l1Own: function 72 -/
def spec_l1Own.f (l0 : List Int) : Option (List Int) := (some (([] : List Int) : List Int)).bind fun y198 => (if y198.length + l0.length < 17592186044416 then (some (y198 ++ l0)) else (none))
set_option maxHeartbeats 8000000 in
set_option maxRecDepth 100000 in
theorem spec_l1Own.calls (A0 : Option Addr) (c0 : Nat) (l0 : List Int) (r : List Int) (w : World) (hr0 : Kd.C (Kd.int .i64) w A0 l0.length l0) (hc0 : l0.length ≤ c0) (h : spec_l1Own.f l0 = some r) :
 Calls Try.prog 72 #[.slice A0 l0.length c0] w fun e w' => ∃ v0_ : Value, e = .returned (v0_) ∧ Kd.R (Kd.int .i64) 3 w' w.heap.size (fun _ => True) v0_ r ∧ Below w.heap.size w w' := by
 have HR0 := Aside0.mk hr0
 have HC0 := Aside0.mk hc0
 clear hr0 hc0
 have HB := Aside0.mk (Below.refl w.heap.size w)
 have H : ((some (([] : List Int) : List Int)).bind fun y198 => (if y198.length + l0.length < 17592186044416 then (some (y198 ++ l0)) else (none))) = some r := h
 clear h
 obtain ⟨y198, hy198⟩ : ∃ y_ : List Int, y_ = (([] : List Int)) := ⟨_, rfl⟩
 replace H : (if y198.length + l0.length < 17592186044416 then (some (y198 ++ l0)) else (none)) = some r := by first | (rw [hy198]; with_reducible exact H) | (have H2_ := (Option.bind_some _ _).symm.trans H; rw [hy198]; with_reducible exact H2_) | (have H2_ := (Option.bind_some _ _).symm.trans H; with_reducible exact H2_) | with_reducible exact H | (rw [hy198]; exact H) | exact H
 have Ny198 := Aside0.mk hy198
 clear hy198
 by_cases c2 : y198.length + l0.length < 17592186044416
 ·rw [if_pos c2] at H
  have LMc2 := Aside0.mk c2
  clear c2
  obtain ⟨y201, hy201⟩ : ∃ y_ : List Int, y_ = (y198 ++ l0) := ⟨_, rfl⟩
  replace H : (some y201) = some r := by first | (rw [hy201]; with_reducible exact H) | (have H2_ := (Option.bind_some _ _).symm.trans H; rw [hy201]; with_reducible exact H2_) | (have H2_ := (Option.bind_some _ _).symm.trans H; with_reducible exact H2_) | with_reducible exact H | (rw [hy201]; exact H) | exact H
  have Ny201 := Aside0.mk hy201
  clear hy201
  focus
   obtain rfl := Option.some.inj H
   go_enter Try.func72, Try.ntmps72
   go_wp2_with (first | ((with_reducible refine gate_dst (N := 3) rfl ?_); refine Kd.R_lit (Kd.int .i64) _ 3 ?hg (N := 3) ?hd (xs := ([] : List Int)) (inner := []) (ok := fun _ => True) (okp := fun _ => True) ?hr ?hp (fun _ hk => hk) trivial (Below.refl _ _) (Nat.le_refl _) (by simp) ?_; (case hd => rfl); (case hg => rfl); (case hr => exact zsx); (case hp => exact (Reps.none _ _)); intro v199 w3 ho4 hb hg_ hnew_; clear hg_ hnew_; (first | rw [← Ny198.out] at ho4 | (simp only [Int.reduceToNat] at ho4; rw [← Ny198.out] at ho4)); have HO200 := Aside0.mk (Kd.R_lower ho4 (below_size (zBx HB.out))); replace HB := Aside0.mk (below_step (zBx HB.out) hb); clear hb ho4) | ((with_reducible refine gate_builtin (b := .append) (xs := #[.tmp 3, .tmp 4]) rfl ?_); at_builtin; refine Kd.R_append_rows (Kd.int .i64) (w0 := w) w.heap.size rfl (.tmp 3) (.tmp 4) 24 3 (.int .i64 0) 8 rfl Try.underlying24 info3 rfl (by decide) (by omega) v199 y198 l0 _ _ _ (fun _ => True) (fun _ => False) rfl rfl ?aO ?aR (fun _ _ h => h) (fun _ h => h.elim) ?aF ?aB ?aS ?aL ?_; (case aR => repeat (first | exact (Kd.C_below HR0.out HB.out) | (with_reducible refine Kd.C_alloc ?_ _) | (with_reducible refine Kd.C_drewN ?_ _) | (with_reducible refine Kd.C_drew ?_))); (case aB => exact (zBx HB.out)); (case aF => exact (fun _ _ => trivial)); (case aO => exact (zRx HO200.out)); (case aS => exact (below_size (zBx HB.out))); (case aL => have := LMc2.out; omega); intro v202 w5 ho hb hg hat; rw [← Ny201.out] at ho; replace HB := Aside0.mk (hb); have HO203 := Aside0.mk (ho); clear HO200; clear ho hb hg hat))
   go_ret
   exact ⟨_, by first | rfl | (simp [errW_none, errW_some] <;> rfl) | (simp [*, errW_none, errW_some] <;> rfl), by refine zDR ?_; exact HO203.out, by exact zBx HB.out⟩
 ·rw [if_neg c2] at H
  exact absurd H (by simp)

/-! ### spec_l2Own: function 53 -/
def spec_l2Own.f (a0_0 : Int) (a0_1 : Int) (l0_2 : List Int) : Option (Int × Int × List Int) := (spec_l1Own.f l0_2).bind fun t206 => (some (a0_0, a0_1, t206))
def spec_l2Own.T1 : Bool × List (List Nat × List Nat) := (true, [([], []), ([0], [0]), ([], []), ([2], [2]), ([], []), ([4], [4]), ([5], [5]), ([1, 3, 6], [1, 3, 6]), ([7, 6, 0, 1, 2, 3, 4, 5, 6, 7], [7])])
def spec_l2Own.B1 : List Nat := [0, 1, 0, 4, 0, 16, 48, 127, 255]
theorem spec_l2Own.tab1 : rtab .any (opsOf Try.f53 1) = spec_l2Own.T1 := by kernel_rfl
theorem spec_l2Own.bits1 : waitsOk spec_l2Own.T1.2 spec_l2Own.B1 = true := by kernel_rfl
set_option maxHeartbeats 8000000 in
set_option maxRecDepth 100000 in
theorem spec_l2Own.calls (a0_0 : Int) (a0_1 : Int) (A0_2 : Option Addr) (c0_2 : Nat) (l0_2 : List Int) (r1 : Int) (r2 : Int) (r3 : List Int) (w : World) (hr0_2 : Kd.C (Kd.int .i64) w A0_2 l0_2.length l0_2) (hc0_2 : l0_2.length ≤ c0_2) (h : spec_l2Own.f a0_0 a0_1 l0_2 = some (r1, r2, r3)) :
 Calls Try.prog 53 #[.agg #[.int .i64 a0_0, .int .i64 a0_1, .slice A0_2 l0_2.length c0_2]] w fun e w' => ∃ v2_ : Value, e = .returned (.agg #[.int .i64 r1, .int .i64 r2, v2_]) ∧ Kd.R (Kd.int .i64) 3 w' w.heap.size (fun _ => True) v2_ r3 ∧ Below w.heap.size w w' := by
 have hu26 := Try.underlying26
 have HR0_2 := Aside0.mk hr0_2
 have HC0_2 := Aside0.mk hc0_2
 clear hr0_2 hc0_2
 have HB := Aside0.mk (Below.refl w.heap.size w)
 have H : ((spec_l1Own.f l0_2).bind fun t206 => (some (a0_0, a0_1, t206))) = some (r1, r2, r3) := h
 clear h
 replace H := Option.bind_eq_some_iff.mp H
 obtain ⟨t206, A20, H⟩ := H
 replace H : (some (a0_0, a0_1, t206)) = some (r1, r2, r3) := H
 have A2 := Aside0.mk A20
 clear A20
 focus
  simp only [Option.some.injEq, Prod.mk.injEq] at H
  obtain ⟨rfl, rfl, rfl⟩ := H
  go_enter Try.func53, Try.ntmps53
  try go_wp2_with (first | ((with_reducible refine gate_dst (N := 1) rfl ?_); refine box_event ?hg (N := 1) ?hd (cs := #[.int .i64 a0_0, .int .i64 a0_1, .slice A0_2 l0_2.length c0_2]) (t := 26) ?hr ?_; (case hd => rfl); (case hg => rfl); (case hr => exact zsx); intro gb204 hg w3 hbox hb; have BK204 := Aside0.mk (hbox); have GW204 := zns hg HB.out; have GE204 := zns hg HB.out; replace HB := Aside0.mk (below_step (zBx HB.out) hb); clear hb hbox hg) | ((with_reducible refine gate_dst (N := 2) rfl ?_); refine box_event ?hg (N := 2) ?hd (cs := #[.int .i64 0, .int .i64 0, .slice none 0 0]) (t := 26) ?hr ?_; (case hd => rfl); (case hg => rfl); (case hr => exact zsx); intro gb205 hg w4 hbox hb; have BK205 := Aside0.mk (hbox); have GW205 := zns hg HB.out; have GE205 := zns hg HB.out; replace HB := Aside0.mk (below_step (zBy HB.out GE204.out) hb); have NB204_205 := znl hg BK204.out; have NB205_204 := zng hg BK204.out; replace BK204 := zbl BK204.out hb; clear hb hbox hg))
  replace BK204 := Aside0.mk (blk_drew BK204.out)
  replace BK205 := Aside0.mk (blk_drew BK205.out)
  replace HB := Aside0.mk (below_drew1 HB.out)
  refine start_ (n := 9) (S := fun w' => w'.cell? ⟨gb204, 0, none⟩ = some (.int .i64 a0_0) ∧ w'.cell? ⟨gb204, 1, none⟩ = some (.int .i64 a0_1) ∧ w'.cell? ⟨gb204, 2, none⟩ = some (.slice A0_2 l0_2.length c0_2)) (ds := []) #[F,F,F,F,F,F,F,F,F] (by kernel_rfl) rfl rfl ⟨(blk_cell BK204.out 0).trans rfl, (blk_cell BK204.out 1).trans rfl, (blk_cell BK204.out 2).trans rfl⟩ (fun hHeld => ?_); refine with_tabW spec_l2Own.tab1 spec_l2Own.bits1 (fun HT_ HW_ => ?_)
  generalize w4.drew = w5 at BK204 BK205 HB hHeld ⊢
  refine pure_ (i := 0) (N := some 3) (v := ?_) (a' := ?_) #[T,F,F,F,F,F,F,F,F] rfl rfl (any_of HT_.out (by kernel_rfl)) (fun _ _ _ h => h) (Or.inl ⟨by rfl, ?_⟩) ?_ ?_
  rotate_left
  ·exact zwx
  rotate_left
  ·exact zpx
  refine pure_ (i := 2) (N := some 5) (v := ?_) (a' := ?_) #[T,F,T,F,F,F,F,F,F] rfl rfl (any_of HT_.out (by kernel_rfl)) (fun _ _ _ h => h) (Or.inl ⟨by rfl, ?_⟩) ?_ ?_
  rotate_left
  ·exact zwx
  rotate_left
  ·exact zpx
  refine pure_ (i := 4) (N := some 7) (v := ?_) (a' := ?_) #[T,F,T,F,T,F,F,F,F] rfl rfl (any_of HT_.out (by kernel_rfl)) (fun _ _ _ h => h) (Or.inl ⟨by rfl, ?_⟩) ?_ ?_
  rotate_left
  ·exact zwx
  rotate_left
  ·exact zpx
  refine take_ (i := 1) (N := some 4) (v := ?_) (a' := ?_) #[T,T,T,F,T,F,F,F,F] rfl rfl (take_ofW HT_.out HW_.out (by kernel_rfl)) (fun _ _ _ h => h) (Or.inl ⟨by rfl, ?_⟩) hHeld ?_ ?_
  rotate_left
  ·rintro w' ⟨s0, s1, s2⟩
   go_simp
   with_reducible rfl
  rotate_left
  ·exact zpx
  refine take_ (i := 3) (N := some 6) (v := ?_) (a' := ?_) #[T,T,T,T,T,F,F,F,F] rfl rfl (take_ofW HT_.out HW_.out (by kernel_rfl)) (fun _ _ _ h => h) (Or.inl ⟨by rfl, ?_⟩) hHeld ?_ ?_
  rotate_left
  ·rintro w' ⟨s0, s1, s2⟩
   go_simp
   with_reducible rfl
  rotate_left
  ·exact zpx
  refine take_ (i := 5) (N := some 8) (v := ?_) (a' := ?_) #[T,T,T,T,T,T,F,F,F] rfl rfl (take_ofW HT_.out HW_.out (by kernel_rfl)) (fun _ _ _ h => h) (Or.inl ⟨by rfl, ?_⟩) hHeld ?_ ?_
  rotate_left
  ·rintro w' ⟨s0, s1, s2⟩
   go_simp
   with_reducible rfl
  rotate_left
  ·exact zpx
  refine one_ (i := 6) (N := some 9) #[T,T,T,T,T,T,T,F,F] rfl rfl (one_of HT_.out (by kernel_rfl)) (by decide) (fun K hK => ?_)
  refine goes_ Try.func72 (by kernel_rfl) rfl #[.slice A0_2 l0_2.length c0_2] (by rfl) rfl rfl zlx ?_
  with_reducible refine (spec_l1Own.calls _ _ l0_2 t206 _ ?side1 ?side2 A2.out).mono ?_
  (case side1 => repeat (first | exact (Kd.C_below HR0_2.out HB.out) | (with_reducible refine Kd.C_alloc ?_ _) | (with_reducible refine Kd.C_drewN ?_ _) | (with_reducible refine Kd.C_drew ?_)))
  (case side2 => exact HC0_2.out)
  rintro e w6 ⟨v207, rfl, ho0, hb⟩
  refine ⟨_, rfl, ?_⟩
  have HO208 := Aside0.mk (Kd.R_lower ho0 (below_size (zBz HB.out GE204.out GE205.out)))
  replace BK204 := zbl BK204.out hb
  replace BK205 := zbl BK205.out hb
  replace HB := Aside0.mk (below_step (zBz HB.out GE204.out GE205.out) hb)
  (try clear hb)
  (try clear hb2)
  (try clear hk)
  (try clear hi)
  (try clear ho0)
  obtain ⟨Ao7, co7, eo7⟩ := Kd.R_slice HO208.out
  (first | subst eo7 | (injection eo7 with f1_ f2_ f3_; have f4_ := f1_.symm; have f5_ := f3_.symm; clear f1_ f2_ f3_; subst f4_; subst f5_))
  refine hK.out _ _ ⟨(blk_cell BK204.out 0).trans rfl, (blk_cell BK204.out 1).trans rfl, (blk_cell BK204.out 2).trans rfl⟩ (fun hHeld => ?_)
  clear hK K
  refine norm_ (a' := ?_) ?_ ?_
  rotate_left
  ·show Act.put _ (some 9) _ = _
   simp only [Act.put, List.setIfInBounds_toArray, List.set_cons_zero, List.set_cons_succ, i64_w, i32_w]
   rfl
  refine pure_ (i := 7) (N := some 10) (v := ?_) (a' := ?_) #[T,T,T,T,T,T,T,T,F] rfl rfl (any_of HT_.out (by kernel_rfl)) (fun _ _ _ h => h) (Or.inl ⟨by rfl, ?_⟩) ?_ ?_
  rotate_left
  ·exact zwx
  rotate_left
  ·exact zpx
  refine one_ (i := 8) (N := none) #[T,T,T,T,T,T,T,T,T] rfl rfl (one_of HT_.out (by kernel_rfl)) (by decide) (fun K hK => ?_)
  have hs8 : w6.cell? ⟨gb205, 0, none⟩ = some (.int .i64 0) := (blk_cell BK205.out 0).trans rfl
  have hfs8 := blk_frozen BK205.out 0
  have hns8_0 := NB204_205.out
  have hms8_0 := NB205_204.out
  have hs9 : w6.cell? ⟨gb205, 1, none⟩ = some (.int .i64 0) := (blk_cell BK205.out 1).trans rfl
  have hfs9 := blk_frozen BK205.out 1
  have hns9_0 := NB204_205.out
  have hms9_0 := NB205_204.out
  have hs10 : w6.cell? ⟨gb205, 2, none⟩ = some (.slice none 0 0) := (blk_cell BK205.out 2).trans rfl
  have hfs10 := blk_frozen BK205.out 2
  have hns10_0 := NB204_205.out
  have hms10_0 := NB205_204.out
  refine skip_ (w1 := ?_) (by rfl) rfl ?_ ?_
  rotate_left
  ·go_simp
   rfl
  refine hK.out _ _ ⟨((cell_far (p := ⟨gb205, _, none⟩) NB204_205.out _).trans (((cell_far (p := ⟨gb205, _, none⟩) NB204_205.out _).trans (((cell_far (p := ⟨gb205, _, none⟩) NB204_205.out _).trans (hHeld.1)))))), ((cell_far (p := ⟨gb205, _, none⟩) NB204_205.out _).trans (((cell_far (p := ⟨gb205, _, none⟩) NB204_205.out _).trans (((cell_far (p := ⟨gb205, _, none⟩) NB204_205.out _).trans (hHeld.2.1)))))), ((cell_far (p := ⟨gb205, _, none⟩) NB204_205.out _).trans (((cell_far (p := ⟨gb205, _, none⟩) NB204_205.out _).trans (((cell_far (p := ⟨gb205, _, none⟩) NB204_205.out _).trans (hHeld.2.2))))))⟩ (fun hHeld => ?_)
  clear hK K
  refine done_ (done_of HT_.out (by kernel_rfl)) ?_
  try go_wp2
  refine bodyPost_ret (results_cell_row rfl _ _ gb205 26 #[.int .i64 a0_0, .int .i64 a0_1, .slice Ao7 t206.length co7] (0, 0) _ rfl (by refine zbx ?_; refine blk_put (cs := #[.int .i64 a0_0, .int .i64 a0_1, .slice none 0 0]) ?_ 2 _ rfl; refine zbx ?_; refine blk_put (cs := #[.int .i64 a0_0, .int .i64 0, .slice none 0 0]) ?_ 1 _ rfl; refine zbx ?_; refine blk_put (cs := #[.int .i64 0, .int .i64 0, .slice none 0 0]) ?_ 0 _ rfl; refine zbx ?_; exact BK205.out) Try.underlying26 rfl (by kernel_rfl)) rfl ?_
  exact ⟨_, by first | rfl | (simp [errW_none, errW_some] <;> rfl) | (simp [*, errW_none, errW_some] <;> rfl), by (with_reducible repeat (first | apply Kd.R_alloc | apply Kd.R_drewN | apply Kd.R_drew)); exact Kd.R_mono (Kd.R_far (p := ⟨gb205, 2, none⟩) (Kd.R_far (p := ⟨gb205, 1, none⟩) (Kd.R_far (p := ⟨gb205, 0, none⟩) (Kd.R_types HO208.out BK205.out (by decide)) (fun _ hk => hk.2) (.int .i64 a0_0)) (fun _ hk => hk.2) (.int .i64 a0_1)) (fun _ hk => hk.2) (.slice Ao7 t206.length co7)) (fun _ hk => trivial), by exact zBz HB.out GE204.out GE205.out⟩

end Go.Proofs.Ytddgbaohepfekaa.XFnScores
