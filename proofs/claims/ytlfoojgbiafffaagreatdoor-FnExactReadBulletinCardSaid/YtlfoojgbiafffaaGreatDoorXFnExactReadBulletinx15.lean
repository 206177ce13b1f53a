-- written by wip/tools/xprint.py (a program of this project) out of the translation
import Derived.Test.YtlfoojgbiafffaaGreatDoorXFnExactReadBulletinx0
import Derived.Test.YtlfoojgbiafffaaGreatDoorStrsE
import Derived.Test.YtlfoojgbiafffaaGreatDoorXFnExactReadBulletinx7
import Derived.Test.YtlfoojgbiafffaaGreatDoorXFnExactReadBulletinx12
import Derived.Test.YtlfoojgbiafffaaGreatDoorXFnExactReadBulletinx13
import Derived.Test.YtlfoojgbiafffaaGreatDoorXFnExactReadBulletinx14
namespace Go.Proofs.YtlfoojgbiafffaaGreatDoor.XFnExactReadBulletin
open Go.RowKit Go.Proofs.YtlfoojgbiafffaaGreatDoorW.PrintWords Go.Proofs.YtlfoojgbiafffaaGreatDoorW.PrintLast Go.Proofs.YtlfoojgbiafffaaGreatDoorW.PrintMore
open Go.Proofs.YtlfoojgbiafffaaGreatDoor.Strs
attribute [local go_sem] max2_int min2_int max_two min_two max_three min_three max_four min_four   -- for this text's walks alone
set_option linter.unusedVariables false
set_option linter.unusedSimpArgs false

/-! ### laws_FnExactReadBulletin: function 4 -/
mutual
def laws_FnExactReadBulletin.j0 : Nat → ByteArray → Bool → Bool → Int → Int → List (S25) → Int → Int → List (S25) → Option (Bool)
 | 0, _, _, _, _, _, _, _, _, _ => none
 | k + 1, x0, x4, x32, x393000, x393001, x393002, x400000, x400001, x400002 => if x32 = true then (some false) else ((laws_markBulletin.f k x400000 x400001 x400002 1).bind fun bt401 => ((laws_heldBulletin.f k x400000 x400001 bt401.2 1).bind fun t403 => (if t403 < 0 then (some false) else (if t403 = bt401.1 then ((impl_ReadBulletin.f k x0).bind fun bt404 => ((laws_eqBulletin.f k bt404.1 bt404.2.1 bt404.2.2.1 x393000 x393001 x393002).bind fun t411 => (if t411 = true then (laws_FnExactReadBulletin.j1 k bt401.1 (bt404.2.2.2 != x4) x400000 x400001 bt401.2) else (laws_FnExactReadBulletin.j1 k bt401.1 true x400000 x400001 bt401.2)))) else (some false)))))
def laws_FnExactReadBulletin.j1 : Nat → Int → Bool → Int → Int → List (S25) → Option (Bool)
 | 0, _, _, _, _, _ => none
 | k + 1, x7, x57, x400000, x400001, x400002 => if x57 = true then (some false) else ((laws_heldBulletin.f k x400000 x400001 x400002 1).bind fun t412 => (if t412 < 0 then (some false) else (if t412 = x7 then (some true) else (some false))))
end
def laws_FnExactReadBulletin.f (k : Nat) (a0 : ByteArray) : Option (Bool) := if (a0.size : Int) > 1048576 then (some true) else ((spec_ReadBulletin.f k a0).bind fun bt386 => ((impl_ReadBulletin.f k a0).bind fun bt393 => ((laws_eqBulletin.f k bt393.1 bt393.2.1 bt393.2.2.1 bt386.1 bt386.2.1 bt386.2.2.1).bind fun t400 => (if t400 = true then (laws_FnExactReadBulletin.j0 k a0 bt386.2.2.2 (bt393.2.2.2 != bt386.2.2.2) bt386.1 bt386.2.1 bt386.2.2.1 bt393.1 bt393.2.1 bt393.2.2.1) else (laws_FnExactReadBulletin.j0 k a0 bt386.2.2.2 true bt386.1 bt386.2.1 bt386.2.2.1 bt393.1 bt393.2.1 bt393.2.2.1)))))
set_option maxHeartbeats 8000000 in
set_option maxRecDepth 100000 in
theorem laws_FnExactReadBulletin.calls (k : Nat) (a0 : ByteArray) (r : Bool) (w : World) (hL : Laid w) (h : laws_FnExactReadBulletin.f k a0 = some r) (hr_ : r = true) :
 Calls Tryz.prog 4 #[.string a0] w fun e w' => e = .returned (.bool r) ∧ Below w.heap.size w w' := by
 have hu34 := Tryz.underlying34
 have HL := Aside0.mk hL
 clear hL
 have HB := Aside0.mk (Below.refl w.heap.size w)
 have H : (if (a0.size : Int) > 1048576 then (some true) else ((spec_ReadBulletin.f k a0).bind fun bt386 => ((impl_ReadBulletin.f k a0).bind fun bt393 => ((laws_eqBulletin.f k bt393.1 bt393.2.1 bt393.2.2.1 bt386.1 bt386.2.1 bt386.2.2.1).bind fun t400 => (if t400 = true then (laws_FnExactReadBulletin.j0 k a0 bt386.2.2.2 (bt393.2.2.2 != bt386.2.2.2) bt386.1 bt386.2.1 bt386.2.2.1 bt393.1 bt393.2.1 bt393.2.2.1) else (laws_FnExactReadBulletin.j0 k a0 bt386.2.2.2 true bt386.1 bt386.2.1 bt386.2.2.1 bt393.1 bt393.2.1 bt393.2.2.1)))))) = some r := h
 clear h
 by_cases c2 : (a0.size : Int) > 1048576
 ·rw [if_pos c2] at H
  have c2b0 : decide (1048576 < (a0.size : Int)) = true := decide_eq_true c2
  have c2b1 : decide (1048576 < a0.size) = true := decide_eq_true (by omega)
  clear c2
  as_aux_lemma =>
   obtain rfl := Option.some.inj H
   go_enter Tryz.func4, Tryz.ntmps4
   go_wp2
   go_ret
   exact ⟨by first | rfl | (simp [errW_none, errW_some] <;> rfl) | (simp [*, errW_none, errW_some] <;> rfl), by exact zBx HB.out⟩
 rw [if_neg c2] at H
 have c2b0 : decide (1048576 < (a0.size : Int)) = false := decide_eq_false c2
 have c2b1 : decide (1048576 < a0.size) = false := decide_eq_false (by omega)
 clear c2
 replace H := Option.bind_eq_some_iff.mp H
 obtain ⟨⟨t386, t387, t388, t391⟩, A30, H⟩ := H
 replace H : ((impl_ReadBulletin.f k a0).bind fun bt393 => ((laws_eqBulletin.f k bt393.1 bt393.2.1 bt393.2.2.1 t386 t387 t388).bind fun t400 => (if t400 = true then (laws_FnExactReadBulletin.j0 k a0 t391 (bt393.2.2.2 != t391) t386 t387 t388 bt393.1 bt393.2.1 bt393.2.2.1) else (laws_FnExactReadBulletin.j0 k a0 t391 true t386 t387 t388 bt393.1 bt393.2.1 bt393.2.2.1)))) = some r := H
 have A3 := Aside0.mk A30
 clear A30
 replace H := Option.bind_eq_some_iff.mp H
 obtain ⟨⟨t393, t394, t395, t398⟩, A40, H⟩ := H
 replace H : ((laws_eqBulletin.f k t393 t394 t395 t386 t387 t388).bind fun t400 => (if t400 = true then (laws_FnExactReadBulletin.j0 k a0 t391 (t398 != t391) t386 t387 t388 t393 t394 t395) else (laws_FnExactReadBulletin.j0 k a0 t391 true t386 t387 t388 t393 t394 t395))) = some r := H
 have A4 := Aside0.mk A40
 clear A40
 have HC5 := Aside0.mk H
 clear H
 go_enter Tryz.func4, Tryz.ntmps4
 go_upto_region 5 with (first | ((with_reducible refine gate_callee (f := 16) rfl ?_); refine goesL_ (some 16) rfl rfl Tryz.func16 (by kernel_rfl) rfl #[.string a0] rfl zlx ?_; (with_reducible refine (spec_ReadBulletin.calls k a0 t386 t387 t388 t391 _ A3.out).mono ?_); rintro e w6 ⟨v389, rfl, ho0, hb⟩; refine ⟨_, rfl, ?_⟩; have HO390 := Aside0.mk (Kd.R_lower ho0 (below_size (zBx HB.out))); replace HB := Aside0.mk (below_step (zBx HB.out) hb); (try clear hb); (try clear ho0)) | ((with_reducible refine gate_dst (N := 3) rfl ?_); refine box_event ?hg (N := 3) ?hd (cs := #[.int .i64 0, .int .i64 0, .slice none 0 0]) (t := 34) ?hr ?_; (case hd => rfl); (case hg => rfl); (case hr => exact zsx); intro gb392 hg w7 hbox hb; replace HO390 := Aside0.mk (Kd.R_below (zRx HO390.out) hb); have BK392 := Aside0.mk (hbox); have GW392 := zns hg HB.out; have GE392 := zns hg HB.out; replace HB := Aside0.mk (below_step (zBx HB.out) hb); clear hb hbox hg; have hcz8_0 : w7.cell? ⟨gb392, 0, none⟩ = some (.int .i64 0) := (blk_cell BK392.out 0).trans rfl; have hcz8_1 : w7.cell? ⟨gb392, 1, none⟩ = some (.int .i64 0) := (blk_cell BK392.out 1).trans rfl; have hcz8_2 : w7.cell? ⟨gb392, 2, none⟩ = some (.slice none 0 0) := (blk_cell BK392.out 2).trans rfl; have hfz8_0 := blk_frozen BK392.out 0; have hfz8_1 := blk_frozen BK392.out 1; have hfz8_2 := blk_frozen BK392.out 2; obtain ⟨Ao9, co9, eo9⟩ := Kd.R_slice HO390.out; subst eo9) | ((with_reducible refine gate_callee (f := 17) rfl ?_); refine goesL_ (some 21) rfl rfl Tryz.func17 (by kernel_rfl) rfl #[.string a0] rfl zlx ?_; (with_reducible refine (impl_ReadBulletin.calls k a0 t393 t394 t395 t398 _ ?sideL A4.out).mono ?_); (case sideL => exact Laid.below HL.out (zBy HB.out GE392.out)); rintro e w10 ⟨v396, rfl, ho0, hb⟩; refine ⟨_, rfl, ?_⟩; have HO397 := Aside0.mk (Kd.R_lower (Kd.R_new' ho0 (Kd.R_lt (by (with_reducible repeat (first | apply Kd.R_alloc | apply Kd.R_drewN | apply Kd.R_drew)); exact (Kd.R_mono (Kd.R_far (p := ⟨gb392, 2, none⟩) (Kd.R_far (p := ⟨gb392, 1, none⟩) (Kd.R_far (p := ⟨gb392, 0, none⟩) (Kd.R_types HO390.out BK392.out (by decide)) (fun _ hk => hk.2) (.int .i64 t386)) (fun _ hk => hk.2) (.int .i64 t387)) (fun _ hk => hk.2) (.slice Ao9 t388.length co9)) (fun _ h_ => h_.1))))) (below_size (zBy HB.out GE392.out))); replace HO390 := Aside0.mk (Kd.R_elder' (by (with_reducible repeat (first | apply Kd.R_alloc | apply Kd.R_drewN | apply Kd.R_drew)); exact (Kd.R_mono (Kd.R_far (p := ⟨gb392, 2, none⟩) (Kd.R_far (p := ⟨gb392, 1, none⟩) (Kd.R_far (p := ⟨gb392, 0, none⟩) (Kd.R_types HO390.out BK392.out (by decide)) (fun _ hk => hk.2) (.int .i64 t386)) (fun _ hk => hk.2) (.int .i64 t387)) (fun _ hk => hk.2) (.slice Ao9 t388.length co9)) (fun _ h_ => h_.1))) (Kd.R_base ho0) hb); replace BK392 := Aside0.mk (blk_below (g := gb392) (o := .cells #[.int .i64 t386, .int .i64 t387, .slice Ao9 t388.length co9] 34 (0, 0)) (zbp BK392.out) hb); replace HB := Aside0.mk (below_step (zBy HB.out GE392.out) hb); (try clear hb); (try clear hk); (try clear ho0)) | ((with_reducible refine gate_dst (N := 5) rfl ?_); refine box_event ?hg (N := 5) ?hd (cs := #[.int .i64 0, .int .i64 0, .slice none 0 0]) (t := 34) ?hr ?_; (case hd => rfl); (case hg => rfl); (case hr => exact zsx); intro gb399 hg w11 hbox hb; replace HO390 := Aside0.mk (Kd.R_below (zRx HO390.out) hb); replace HO397 := Aside0.mk (Kd.R_below (zRx HO397.out) hb); have BK399 := Aside0.mk (hbox); have GW399 := zns hg HB.out; have GE399 := zns hg HB.out; replace HB := Aside0.mk (below_step (zBy HB.out GE392.out) hb); have NB392_399 := znl hg BK392.out; have NB399_392 := zng hg BK392.out; replace BK392 := zbl BK392.out hb; clear hb hbox hg; have hnb12 := NB399_392.out; have hnc12 := NB392_399.out; have hcz13_0 : w11.cell? ⟨gb399, 0, none⟩ = some (.int .i64 0) := (blk_cell BK399.out 0).trans rfl; have hcz13_1 : w11.cell? ⟨gb399, 1, none⟩ = some (.int .i64 0) := (blk_cell BK399.out 1).trans rfl; have hcz13_2 : w11.cell? ⟨gb399, 2, none⟩ = some (.slice none 0 0) := (blk_cell BK399.out 2).trans rfl; have hfz13_0 := blk_frozen BK399.out 0; have hfz13_1 := blk_frozen BK399.out 1; have hfz13_2 := blk_frozen BK399.out 2; obtain ⟨Ao14, co14, eo14⟩ := Kd.R_slice HO397.out; subst eo14))
 (try simp only [Act.put, List.setIfInBounds_toArray, List.set_cons_zero, List.set_cons_succ])
 go_cut [32] (fun v32 wc => ∃ (kq : Nat) (x32_4 : Bool), v32 = .bool x32_4 ∧ Aside0 (laws_FnExactReadBulletin.j0 kq a0 t391 x32_4 t386 t387 t388 t393 t394 t395 = some r) ∧ Aside0 (kq ≤ k) ∧ Aside0 (Kd.R k25 25 wc w.heap.size (fun k_ => some k_ ≠ ((.slice Ao14 t395.length co14) : Value).ownBlock) (.slice Ao9 t388.length co9) t388) ∧ Aside0 (Kd.R k25 25 wc w.heap.size (fun k_ => some k_ ≠ ((.slice Ao9 t388.length co9) : Value).ownBlock) (.slice Ao14 t395.length co14) t395) ∧ Aside0 (wc.heap[gb392]? = some (.cells #[.int .i64 t386, .int .i64 t387, (.slice Ao9 t388.length co9)] 34 (0, 0))) ∧ Aside0 (wc.heap[gb399]? = some (.cells #[.int .i64 t393, .int .i64 t394, (.slice Ao14 t395.length co14)] 34 (0, 0))) ∧ Aside0 (Below w.heap.size w wc))
 case first =>
  as_aux_lemma =>
  have H := HC5.out
  clear HC5
  replace H := Option.bind_eq_some_iff.mp H
  obtain ⟨t400, A150, H⟩ := H
  replace H : (if t400 = true then (laws_FnExactReadBulletin.j0 k a0 t391 (t398 != t391) t386 t387 t388 t393 t394 t395) else (laws_FnExactReadBulletin.j0 k a0 t391 true t386 t387 t388 t393 t394 t395)) = some r := H
  have A15 := Aside0.mk A150
  clear A150
  by_cases c16 : t400 = true
  ·subst c16
   rw [if_pos rfl] at H
   as_aux_lemma =>
    have H' := Aside0.mk H
    clear H
    have hnb17 := NB399_392.out
    have hnc17 := NB392_399.out
    have hcz18_0 : w11.cell? ⟨gb399, 0, none⟩ = some (.int .i64 0) := (blk_cell BK399.out 0).trans rfl
    have hcz18_1 : w11.cell? ⟨gb399, 1, none⟩ = some (.int .i64 0) := (blk_cell BK399.out 1).trans rfl
    have hcz18_2 : w11.cell? ⟨gb399, 2, none⟩ = some (.slice none 0 0) := (blk_cell BK399.out 2).trans rfl
    have hfz18_0 := blk_frozen BK399.out 0
    have hfz18_1 := blk_frozen BK399.out 1
    have hfz18_2 := blk_frozen BK399.out 2
    have hcz19_0 : w11.cell? ⟨gb392, 0, none⟩ = some (.int .i64 t386) := (blk_cell BK392.out 0).trans rfl
    have hcz19_1 : w11.cell? ⟨gb392, 1, none⟩ = some (.int .i64 t387) := (blk_cell BK392.out 1).trans rfl
    have hcz19_2 : w11.cell? ⟨gb392, 2, none⟩ = some (.slice Ao9 t388.length co9) := (blk_cell BK392.out 2).trans rfl
    have hfz19_0 := blk_frozen BK392.out 0
    have hfz19_1 := blk_frozen BK392.out 1
    have hfz19_2 := blk_frozen BK392.out 2
    go_wp2_with (first | ((with_reducible refine gate_callee (f := 18) rfl ?_); refine goesL_ (some 26) rfl rfl Tryz.func18 (by kernel_rfl) rfl #[.agg #[.int .i64 t393, .int .i64 t394, .slice Ao14 t395.length co14], .agg #[.int .i64 t386, .int .i64 t387, .slice Ao9 t388.length co9]] rfl zlx ?_; (with_reducible refine (laws_eqBulletin.calls k t393 t394 _ _ t395 t386 t387 _ _ t388 true _ ?side1 ?side2 ?side3 ?side4 A15.out).mono ?_); (case side1 => refine (Kd.R_reads' (e := 25) (base := w.heap.size) (ok := fun k_ => (True ∧ some k_ ≠ (.slice Ao9 t388.length co9 : Value).ownBlock)) (n := t395.length) (c := co14) ?_).2.2; exact (by (with_reducible repeat (first | apply Kd.R_alloc | apply Kd.R_drewN | apply Kd.R_drew)); exact (Kd.R_mono (Kd.R_far (p := ⟨gb399, 2, none⟩) (Kd.R_far (p := ⟨gb399, 1, none⟩) (Kd.R_far (p := ⟨gb399, 0, none⟩) (Kd.R_types HO397.out BK399.out (by decide)) (fun _ hk => hk.2) (.int .i64 t393)) (fun _ hk => hk.2) (.int .i64 t394)) (fun _ hk => hk.2) (.slice Ao14 t395.length co14)) (fun _ h_ => h_.1)))); (case side2 => exact (Kd.R_reads' HO397.out).2.1); (case side3 => refine (Kd.R_reads' (e := 25) (base := w.heap.size) (ok := fun k_ => (True ∧ some k_ ≠ (.slice Ao14 t395.length co14 : Value).ownBlock)) (n := t388.length) (c := co9) ?_).2.2; exact (by (with_reducible repeat (first | apply Kd.R_alloc | apply Kd.R_drewN | apply Kd.R_drew)); exact (Kd.R_mono (Kd.R_far (p := ⟨gb399, 2, none⟩) (Kd.R_far (p := ⟨gb399, 1, none⟩) (Kd.R_far (p := ⟨gb399, 0, none⟩) (Kd.R_types HO390.out BK399.out (by decide)) (fun _ hk => hk.2) (.int .i64 t393)) (fun _ hk => hk.2) (.int .i64 t394)) (fun _ hk => hk.2) (.slice Ao14 t395.length co14)) (fun _ h_ => h_.1)))); (case side4 => exact (Kd.R_reads' HO390.out).2.1); rintro e w20 ⟨rfl, hb⟩; refine ⟨_, rfl, ?_⟩; replace HO390 := Aside0.mk (Kd.R_below (by (with_reducible repeat (first | apply Kd.R_alloc | apply Kd.R_drewN | apply Kd.R_drew)); exact (Kd.R_mono (Kd.R_far (p := ⟨gb399, 2, none⟩) (Kd.R_far (p := ⟨gb399, 1, none⟩) (Kd.R_far (p := ⟨gb399, 0, none⟩) (Kd.R_types HO390.out BK399.out (by decide)) (fun _ hk => hk.2) (.int .i64 t393)) (fun _ hk => hk.2) (.int .i64 t394)) (fun _ hk => hk.2) (.slice Ao14 t395.length co14)) (fun _ h_ => h_.1))) hb); replace HO397 := Aside0.mk (Kd.R_below (by (with_reducible repeat (first | apply Kd.R_alloc | apply Kd.R_drewN | apply Kd.R_drew)); exact (Kd.R_mono (Kd.R_far (p := ⟨gb399, 2, none⟩) (Kd.R_far (p := ⟨gb399, 1, none⟩) (Kd.R_far (p := ⟨gb399, 0, none⟩) (Kd.R_types HO397.out BK399.out (by decide)) (fun _ hk => hk.2) (.int .i64 t393)) (fun _ hk => hk.2) (.int .i64 t394)) (fun _ hk => hk.2) (.slice Ao14 t395.length co14)) (fun _ h_ => h_.1))) hb); replace BK392 := zbl BK392.out hb; replace BK399 := Aside0.mk (blk_below (g := gb399) (o := .cells #[.int .i64 t393, .int .i64 t394, .slice Ao14 t395.length co14] 34 (0, 0)) (zbp BK399.out) hb); replace HB := Aside0.mk (below_step (zBz HB.out GE392.out GE399.out) hb); (try clear hb); (try clear hk)))
    go_meet
    case rel => exact ⟨_, ((t398 != t391)), zrx, H', ⟨by first | omega | exact Nat.le_refl _⟩, ⟨by refine zDR ?_; exact Kd.R_mono HO390.out (fun _ hk => hk.2)⟩, ⟨by refine zDR ?_; exact Kd.R_mono HO397.out (fun _ hk => hk.2)⟩, ⟨by refine zbx ?_; exact BK392.out⟩, ⟨by refine zbx ?_; exact BK399.out⟩, ⟨by exact zBz HB.out GE392.out GE399.out⟩⟩
  replace c16 := Bool.eq_false_iff.mpr c16
  subst c16
  rw [if_neg (show ¬ (false = true) by decide)] at H
  as_aux_lemma =>
   have H' := Aside0.mk H
   clear H
   have hnb21 := NB399_392.out
   have hnc21 := NB392_399.out
   have hcz22_0 : w11.cell? ⟨gb399, 0, none⟩ = some (.int .i64 0) := (blk_cell BK399.out 0).trans rfl
   have hcz22_1 : w11.cell? ⟨gb399, 1, none⟩ = some (.int .i64 0) := (blk_cell BK399.out 1).trans rfl
   have hcz22_2 : w11.cell? ⟨gb399, 2, none⟩ = some (.slice none 0 0) := (blk_cell BK399.out 2).trans rfl
   have hfz22_0 := blk_frozen BK399.out 0
   have hfz22_1 := blk_frozen BK399.out 1
   have hfz22_2 := blk_frozen BK399.out 2
   have hcz23_0 : w11.cell? ⟨gb392, 0, none⟩ = some (.int .i64 t386) := (blk_cell BK392.out 0).trans rfl
   have hcz23_1 : w11.cell? ⟨gb392, 1, none⟩ = some (.int .i64 t387) := (blk_cell BK392.out 1).trans rfl
   have hcz23_2 : w11.cell? ⟨gb392, 2, none⟩ = some (.slice Ao9 t388.length co9) := (blk_cell BK392.out 2).trans rfl
   have hfz23_0 := blk_frozen BK392.out 0
   have hfz23_1 := blk_frozen BK392.out 1
   have hfz23_2 := blk_frozen BK392.out 2
   go_wp2_with (first | ((with_reducible refine gate_callee (f := 18) rfl ?_); refine goesL_ (some 26) rfl rfl Tryz.func18 (by kernel_rfl) rfl #[.agg #[.int .i64 t393, .int .i64 t394, .slice Ao14 t395.length co14], .agg #[.int .i64 t386, .int .i64 t387, .slice Ao9 t388.length co9]] rfl zlx ?_; (with_reducible refine (laws_eqBulletin.calls k t393 t394 _ _ t395 t386 t387 _ _ t388 false _ ?side1 ?side2 ?side3 ?side4 A15.out).mono ?_); (case side1 => refine (Kd.R_reads' (e := 25) (base := w.heap.size) (ok := fun k_ => (True ∧ some k_ ≠ (.slice Ao9 t388.length co9 : Value).ownBlock)) (n := t395.length) (c := co14) ?_).2.2; exact (by (with_reducible repeat (first | apply Kd.R_alloc | apply Kd.R_drewN | apply Kd.R_drew)); exact (Kd.R_mono (Kd.R_far (p := ⟨gb399, 2, none⟩) (Kd.R_far (p := ⟨gb399, 1, none⟩) (Kd.R_far (p := ⟨gb399, 0, none⟩) (Kd.R_types HO397.out BK399.out (by decide)) (fun _ hk => hk.2) (.int .i64 t393)) (fun _ hk => hk.2) (.int .i64 t394)) (fun _ hk => hk.2) (.slice Ao14 t395.length co14)) (fun _ h_ => h_.1)))); (case side2 => exact (Kd.R_reads' HO397.out).2.1); (case side3 => refine (Kd.R_reads' (e := 25) (base := w.heap.size) (ok := fun k_ => (True ∧ some k_ ≠ (.slice Ao14 t395.length co14 : Value).ownBlock)) (n := t388.length) (c := co9) ?_).2.2; exact (by (with_reducible repeat (first | apply Kd.R_alloc | apply Kd.R_drewN | apply Kd.R_drew)); exact (Kd.R_mono (Kd.R_far (p := ⟨gb399, 2, none⟩) (Kd.R_far (p := ⟨gb399, 1, none⟩) (Kd.R_far (p := ⟨gb399, 0, none⟩) (Kd.R_types HO390.out BK399.out (by decide)) (fun _ hk => hk.2) (.int .i64 t393)) (fun _ hk => hk.2) (.int .i64 t394)) (fun _ hk => hk.2) (.slice Ao14 t395.length co14)) (fun _ h_ => h_.1)))); (case side4 => exact (Kd.R_reads' HO390.out).2.1); rintro e w24 ⟨rfl, hb⟩; refine ⟨_, rfl, ?_⟩; replace HO390 := Aside0.mk (Kd.R_below (by (with_reducible repeat (first | apply Kd.R_alloc | apply Kd.R_drewN | apply Kd.R_drew)); exact (Kd.R_mono (Kd.R_far (p := ⟨gb399, 2, none⟩) (Kd.R_far (p := ⟨gb399, 1, none⟩) (Kd.R_far (p := ⟨gb399, 0, none⟩) (Kd.R_types HO390.out BK399.out (by decide)) (fun _ hk => hk.2) (.int .i64 t393)) (fun _ hk => hk.2) (.int .i64 t394)) (fun _ hk => hk.2) (.slice Ao14 t395.length co14)) (fun _ h_ => h_.1))) hb); replace HO397 := Aside0.mk (Kd.R_below (by (with_reducible repeat (first | apply Kd.R_alloc | apply Kd.R_drewN | apply Kd.R_drew)); exact (Kd.R_mono (Kd.R_far (p := ⟨gb399, 2, none⟩) (Kd.R_far (p := ⟨gb399, 1, none⟩) (Kd.R_far (p := ⟨gb399, 0, none⟩) (Kd.R_types HO397.out BK399.out (by decide)) (fun _ hk => hk.2) (.int .i64 t393)) (fun _ hk => hk.2) (.int .i64 t394)) (fun _ hk => hk.2) (.slice Ao14 t395.length co14)) (fun _ h_ => h_.1))) hb); replace BK392 := zbl BK392.out hb; replace BK399 := Aside0.mk (blk_below (g := gb399) (o := .cells #[.int .i64 t393, .int .i64 t394, .slice Ao14 t395.length co14] 34 (0, 0)) (zbp BK399.out) hb); replace HB := Aside0.mk (below_step (zBz HB.out GE392.out GE399.out) hb); (try clear hb); (try clear hk)))
   go_meet
   case rel => exact ⟨_, (true), zrx, H', ⟨by first | omega | exact Nat.le_refl _⟩, ⟨by refine zDR ?_; exact Kd.R_mono HO390.out (fun _ hk => hk.2)⟩, ⟨by refine zDR ?_; exact Kd.R_mono HO397.out (fun _ hk => hk.2)⟩, ⟨by refine zbx ?_; exact BK392.out⟩, ⟨by refine zbx ?_; exact BK399.out⟩, ⟨by exact zBz HB.out GE392.out GE399.out⟩⟩
 case rest =>
  as_aux_lemma =>
  clear HC5
  try clear c1
  try clear c2
  try clear c2b0
  try clear c2b1
  try clear p2
  try clear c4
  try clear c12
  try clear c16
  try clear c17
  try clear c18
  try clear c21
  try clear hcz13_0
  try clear hcz13_1
  try clear hcz13_2
  try clear hcz18_0
  try clear hcz18_1
  try clear hcz18_2
  try clear hcz19_0
  try clear hcz19_1
  try clear hcz19_2
  try clear hcz22_0
  try clear hcz22_1
  try clear hcz22_2
  try clear hcz23_0
  try clear hcz23_1
  try clear hcz23_2
  try clear hcz8_0
  try clear hcz8_1
  try clear hcz8_2
  try clear hfz13_0
  try clear hfz13_1
  try clear hfz13_2
  try clear hfz18_0
  try clear hfz18_1
  try clear hfz18_2
  try clear hfz19_0
  try clear hfz19_1
  try clear hfz19_2
  try clear hfz22_0
  try clear hfz22_1
  try clear hfz22_2
  try clear hfz23_0
  try clear hfz23_1
  try clear hfz23_2
  try clear hfz8_0
  try clear hfz8_1
  try clear hfz8_2
  obtain ⟨kq, x32_4, rfl, HA, HJ4, HO_393002, HO_400002, BK392, BK399, HB⟩ := hcut
  cases kq with
  | zero => exact absurd HA.out (by simp [laws_FnExactReadBulletin.j0])
  | succ kj4 =>
   have H := HA.out
   clear HA
   simp only [laws_FnExactReadBulletin.j0] at H
   by_cases c25 : x32_4 = true
   ·subst c25
    rw [if_pos rfl] at H
    as_aux_lemma =>
     exact absurd (Option.some.inj H) (by rw [hr_]; decide)
   replace c25 := Bool.eq_false_iff.mpr c25
   subst c25
   rw [if_neg (show ¬ (false = true) by decide)] at H
   replace H := Option.bind_eq_some_iff.mp H
   obtain ⟨⟨t401, t402⟩, A260, H⟩ := H
   replace H : ((laws_heldBulletin.f kj4 t393 t394 t402 1).bind fun t403 => (if t403 < 0 then (some false) else (if t403 = t401 then ((impl_ReadBulletin.f kj4 a0).bind fun bt404 => ((laws_eqBulletin.f kj4 bt404.1 bt404.2.1 bt404.2.2.1 t386 t387 t388).bind fun t411 => (if t411 = true then (laws_FnExactReadBulletin.j1 kj4 t401 (bt404.2.2.2 != t391) t393 t394 t402) else (laws_FnExactReadBulletin.j1 kj4 t401 true t393 t394 t402)))) else (some false)))) = some r := H
   have A26 := Aside0.mk A260
   clear A260
   replace H := Option.bind_eq_some_iff.mp H
   obtain ⟨t403, A270, H⟩ := H
   replace H : (if t403 < 0 then (some false) else (if t403 = t401 then ((impl_ReadBulletin.f kj4 a0).bind fun bt404 => ((laws_eqBulletin.f kj4 bt404.1 bt404.2.1 bt404.2.2.1 t386 t387 t388).bind fun t411 => (if t411 = true then (laws_FnExactReadBulletin.j1 kj4 t401 (bt404.2.2.2 != t391) t393 t394 t402) else (laws_FnExactReadBulletin.j1 kj4 t401 true t393 t394 t402)))) else (some false))) = some r := H
   have A27 := Aside0.mk A270
   clear A270
   by_cases c28 : t403 < 0
   ·rw [if_pos c28] at H
    have c28b0 : decide (t403 < 0) = true := decide_eq_true c28
    clear c28
    as_aux_lemma =>
     exact absurd (Option.some.inj H) (by rw [hr_]; decide)
   rw [if_neg c28] at H
   have c28b0 : decide (t403 < 0) = false := decide_eq_false c28
   clear c28
   by_cases c34 : t403 = t401
   rotate_left
   ·rw [if_neg c34] at H
    have c34b0 : (t403 == t401) = false := beq_eq_false_iff_ne.mpr c34
    have c34b1 : (t403 != t401) = true := bne_iff_ne.mpr c34
    as_aux_lemma =>
     exact absurd (Option.some.inj H) (by rw [hr_]; decide)

   rw [if_pos c34] at H
   have c34b0 : (t403 == t401) = true := beq_iff_eq.mpr c34
   have c34b1 : (t403 != t401) = false := bne_eq_false_iff_eq.mpr c34
   clear c34
   replace H := Option.bind_eq_some_iff.mp H
   obtain ⟨⟨t404, t405, t406, t409⟩, A350, H⟩ := H
   replace H : ((laws_eqBulletin.f kj4 t404 t405 t406 t386 t387 t388).bind fun t411 => (if t411 = true then (laws_FnExactReadBulletin.j1 kj4 t401 (t409 != t391) t393 t394 t402) else (laws_FnExactReadBulletin.j1 kj4 t401 true t393 t394 t402))) = some r := H
   have A35 := Aside0.mk A350
   clear A350
   have HC36 := Aside0.mk H
   clear H
   have hnb37 := NB399_392.out
   have hnc37 := NB392_399.out
   have hcz38_0 : wc.cell? ⟨gb399, 0, none⟩ = some (.int .i64 t393) := (blk_cell BK399.out 0).trans rfl
   have hcz38_1 : wc.cell? ⟨gb399, 1, none⟩ = some (.int .i64 t394) := (blk_cell BK399.out 1).trans rfl
   have hcz38_2 : wc.cell? ⟨gb399, 2, none⟩ = some (.slice Ao14 t395.length co14) := (blk_cell BK399.out 2).trans rfl
   have hfz38_0 := blk_frozen BK399.out 0
   have hfz38_1 := blk_frozen BK399.out 1
   have hfz38_2 := blk_frozen BK399.out 2
   go_upto_region 16 with (first | ((with_reducible refine gate_callee (f := 19) rfl ?_); refine goesL_ (some 35) rfl rfl Tryz.func19 (by kernel_rfl) rfl #[.agg #[.int .i64 t393, .int .i64 t394, .slice Ao14 t395.length co14], .int .i64 1] rfl zlx ?_; (with_reducible refine (laws_markBulletin.calls kj4 t393 t394 (fun k_ => some k_ = (.slice Ao14 t395.length co14 : Value).ownBlock) (.slice Ao14 t395.length co14) t395 1 t401 t402 w _ ?side1 ?side2 A26.out).mono ?_); (case side1 => exact zBz HB.out GE392.out GE399.out); (case side2 => exact Kd.R_tight rfl HO_400002.out); rintro e w39 ⟨rfl, hy0, hb, hkp⟩; refine ⟨_, rfl, ?_⟩; replace HO_393002 := Aside0.mk (Kd.R_mono (ok' := fun k_ => some k_ ≠ (.slice Ao14 t395.length co14 : Value).ownBlock) (Kd.R_keptB (HO_393002.out) hkp (fun k_ hk_ hs_ => (hk_) hs_)) (fun k_ hk_ => hk_.1)); replace BK392 := Aside0.mk (blk_kept (zbx BK392.out) hkp (fun hs_ => (fun e_ => (Kd.R_ne HO_400002.out BK392.out (by decide)) e_) hs_)); replace BK399 := Aside0.mk (blk_kept (zbx BK399.out) hkp (fun hs_ => (fun e_ => (Kd.R_ne HO_400002.out BK399.out (by decide)) e_) hs_)); replace HO_400002 := Aside0.mk (Kd.R_reok rfl hy0 (fun k_ e_ => HO_400002.out.1 k_ e_)); replace HB := Aside0.mk (hb); (try clear hb); (try clear hkp); (try clear hy0); have hcz40_0 : w39.cell? ⟨gb399, 0, none⟩ = some (.int .i64 t393) := (blk_cell BK399.out 0).trans rfl; have hcz40_1 : w39.cell? ⟨gb399, 1, none⟩ = some (.int .i64 t394) := (blk_cell BK399.out 1).trans rfl; have hcz40_2 : w39.cell? ⟨gb399, 2, none⟩ = some (.slice Ao14 t395.length co14) := (blk_cell BK399.out 2).trans rfl; have hfz40_0 := blk_frozen BK399.out 0; have hfz40_1 := blk_frozen BK399.out 1; have hfz40_2 := blk_frozen BK399.out 2) | ((with_reducible refine gate_callee (f := 20) rfl ?_); refine goesL_ (some 38) rfl rfl Tryz.func20 (by kernel_rfl) rfl #[.agg #[.int .i64 t393, .int .i64 t394, .slice Ao14 t402.length co14], .int .i64 1] rfl (by (try simp only [List.map_toArray, List.map_cons, List.map_nil]); first | done | (rw [show t402.length = t395.length from (Kd.R_reads' HO_400002.out).1.symm] <;> rfl) | rfl | (simp only [List.length_drop, List.length_take]; rfl)) ?_; (with_reducible refine (laws_heldBulletin.calls kj4 t393 t394 _ _ t402 1 t403 _ ?side1 ?side2 A27.out).mono ?_); (case side1 => exact zCx (Kd.R_reads' HO_400002.out).2.2); (case side2 => rw [show t402.length = t395.length from (Kd.R_reads' HO_400002.out).1.symm]; exact (Kd.R_reads' HO_400002.out).2.1); rintro e w41 ⟨rfl, hb⟩; refine ⟨_, rfl, ?_⟩; replace HO_393002 := Aside0.mk (Kd.R_below (zRx HO_393002.out) hb); replace HO_400002 := Aside0.mk (Kd.R_below (zRx HO_400002.out) hb); replace BK392 := zbl BK392.out hb; replace BK399 := zbl BK399.out hb; replace HB := Aside0.mk (below_step (zBz HB.out GE392.out GE399.out) hb); (try clear hb)) | ((with_reducible refine gate_callee (f := 17) rfl ?_); refine goesL_ (some 46) rfl rfl Tryz.func17 (by kernel_rfl) rfl #[.string a0] rfl zlx ?_; (with_reducible refine (impl_ReadBulletin.calls kj4 a0 t404 t405 t406 t409 _ ?sideL A35.out).mono ?_); (case sideL => exact Laid.below HL.out (zBz HB.out GE392.out GE399.out)); rintro e w42 ⟨v407, rfl, ho0, hb⟩; refine ⟨_, rfl, ?_⟩; have HO408 := Aside0.mk (Kd.R_lower (Kd.R_new' (Kd.R_new' ho0 (Kd.R_lt (zRx HO_393002.out))) (Kd.R_lt (zRx HO_400002.out))) (below_size (zBz HB.out GE392.out GE399.out))); replace HO_393002 := Aside0.mk (Kd.R_elder' (zRx HO_393002.out) (Kd.R_base ho0) hb); replace HO_400002 := Aside0.mk (Kd.R_elder' (zRx HO_400002.out) (Kd.R_base ho0) hb); replace BK392 := zbl BK392.out hb; replace BK399 := zbl BK399.out hb; replace HB := Aside0.mk (below_step (zBz HB.out GE392.out GE399.out) hb); (try clear hb); (try clear ho0)) | ((with_reducible refine gate_dst (N := 9) rfl ?_); refine box_event ?hg (N := 9) ?hd (cs := #[.int .i64 0, .int .i64 0, .slice none 0 0]) (t := 34) ?hr ?_; (case hd => rfl); (case hg => rfl); (case hr => exact zsx); intro gb410 hg w43 hbox hb; replace HO_393002 := Aside0.mk (Kd.R_below (zRx HO_393002.out) hb); replace HO_400002 := Aside0.mk (Kd.R_below (zRx HO_400002.out) hb); replace HO408 := Aside0.mk (Kd.R_below (zRx HO408.out) hb); have BK410 := Aside0.mk (hbox); have GW410 := zns hg HB.out; have GE410 := zns hg HB.out; replace HB := Aside0.mk (below_step (zBz HB.out GE392.out GE399.out) hb); have NB392_410 := znl hg BK392.out; have NB410_392 := zng hg BK392.out; replace BK392 := zbl BK392.out hb; have NB399_410 := znl hg BK399.out; have NB410_399 := zng hg BK399.out; replace BK399 := zbl BK399.out hb; clear hb hbox hg; have hnb44 := NB410_392.out; have hnc44 := NB392_410.out; have hnb45 := NB410_399.out; have hnc45 := NB399_410.out; have hcz46_0 : w43.cell? ⟨gb410, 0, none⟩ = some (.int .i64 0) := (blk_cell BK410.out 0).trans rfl; have hcz46_1 : w43.cell? ⟨gb410, 1, none⟩ = some (.int .i64 0) := (blk_cell BK410.out 1).trans rfl; have hcz46_2 : w43.cell? ⟨gb410, 2, none⟩ = some (.slice none 0 0) := (blk_cell BK410.out 2).trans rfl; have hfz46_0 := blk_frozen BK410.out 0; have hfz46_1 := blk_frozen BK410.out 1; have hfz46_2 := blk_frozen BK410.out 2; obtain ⟨Ao47, co47, eo47⟩ := Kd.R_slice HO408.out; subst eo47))
   (try simp only [Act.put, List.setIfInBounds_toArray, List.set_cons_zero, List.set_cons_succ])
   go_cut [57] (fun v57 wc => ∃ (kq : Nat) (x57_35 : Bool), v57 = .bool x57_35 ∧ Aside0 (laws_FnExactReadBulletin.j1 kq t401 x57_35 t393 t394 t402 = some r) ∧ Aside0 (kq ≤ kj4) ∧ Aside0 (Kd.R k25 25 wc w.heap.size (fun k_ => some k_ ≠ ((.slice Ao14 t395.length co14) : Value).ownBlock ∧ some k_ ≠ ((.slice Ao47 t406.length co47) : Value).ownBlock) (.slice Ao9 t388.length co9) t388) ∧ Aside0 (Kd.R k25 25 wc w.heap.size (fun k_ => some k_ ≠ ((.slice Ao9 t388.length co9) : Value).ownBlock ∧ some k_ ≠ ((.slice Ao47 t406.length co47) : Value).ownBlock) (.slice Ao14 t395.length co14) t402) ∧ Aside0 (Kd.R k25 25 wc w.heap.size (fun k_ => some k_ ≠ ((.slice Ao9 t388.length co9) : Value).ownBlock ∧ some k_ ≠ ((.slice Ao14 t395.length co14) : Value).ownBlock) (.slice Ao47 t406.length co47) t406) ∧ Aside0 (wc.heap[gb392]? = some (.cells #[.int .i64 t386, .int .i64 t387, (.slice Ao9 t388.length co9)] 34 (0, 0))) ∧ Aside0 (wc.heap[gb399]? = some (.cells #[.int .i64 t393, .int .i64 t394, (.slice Ao14 t395.length co14)] 34 (0, 0))) ∧ Aside0 (wc.heap[gb410]? = some (.cells #[.int .i64 t404, .int .i64 t405, (.slice Ao47 t406.length co47)] 34 (0, 0))) ∧ Aside0 (Below w.heap.size w wc))
   case first =>
    as_aux_lemma =>
    have H := HC36.out
    clear HC36
    replace H := Option.bind_eq_some_iff.mp H
    obtain ⟨t411, A480, H⟩ := H
    replace H : (if t411 = true then (laws_FnExactReadBulletin.j1 kj4 t401 (t409 != t391) t393 t394 t402) else (laws_FnExactReadBulletin.j1 kj4 t401 true t393 t394 t402)) = some r := H
    have A48 := Aside0.mk A480
    clear A480
    by_cases c49 : t411 = true
    ·subst c49
     rw [if_pos rfl] at H
     as_aux_lemma =>
      have H' := Aside0.mk H
      clear H
      have hnb50 := NB410_392.out
      have hnc50 := NB392_410.out
      have hnb51 := NB410_399.out
      have hnc51 := NB399_410.out
      have hcz52_0 : w43.cell? ⟨gb410, 0, none⟩ = some (.int .i64 0) := (blk_cell BK410.out 0).trans rfl
      have hcz52_1 : w43.cell? ⟨gb410, 1, none⟩ = some (.int .i64 0) := (blk_cell BK410.out 1).trans rfl
      have hcz52_2 : w43.cell? ⟨gb410, 2, none⟩ = some (.slice none 0 0) := (blk_cell BK410.out 2).trans rfl
      have hfz52_0 := blk_frozen BK410.out 0
      have hfz52_1 := blk_frozen BK410.out 1
      have hfz52_2 := blk_frozen BK410.out 2
      have hnb53 := NB392_399.out
      have hnc53 := NB399_392.out
      have hcz54_0 : w43.cell? ⟨gb392, 0, none⟩ = some (.int .i64 t386) := (blk_cell BK392.out 0).trans rfl
      have hcz54_1 : w43.cell? ⟨gb392, 1, none⟩ = some (.int .i64 t387) := (blk_cell BK392.out 1).trans rfl
      have hcz54_2 : w43.cell? ⟨gb392, 2, none⟩ = some (.slice Ao9 t388.length co9) := (blk_cell BK392.out 2).trans rfl
      have hfz54_0 := blk_frozen BK392.out 0
      have hfz54_1 := blk_frozen BK392.out 1
      have hfz54_2 := blk_frozen BK392.out 2
      go_wp2_with (first | ((with_reducible refine gate_callee (f := 18) rfl ?_); refine goesL_ (some 51) rfl rfl Tryz.func18 (by kernel_rfl) rfl #[.agg #[.int .i64 t404, .int .i64 t405, .slice Ao47 t406.length co47], .agg #[.int .i64 t386, .int .i64 t387, .slice Ao9 t388.length co9]] rfl zlx ?_; (with_reducible refine (laws_eqBulletin.calls kj4 t404 t405 _ _ t406 t386 t387 _ _ t388 true _ ?side1 ?side2 ?side3 ?side4 A48.out).mono ?_); (case side1 => refine (Kd.R_reads' (e := 25) (base := w.heap.size) (ok := fun k_ => ((True ∧ some k_ ≠ (.slice Ao9 t388.length co9 : Value).ownBlock) ∧ some k_ ≠ (.slice Ao14 t395.length co14 : Value).ownBlock)) (n := t406.length) (c := co47) ?_).2.2; exact (by (with_reducible repeat (first | apply Kd.R_alloc | apply Kd.R_drewN | apply Kd.R_drew)); exact (Kd.R_mono (Kd.R_far (p := ⟨gb410, 2, none⟩) (Kd.R_far (p := ⟨gb410, 1, none⟩) (Kd.R_far (p := ⟨gb410, 0, none⟩) (Kd.R_types HO408.out BK410.out (by decide)) (fun _ hk => hk.2) (.int .i64 t404)) (fun _ hk => hk.2) (.int .i64 t405)) (fun _ hk => hk.2) (.slice Ao47 t406.length co47)) (fun _ h_ => h_.1)))); (case side2 => exact (Kd.R_reads' HO408.out).2.1); (case side3 => refine (Kd.R_reads' (e := 25) (base := w.heap.size) (ok := fun k_ => (some k_ ≠ (.slice Ao14 t395.length co14 : Value).ownBlock ∧ some k_ ≠ (.slice Ao47 t406.length co47 : Value).ownBlock)) (n := t388.length) (c := co9) ?_).2.2; exact (by (with_reducible repeat (first | apply Kd.R_alloc | apply Kd.R_drewN | apply Kd.R_drew)); exact (Kd.R_mono (Kd.R_far (p := ⟨gb410, 2, none⟩) (Kd.R_far (p := ⟨gb410, 1, none⟩) (Kd.R_far (p := ⟨gb410, 0, none⟩) (Kd.R_types HO_393002.out BK410.out (by decide)) (fun _ hk => hk.2) (.int .i64 t404)) (fun _ hk => hk.2) (.int .i64 t405)) (fun _ hk => hk.2) (.slice Ao47 t406.length co47)) (fun _ h_ => h_.1)))); (case side4 => exact (Kd.R_reads' HO_393002.out).2.1); rintro e w55 ⟨rfl, hb⟩; refine ⟨_, rfl, ?_⟩; replace HO_393002 := Aside0.mk (Kd.R_below (by (with_reducible repeat (first | apply Kd.R_alloc | apply Kd.R_drewN | apply Kd.R_drew)); exact (Kd.R_mono (Kd.R_far (p := ⟨gb410, 2, none⟩) (Kd.R_far (p := ⟨gb410, 1, none⟩) (Kd.R_far (p := ⟨gb410, 0, none⟩) (Kd.R_types HO_393002.out BK410.out (by decide)) (fun _ hk => hk.2) (.int .i64 t404)) (fun _ hk => hk.2) (.int .i64 t405)) (fun _ hk => hk.2) (.slice Ao47 t406.length co47)) (fun _ h_ => h_.1))) hb); replace HO_400002 := Aside0.mk (Kd.R_below (by (with_reducible repeat (first | apply Kd.R_alloc | apply Kd.R_drewN | apply Kd.R_drew)); exact (Kd.R_mono (Kd.R_far (p := ⟨gb410, 2, none⟩) (Kd.R_far (p := ⟨gb410, 1, none⟩) (Kd.R_far (p := ⟨gb410, 0, none⟩) (Kd.R_types HO_400002.out BK410.out (by decide)) (fun _ hk => hk.2) (.int .i64 t404)) (fun _ hk => hk.2) (.int .i64 t405)) (fun _ hk => hk.2) (.slice Ao47 t406.length co47)) (fun _ h_ => h_.1))) hb); replace HO408 := Aside0.mk (Kd.R_below (by (with_reducible repeat (first | apply Kd.R_alloc | apply Kd.R_drewN | apply Kd.R_drew)); exact (Kd.R_mono (Kd.R_far (p := ⟨gb410, 2, none⟩) (Kd.R_far (p := ⟨gb410, 1, none⟩) (Kd.R_far (p := ⟨gb410, 0, none⟩) (Kd.R_types HO408.out BK410.out (by decide)) (fun _ hk => hk.2) (.int .i64 t404)) (fun _ hk => hk.2) (.int .i64 t405)) (fun _ hk => hk.2) (.slice Ao47 t406.length co47)) (fun _ h_ => h_.1))) hb); replace BK392 := zbl BK392.out hb; replace BK399 := zbl BK399.out hb; replace BK410 := Aside0.mk (blk_below (g := gb410) (o := .cells #[.int .i64 t404, .int .i64 t405, .slice Ao47 t406.length co47] 34 (0, 0)) (zbp BK410.out) hb); replace HB := Aside0.mk (below_step (zhB HB.out) hb); (try clear hb); (try clear hk)))
      go_meet
      case rel => exact ⟨_, ((t409 != t391)), zrx, H', ⟨by have := HJ4.out; first | omega | exact Nat.le_refl _⟩, ⟨by refine zDR ?_; exact HO_393002.out⟩, ⟨by refine zDR ?_; exact HO_400002.out⟩, ⟨by refine zDR ?_; exact Kd.R_mono HO408.out (fun _ hk => by first | exact ⟨hk.1.2, hk.2⟩ | exact ⟨hk.2, hk.1.2⟩ | grind)⟩, ⟨by refine zbx ?_; exact BK392.out⟩, ⟨by refine zbx ?_; exact BK399.out⟩, ⟨by refine zbx ?_; exact BK410.out⟩, ⟨zhB HB.out⟩⟩
    replace c49 := Bool.eq_false_iff.mpr c49
    subst c49
    rw [if_neg (show ¬ (false = true) by decide)] at H
    as_aux_lemma =>
     have H' := Aside0.mk H
     clear H
     have hnb56 := NB410_392.out
     have hnc56 := NB392_410.out
     have hnb57 := NB410_399.out
     have hnc57 := NB399_410.out
     have hcz58_0 : w43.cell? ⟨gb410, 0, none⟩ = some (.int .i64 0) := (blk_cell BK410.out 0).trans rfl
     have hcz58_1 : w43.cell? ⟨gb410, 1, none⟩ = some (.int .i64 0) := (blk_cell BK410.out 1).trans rfl
     have hcz58_2 : w43.cell? ⟨gb410, 2, none⟩ = some (.slice none 0 0) := (blk_cell BK410.out 2).trans rfl
     have hfz58_0 := blk_frozen BK410.out 0
     have hfz58_1 := blk_frozen BK410.out 1
     have hfz58_2 := blk_frozen BK410.out 2
     have hnb59 := NB392_399.out
     have hnc59 := NB399_392.out
     have hcz60_0 : w43.cell? ⟨gb392, 0, none⟩ = some (.int .i64 t386) := (blk_cell BK392.out 0).trans rfl
     have hcz60_1 : w43.cell? ⟨gb392, 1, none⟩ = some (.int .i64 t387) := (blk_cell BK392.out 1).trans rfl
     have hcz60_2 : w43.cell? ⟨gb392, 2, none⟩ = some (.slice Ao9 t388.length co9) := (blk_cell BK392.out 2).trans rfl
     have hfz60_0 := blk_frozen BK392.out 0
     have hfz60_1 := blk_frozen BK392.out 1
     have hfz60_2 := blk_frozen BK392.out 2
     go_wp2_with (first | ((with_reducible refine gate_callee (f := 18) rfl ?_); refine goesL_ (some 51) rfl rfl Tryz.func18 (by kernel_rfl) rfl #[.agg #[.int .i64 t404, .int .i64 t405, .slice Ao47 t406.length co47], .agg #[.int .i64 t386, .int .i64 t387, .slice Ao9 t388.length co9]] rfl zlx ?_; (with_reducible refine (laws_eqBulletin.calls kj4 t404 t405 _ _ t406 t386 t387 _ _ t388 false _ ?side1 ?side2 ?side3 ?side4 A48.out).mono ?_); (case side1 => refine (Kd.R_reads' (e := 25) (base := w.heap.size) (ok := fun k_ => ((True ∧ some k_ ≠ (.slice Ao9 t388.length co9 : Value).ownBlock) ∧ some k_ ≠ (.slice Ao14 t395.length co14 : Value).ownBlock)) (n := t406.length) (c := co47) ?_).2.2; exact (by (with_reducible repeat (first | apply Kd.R_alloc | apply Kd.R_drewN | apply Kd.R_drew)); exact (Kd.R_mono (Kd.R_far (p := ⟨gb410, 2, none⟩) (Kd.R_far (p := ⟨gb410, 1, none⟩) (Kd.R_far (p := ⟨gb410, 0, none⟩) (Kd.R_types HO408.out BK410.out (by decide)) (fun _ hk => hk.2) (.int .i64 t404)) (fun _ hk => hk.2) (.int .i64 t405)) (fun _ hk => hk.2) (.slice Ao47 t406.length co47)) (fun _ h_ => h_.1)))); (case side2 => exact (Kd.R_reads' HO408.out).2.1); (case side3 => refine (Kd.R_reads' (e := 25) (base := w.heap.size) (ok := fun k_ => (some k_ ≠ (.slice Ao14 t395.length co14 : Value).ownBlock ∧ some k_ ≠ (.slice Ao47 t406.length co47 : Value).ownBlock)) (n := t388.length) (c := co9) ?_).2.2; exact (by (with_reducible repeat (first | apply Kd.R_alloc | apply Kd.R_drewN | apply Kd.R_drew)); exact (Kd.R_mono (Kd.R_far (p := ⟨gb410, 2, none⟩) (Kd.R_far (p := ⟨gb410, 1, none⟩) (Kd.R_far (p := ⟨gb410, 0, none⟩) (Kd.R_types HO_393002.out BK410.out (by decide)) (fun _ hk => hk.2) (.int .i64 t404)) (fun _ hk => hk.2) (.int .i64 t405)) (fun _ hk => hk.2) (.slice Ao47 t406.length co47)) (fun _ h_ => h_.1)))); (case side4 => exact (Kd.R_reads' HO_393002.out).2.1); rintro e w61 ⟨rfl, hb⟩; refine ⟨_, rfl, ?_⟩; replace HO_393002 := Aside0.mk (Kd.R_below (by (with_reducible repeat (first | apply Kd.R_alloc | apply Kd.R_drewN | apply Kd.R_drew)); exact (Kd.R_mono (Kd.R_far (p := ⟨gb410, 2, none⟩) (Kd.R_far (p := ⟨gb410, 1, none⟩) (Kd.R_far (p := ⟨gb410, 0, none⟩) (Kd.R_types HO_393002.out BK410.out (by decide)) (fun _ hk => hk.2) (.int .i64 t404)) (fun _ hk => hk.2) (.int .i64 t405)) (fun _ hk => hk.2) (.slice Ao47 t406.length co47)) (fun _ h_ => h_.1))) hb); replace HO_400002 := Aside0.mk (Kd.R_below (by (with_reducible repeat (first | apply Kd.R_alloc | apply Kd.R_drewN | apply Kd.R_drew)); exact (Kd.R_mono (Kd.R_far (p := ⟨gb410, 2, none⟩) (Kd.R_far (p := ⟨gb410, 1, none⟩) (Kd.R_far (p := ⟨gb410, 0, none⟩) (Kd.R_types HO_400002.out BK410.out (by decide)) (fun _ hk => hk.2) (.int .i64 t404)) (fun _ hk => hk.2) (.int .i64 t405)) (fun _ hk => hk.2) (.slice Ao47 t406.length co47)) (fun _ h_ => h_.1))) hb); replace HO408 := Aside0.mk (Kd.R_below (by (with_reducible repeat (first | apply Kd.R_alloc | apply Kd.R_drewN | apply Kd.R_drew)); exact (Kd.R_mono (Kd.R_far (p := ⟨gb410, 2, none⟩) (Kd.R_far (p := ⟨gb410, 1, none⟩) (Kd.R_far (p := ⟨gb410, 0, none⟩) (Kd.R_types HO408.out BK410.out (by decide)) (fun _ hk => hk.2) (.int .i64 t404)) (fun _ hk => hk.2) (.int .i64 t405)) (fun _ hk => hk.2) (.slice Ao47 t406.length co47)) (fun _ h_ => h_.1))) hb); replace BK392 := zbl BK392.out hb; replace BK399 := zbl BK399.out hb; replace BK410 := Aside0.mk (blk_below (g := gb410) (o := .cells #[.int .i64 t404, .int .i64 t405, .slice Ao47 t406.length co47] 34 (0, 0)) (zbp BK410.out) hb); replace HB := Aside0.mk (below_step (zhB HB.out) hb); (try clear hb); (try clear hk)))
     go_meet
     case rel => exact ⟨_, (true), zrx, H', ⟨by have := HJ4.out; first | omega | exact Nat.le_refl _⟩, ⟨by refine zDR ?_; exact HO_393002.out⟩, ⟨by refine zDR ?_; exact HO_400002.out⟩, ⟨by refine zDR ?_; exact Kd.R_mono HO408.out (fun _ hk => by first | exact ⟨hk.1.2, hk.2⟩ | exact ⟨hk.2, hk.1.2⟩ | grind)⟩, ⟨by refine zbx ?_; exact BK392.out⟩, ⟨by refine zbx ?_; exact BK399.out⟩, ⟨by refine zbx ?_; exact BK410.out⟩, ⟨zhB HB.out⟩⟩
   case rest =>
    as_aux_lemma =>
    clear HC36
    try clear c1
    try clear c2
    try clear c2b0
    try clear c2b1
    try clear p2
    try clear c3
    try clear c4
    try clear c5
    try clear c12
    try clear c16
    try clear c17
    try clear c18
    try clear c19
    try clear c20
    try clear c21
    try clear c25
    try clear c28
    try clear c28b0
    try clear c29
    try clear c34
    try clear c34b0
    try clear c34b1
    try clear c37
    try clear c44
    try clear c45
    try clear c49
    try clear c50
    try clear c51
    try clear c53
    try clear c56
    try clear c57
    try clear c59
    try clear hcz13_0
    try clear hcz13_1
    try clear hcz13_2
    try clear hcz18_0
    try clear hcz18_1
    try clear hcz18_2
    try clear hcz19_0
    try clear hcz19_1
    try clear hcz19_2
    try clear hcz22_0
    try clear hcz22_1
    try clear hcz22_2
    try clear hcz23_0
    try clear hcz23_1
    try clear hcz23_2
    try clear hcz30_0
    try clear hcz30_1
    try clear hcz30_2
    try clear hcz32_0
    try clear hcz32_1
    try clear hcz32_2
    try clear hcz38_0
    try clear hcz38_1
    try clear hcz38_2
    try clear hcz40_0
    try clear hcz40_1
    try clear hcz40_2
    try clear hcz46_0
    try clear hcz46_1
    try clear hcz46_2
    try clear hcz52_0
    try clear hcz52_1
    try clear hcz52_2
    try clear hcz54_0
    try clear hcz54_1
    try clear hcz54_2
    try clear hcz58_0
    try clear hcz58_1
    try clear hcz58_2
    try clear hcz60_0
    try clear hcz60_1
    try clear hcz60_2
    try clear hcz8_0
    try clear hcz8_1
    try clear hcz8_2
    try clear hfz13_0
    try clear hfz13_1
    try clear hfz13_2
    try clear hfz18_0
    try clear hfz18_1
    try clear hfz18_2
    try clear hfz19_0
    try clear hfz19_1
    try clear hfz19_2
    try clear hfz22_0
    try clear hfz22_1
    try clear hfz22_2
    try clear hfz23_0
    try clear hfz23_1
    try clear hfz23_2
    try clear hfz30_0
    try clear hfz30_1
    try clear hfz30_2
    try clear hfz32_0
    try clear hfz32_1
    try clear hfz32_2
    try clear hfz38_0
    try clear hfz38_1
    try clear hfz38_2
    try clear hfz40_0
    try clear hfz40_1
    try clear hfz40_2
    try clear hfz46_0
    try clear hfz46_1
    try clear hfz46_2
    try clear hfz52_0
    try clear hfz52_1
    try clear hfz52_2
    try clear hfz54_0
    try clear hfz54_1
    try clear hfz54_2
    try clear hfz58_0
    try clear hfz58_1
    try clear hfz58_2
    try clear hfz60_0
    try clear hfz60_1
    try clear hfz60_2
    try clear hfz8_0
    try clear hfz8_1
    try clear hfz8_2
    try clear p2
    obtain ⟨kq, x57_35, rfl, HA, HJ35, HO_393002, HO_400002, HO_411002, BK392, BK399, BK410, HB⟩ := hcut
    have hl400002_35 := (Kd.R_reads' HO_400002.out).1
    rw [hl400002_35] at HO_400002
    (try simp only [hl400002_35])
    (try simp only [hl400002_35] at BK392)
    (try simp only [hl400002_35] at BK399)
    (try simp only [hl400002_35] at BK410)
    (try simp only [hl400002_35] at HO_393002)
    (try simp only [hl400002_35] at HO_411002)
    cases kq with
    | zero => exact absurd HA.out (by simp [laws_FnExactReadBulletin.j1])
    | succ kj35 =>
     have H := HA.out
     clear HA
     simp only [laws_FnExactReadBulletin.j1] at H
     by_cases c62 : x57_35 = true
     ·subst c62
      rw [if_pos rfl] at H
      as_aux_lemma =>
       exact absurd (Option.some.inj H) (by rw [hr_]; decide)
     replace c62 := Bool.eq_false_iff.mpr c62
     subst c62
     rw [if_neg (show ¬ (false = true) by decide)] at H
     replace H := Option.bind_eq_some_iff.mp H
     obtain ⟨t412, A630, H⟩ := H
     replace H : (if t412 < 0 then (some false) else (if t412 = t401 then (some true) else (some false))) = some r := H
     have A63 := Aside0.mk A630
     clear A630
     by_cases c64 : t412 < 0
     ·rw [if_pos c64] at H
      have c64b0 : decide (t412 < 0) = true := decide_eq_true c64
      clear c64
      as_aux_lemma =>
       exact absurd (Option.some.inj H) (by rw [hr_]; decide)
     rw [if_neg c64] at H
     have c64b0 : decide (t412 < 0) = false := decide_eq_false c64
     (try rw [hl400002_35] at c64b0)
     clear c64
     by_cases c69 : t412 = t401
     rotate_left
     ·rw [if_neg c69] at H
      have c69b0 : (t412 == t401) = false := beq_eq_false_iff_ne.mpr c69
      have c69b1 : (t412 != t401) = true := bne_iff_ne.mpr c69
      as_aux_lemma =>
       exact absurd (Option.some.inj H) (by rw [hr_]; decide)
     rw [if_pos c69] at H
     have c69b0 : (t412 == t401) = true := beq_iff_eq.mpr c69
     have c69b1 : (t412 != t401) = false := bne_eq_false_iff_eq.mpr c69
     clear c69
     as_aux_lemma =>
      obtain rfl := Option.some.inj H
      have hnb70 := NB399_392.out
      have hnc70 := NB392_399.out
      have hnb71 := NB399_410.out
      have hnc71 := NB410_399.out
      have hcz72_0 : wc.cell? ⟨gb399, 0, none⟩ = some (.int .i64 t393) := (blk_cell BK399.out 0).trans rfl
      have hcz72_1 : wc.cell? ⟨gb399, 1, none⟩ = some (.int .i64 t394) := (blk_cell BK399.out 1).trans rfl
      have hcz72_2 : wc.cell? ⟨gb399, 2, none⟩ = some (.slice Ao14 t402.length co14) := (blk_cell BK399.out 2).trans rfl
      have hfz72_0 := blk_frozen BK399.out 0
      have hfz72_1 := blk_frozen BK399.out 1
      have hfz72_2 := blk_frozen BK399.out 2
      go_wp2_with (first | ((with_reducible refine gate_callee (f := 20) rfl ?_); refine goesL_ (some 60) rfl rfl Tryz.func20 (by kernel_rfl) rfl #[.agg #[.int .i64 t393, .int .i64 t394, .slice Ao14 t402.length co14], .int .i64 1] rfl zlx ?_; (with_reducible refine (laws_heldBulletin.calls kj35 t393 t394 _ _ t402 1 t412 _ ?side1 ?side2 A63.out).mono ?_); (case side1 => exact zCx (Kd.R_reads' HO_400002.out).2.2); (case side2 => exact (Kd.R_reads' HO_400002.out).2.1); rintro e w73 ⟨rfl, hb⟩; refine ⟨_, rfl, ?_⟩; replace HO_393002 := Aside0.mk (Kd.R_below (zRx HO_393002.out) hb); replace HO_400002 := Aside0.mk (Kd.R_below (zRx HO_400002.out) hb); replace HO_411002 := Aside0.mk (Kd.R_below (zRx HO_411002.out) hb); replace BK392 := zbl BK392.out hb; replace BK399 := zbl BK399.out hb; replace BK410 := zbl BK410.out hb; replace HB := Aside0.mk (below_step (zhB HB.out) hb); (try clear hb)))
      go_ret
      exact ⟨by first | rfl | (simp [errW_none, errW_some] <;> rfl) | (simp [*, errW_none, errW_some] <;> rfl), zhB HB.out⟩
/-- THE ONE PURE STATEMENT of laws_FnExactReadBulletin: yours. -/
def laws_FnExactReadBulletin.Pure : Prop := ∀ (a0 : ByteArray), a0.size ≤ 140737488351232 → ∃ k, laws_FnExactReadBulletin.f k a0 = some true
theorem laws_FnExactReadBulletin.walk (P : laws_FnExactReadBulletin.Pure) (a0 : ByteArray) (w : World) (w0 : a0.size ≤ 140737488351232) (hL : Laid w) :
 Calls Tryz.prog 4 #[.string a0] w fun e w' => e = .returned (.bool true) ∧ Below w.heap.size w w' := by
 obtain ⟨k, h⟩ := P a0 w0
 refine (laws_FnExactReadBulletin.calls k a0 true w hL h rfl).mono ?_
 rintro e w' ⟨rfl, hd⟩
 exact ⟨rfl, hd⟩

end Go.Proofs.YtlfoojgbiafffaaGreatDoor.XFnExactReadBulletin
