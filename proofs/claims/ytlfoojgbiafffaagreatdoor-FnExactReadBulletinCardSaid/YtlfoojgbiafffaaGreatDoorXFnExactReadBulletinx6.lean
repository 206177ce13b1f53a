-- written by wip/tools/xprint.py (a program of this project) out of the translation
import Derived.Test.YtlfoojgbiafffaaGreatDoorXFnExactReadBulletinx0
import Derived.Test.YtlfoojgbiafffaaGreatDoorStrsE
import Derived.Test.YtlfoojgbiafffaaGreatDoorXFnExactReadBulletinx1
import Derived.Test.YtlfoojgbiafffaaGreatDoorXFnExactReadBulletinx2
import Derived.Test.YtlfoojgbiafffaaGreatDoorXFnExactReadBulletinx4
import Derived.Test.YtlfoojgbiafffaaGreatDoorXFnExactReadBulletinx5
namespace Go.Proofs.YtlfoojgbiafffaaGreatDoor.XFnExactReadBulletin
open Go.RowKit Go.Proofs.YtlfoojgbiafffaaGreatDoorW.PrintWords Go.Proofs.YtlfoojgbiafffaaGreatDoorW.PrintLast Go.Proofs.YtlfoojgbiafffaaGreatDoorW.PrintMore
open Go.Proofs.YtlfoojgbiafffaaGreatDoor.Strs
attribute [local go_sem] max2_int min2_int max_two min_two max_three min_three max_four min_four   -- for this text's walks alone
set_option linter.unusedVariables false
set_option linter.unusedSimpArgs false

/-! ### spec_l17Parse: function 97 -/
def spec_l17Parse.j0 : Nat → ByteArray → List ByteArray → Bool → Int → Int → Int → Int → Int → Int → Option (Int × Int × Int × Int × Int × Int × Bool)
 | 0, _, _, _, _, _, _, _, _, _ => none
 | k + 1, x0, x5, x47, x170000, x170001, x170002, x170003, x170004, x170005 => if x47 = true then (some (x170000, x170001, x170002, x170003, x170004, x170005, false)) else (if 6 < (x5.length : Int) then ((spec_l1Split.f k (rdOf ByteArray.empty x5 6) 45).bind fun t177 => (if (t177.length : Int) = 2 then (if 0 < (x5.length : Int) then (if 0 ≤ (wrap64 (((rdOf ByteArray.empty x5 0).size : Int) - 1)) then (if (wrap64 (((rdOf ByteArray.empty x5 0).size : Int) - 1)) ≤ ((rdOf ByteArray.empty x5 0).size : Int) then ((spec_l1Read.f k ((rdOf ByteArray.empty x5 0).extract 0 ((wrap64 (((rdOf ByteArray.empty x5 0).size : Int) - 1)) : Int).toNat)).bind fun bt182 => (if 4 < (x5.length : Int) then (if 0 ≤ (wrap64 (((rdOf ByteArray.empty x5 4).size : Int) - 1)) then (if (wrap64 (((rdOf ByteArray.empty x5 4).size : Int) - 1)) ≤ ((rdOf ByteArray.empty x5 4).size : Int) then ((spec_l1Read.f k ((rdOf ByteArray.empty x5 4).extract 0 ((wrap64 (((rdOf ByteArray.empty x5 4).size : Int) - 1)) : Int).toNat)).bind fun bt186 => (if 0 < (t177.length : Int) then ((spec_l1Read.f k (rdOf ByteArray.empty t177 0)).bind fun bt189 => (if 1 < (t177.length : Int) then ((spec_l1Read.f k (rdOf ByteArray.empty t177 1)).bind fun bt192 => ((spec_l17Topics.f).bind fun t194 => (if 2 < (x5.length : Int) then (if 0 ≤ (wrap64 (((rdOf ByteArray.empty x5 2).size : Int) - 1)) then (if (wrap64 (((rdOf ByteArray.empty x5 2).size : Int) - 1)) ≤ ((rdOf ByteArray.empty x5 2).size : Int) then ((spec_l17Index.f k t194 ((rdOf ByteArray.empty x5 2).extract 0 ((wrap64 (((rdOf ByteArray.empty x5 2).size : Int) - 1)) : Int).toNat)).bind fun t199 => ((spec_l17Levels.f).bind fun t200 => (if 1 < (x5.length : Int) then ((spec_l17Index.f k t200 (rdOf ByteArray.empty x5 1)).bind fun t204 => (if bt182.2 = true then (if bt186.2 = true then (if bt189.2 = true then (if bt192.2 = true then ((spec_l14Good.f bt182.1 t199 t204 bt186.1 bt189.1 bt192.1).bind fun t206 => (if t206 = true then ((spec_l17Line.f k bt182.1 t199 t204 bt186.1 bt189.1 bt192.1).bind fun t207 => (if t207.toList = x0.toList then (some (bt182.1, t199, t204, bt186.1, bt189.1, bt192.1, true)) else (some (x170000, x170001, x170002, x170003, x170004, x170005, false)))) else (some (x170000, x170001, x170002, x170003, x170004, x170005, false)))) else (some (x170000, x170001, x170002, x170003, x170004, x170005, false))) else (some (x170000, x170001, x170002, x170003, x170004, x170005, false))) else (some (x170000, x170001, x170002, x170003, x170004, x170005, false))) else (some (x170000, x170001, x170002, x170003, x170004, x170005, false)))) else (none)))) else (none)) else (none)) else (none)))) else (none))) else (none))) else (none)) else (none)) else (none))) else (none)) else (none)) else (none)) else (some (x170000, x170001, x170002, x170003, x170004, x170005, false)))) else (none))
def spec_l17Parse.f (k : Nat) (a0 : ByteArray) : Option (Int × Int × Int × Int × Int × Int × Bool) := (spec_l1Split.f k a0 32).bind fun t170 => (if (a0.size : Int) > 60 then (spec_l17Parse.j0 k a0 t170 true 0 0 0 0 0 0) else (if (t170.length : Int) = 7 then (if 0 < (t170.length : Int) then (if ((rdOf ByteArray.empty t170 0).size : Int) < 2 then (spec_l17Parse.j0 k a0 t170 true 0 0 0 0 0 0) else (if 2 < (t170.length : Int) then (if ((rdOf ByteArray.empty t170 2).size : Int) < 2 then (spec_l17Parse.j0 k a0 t170 true 0 0 0 0 0 0) else (if 4 < (t170.length : Int) then (spec_l17Parse.j0 k a0 t170 (decide (((rdOf ByteArray.empty t170 4).size : Int) < 2)) 0 0 0 0 0 0) else (none))) else (none))) else (none)) else (spec_l17Parse.j0 k a0 t170 true 0 0 0 0 0 0)))
def spec_l17Parse.T8 : Bool × List (List Nat × List Nat) := (true, [([], []), ([0], [0]), ([1], [1]), ([], []), ([3], [3]), ([4], [4]), ([5], [5]), ([6], [6]), ([2, 7], [2, 7]), ([8], [8]), ([9], [9]), ([10], [10]), ([10], [10]), ([11, 9, 0, 1, 2, 3, 4, 5, 6, 7, 8, 9, 10, 11], [11]), ([12, 13, 0, 1, 2, 3, 4, 5, 6, 7, 8, 9, 10, 11, 12, 13], [12])])
def spec_l17Parse.B8 : List Nat := [0, 1, 3, 0, 8, 24, 56, 120, 255, 511, 1023, 2047, 2047, 4095, 16383]
theorem spec_l17Parse.tab8 : rtab .any (opsOf Tryz.f97 8) = spec_l17Parse.T8 := by kernel_rfl
theorem spec_l17Parse.bits8 : waitsOk spec_l17Parse.T8.2 spec_l17Parse.B8 = true := by kernel_rfl
def spec_l17Parse.T9 : Bool × List (List Nat × List Nat) := (true, [([], []), ([0], [0]), ([1], [1]), ([], []), ([3], [3]), ([4], [4]), ([5], [5]), ([6], [6]), ([2, 7], [2, 7]), ([8], [8]), ([9], [9]), ([10], [10]), ([10], [10]), ([11, 9, 0, 1, 2, 3, 4, 5, 6, 7, 8, 9, 10, 11], [11]), ([12, 13, 0, 1, 2, 3, 4, 5, 6, 7, 8, 9, 10, 11, 12, 13], [12])])
def spec_l17Parse.B9 : List Nat := [0, 1, 3, 0, 8, 24, 56, 120, 255, 511, 1023, 2047, 2047, 4095, 16383]
theorem spec_l17Parse.tab9 : rtab .any (opsOf Tryz.f97 9) = spec_l17Parse.T9 := by kernel_rfl
theorem spec_l17Parse.bits9 : waitsOk spec_l17Parse.T9.2 spec_l17Parse.B9 = true := by kernel_rfl
def spec_l17Parse.T12 : Bool × List (List Nat × List Nat) := (true, [([], []), ([], []), ([], []), ([2], [2]), ([3], [3]), ([], []), ([5], [5]), ([6], [6]), ([7], [7]), ([8], [8]), ([4, 9], [4, 9]), ([1, 10, 1], [1, 10]), ([11], []), ([], []), ([13], [13]), ([14], [14]), ([12, 15, 12], [12, 15]), ([], []), ([], []), ([], []), ([0, 11, 16, 17, 18, 19], [0, 11, 16, 17, 18, 19]), ([], []), ([21, 20, 16, 0, 1, 2, 3, 4, 5, 6, 7, 8, 9, 10, 11, 12, 13, 14, 15, 16, 17, 18, 19, 20, 21], [20, 21])])
def spec_l17Parse.B12 : List Nat := [0, 0, 0, 4, 12, 0, 32, 96, 224, 480, 1020, 2046, 4094, 0, 8192, 24576, 65534, 0, 0, 0, 1048575, 0, 4194303]
theorem spec_l17Parse.tab12 : rtab .any (opsOf Tryz.f97 12) = spec_l17Parse.T12 := by kernel_rfl
theorem spec_l17Parse.bits12 : waitsOk spec_l17Parse.T12.2 spec_l17Parse.B12 = true := by kernel_rfl
set_option maxHeartbeats 8000000 in
set_option maxRecDepth 100000 in
theorem spec_l17Parse.calls (k : Nat) (a0 : ByteArray) (r1 : Int) (r2 : Int) (r3 : Int) (r4 : Int) (r5 : Int) (r6 : Int) (r7 : Bool) (w : World) (h : spec_l17Parse.f k a0 = some (r1, r2, r3, r4, r5, r6, r7)) :
 Calls Tryz.prog 97 #[.string a0] w fun e w' => e = .returned (.tuple #[.agg #[.int .i64 r1, .int .i64 r2, .int .i64 r3, .int .i64 r4, .int .i64 r5, .int .i64 r6], .bool r7]) ∧ Below w.heap.size w w' := by
 have hu25 := Tryz.underlying25
 have HB := Aside0.mk (Below.refl w.heap.size w)
 have H : ((spec_l1Split.f k a0 32).bind fun t170 => (if (a0.size : Int) > 60 then (spec_l17Parse.j0 k a0 t170 true 0 0 0 0 0 0) else (if (t170.length : Int) = 7 then (if 0 < (t170.length : Int) then (if ((rdOf ByteArray.empty t170 0).size : Int) < 2 then (spec_l17Parse.j0 k a0 t170 true 0 0 0 0 0 0) else (if 2 < (t170.length : Int) then (if ((rdOf ByteArray.empty t170 2).size : Int) < 2 then (spec_l17Parse.j0 k a0 t170 true 0 0 0 0 0 0) else (if 4 < (t170.length : Int) then (spec_l17Parse.j0 k a0 t170 (decide (((rdOf ByteArray.empty t170 4).size : Int) < 2)) 0 0 0 0 0 0) else (none))) else (none))) else (none)) else (spec_l17Parse.j0 k a0 t170 true 0 0 0 0 0 0)))) = some (r1, r2, r3, r4, r5, r6, r7) := h
 clear h
 replace H := Option.bind_eq_some_iff.mp H
 obtain ⟨t170, A20, H⟩ := H
 replace H : (if (a0.size : Int) > 60 then (spec_l17Parse.j0 k a0 t170 true 0 0 0 0 0 0) else (if (t170.length : Int) = 7 then (if 0 < (t170.length : Int) then (if ((rdOf ByteArray.empty t170 0).size : Int) < 2 then (spec_l17Parse.j0 k a0 t170 true 0 0 0 0 0 0) else (if 2 < (t170.length : Int) then (if ((rdOf ByteArray.empty t170 2).size : Int) < 2 then (spec_l17Parse.j0 k a0 t170 true 0 0 0 0 0 0) else (if 4 < (t170.length : Int) then (spec_l17Parse.j0 k a0 t170 (decide (((rdOf ByteArray.empty t170 4).size : Int) < 2)) 0 0 0 0 0 0) else (none))) else (none))) else (none)) else (spec_l17Parse.j0 k a0 t170 true 0 0 0 0 0 0))) = some (r1, r2, r3, r4, r5, r6, r7) := H
 have A2 := Aside0.mk A20
 clear A20
 have HC3 := Aside0.mk H
 clear H
 go_enter Tryz.func97, Tryz.ntmps97
 go_upto_region 3 with (first | ((with_reducible refine gate_dst (N := 2) rfl ?_); (try (refine gate_guard (by rfl) ?_; dsimp only)); refine box_event ?hg (N := 2) ?hd (cs := #[.int .i64 0, .int .i64 0, .int .i64 0, .int .i64 0, .int .i64 0, .int .i64 0]) (t := 25) ?hr ?_; (case hd => rfl); (case hg => rfl); (case hr => exact zsx); intro gb168 hg w4 hbox hb; have BK168 := Aside0.mk (hbox); have GW168 := zns hg HB.out; have GE168 := zns hg HB.out; replace HB := Aside0.mk (below_step (zBx HB.out) hb); clear hb hbox hg) | ((with_reducible refine gate_dst (N := 4) rfl ?_); (try (refine gate_guard (by rfl) ?_; dsimp only)); refine box_event ?hg (N := 4) ?hd (cs := #[.int .i64 0, .int .i64 0, .int .i64 0, .int .i64 0, .int .i64 0, .int .i64 0]) (t := 25) ?hr ?_; (case hd => rfl); (case hg => rfl); (case hr => exact zsx); intro gb169 hg w5 hbox hb; have BK169 := Aside0.mk (hbox); have GW169 := zns hg HB.out; have GE169 := zns hg HB.out; replace HB := Aside0.mk (below_step (zBy HB.out GE168.out) hb); have NB168_169 := znl hg BK168.out; have NB169_168 := zng hg BK168.out; replace BK168 := zbl BK168.out hb; clear hb hbox hg; have hnb6 := NB169_168.out; have hnc6 := NB168_169.out; have hcz7_0 : w5.cell? ⟨gb169, 0, none⟩ = some (.int .i64 0) := (blk_cell BK169.out 0).trans rfl; have hcz7_1 : w5.cell? ⟨gb169, 1, none⟩ = some (.int .i64 0) := (blk_cell BK169.out 1).trans rfl; have hcz7_2 : w5.cell? ⟨gb169, 2, none⟩ = some (.int .i64 0) := (blk_cell BK169.out 2).trans rfl; have hcz7_3 : w5.cell? ⟨gb169, 3, none⟩ = some (.int .i64 0) := (blk_cell BK169.out 3).trans rfl; have hcz7_4 : w5.cell? ⟨gb169, 4, none⟩ = some (.int .i64 0) := (blk_cell BK169.out 4).trans rfl; have hcz7_5 : w5.cell? ⟨gb169, 5, none⟩ = some (.int .i64 0) := (blk_cell BK169.out 5).trans rfl; have hfz7_0 := blk_frozen BK169.out 0; have hfz7_1 := blk_frozen BK169.out 1; have hfz7_2 := blk_frozen BK169.out 2; have hfz7_3 := blk_frozen BK169.out 3; have hfz7_4 := blk_frozen BK169.out 4; have hfz7_5 := blk_frozen BK169.out 5) | ((with_reducible refine gate_callee (f := 54) rfl ?_); refine goesL_ (some 18) rfl rfl Tryz.func54 (by kernel_rfl) rfl #[.string a0, .int .u8 32] rfl zlx ?_; (with_reducible refine (spec_l1Split.calls k a0 32 t170 _ A2.out).mono ?_); rintro e w8 ⟨v171, rfl, ho0, hb⟩; refine ⟨_, rfl, ?_⟩; have HO172 := Aside0.mk (Kd.R_lower ho0 (below_size (zBz HB.out GE168.out GE169.out))); replace BK168 := zbl BK168.out hb; replace BK169 := Aside0.mk (blk_below (g := gb169) (o := .cells #[.int .i64 0, .int .i64 0, .int .i64 0, .int .i64 0, .int .i64 0, .int .i64 0] 25 (0, 0)) (zbp BK169.out) hb); replace HB := Aside0.mk (below_step (zBz HB.out GE168.out GE169.out) hb); (try clear hb); (try clear ho0)))
 (try simp only [Act.put, List.setIfInBounds_toArray, List.set_cons_zero, List.set_cons_succ])
 go_cut [47] (fun v47 wc => ∃ (kq : Nat) (x47_2 : Bool), v47 = .bool x47_2 ∧ Aside0 (spec_l17Parse.j0 kq a0 t170 x47_2 0 0 0 0 0 0 = some (r1, r2, r3, r4, r5, r6, r7)) ∧ Aside0 (kq ≤ k) ∧ Aside0 (Kd.R Kd.string 9 wc w.heap.size (fun _ => True) v171 t170) ∧ Aside0 (wc.heap[gb168]? = some (.cells #[.int .i64 0, .int .i64 0, .int .i64 0, .int .i64 0, .int .i64 0, .int .i64 0] 25 (0, 0))) ∧ Aside0 (wc.heap[gb169]? = some (.cells #[.int .i64 0, .int .i64 0, .int .i64 0, .int .i64 0, .int .i64 0, .int .i64 0] 25 (0, 0))) ∧ Aside0 (Below w.heap.size w wc))
 case first =>
  have H := HC3.out
  clear HC3
  by_cases c9 : (a0.size : Int) > 60
  ·rw [if_pos c9] at H
   have c9b0 : decide (60 < (a0.size : Int)) = true := decide_eq_true c9
   have c9b1 : decide (60 < a0.size) = true := decide_eq_true (by omega)
   clear c9
   (first | rw [c9b0] | (simp only [i64_w, i32_w]; rw [c9b0]) | skip)
   focus
    have H' := Aside0.mk H
    clear H
    go_wp2
    go_meet
    case rel => exact ⟨_, (true), zrx, H', ⟨by first | omega | exact Nat.le_refl _⟩, ⟨by refine zDR ?_; exact HO172.out⟩, ⟨by refine zbx ?_; exact BK168.out⟩, ⟨by refine zbx ?_; exact BK169.out⟩, ⟨by exact zBz HB.out GE168.out GE169.out⟩⟩
  rw [if_neg c9] at H
  have c9b0 : decide (60 < (a0.size : Int)) = false := decide_eq_false c9
  have c9b1 : decide (60 < a0.size) = false := decide_eq_false (by omega)
  clear c9
  (first | rw [c9b0] | (simp only [i64_w, i32_w]; rw [c9b0]) | skip)
  by_cases c10 : (t170.length : Int) = 7
  rotate_left
  ·rw [if_neg c10] at H
   have c10b0 : ((t170.length : Int) == 7) = false := beq_eq_false_iff_ne.mpr c10
   have c10b1 : ((t170.length : Int) != 7) = true := bne_iff_ne.mpr c10
   focus
    have H' := Aside0.mk H
    clear H
    obtain ⟨Ao19, co19, eo19⟩ := Kd.R_slice HO172.out
    subst eo19
    go_wp2
    go_meet
    case rel => exact ⟨_, (true), zrx, H', ⟨by first | omega | exact Nat.le_refl _⟩, ⟨by refine zDR ?_; exact HO172.out⟩, ⟨by refine zbx ?_; exact BK168.out⟩, ⟨by refine zbx ?_; exact BK169.out⟩, ⟨by exact zBz HB.out GE168.out GE169.out⟩⟩
  rw [if_pos c10] at H
  have c10b0 : ((t170.length : Int) == 7) = true := beq_iff_eq.mpr c10
  have c10b1 : ((t170.length : Int) != 7) = false := bne_eq_false_iff_eq.mpr c10
  clear c10
  obtain ⟨c11, H⟩ := zin H
  have c11b0 : decide (0 < (t170.length : Int)) = true := decide_eq_true c11
  have c11b1 : decide (0 < t170.length) = true := decide_eq_true (by omega)
  clear c11
  by_cases c12 : ((rdOf ByteArray.empty t170 0).size : Int) < 2
  ·rw [if_pos c12] at H
   have c12b0 : decide (((rdOf ByteArray.empty t170 0).size : Int) < 2) = true := decide_eq_true c12
   have c12b1 : decide ((rdOf ByteArray.empty t170 0).size < 2) = true := decide_eq_true (by omega)
   clear c12
   focus
    have H' := Aside0.mk H
    clear H
    obtain ⟨Ao13, co13, eo13⟩ := Kd.R_slice HO172.out
    subst eo13
    have p173 : 0 ≤ (0 : Int) := (by omega)
    have q173 : 0 < (t170.length : Int) := of_decide_eq_true zax
    obtain ⟨ad173, e173, hx173_0⟩ := Kd.at_string (Kd.R_reads' HO172.out).2.2 0 p173 q173
    cases e173
    have qi173 : (0 < t170.length) = True := eq_true (by omega)
    (try rw [show ((0 : Int)).toNat = 0 from rfl] at hx173_0)
    (try rw [Addr.add_zero'] at hx173_0)
    replace p173 := eq_true p173
    replace q173 := eq_true q173
    go_wp2
    go_meet
    case rel => exact ⟨_, (true), zrx, H', ⟨by first | omega | exact Nat.le_refl _⟩, ⟨by refine zDR ?_; exact HO172.out⟩, ⟨by refine zbx ?_; exact BK168.out⟩, ⟨by refine zbx ?_; exact BK169.out⟩, ⟨by exact zBz HB.out GE168.out GE169.out⟩⟩
  rw [if_neg c12] at H
  have c12b0 : decide (((rdOf ByteArray.empty t170 0).size : Int) < 2) = false := decide_eq_false c12
  have c12b1 : decide ((rdOf ByteArray.empty t170 0).size < 2) = false := decide_eq_false (by omega)
  clear c12
  obtain ⟨c14, H⟩ := zin H
  have c14b0 : decide (2 < (t170.length : Int)) = true := decide_eq_true c14
  have c14b1 : decide (2 < t170.length) = true := decide_eq_true (by omega)
  clear c14
  by_cases c15 : ((rdOf ByteArray.empty t170 2).size : Int) < 2
  ·rw [if_pos c15] at H
   have c15b0 : decide (((rdOf ByteArray.empty t170 2).size : Int) < 2) = true := decide_eq_true c15
   have c15b1 : decide ((rdOf ByteArray.empty t170 2).size < 2) = true := decide_eq_true (by omega)
   clear c15
   focus
    have H' := Aside0.mk H
    clear H
    obtain ⟨Ao16, co16, eo16⟩ := Kd.R_slice HO172.out
    subst eo16
    have p173 : 0 ≤ (0 : Int) := (by omega)
    have q173 : 0 < (t170.length : Int) := of_decide_eq_true zax
    obtain ⟨ad173, e173, hx173_0⟩ := Kd.at_string (Kd.R_reads' HO172.out).2.2 0 p173 q173
    cases e173
    have qi173 : (0 < t170.length) = True := eq_true (by omega)
    (try rw [show ((0 : Int)).toNat = 0 from rfl] at hx173_0)
    (try rw [Addr.add_zero'] at hx173_0)
    replace p173 := eq_true p173
    replace q173 := eq_true q173
    have p174 : 0 ≤ (2 : Int) := (by omega)
    have q174 : 2 < (t170.length : Int) := of_decide_eq_true zax
    obtain ⟨ad174, e174, hx174_0⟩ := Kd.at_string (Kd.R_reads' HO172.out).2.2 2 p174 q174
    obtain rfl : ad173 = ad174 := (by injection e174)
    (try simp only [show (2 : Int).toNat = 2 from rfl, Nat.reduceMul, Nat.reduceEqDiff, Go.Addr.add, ↓reduceIte] at hx174_0)
    have qi174 : (2 < t170.length) = True := eq_true (by omega)
    (try rw [show ((2 : Int)).toNat = 2 from rfl] at hx174_0)
    replace p174 := eq_true p174
    replace q174 := eq_true q174
    go_wp2
    go_meet
    case rel => exact ⟨_, (true), zrx, H', ⟨by first | omega | exact Nat.le_refl _⟩, ⟨by refine zDR ?_; exact HO172.out⟩, ⟨by refine zbx ?_; exact BK168.out⟩, ⟨by refine zbx ?_; exact BK169.out⟩, ⟨by exact zBz HB.out GE168.out GE169.out⟩⟩
  rw [if_neg c15] at H
  have c15b0 : decide (((rdOf ByteArray.empty t170 2).size : Int) < 2) = false := decide_eq_false c15
  have c15b1 : decide ((rdOf ByteArray.empty t170 2).size < 2) = false := decide_eq_false (by omega)
  clear c15
  obtain ⟨c17, H⟩ := zin H
  have c17b0 : decide (4 < (t170.length : Int)) = true := decide_eq_true c17
  have c17b1 : decide (4 < t170.length) = true := decide_eq_true (by omega)
  clear c17
  focus
   have H' := Aside0.mk H
   clear H
   obtain ⟨Ao18, co18, eo18⟩ := Kd.R_slice HO172.out
   subst eo18
   have p173 : 0 ≤ (0 : Int) := (by omega)
   have q173 : 0 < (t170.length : Int) := of_decide_eq_true zax
   obtain ⟨ad173, e173, hx173_0⟩ := Kd.at_string (Kd.R_reads' HO172.out).2.2 0 p173 q173
   cases e173
   have qi173 : (0 < t170.length) = True := eq_true (by omega)
   (try rw [show ((0 : Int)).toNat = 0 from rfl] at hx173_0)
   (try rw [Addr.add_zero'] at hx173_0)
   replace p173 := eq_true p173
   replace q173 := eq_true q173
   have p174 : 0 ≤ (2 : Int) := (by omega)
   have q174 : 2 < (t170.length : Int) := of_decide_eq_true zax
   obtain ⟨ad174, e174, hx174_0⟩ := Kd.at_string (Kd.R_reads' HO172.out).2.2 2 p174 q174
   obtain rfl : ad173 = ad174 := (by injection e174)
   (try simp only [show (2 : Int).toNat = 2 from rfl, Nat.reduceMul, Nat.reduceEqDiff, Go.Addr.add, ↓reduceIte] at hx174_0)
   have qi174 : (2 < t170.length) = True := eq_true (by omega)
   (try rw [show ((2 : Int)).toNat = 2 from rfl] at hx174_0)
   replace p174 := eq_true p174
   replace q174 := eq_true q174
   have p175 : 0 ≤ (4 : Int) := (by omega)
   have q175 : 4 < (t170.length : Int) := of_decide_eq_true zax
   obtain ⟨ad175, e175, hx175_0⟩ := Kd.at_string (Kd.R_reads' HO172.out).2.2 4 p175 q175
   obtain rfl : ad173 = ad175 := (by injection e175)
   (try simp only [show (4 : Int).toNat = 4 from rfl, Nat.reduceMul, Nat.reduceEqDiff, Go.Addr.add, ↓reduceIte] at hx175_0)
   have qi175 : (4 < t170.length) = True := eq_true (by omega)
   (try rw [show ((4 : Int)).toNat = 4 from rfl] at hx175_0)
   replace p175 := eq_true p175
   replace q175 := eq_true q175
   go_wp2
   go_meet
   case rel => exact ⟨_, (decide (((rdOf ByteArray.empty t170 4).size : Int) < 2)), zrx, H', ⟨by first | omega | exact Nat.le_refl _⟩, ⟨by refine zDR ?_; exact HO172.out⟩, ⟨by refine zbx ?_; exact BK168.out⟩, ⟨by refine zbx ?_; exact BK169.out⟩, ⟨by exact zBz HB.out GE168.out GE169.out⟩⟩
 case rest =>
  clear HC3
  try clear c1
  try clear p1
  try clear q1
  try clear hx1
  try clear qi1
  try clear p2
  try clear c5
  try clear c6
  try clear c9
  try clear c9b0
  try clear c9b1
  try clear c10
  try clear c10b0
  try clear c10b1
  try clear c11
  try clear c11b0
  try clear c11b1
  try clear c12
  try clear c12b0
  try clear c12b1
  try clear c14
  try clear c14b0
  try clear c14b1
  try clear c15
  try clear c15b0
  try clear c15b1
  try clear c17
  try clear c17b0
  try clear c17b1
  try clear p17
  try clear q17
  try clear hx17
  try clear qi17
  try clear hcz7_0
  try clear hcz7_1
  try clear hcz7_2
  try clear hcz7_3
  try clear hcz7_4
  try clear hcz7_5
  try clear hfz7_0
  try clear hfz7_1
  try clear hfz7_2
  try clear hfz7_3
  try clear hfz7_4
  try clear hfz7_5
  try clear hx173_0
  try clear hx174_0
  try clear hx175_0
  try clear p173
  try clear p174
  try clear p175
  try clear q173
  try clear q174
  try clear q175
  obtain ⟨kq, x47_2, rfl, HA, HJ2, HO_5, BK168, BK169, HB⟩ := hcut
  cases kq with
  | zero => exact absurd HA.out (by simp [spec_l17Parse.j0])
  | succ kj2 =>
   have H := HA.out
   clear HA
   simp only [spec_l17Parse.j0] at H
   by_cases c20 : x47_2 = true
   ·subst c20
    rw [if_pos rfl] at H
    focus
     simp only [Option.some.injEq, Prod.mk.injEq] at H
     obtain ⟨rfl, rfl, rfl, rfl, rfl, rfl, rfl⟩ := H
     have hnb21 := NB169_168.out
     have hnc21 := NB168_169.out
     have hcz22_0 : wc.cell? ⟨gb169, 0, none⟩ = some (.int .i64 0) := (blk_cell BK169.out 0).trans rfl
     have hcz22_1 : wc.cell? ⟨gb169, 1, none⟩ = some (.int .i64 0) := (blk_cell BK169.out 1).trans rfl
     have hcz22_2 : wc.cell? ⟨gb169, 2, none⟩ = some (.int .i64 0) := (blk_cell BK169.out 2).trans rfl
     have hcz22_3 : wc.cell? ⟨gb169, 3, none⟩ = some (.int .i64 0) := (blk_cell BK169.out 3).trans rfl
     have hcz22_4 : wc.cell? ⟨gb169, 4, none⟩ = some (.int .i64 0) := (blk_cell BK169.out 4).trans rfl
     have hcz22_5 : wc.cell? ⟨gb169, 5, none⟩ = some (.int .i64 0) := (blk_cell BK169.out 5).trans rfl
     have hfz22_0 := blk_frozen BK169.out 0
     have hfz22_1 := blk_frozen BK169.out 1
     have hfz22_2 := blk_frozen BK169.out 2
     have hfz22_3 := blk_frozen BK169.out 3
     have hfz22_4 := blk_frozen BK169.out 4
     have hfz22_5 := blk_frozen BK169.out 5
     have hcz23_0 : wc.cell? ⟨gb168, 0, none⟩ = some (.int .i64 0) := (blk_cell BK168.out 0).trans rfl
     have hcz23_1 : wc.cell? ⟨gb168, 1, none⟩ = some (.int .i64 0) := (blk_cell BK168.out 1).trans rfl
     have hcz23_2 : wc.cell? ⟨gb168, 2, none⟩ = some (.int .i64 0) := (blk_cell BK168.out 2).trans rfl
     have hcz23_3 : wc.cell? ⟨gb168, 3, none⟩ = some (.int .i64 0) := (blk_cell BK168.out 3).trans rfl
     have hcz23_4 : wc.cell? ⟨gb168, 4, none⟩ = some (.int .i64 0) := (blk_cell BK168.out 4).trans rfl
     have hcz23_5 : wc.cell? ⟨gb168, 5, none⟩ = some (.int .i64 0) := (blk_cell BK168.out 5).trans rfl
     have hfz23_0 := blk_frozen BK168.out 0
     have hfz23_1 := blk_frozen BK168.out 1
     have hfz23_2 := blk_frozen BK168.out 2
     have hfz23_3 := blk_frozen BK168.out 3
     have hfz23_4 := blk_frozen BK168.out 4
     have hfz23_5 := blk_frozen BK168.out 5
     go_wp2
     refine bodyPost_ret (results_ct rfl _ _ gb168 25 #[.int .i64 0, .int .i64 0, .int .i64 0, .int .i64 0, .int .i64 0, .int .i64 0] (0, 0) _ rfl (zbp BK168.out) Tryz.underlying25 rfl (by kernel_rfl)) rfl ?_
     exact ⟨by first | rfl | (simp [errW_none, errW_some] <;> rfl) | (simp [*, errW_none, errW_some] <;> rfl), by exact zBz HB.out GE168.out GE169.out⟩
   replace c20 := Bool.eq_false_iff.mpr c20
   subst c20
   rw [if_neg (show ¬ (false = true) by decide)] at H
   by_cases c24 : 6 < (t170.length : Int)
   rotate_left
   ·rw [if_neg c24] at H
    exact absurd H (by simp)

   rw [if_pos c24] at H
   have c24b0 : decide (6 < (t170.length : Int)) = true := decide_eq_true c24
   have c24b1 : decide (6 < t170.length) = true := decide_eq_true (by omega)
   clear c24
   replace H := Option.bind_eq_some_iff.mp H
   obtain ⟨t177, A250, H⟩ := H
   replace H : (if (t177.length : Int) = 2 then (if 0 < (t170.length : Int) then (if 0 ≤ (wrap64 (((rdOf ByteArray.empty t170 0).size : Int) - 1)) then (if (wrap64 (((rdOf ByteArray.empty t170 0).size : Int) - 1)) ≤ ((rdOf ByteArray.empty t170 0).size : Int) then ((spec_l1Read.f kj2 ((rdOf ByteArray.empty t170 0).extract 0 ((wrap64 (((rdOf ByteArray.empty t170 0).size : Int) - 1)) : Int).toNat)).bind fun bt182 => (if 4 < (t170.length : Int) then (if 0 ≤ (wrap64 (((rdOf ByteArray.empty t170 4).size : Int) - 1)) then (if (wrap64 (((rdOf ByteArray.empty t170 4).size : Int) - 1)) ≤ ((rdOf ByteArray.empty t170 4).size : Int) then ((spec_l1Read.f kj2 ((rdOf ByteArray.empty t170 4).extract 0 ((wrap64 (((rdOf ByteArray.empty t170 4).size : Int) - 1)) : Int).toNat)).bind fun bt186 => (if 0 < (t177.length : Int) then ((spec_l1Read.f kj2 (rdOf ByteArray.empty t177 0)).bind fun bt189 => (if 1 < (t177.length : Int) then ((spec_l1Read.f kj2 (rdOf ByteArray.empty t177 1)).bind fun bt192 => ((spec_l17Topics.f).bind fun t194 => (if 2 < (t170.length : Int) then (if 0 ≤ (wrap64 (((rdOf ByteArray.empty t170 2).size : Int) - 1)) then (if (wrap64 (((rdOf ByteArray.empty t170 2).size : Int) - 1)) ≤ ((rdOf ByteArray.empty t170 2).size : Int) then ((spec_l17Index.f kj2 t194 ((rdOf ByteArray.empty t170 2).extract 0 ((wrap64 (((rdOf ByteArray.empty t170 2).size : Int) - 1)) : Int).toNat)).bind fun t199 => ((spec_l17Levels.f).bind fun t200 => (if 1 < (t170.length : Int) then ((spec_l17Index.f kj2 t200 (rdOf ByteArray.empty t170 1)).bind fun t204 => (if bt182.2 = true then (if bt186.2 = true then (if bt189.2 = true then (if bt192.2 = true then ((spec_l14Good.f bt182.1 t199 t204 bt186.1 bt189.1 bt192.1).bind fun t206 => (if t206 = true then ((spec_l17Line.f kj2 bt182.1 t199 t204 bt186.1 bt189.1 bt192.1).bind fun t207 => (if t207.toList = a0.toList then (some (bt182.1, t199, t204, bt186.1, bt189.1, bt192.1, true)) else (some (0, 0, 0, 0, 0, 0, false)))) else (some (0, 0, 0, 0, 0, 0, false)))) else (some (0, 0, 0, 0, 0, 0, false))) else (some (0, 0, 0, 0, 0, 0, false))) else (some (0, 0, 0, 0, 0, 0, false))) else (some (0, 0, 0, 0, 0, 0, false)))) else (none)))) else (none)) else (none)) else (none)))) else (none))) else (none))) else (none)) else (none)) else (none))) else (none)) else (none)) else (none)) else (some (0, 0, 0, 0, 0, 0, false))) = some (r1, r2, r3, r4, r5, r6, r7) := H
   have A25 := Aside0.mk A250
   clear A250
   by_cases c26 : (t177.length : Int) = 2
   rotate_left
   ·rw [if_neg c26] at H
    have c26b0 : ((t177.length : Int) == 2) = false := beq_eq_false_iff_ne.mpr c26
    have c26b1 : ((t177.length : Int) != 2) = true := bne_iff_ne.mpr c26
    focus
     simp only [Option.some.injEq, Prod.mk.injEq] at H
     obtain ⟨rfl, rfl, rfl, rfl, rfl, rfl, rfl⟩ := H
     obtain ⟨Ao257, co257, eo257⟩ := Kd.R_slice HO_5.out
     subst eo257
     have p176 : 0 ≤ (6 : Int) := (by omega)
     have q176 : 6 < (t170.length : Int) := of_decide_eq_true zax
     obtain ⟨ad176, e176, hx176_0⟩ := Kd.at_string (Kd.R_reads' HO_5.out).2.2 6 p176 q176
     cases e176
     (try simp only [show (6 : Int).toNat = 6 from rfl, Nat.reduceMul, Nat.reduceEqDiff, Go.Addr.add, ↓reduceIte] at hx176_0)
     have qi176 : (6 < t170.length) = True := eq_true (by omega)
     (try rw [show ((6 : Int)).toNat = 6 from rfl] at hx176_0)
     replace p176 := eq_true p176
     replace q176 := eq_true q176
     go_wp2_with (first | ((with_reducible refine gate_callee (f := 54) rfl ?_); refine goesL_ (some 52) rfl rfl Tryz.func54 (by kernel_rfl) rfl #[.string (rdOf ByteArray.empty t170 6), .int .u8 45] rfl zlx ?_; (with_reducible refine (spec_l1Split.calls kj2 (rdOf ByteArray.empty t170 6) 45 t177 _ A25.out).mono ?_); rintro e w258 ⟨v178, rfl, ho0, hb⟩; refine ⟨_, rfl, ?_⟩; have HO179 := Aside0.mk (Kd.R_lower (Kd.R_new' ho0 (Kd.R_lt (zRx HO_5.out))) (below_size (zBz HB.out GE168.out GE169.out))); replace HO_5 := Aside0.mk (Kd.R_elder' (zRx HO_5.out) (Kd.R_base ho0) hb); replace BK168 := zbl BK168.out hb; replace BK169 := zbl BK169.out hb; replace HB := Aside0.mk (below_step (zBz HB.out GE168.out GE169.out) hb); (try clear hb); (try clear ho0); obtain ⟨Ao259, co259, eo259⟩ := Kd.R_slice HO179.out; subst eo259; have hnb260 := NB169_168.out; have hnc260 := NB168_169.out; have hcz261_0 : w258.cell? ⟨gb169, 0, none⟩ = some (.int .i64 0) := (blk_cell BK169.out 0).trans rfl; have hcz261_1 : w258.cell? ⟨gb169, 1, none⟩ = some (.int .i64 0) := (blk_cell BK169.out 1).trans rfl; have hcz261_2 : w258.cell? ⟨gb169, 2, none⟩ = some (.int .i64 0) := (blk_cell BK169.out 2).trans rfl; have hcz261_3 : w258.cell? ⟨gb169, 3, none⟩ = some (.int .i64 0) := (blk_cell BK169.out 3).trans rfl; have hcz261_4 : w258.cell? ⟨gb169, 4, none⟩ = some (.int .i64 0) := (blk_cell BK169.out 4).trans rfl; have hcz261_5 : w258.cell? ⟨gb169, 5, none⟩ = some (.int .i64 0) := (blk_cell BK169.out 5).trans rfl; have hfz261_0 := blk_frozen BK169.out 0; have hfz261_1 := blk_frozen BK169.out 1; have hfz261_2 := blk_frozen BK169.out 2; have hfz261_3 := blk_frozen BK169.out 3; have hfz261_4 := blk_frozen BK169.out 4; have hfz261_5 := blk_frozen BK169.out 5; have hcz262_0 : w258.cell? ⟨gb168, 0, none⟩ = some (.int .i64 0) := (blk_cell BK168.out 0).trans rfl; have hcz262_1 : w258.cell? ⟨gb168, 1, none⟩ = some (.int .i64 0) := (blk_cell BK168.out 1).trans rfl; have hcz262_2 : w258.cell? ⟨gb168, 2, none⟩ = some (.int .i64 0) := (blk_cell BK168.out 2).trans rfl; have hcz262_3 : w258.cell? ⟨gb168, 3, none⟩ = some (.int .i64 0) := (blk_cell BK168.out 3).trans rfl; have hcz262_4 : w258.cell? ⟨gb168, 4, none⟩ = some (.int .i64 0) := (blk_cell BK168.out 4).trans rfl; have hcz262_5 : w258.cell? ⟨gb168, 5, none⟩ = some (.int .i64 0) := (blk_cell BK168.out 5).trans rfl; have hfz262_0 := blk_frozen BK168.out 0; have hfz262_1 := blk_frozen BK168.out 1; have hfz262_2 := blk_frozen BK168.out 2; have hfz262_3 := blk_frozen BK168.out 3; have hfz262_4 := blk_frozen BK168.out 4; have hfz262_5 := blk_frozen BK168.out 5))
     refine bodyPost_ret (results_ct rfl _ _ gb168 25 #[.int .i64 0, .int .i64 0, .int .i64 0, .int .i64 0, .int .i64 0, .int .i64 0] (0, 0) _ rfl (zbp BK168.out) Tryz.underlying25 rfl (by kernel_rfl)) rfl ?_
     exact ⟨by first | rfl | (simp [errW_none, errW_some] <;> rfl) | (simp [*, errW_none, errW_some] <;> rfl), by exact zBz HB.out GE168.out GE169.out⟩
   rw [if_pos c26] at H
   have c26b0 : ((t177.length : Int) == 2) = true := beq_iff_eq.mpr c26
   have c26b1 : ((t177.length : Int) != 2) = false := bne_eq_false_iff_eq.mpr c26
   clear c26
   obtain ⟨c27, H⟩ := zin H
   have c27b0 : decide (0 < (t170.length : Int)) = true := decide_eq_true c27
   have c27b1 : decide (0 < t170.length) = true := decide_eq_true (by omega)
   clear c27
   obtain ⟨ji28, hji28⟩ : ∃ j_ : Int, (wrap64 (((rdOf ByteArray.empty t170 0).size : Int) - 1)) = j_ := ⟨_, rfl⟩
   replace H : (if 0 ≤ (ji28) then (if (ji28) ≤ ((rdOf ByteArray.empty t170 0).size : Int) then ((spec_l1Read.f kj2 ((rdOf ByteArray.empty t170 0).extract 0 ((ji28) : Int).toNat)).bind fun bt182 => (if 4 < (t170.length : Int) then (if 0 ≤ (wrap64 (((rdOf ByteArray.empty t170 4).size : Int) - 1)) then (if (wrap64 (((rdOf ByteArray.empty t170 4).size : Int) - 1)) ≤ ((rdOf ByteArray.empty t170 4).size : Int) then ((spec_l1Read.f kj2 ((rdOf ByteArray.empty t170 4).extract 0 ((wrap64 (((rdOf ByteArray.empty t170 4).size : Int) - 1)) : Int).toNat)).bind fun bt186 => (if 0 < (t177.length : Int) then ((spec_l1Read.f kj2 (rdOf ByteArray.empty t177 0)).bind fun bt189 => (if 1 < (t177.length : Int) then ((spec_l1Read.f kj2 (rdOf ByteArray.empty t177 1)).bind fun bt192 => ((spec_l17Topics.f).bind fun t194 => (if 2 < (t170.length : Int) then (if 0 ≤ (wrap64 (((rdOf ByteArray.empty t170 2).size : Int) - 1)) then (if (wrap64 (((rdOf ByteArray.empty t170 2).size : Int) - 1)) ≤ ((rdOf ByteArray.empty t170 2).size : Int) then ((spec_l17Index.f kj2 t194 ((rdOf ByteArray.empty t170 2).extract 0 ((wrap64 (((rdOf ByteArray.empty t170 2).size : Int) - 1)) : Int).toNat)).bind fun t199 => ((spec_l17Levels.f).bind fun t200 => (if 1 < (t170.length : Int) then ((spec_l17Index.f kj2 t200 (rdOf ByteArray.empty t170 1)).bind fun t204 => (if bt182.2 = true then (if bt186.2 = true then (if bt189.2 = true then (if bt192.2 = true then ((spec_l14Good.f bt182.1 t199 t204 bt186.1 bt189.1 bt192.1).bind fun t206 => (if t206 = true then ((spec_l17Line.f kj2 bt182.1 t199 t204 bt186.1 bt189.1 bt192.1).bind fun t207 => (if t207.toList = a0.toList then (some (bt182.1, t199, t204, bt186.1, bt189.1, bt192.1, true)) else (some (0, 0, 0, 0, 0, 0, false)))) else (some (0, 0, 0, 0, 0, 0, false)))) else (some (0, 0, 0, 0, 0, 0, false))) else (some (0, 0, 0, 0, 0, 0, false))) else (some (0, 0, 0, 0, 0, 0, false))) else (some (0, 0, 0, 0, 0, 0, false)))) else (none)))) else (none)) else (none)) else (none)))) else (none))) else (none))) else (none)) else (none)) else (none))) else (none)) else (none)) = some (r1, r2, r3, r4, r5, r6, r7) := by first | (rw [hji28] at H; exact H) | (simp only [hji28] at H ⊢; exact H)
   (try rw [hji28] at A25)
   have hji28w : (IntKind.i64.wrap (((rdOf ByteArray.empty t170 0).size : Int) - 1)) = ji28 := (i64_w _).trans hji28
   obtain ⟨c29, H⟩ := zin H
   have c29b0 := eq_true c29
   have c29b1 : decide (0 ≤ (ji28)) = true := decide_eq_true c29
   clear c29
   obtain ⟨c30, H⟩ := zin H
   have c30b0 := eq_true c30
   have c30b1 : decide ((ji28) ≤ ((rdOf ByteArray.empty t170 0).size : Int)) = true := decide_eq_true c30
   clear c30
   replace H := Option.bind_eq_some_iff.mp H
   obtain ⟨⟨t182, t183⟩, A310, H⟩ := H
   replace H : (if 4 < (t170.length : Int) then (if 0 ≤ (wrap64 (((rdOf ByteArray.empty t170 4).size : Int) - 1)) then (if (wrap64 (((rdOf ByteArray.empty t170 4).size : Int) - 1)) ≤ ((rdOf ByteArray.empty t170 4).size : Int) then ((spec_l1Read.f kj2 ((rdOf ByteArray.empty t170 4).extract 0 ((wrap64 (((rdOf ByteArray.empty t170 4).size : Int) - 1)) : Int).toNat)).bind fun bt186 => (if 0 < (t177.length : Int) then ((spec_l1Read.f kj2 (rdOf ByteArray.empty t177 0)).bind fun bt189 => (if 1 < (t177.length : Int) then ((spec_l1Read.f kj2 (rdOf ByteArray.empty t177 1)).bind fun bt192 => ((spec_l17Topics.f).bind fun t194 => (if 2 < (t170.length : Int) then (if 0 ≤ (wrap64 (((rdOf ByteArray.empty t170 2).size : Int) - 1)) then (if (wrap64 (((rdOf ByteArray.empty t170 2).size : Int) - 1)) ≤ ((rdOf ByteArray.empty t170 2).size : Int) then ((spec_l17Index.f kj2 t194 ((rdOf ByteArray.empty t170 2).extract 0 ((wrap64 (((rdOf ByteArray.empty t170 2).size : Int) - 1)) : Int).toNat)).bind fun t199 => ((spec_l17Levels.f).bind fun t200 => (if 1 < (t170.length : Int) then ((spec_l17Index.f kj2 t200 (rdOf ByteArray.empty t170 1)).bind fun t204 => (if t183 = true then (if bt186.2 = true then (if bt189.2 = true then (if bt192.2 = true then ((spec_l14Good.f t182 t199 t204 bt186.1 bt189.1 bt192.1).bind fun t206 => (if t206 = true then ((spec_l17Line.f kj2 t182 t199 t204 bt186.1 bt189.1 bt192.1).bind fun t207 => (if t207.toList = a0.toList then (some (t182, t199, t204, bt186.1, bt189.1, bt192.1, true)) else (some (0, 0, 0, 0, 0, 0, false)))) else (some (0, 0, 0, 0, 0, 0, false)))) else (some (0, 0, 0, 0, 0, 0, false))) else (some (0, 0, 0, 0, 0, 0, false))) else (some (0, 0, 0, 0, 0, 0, false))) else (some (0, 0, 0, 0, 0, 0, false)))) else (none)))) else (none)) else (none)) else (none)))) else (none))) else (none))) else (none)) else (none)) else (none)) = some (r1, r2, r3, r4, r5, r6, r7) := H
   have A31 := Aside0.mk A310
   clear A310
   obtain ⟨c32, H⟩ := zin H
   have c32b0 : decide (4 < (t170.length : Int)) = true := decide_eq_true c32
   have c32b1 : decide (4 < t170.length) = true := decide_eq_true (by omega)
   clear c32
   obtain ⟨ji33, hji33⟩ : ∃ j_ : Int, (wrap64 (((rdOf ByteArray.empty t170 4).size : Int) - 1)) = j_ := ⟨_, rfl⟩
   replace H : (if 0 ≤ (ji33) then (if (ji33) ≤ ((rdOf ByteArray.empty t170 4).size : Int) then ((spec_l1Read.f kj2 ((rdOf ByteArray.empty t170 4).extract 0 ((ji33) : Int).toNat)).bind fun bt186 => (if 0 < (t177.length : Int) then ((spec_l1Read.f kj2 (rdOf ByteArray.empty t177 0)).bind fun bt189 => (if 1 < (t177.length : Int) then ((spec_l1Read.f kj2 (rdOf ByteArray.empty t177 1)).bind fun bt192 => ((spec_l17Topics.f).bind fun t194 => (if 2 < (t170.length : Int) then (if 0 ≤ (wrap64 (((rdOf ByteArray.empty t170 2).size : Int) - 1)) then (if (wrap64 (((rdOf ByteArray.empty t170 2).size : Int) - 1)) ≤ ((rdOf ByteArray.empty t170 2).size : Int) then ((spec_l17Index.f kj2 t194 ((rdOf ByteArray.empty t170 2).extract 0 ((wrap64 (((rdOf ByteArray.empty t170 2).size : Int) - 1)) : Int).toNat)).bind fun t199 => ((spec_l17Levels.f).bind fun t200 => (if 1 < (t170.length : Int) then ((spec_l17Index.f kj2 t200 (rdOf ByteArray.empty t170 1)).bind fun t204 => (if t183 = true then (if bt186.2 = true then (if bt189.2 = true then (if bt192.2 = true then ((spec_l14Good.f t182 t199 t204 bt186.1 bt189.1 bt192.1).bind fun t206 => (if t206 = true then ((spec_l17Line.f kj2 t182 t199 t204 bt186.1 bt189.1 bt192.1).bind fun t207 => (if t207.toList = a0.toList then (some (t182, t199, t204, bt186.1, bt189.1, bt192.1, true)) else (some (0, 0, 0, 0, 0, 0, false)))) else (some (0, 0, 0, 0, 0, 0, false)))) else (some (0, 0, 0, 0, 0, 0, false))) else (some (0, 0, 0, 0, 0, 0, false))) else (some (0, 0, 0, 0, 0, 0, false))) else (some (0, 0, 0, 0, 0, 0, false)))) else (none)))) else (none)) else (none)) else (none)))) else (none))) else (none))) else (none)) else (none)) = some (r1, r2, r3, r4, r5, r6, r7) := by first | (rw [hji33] at H; exact H) | (simp only [hji33] at H ⊢; exact H)
   (try rw [hji33] at A25)
   (try rw [hji33] at A31)
   have hji33w : (IntKind.i64.wrap (((rdOf ByteArray.empty t170 4).size : Int) - 1)) = ji33 := (i64_w _).trans hji33
   obtain ⟨c34, H⟩ := zin H
   have c34b0 := eq_true c34
   have c34b1 : decide (0 ≤ (ji33)) = true := decide_eq_true c34
   clear c34
   obtain ⟨c35, H⟩ := zin H
   have c35b0 := eq_true c35
   have c35b1 : decide ((ji33) ≤ ((rdOf ByteArray.empty t170 4).size : Int)) = true := decide_eq_true c35
   clear c35
   replace H := Option.bind_eq_some_iff.mp H
   obtain ⟨⟨t186, t187⟩, A360, H⟩ := H
   replace H : (if 0 < (t177.length : Int) then ((spec_l1Read.f kj2 (rdOf ByteArray.empty t177 0)).bind fun bt189 => (if 1 < (t177.length : Int) then ((spec_l1Read.f kj2 (rdOf ByteArray.empty t177 1)).bind fun bt192 => ((spec_l17Topics.f).bind fun t194 => (if 2 < (t170.length : Int) then (if 0 ≤ (wrap64 (((rdOf ByteArray.empty t170 2).size : Int) - 1)) then (if (wrap64 (((rdOf ByteArray.empty t170 2).size : Int) - 1)) ≤ ((rdOf ByteArray.empty t170 2).size : Int) then ((spec_l17Index.f kj2 t194 ((rdOf ByteArray.empty t170 2).extract 0 ((wrap64 (((rdOf ByteArray.empty t170 2).size : Int) - 1)) : Int).toNat)).bind fun t199 => ((spec_l17Levels.f).bind fun t200 => (if 1 < (t170.length : Int) then ((spec_l17Index.f kj2 t200 (rdOf ByteArray.empty t170 1)).bind fun t204 => (if t183 = true then (if t187 = true then (if bt189.2 = true then (if bt192.2 = true then ((spec_l14Good.f t182 t199 t204 t186 bt189.1 bt192.1).bind fun t206 => (if t206 = true then ((spec_l17Line.f kj2 t182 t199 t204 t186 bt189.1 bt192.1).bind fun t207 => (if t207.toList = a0.toList then (some (t182, t199, t204, t186, bt189.1, bt192.1, true)) else (some (0, 0, 0, 0, 0, 0, false)))) else (some (0, 0, 0, 0, 0, 0, false)))) else (some (0, 0, 0, 0, 0, 0, false))) else (some (0, 0, 0, 0, 0, 0, false))) else (some (0, 0, 0, 0, 0, 0, false))) else (some (0, 0, 0, 0, 0, 0, false)))) else (none)))) else (none)) else (none)) else (none)))) else (none))) else (none)) = some (r1, r2, r3, r4, r5, r6, r7) := H
   have A36 := Aside0.mk A360
   clear A360
   obtain ⟨c37, H⟩ := zin H
   have c37b0 : decide (0 < (t177.length : Int)) = true := decide_eq_true c37
   have c37b1 : decide (0 < t177.length) = true := decide_eq_true (by omega)
   clear c37
   replace H := Option.bind_eq_some_iff.mp H
   obtain ⟨⟨t189, t190⟩, A380, H⟩ := H
   replace H : (if 1 < (t177.length : Int) then ((spec_l1Read.f kj2 (rdOf ByteArray.empty t177 1)).bind fun bt192 => ((spec_l17Topics.f).bind fun t194 => (if 2 < (t170.length : Int) then (if 0 ≤ (wrap64 (((rdOf ByteArray.empty t170 2).size : Int) - 1)) then (if (wrap64 (((rdOf ByteArray.empty t170 2).size : Int) - 1)) ≤ ((rdOf ByteArray.empty t170 2).size : Int) then ((spec_l17Index.f kj2 t194 ((rdOf ByteArray.empty t170 2).extract 0 ((wrap64 (((rdOf ByteArray.empty t170 2).size : Int) - 1)) : Int).toNat)).bind fun t199 => ((spec_l17Levels.f).bind fun t200 => (if 1 < (t170.length : Int) then ((spec_l17Index.f kj2 t200 (rdOf ByteArray.empty t170 1)).bind fun t204 => (if t183 = true then (if t187 = true then (if t190 = true then (if bt192.2 = true then ((spec_l14Good.f t182 t199 t204 t186 t189 bt192.1).bind fun t206 => (if t206 = true then ((spec_l17Line.f kj2 t182 t199 t204 t186 t189 bt192.1).bind fun t207 => (if t207.toList = a0.toList then (some (t182, t199, t204, t186, t189, bt192.1, true)) else (some (0, 0, 0, 0, 0, 0, false)))) else (some (0, 0, 0, 0, 0, 0, false)))) else (some (0, 0, 0, 0, 0, 0, false))) else (some (0, 0, 0, 0, 0, 0, false))) else (some (0, 0, 0, 0, 0, 0, false))) else (some (0, 0, 0, 0, 0, 0, false)))) else (none)))) else (none)) else (none)) else (none)))) else (none)) = some (r1, r2, r3, r4, r5, r6, r7) := H
   have A38 := Aside0.mk A380
   clear A380
   obtain ⟨c39, H⟩ := zin H
   have c39b0 : decide (1 < (t177.length : Int)) = true := decide_eq_true c39
   have c39b1 : decide (1 < t177.length) = true := decide_eq_true (by omega)
   clear c39
   replace H := Option.bind_eq_some_iff.mp H
   obtain ⟨⟨t192, t193⟩, A400, H⟩ := H
   replace H : ((spec_l17Topics.f).bind fun t194 => (if 2 < (t170.length : Int) then (if 0 ≤ (wrap64 (((rdOf ByteArray.empty t170 2).size : Int) - 1)) then (if (wrap64 (((rdOf ByteArray.empty t170 2).size : Int) - 1)) ≤ ((rdOf ByteArray.empty t170 2).size : Int) then ((spec_l17Index.f kj2 t194 ((rdOf ByteArray.empty t170 2).extract 0 ((wrap64 (((rdOf ByteArray.empty t170 2).size : Int) - 1)) : Int).toNat)).bind fun t199 => ((spec_l17Levels.f).bind fun t200 => (if 1 < (t170.length : Int) then ((spec_l17Index.f kj2 t200 (rdOf ByteArray.empty t170 1)).bind fun t204 => (if t183 = true then (if t187 = true then (if t190 = true then (if t193 = true then ((spec_l14Good.f t182 t199 t204 t186 t189 t192).bind fun t206 => (if t206 = true then ((spec_l17Line.f kj2 t182 t199 t204 t186 t189 t192).bind fun t207 => (if t207.toList = a0.toList then (some (t182, t199, t204, t186, t189, t192, true)) else (some (0, 0, 0, 0, 0, 0, false)))) else (some (0, 0, 0, 0, 0, 0, false)))) else (some (0, 0, 0, 0, 0, 0, false))) else (some (0, 0, 0, 0, 0, 0, false))) else (some (0, 0, 0, 0, 0, 0, false))) else (some (0, 0, 0, 0, 0, 0, false)))) else (none)))) else (none)) else (none)) else (none))) = some (r1, r2, r3, r4, r5, r6, r7) := H
   have A40 := Aside0.mk A400
   clear A400
   replace H := Option.bind_eq_some_iff.mp H
   obtain ⟨t194, A410, H⟩ := H
   replace H : (if 2 < (t170.length : Int) then (if 0 ≤ (wrap64 (((rdOf ByteArray.empty t170 2).size : Int) - 1)) then (if (wrap64 (((rdOf ByteArray.empty t170 2).size : Int) - 1)) ≤ ((rdOf ByteArray.empty t170 2).size : Int) then ((spec_l17Index.f kj2 t194 ((rdOf ByteArray.empty t170 2).extract 0 ((wrap64 (((rdOf ByteArray.empty t170 2).size : Int) - 1)) : Int).toNat)).bind fun t199 => ((spec_l17Levels.f).bind fun t200 => (if 1 < (t170.length : Int) then ((spec_l17Index.f kj2 t200 (rdOf ByteArray.empty t170 1)).bind fun t204 => (if t183 = true then (if t187 = true then (if t190 = true then (if t193 = true then ((spec_l14Good.f t182 t199 t204 t186 t189 t192).bind fun t206 => (if t206 = true then ((spec_l17Line.f kj2 t182 t199 t204 t186 t189 t192).bind fun t207 => (if t207.toList = a0.toList then (some (t182, t199, t204, t186, t189, t192, true)) else (some (0, 0, 0, 0, 0, 0, false)))) else (some (0, 0, 0, 0, 0, 0, false)))) else (some (0, 0, 0, 0, 0, 0, false))) else (some (0, 0, 0, 0, 0, 0, false))) else (some (0, 0, 0, 0, 0, 0, false))) else (some (0, 0, 0, 0, 0, 0, false)))) else (none)))) else (none)) else (none)) else (none)) = some (r1, r2, r3, r4, r5, r6, r7) := H
   have A41 := Aside0.mk A410
   clear A410
   obtain ⟨c42, H⟩ := zin H
   have c42b0 : decide (2 < (t170.length : Int)) = true := decide_eq_true c42
   have c42b1 : decide (2 < t170.length) = true := decide_eq_true (by omega)
   clear c42
   obtain ⟨ji43, hji43⟩ : ∃ j_ : Int, (wrap64 (((rdOf ByteArray.empty t170 2).size : Int) - 1)) = j_ := ⟨_, rfl⟩
   replace H : (if 0 ≤ (ji43) then (if (ji43) ≤ ((rdOf ByteArray.empty t170 2).size : Int) then ((spec_l17Index.f kj2 t194 ((rdOf ByteArray.empty t170 2).extract 0 ((ji43) : Int).toNat)).bind fun t199 => ((spec_l17Levels.f).bind fun t200 => (if 1 < (t170.length : Int) then ((spec_l17Index.f kj2 t200 (rdOf ByteArray.empty t170 1)).bind fun t204 => (if t183 = true then (if t187 = true then (if t190 = true then (if t193 = true then ((spec_l14Good.f t182 t199 t204 t186 t189 t192).bind fun t206 => (if t206 = true then ((spec_l17Line.f kj2 t182 t199 t204 t186 t189 t192).bind fun t207 => (if t207.toList = a0.toList then (some (t182, t199, t204, t186, t189, t192, true)) else (some (0, 0, 0, 0, 0, 0, false)))) else (some (0, 0, 0, 0, 0, 0, false)))) else (some (0, 0, 0, 0, 0, 0, false))) else (some (0, 0, 0, 0, 0, 0, false))) else (some (0, 0, 0, 0, 0, 0, false))) else (some (0, 0, 0, 0, 0, 0, false)))) else (none)))) else (none)) else (none)) = some (r1, r2, r3, r4, r5, r6, r7) := by first | (rw [hji43] at H; exact H) | (simp only [hji43] at H ⊢; exact H)
   (try rw [hji43] at A25)
   (try rw [hji43] at A31)
   (try rw [hji43] at A36)
   (try rw [hji43] at A38)
   (try rw [hji43] at A40)
   (try rw [hji43] at A41)
   have hji43w : (IntKind.i64.wrap (((rdOf ByteArray.empty t170 2).size : Int) - 1)) = ji43 := (i64_w _).trans hji43
   obtain ⟨c44, H⟩ := zin H
   have c44b0 := eq_true c44
   have c44b1 : decide (0 ≤ (ji43)) = true := decide_eq_true c44
   clear c44
   obtain ⟨c45, H⟩ := zin H
   have c45b0 := eq_true c45
   have c45b1 : decide ((ji43) ≤ ((rdOf ByteArray.empty t170 2).size : Int)) = true := decide_eq_true c45
   clear c45
   replace H := Option.bind_eq_some_iff.mp H
   obtain ⟨t199, A460, H⟩ := H
   replace H : ((spec_l17Levels.f).bind fun t200 => (if 1 < (t170.length : Int) then ((spec_l17Index.f kj2 t200 (rdOf ByteArray.empty t170 1)).bind fun t204 => (if t183 = true then (if t187 = true then (if t190 = true then (if t193 = true then ((spec_l14Good.f t182 t199 t204 t186 t189 t192).bind fun t206 => (if t206 = true then ((spec_l17Line.f kj2 t182 t199 t204 t186 t189 t192).bind fun t207 => (if t207.toList = a0.toList then (some (t182, t199, t204, t186, t189, t192, true)) else (some (0, 0, 0, 0, 0, 0, false)))) else (some (0, 0, 0, 0, 0, 0, false)))) else (some (0, 0, 0, 0, 0, 0, false))) else (some (0, 0, 0, 0, 0, 0, false))) else (some (0, 0, 0, 0, 0, 0, false))) else (some (0, 0, 0, 0, 0, 0, false)))) else (none))) = some (r1, r2, r3, r4, r5, r6, r7) := H
   have A46 := Aside0.mk A460
   clear A460
   replace H := Option.bind_eq_some_iff.mp H
   obtain ⟨t200, A470, H⟩ := H
   replace H : (if 1 < (t170.length : Int) then ((spec_l17Index.f kj2 t200 (rdOf ByteArray.empty t170 1)).bind fun t204 => (if t183 = true then (if t187 = true then (if t190 = true then (if t193 = true then ((spec_l14Good.f t182 t199 t204 t186 t189 t192).bind fun t206 => (if t206 = true then ((spec_l17Line.f kj2 t182 t199 t204 t186 t189 t192).bind fun t207 => (if t207.toList = a0.toList then (some (t182, t199, t204, t186, t189, t192, true)) else (some (0, 0, 0, 0, 0, 0, false)))) else (some (0, 0, 0, 0, 0, 0, false)))) else (some (0, 0, 0, 0, 0, 0, false))) else (some (0, 0, 0, 0, 0, 0, false))) else (some (0, 0, 0, 0, 0, 0, false))) else (some (0, 0, 0, 0, 0, 0, false)))) else (none)) = some (r1, r2, r3, r4, r5, r6, r7) := H
   have A47 := Aside0.mk A470
   clear A470
   obtain ⟨c48, H⟩ := zin H
   have c48b0 : decide (1 < (t170.length : Int)) = true := decide_eq_true c48
   have c48b1 : decide (1 < t170.length) = true := decide_eq_true (by omega)
   clear c48
   replace H := Option.bind_eq_some_iff.mp H
   obtain ⟨t204, A490, H⟩ := H
   replace H : (if t183 = true then (if t187 = true then (if t190 = true then (if t193 = true then ((spec_l14Good.f t182 t199 t204 t186 t189 t192).bind fun t206 => (if t206 = true then ((spec_l17Line.f kj2 t182 t199 t204 t186 t189 t192).bind fun t207 => (if t207.toList = a0.toList then (some (t182, t199, t204, t186, t189, t192, true)) else (some (0, 0, 0, 0, 0, 0, false)))) else (some (0, 0, 0, 0, 0, 0, false)))) else (some (0, 0, 0, 0, 0, 0, false))) else (some (0, 0, 0, 0, 0, 0, false))) else (some (0, 0, 0, 0, 0, 0, false))) else (some (0, 0, 0, 0, 0, 0, false))) = some (r1, r2, r3, r4, r5, r6, r7) := H
   have A49 := Aside0.mk A490
   clear A490
   have HH_ := Aside0.mk H
   clear H
   obtain ⟨Ao58, co58, eo58⟩ := Kd.R_slice HO_5.out
   subst eo58
   have p176 : 0 ≤ (6 : Int) := (by omega)
   have q176 : 6 < (t170.length : Int) := of_decide_eq_true zax
   obtain ⟨ad176, e176, hx176_0⟩ := Kd.at_string (Kd.R_reads' HO_5.out).2.2 6 p176 q176
   cases e176
   (try simp only [show (6 : Int).toNat = 6 from rfl, Nat.reduceMul, Nat.reduceEqDiff, Go.Addr.add, ↓reduceIte] at hx176_0)
   have qi176 : (6 < t170.length) = True := eq_true (by omega)
   (try rw [show ((6 : Int)).toNat = 6 from rfl] at hx176_0)
   replace p176 := eq_true p176
   replace q176 := eq_true q176
   try go_wp2_with (first | ((with_reducible refine gate_callee (f := 54) rfl ?_); refine goesL_ (some 52) rfl rfl Tryz.func54 (by kernel_rfl) rfl #[.string (rdOf ByteArray.empty t170 6), .int .u8 45] rfl zlx ?_; (with_reducible refine (spec_l1Split.calls kj2 (rdOf ByteArray.empty t170 6) 45 t177 _ A25.out).mono ?_); rintro e w59 ⟨v178, rfl, ho0, hb⟩; refine ⟨_, rfl, ?_⟩; have HO179 := Aside0.mk (Kd.R_lower (Kd.R_new' ho0 (Kd.R_lt (zRx HO_5.out))) (below_size (zBz HB.out GE168.out GE169.out))); replace HO_5 := Aside0.mk (Kd.R_elder' (zRx HO_5.out) (Kd.R_base ho0) hb); replace BK168 := zbl BK168.out hb; replace BK169 := zbl BK169.out hb; replace HB := Aside0.mk (below_step (zBz HB.out GE168.out GE169.out) hb); (try clear hb); (try clear ho0); obtain ⟨Ao60, co60, eo60⟩ := Kd.R_slice HO179.out; subst eo60))
   replace HO_5 := Aside0.mk (Kd.R_drew HO_5.out)
   replace HO179 := Aside0.mk (Kd.R_drew HO179.out)
   replace BK168 := Aside0.mk (blk_drew BK168.out)
   replace BK169 := Aside0.mk (blk_drew BK169.out)
   replace HB := Aside0.mk (below_drew1 HB.out)
   have p180 : 0 ≤ (0 : Int) := (by omega)
   have q180 : 0 < (t170.length : Int) := of_decide_eq_true zax
   obtain ⟨ad180, e180, hx180_0⟩ := Kd.at_string (Kd.R_reads' HO_5.out).2.2 0 p180 q180
   obtain rfl : ad176 = ad180 := (by injection e180)
   have qi180 : (0 < t170.length) = True := eq_true (by omega)
   (try rw [show ((0 : Int)).toNat = 0 from rfl] at hx180_0)
   (try rw [Addr.add_zero'] at hx180_0)
   replace p180 := eq_true p180
   replace q180 := eq_true q180
   have p181 : 0 ≤ (0 : Int) := (by omega)
   have q181 : 0 < (t170.length : Int) := of_decide_eq_true zax
   obtain ⟨ad181, e181, hx181_0⟩ := Kd.at_string (Kd.R_reads' HO_5.out).2.2 0 p181 q181
   obtain rfl : ad176 = ad181 := (by injection e181)
   have qi181 : (0 < t170.length) = True := eq_true (by omega)
   (try rw [show ((0 : Int)).toNat = 0 from rfl] at hx181_0)
   (try rw [Addr.add_zero'] at hx181_0)
   replace p181 := eq_true p181
   replace q181 := eq_true q181
   refine start_ (n := 15) (S := fun w' => w'.cell? ad176 = some (.string (rdOf ByteArray.empty t170 0)) ∧ w'.cell? ad176 = some (.string (rdOf ByteArray.empty t170 0))) (ds := []) #[F,F,F,F,F,F,F,F,F,F,F,F,F,F,F] (by kernel_rfl) rfl rfl ⟨hx180_0, hx181_0⟩ (fun hHeld => ?_); refine with_tabW spec_l17Parse.tab8 spec_l17Parse.bits8 (fun HT_ HW_ => ?_)
   generalize w59.drew = w61 at HO_5 HO179 BK168 BK169 HB hx180_0 hx181_0 hHeld ⊢
   refine zpu 0 58 #[T,F,F,F,F,F,F,F,F,F,F,F,F,F,F] HT_.out ?_
   refine zpu 1 59 #[T,T,F,F,F,F,F,F,F,F,F,F,F,F,F] HT_.out ?_
   refine zpu 3 61 #[T,T,F,T,F,F,F,F,F,F,F,F,F,F,F] HT_.out ?_
   refine zpu 4 62 #[T,T,F,T,T,F,F,F,F,F,F,F,F,F,F] HT_.out ?_
   refine take_ (i := 2) (N := some 60) (v := ?_) (a' := ?_) #[T,T,T,T,T,F,F,F,F,F,F,F,F,F,F] rfl rfl (take_ofW HT_.out HW_.out (by kernel_rfl)) (fun _ _ _ h => h) (Or.inl ⟨by rfl, ?_⟩) hHeld ?_ ?_
   rotate_left
   ·rintro w' ⟨s0, s1⟩
    go_simp
    with_reducible rfl
   rotate_left
   ·exact zpx
   refine take_ (i := 5) (N := some 63) (v := ?_) (a' := ?_) #[T,T,T,T,T,T,F,F,F,F,F,F,F,F,F] rfl rfl (take_ofW HT_.out HW_.out (by kernel_rfl)) (fun _ _ _ h => h) (Or.inl ⟨by rfl, ?_⟩) hHeld ?_ ?_
   rotate_left
   ·rintro w' ⟨s0, s1⟩
    go_simp
    with_reducible rfl
   rotate_left
   ·exact zpx
   refine zpu 6 64 #[T,T,T,T,T,T,T,F,F,F,F,F,F,F,F] HT_.out ?_
   refine zpu 7 65 #[T,T,T,T,T,T,T,T,F,F,F,F,F,F,F] HT_.out ?_
   refine zpu 8 66 #[T,T,T,T,T,T,T,T,T,F,F,F,F,F,F] HT_.out ?_
   refine one_ (i := 9) (N := some 67) #[T,T,T,T,T,T,T,T,T,T,F,F,F,F,F] rfl rfl (one_of HT_.out (by kernel_rfl)) (by decide) (fun K hK => ?_)
   refine goes_ Tryz.func55 (by kernel_rfl) rfl #[.string ((rdOf ByteArray.empty t170 0).extract 0 ((ji28) : Int).toNat)] (by rfl) rfl rfl (by (try simp only [List.map_toArray, List.map_cons, List.map_nil]); first | done | (simp only [hji28]; rfl) | rfl | (simp only [List.length_drop, List.length_take]; rfl)) ?_
   with_reducible refine (spec_l1Read.calls kj2 ((rdOf ByteArray.empty t170 0).extract 0 ((ji28) : Int).toNat) t182 t183 _ A31.out).mono ?_
   rintro e w62 ⟨rfl, hb⟩
   have HS0_ := (hb.cell (World.block_lt_of_cell? _ _ (hHeld.1))).trans (hHeld.1)
   have HS1_ := (hb.cell (World.block_lt_of_cell? _ _ (hHeld.2))).trans (hHeld.2)
   refine ⟨_, rfl, ?_⟩
   replace HO_5 := Aside0.mk (Kd.R_below (zRx HO_5.out) hb)
   replace HO179 := Aside0.mk (Kd.R_below (zRx HO179.out) hb)
   replace BK168 := zbl BK168.out hb
   replace BK169 := zbl BK169.out hb
   replace HB := Aside0.mk (below_step (zBz HB.out GE168.out GE169.out) hb)
   (try clear hb)
   refine hK.out _ _ ⟨HS0_, HS1_⟩ (fun hHeld => ?_)
   clear hK K
   refine norm_ (a' := ?_) ?_ ?_
   rotate_left
   ·show Act.put _ (some 67) _ = _
    simp only [Act.put, List.setIfInBounds_toArray, List.set_cons_zero, List.set_cons_succ, i64_w, i32_w]
    rfl
   refine zpu 10 57 #[T,T,T,T,T,T,T,T,T,T,T,F,F,F,F] HT_.out ?_
   refine zpu 11 68 #[T,T,T,T,T,T,T,T,T,T,T,T,F,F,F] HT_.out ?_
   refine zpu 12 69 #[T,T,T,T,T,T,T,T,T,T,T,T,T,F,F] HT_.out ?_
   refine zpu 13 7 #[T,T,T,T,T,T,T,T,T,T,T,T,T,T,F] HT_.out ?_
   refine zpu 14 8 #[T,T,T,T,T,T,T,T,T,T,T,T,T,T,T] HT_.out ?_
   refine done_ (done_of HT_.out (by kernel_rfl)) ?_
   try go_wp2
   replace HO_5 := Aside0.mk (Kd.R_drew HO_5.out)
   replace HO179 := Aside0.mk (Kd.R_drew HO179.out)
   replace BK168 := Aside0.mk (blk_drew BK168.out)
   replace BK169 := Aside0.mk (blk_drew BK169.out)
   replace HB := Aside0.mk (below_drew1 HB.out)
   have p184 : 0 ≤ (4 : Int) := (by omega)
   have q184 : 4 < (t170.length : Int) := of_decide_eq_true zax
   obtain ⟨ad184, e184, hx184_0⟩ := Kd.at_string (Kd.R_reads' HO_5.out).2.2 4 p184 q184
   obtain rfl : ad176 = ad184 := (by injection e184)
   (try simp only [show (4 : Int).toNat = 4 from rfl, Nat.reduceMul, Nat.reduceEqDiff, Go.Addr.add, ↓reduceIte] at hx184_0)
   have qi184 : (4 < t170.length) = True := eq_true (by omega)
   (try rw [show ((4 : Int)).toNat = 4 from rfl] at hx184_0)
   replace p184 := eq_true p184
   replace q184 := eq_true q184
   have p185 : 0 ≤ (4 : Int) := (by omega)
   have q185 : 4 < (t170.length : Int) := of_decide_eq_true zax
   obtain ⟨ad185, e185, hx185_0⟩ := Kd.at_string (Kd.R_reads' HO_5.out).2.2 4 p185 q185
   obtain rfl : ad176 = ad185 := (by injection e185)
   (try simp only [show (4 : Int).toNat = 4 from rfl, Nat.reduceMul, Nat.reduceEqDiff, Go.Addr.add, ↓reduceIte] at hx185_0)
   have qi185 : (4 < t170.length) = True := eq_true (by omega)
   (try rw [show ((4 : Int)).toNat = 4 from rfl] at hx185_0)
   replace p185 := eq_true p185
   replace q185 := eq_true q185
   refine start_ (n := 15) (S := fun w' => w'.cell? ⟨ad176.block, ad176.off + 4, none⟩ = some (.string (rdOf ByteArray.empty t170 4)) ∧ w'.cell? ⟨ad176.block, ad176.off + 4, none⟩ = some (.string (rdOf ByteArray.empty t170 4))) (ds := []) #[F,F,F,F,F,F,F,F,F,F,F,F,F,F,F] (by kernel_rfl) rfl rfl ⟨hx184_0, hx185_0⟩ (fun hHeld => ?_); refine with_tabW spec_l17Parse.tab9 spec_l17Parse.bits9 (fun HT_ HW_ => ?_)
   generalize w62.drew = w63 at HO_5 HO179 BK168 BK169 HB hx184_0 hx185_0 hHeld ⊢
   refine zpu 0 71 #[T,F,F,F,F,F,F,F,F,F,F,F,F,F,F] HT_.out ?_
   refine zpu 1 72 #[T,T,F,F,F,F,F,F,F,F,F,F,F,F,F] HT_.out ?_
   refine zpu 3 74 #[T,T,F,T,F,F,F,F,F,F,F,F,F,F,F] HT_.out ?_
   refine zpu 4 75 #[T,T,F,T,T,F,F,F,F,F,F,F,F,F,F] HT_.out ?_
   refine take_ (i := 2) (N := some 73) (v := ?_) (a' := ?_) #[T,T,T,T,T,F,F,F,F,F,F,F,F,F,F] rfl rfl (take_ofW HT_.out HW_.out (by kernel_rfl)) (fun _ _ _ h => h) (Or.inl ⟨by rfl, ?_⟩) hHeld ?_ ?_
   rotate_left
   ·rintro w' ⟨s0, s1⟩
    go_simp
    with_reducible rfl
   rotate_left
   ·exact zpx
   refine take_ (i := 5) (N := some 76) (v := ?_) (a' := ?_) #[T,T,T,T,T,T,F,F,F,F,F,F,F,F,F] rfl rfl (take_ofW HT_.out HW_.out (by kernel_rfl)) (fun _ _ _ h => h) (Or.inl ⟨by rfl, ?_⟩) hHeld ?_ ?_
   rotate_left
   ·rintro w' ⟨s0, s1⟩
    go_simp
    with_reducible rfl
   rotate_left
   ·exact zpx
   refine zpu 6 77 #[T,T,T,T,T,T,T,F,F,F,F,F,F,F,F] HT_.out ?_
   refine zpu 7 78 #[T,T,T,T,T,T,T,T,F,F,F,F,F,F,F] HT_.out ?_
   refine zpu 8 79 #[T,T,T,T,T,T,T,T,T,F,F,F,F,F,F] HT_.out ?_
   refine one_ (i := 9) (N := some 80) #[T,T,T,T,T,T,T,T,T,T,F,F,F,F,F] rfl rfl (one_of HT_.out (by kernel_rfl)) (by decide) (fun K hK => ?_)
   refine goes_ Tryz.func55 (by kernel_rfl) rfl #[.string ((rdOf ByteArray.empty t170 4).extract 0 ((ji33) : Int).toNat)] (by rfl) rfl rfl (by (try simp only [List.map_toArray, List.map_cons, List.map_nil]); first | done | (simp only [hji33]; rfl) | rfl | (simp only [List.length_drop, List.length_take]; rfl)) ?_
   with_reducible refine (spec_l1Read.calls kj2 ((rdOf ByteArray.empty t170 4).extract 0 ((ji33) : Int).toNat) t186 t187 _ A36.out).mono ?_
   rintro e w64 ⟨rfl, hb⟩
   have HS0_ := (hb.cell (World.block_lt_of_cell? _ _ (hHeld.1))).trans (hHeld.1)
   have HS1_ := (hb.cell (World.block_lt_of_cell? _ _ (hHeld.2))).trans (hHeld.2)
   refine ⟨_, rfl, ?_⟩
   replace HO_5 := Aside0.mk (Kd.R_below (zRx HO_5.out) hb)
   replace HO179 := Aside0.mk (Kd.R_below (zRx HO179.out) hb)
   replace BK168 := zbl BK168.out hb
   replace BK169 := zbl BK169.out hb
   replace HB := Aside0.mk (below_step (zBz HB.out GE168.out GE169.out) hb)
   (try clear hb)
   refine hK.out _ _ ⟨HS0_, HS1_⟩ (fun hHeld => ?_)
   clear hK K
   refine norm_ (a' := ?_) ?_ ?_
   rotate_left
   ·show Act.put _ (some 80) _ = _
    simp only [Act.put, List.setIfInBounds_toArray, List.set_cons_zero, List.set_cons_succ, i64_w, i32_w]
    rfl
   refine zpu 10 70 #[T,T,T,T,T,T,T,T,T,T,T,F,F,F,F] HT_.out ?_
   refine zpu 11 81 #[T,T,T,T,T,T,T,T,T,T,T,T,F,F,F] HT_.out ?_
   refine zpu 12 82 #[T,T,T,T,T,T,T,T,T,T,T,T,T,F,F] HT_.out ?_
   refine zpu 13 9 #[T,T,T,T,T,T,T,T,T,T,T,T,T,T,F] HT_.out ?_
   refine zpu 14 10 #[T,T,T,T,T,T,T,T,T,T,T,T,T,T,T] HT_.out ?_
   refine done_ (done_of HT_.out (by kernel_rfl)) ?_
   have p188 : 0 ≤ (0 : Int) := (by omega)
   have q188 : 0 < (t177.length : Int) := of_decide_eq_true zax
   obtain ⟨ad188, e188, hx188_0⟩ := Kd.at_string (Kd.R_reads' HO179.out).2.2 0 p188 q188
   cases e188
   have qi188 : (0 < t177.length) = True := eq_true (by omega)
   (try rw [show ((0 : Int)).toNat = 0 from rfl] at hx188_0)
   (try rw [Addr.add_zero'] at hx188_0)
   replace p188 := eq_true p188
   replace q188 := eq_true q188
   try go_wp2_with (first | ((with_reducible refine gate_callee (f := 55) rfl ?_); refine goesL_ (some 87) rfl rfl Tryz.func55 (by kernel_rfl) rfl #[.string (rdOf ByteArray.empty t177 0)] rfl zlx ?_; (with_reducible refine (spec_l1Read.calls kj2 (rdOf ByteArray.empty t177 0) t189 t190 _ A38.out).mono ?_); rintro e w65 ⟨rfl, hb⟩; refine ⟨_, rfl, ?_⟩; replace HO_5 := Aside0.mk (Kd.R_below (zRx HO_5.out) hb); replace HO179 := Aside0.mk (Kd.R_below (zRx HO179.out) hb); replace BK168 := zbl BK168.out hb; replace BK169 := zbl BK169.out hb; replace HB := Aside0.mk (below_step (zBz HB.out GE168.out GE169.out) hb); (try clear hb); have p191 : 0 ≤ (1 : Int) := (by omega); have q191 : 1 < (t177.length : Int) := of_decide_eq_true zax; obtain ⟨ad191, e191, hx191_0⟩ := Kd.at_string (Kd.R_reads' HO179.out).2.2 1 p191 q191; obtain rfl : ad188 = ad191 := (by injection e191); (try simp only [show (1 : Int).toNat = 1 from rfl, Nat.reduceMul, Nat.reduceEqDiff, Go.Addr.add, ↓reduceIte] at hx191_0); have qi191 : (1 < t177.length) = True := eq_true (by omega); (try rw [show ((1 : Int)).toNat = 1 from rfl] at hx191_0); replace p191 := eq_true p191; replace q191 := eq_true q191) | ((with_reducible refine gate_callee (f := 55) rfl ?_); refine goesL_ (some 94) rfl rfl Tryz.func55 (by kernel_rfl) rfl #[.string (rdOf ByteArray.empty t177 1)] rfl zlx ?_; (with_reducible refine (spec_l1Read.calls kj2 (rdOf ByteArray.empty t177 1) t192 t193 _ A40.out).mono ?_); rintro e w66 ⟨rfl, hb⟩; refine ⟨_, rfl, ?_⟩; replace HO_5 := Aside0.mk (Kd.R_below (zRx HO_5.out) hb); replace HO179 := Aside0.mk (Kd.R_below (zRx HO179.out) hb); replace BK168 := zbl BK168.out hb; replace BK169 := zbl BK169.out hb; replace HB := Aside0.mk (below_step (zBz HB.out GE168.out GE169.out) hb); (try clear hb)))
   replace HO_5 := Aside0.mk (Kd.R_drew HO_5.out)
   replace HO179 := Aside0.mk (Kd.R_drew HO179.out)
   replace BK168 := Aside0.mk (blk_drew BK168.out)
   replace BK169 := Aside0.mk (blk_drew BK169.out)
   replace HB := Aside0.mk (below_drew1 HB.out)
   have p197 : 0 ≤ (2 : Int) := (by omega)
   have q197 : 2 < (t170.length : Int) := of_decide_eq_true zax
   obtain ⟨ad197, e197, hx197_0⟩ := Kd.at_string (Kd.R_reads' HO_5.out).2.2 2 p197 q197
   obtain rfl : ad176 = ad197 := (by injection e197)
   (try simp only [show (2 : Int).toNat = 2 from rfl, Nat.reduceMul, Nat.reduceEqDiff, Go.Addr.add, ↓reduceIte] at hx197_0)
   have qi197 : (2 < t170.length) = True := eq_true (by omega)
   (try rw [show ((2 : Int)).toNat = 2 from rfl] at hx197_0)
   replace p197 := eq_true p197
   replace q197 := eq_true q197
   have p198 : 0 ≤ (2 : Int) := (by omega)
   have q198 : 2 < (t170.length : Int) := of_decide_eq_true zax
   obtain ⟨ad198, e198, hx198_0⟩ := Kd.at_string (Kd.R_reads' HO_5.out).2.2 2 p198 q198
   obtain rfl : ad176 = ad198 := (by injection e198)
   (try simp only [show (2 : Int).toNat = 2 from rfl, Nat.reduceMul, Nat.reduceEqDiff, Go.Addr.add, ↓reduceIte] at hx198_0)
   have qi198 : (2 < t170.length) = True := eq_true (by omega)
   (try rw [show ((2 : Int)).toNat = 2 from rfl] at hx198_0)
   replace p198 := eq_true p198
   replace q198 := eq_true q198
   have p203 : 0 ≤ (1 : Int) := (by omega)
   have q203 : 1 < (t170.length : Int) := of_decide_eq_true zax
   obtain ⟨ad203, e203, hx203_0⟩ := Kd.at_string (Kd.R_reads' HO_5.out).2.2 1 p203 q203
   obtain rfl : ad176 = ad203 := (by injection e203)
   (try simp only [show (1 : Int).toNat = 1 from rfl, Nat.reduceMul, Nat.reduceEqDiff, Go.Addr.add, ↓reduceIte] at hx203_0)
   have qi203 : (1 < t170.length) = True := eq_true (by omega)
   (try rw [show ((1 : Int)).toNat = 1 from rfl] at hx203_0)
   replace p203 := eq_true p203
   replace q203 := eq_true q203
   refine start_ (n := 23) (S := fun w' => w'.cell? ⟨ad176.block, ad176.off + 2, none⟩ = some (.string (rdOf ByteArray.empty t170 2)) ∧ w'.cell? ⟨ad176.block, ad176.off + 2, none⟩ = some (.string (rdOf ByteArray.empty t170 2)) ∧ w'.cell? ⟨ad176.block, ad176.off + 1, none⟩ = some (.string (rdOf ByteArray.empty t170 1))) (ds := []) #[F,F,F,F,F,F,F,F,F,F,F,F,F,F,F,F,F,F,F,F,F,F,F] (by kernel_rfl) rfl rfl ⟨hx197_0, hx198_0, hx203_0⟩ (fun hHeld => ?_); refine with_tabW spec_l17Parse.tab12 spec_l17Parse.bits12 (fun HT_ HW_ => ?_)
   generalize w66.drew = w67 at HO_5 HO179 BK168 BK169 HB hx197_0 hx198_0 hx203_0 hHeld ⊢
   refine zpu 0 97 #[T,F,F,F,F,F,F,F,F,F,F,F,F,F,F,F,F,F,F,F,F,F,F] HT_.out ?_
   refine zpu 2 99 #[T,F,T,F,F,F,F,F,F,F,F,F,F,F,F,F,F,F,F,F,F,F,F] HT_.out ?_
   refine zpu 3 100 #[T,F,T,T,F,F,F,F,F,F,F,F,F,F,F,F,F,F,F,F,F,F,F] HT_.out ?_
   refine zpu 5 102 #[T,F,T,T,F,T,F,F,F,F,F,F,F,F,F,F,F,F,F,F,F,F,F] HT_.out ?_
   refine zpu 6 103 #[T,F,T,T,F,T,T,F,F,F,F,F,F,F,F,F,F,F,F,F,F,F,F] HT_.out ?_
   refine zpu 13 110 #[T,F,T,T,F,T,T,F,F,F,F,F,F,T,F,F,F,F,F,F,F,F,F] HT_.out ?_
   refine zpu 14 111 #[T,F,T,T,F,T,T,F,F,F,F,F,F,T,T,F,F,F,F,F,F,F,F] HT_.out ?_
   refine zpu 17 114 #[T,F,T,T,F,T,T,F,F,F,F,F,F,T,T,F,F,T,F,F,F,F,F] HT_.out ?_
   refine zpu 18 115 #[T,F,T,T,F,T,T,F,F,F,F,F,F,T,T,F,F,T,T,F,F,F,F] HT_.out ?_
   refine zpu 19 116 #[T,F,T,T,F,T,T,F,F,F,F,F,F,T,T,F,F,T,T,T,F,F,F] HT_.out ?_
   refine take_ (i := 4) (N := some 101) (v := ?_) (a' := ?_) #[T,F,T,T,T,T,T,F,F,F,F,F,F,T,T,F,F,T,T,T,F,F,F] rfl rfl (take_ofW HT_.out HW_.out (by kernel_rfl)) (fun _ _ _ h => h) (Or.inl ⟨by rfl, ?_⟩) hHeld ?_ ?_
   rotate_left
   ·rintro w' ⟨s0, s1, s2⟩
    go_simp
    with_reducible rfl
   rotate_left
   ·exact zpx
   refine take_ (i := 7) (N := some 104) (v := ?_) (a' := ?_) #[T,F,T,T,T,T,T,T,F,F,F,F,F,T,T,F,F,T,T,T,F,F,F] rfl rfl (take_ofW HT_.out HW_.out (by kernel_rfl)) (fun _ _ _ h => h) (Or.inl ⟨by rfl, ?_⟩) hHeld ?_ ?_
   rotate_left
   ·rintro w' ⟨s0, s1, s2⟩
    go_simp
    with_reducible rfl
   rotate_left
   ·exact zpx
   refine zpu 8 105 #[T,F,T,T,T,T,T,T,T,F,F,F,F,T,T,F,F,T,T,T,F,F,F] HT_.out ?_
   refine zpu 9 106 #[T,F,T,T,T,T,T,T,T,T,F,F,F,T,T,F,F,T,T,T,F,F,F] HT_.out ?_
   refine zpu 10 107 #[T,F,T,T,T,T,T,T,T,T,T,F,F,T,T,F,F,T,T,T,F,F,F] HT_.out ?_
   refine take_ (i := 15) (N := some 112) (v := ?_) (a' := ?_) #[T,F,T,T,T,T,T,T,T,T,T,F,F,T,T,T,F,T,T,T,F,F,F] rfl rfl (take_ofW HT_.out HW_.out (by kernel_rfl)) (fun _ _ _ h => h) (Or.inl ⟨by rfl, ?_⟩) hHeld ?_ ?_
   rotate_left
   ·rintro w' ⟨s0, s1, s2⟩
    go_simp
    with_reducible rfl
   rotate_left
   ·exact zpx
   refine join_ (σ := Value × Value × Nat) 1 #[T,T,T,T,T,T,T,T,T,T,T,T,T,T,T,T,T,T,T,T,T,T,F] (fun s_ => [(98, s_.1), (108, .int .i64 t199), (109, s_.2.1), (113, .int .i64 t204), (15, .pointer (some ⟨s_.2.2, 0, none⟩)), (117, .agg #[.int .i64 t182, .int .i64 t199, .int .i64 t204, .int .i64 t186, .int .i64 t189, .int .i64 t192])]) (fun s_ w' => (w'.cell? ⟨ad176.block, ad176.off + 2, none⟩ = some (.string (rdOf ByteArray.empty t170 2)) ∧ w'.cell? ⟨ad176.block, ad176.off + 2, none⟩ = some (.string (rdOf ByteArray.empty t170 2)) ∧ w'.cell? ⟨ad176.block, ad176.off + 1, none⟩ = some (.string (rdOf ByteArray.empty t170 1))) ∧ (Kd.R Kd.string 9 w' w.heap.size (fun k_ => some k_ ≠ (s_.1 : Value).ownBlock ∧ some k_ ≠ (s_.2.1 : Value).ownBlock ∧ some k_ ≠ (.slice (some ad176) t170.length co58 : Value).ownBlock) (.slice (some ad188) t177.length co60) t177) ∧ (Kd.R Kd.string 9 w' w.heap.size (fun k_ => some k_ ≠ (.slice (some ad188) t177.length co60 : Value).ownBlock ∧ some k_ ≠ (s_.2.1 : Value).ownBlock ∧ some k_ ≠ (.slice (some ad176) t170.length co58 : Value).ownBlock) s_.1 t194) ∧ (Kd.R Kd.string 9 w' w.heap.size (fun k_ => some k_ ≠ (.slice (some ad188) t177.length co60 : Value).ownBlock ∧ some k_ ≠ (s_.1 : Value).ownBlock ∧ some k_ ≠ (.slice (some ad176) t170.length co58 : Value).ownBlock) s_.2.1 t200) ∧ (Kd.R Kd.string 9 w' w.heap.size (fun k_ => some k_ ≠ (.slice (some ad188) t177.length co60 : Value).ownBlock ∧ some k_ ≠ (s_.1 : Value).ownBlock ∧ some k_ ≠ (s_.2.1 : Value).ownBlock) (.slice (some ad176) t170.length co58) t170) ∧ (w'.heap[gb168]? = some (.cells #[.int .i64 0, .int .i64 0, .int .i64 0, .int .i64 0, .int .i64 0, .int .i64 0] 25 (0, 0))) ∧ (w'.heap[gb169]? = some (.cells #[.int .i64 0, .int .i64 0, .int .i64 0, .int .i64 0, .int .i64 0, .int .i64 0] 25 (0, 0))) ∧ (w'.heap[s_.2.2]? = some (.cells #[.int .i64 0, .int .i64 0, .int .i64 0, .int .i64 0, .int .i64 0, .int .i64 0] 25 (0, 0))) ∧ (w.heap.size ≤ s_.2.2) ∧ (w.heap.size ≤ s_.2.2) ∧ (gb168 ≠ s_.2.2) ∧ (s_.2.2 ≠ gb168) ∧ (gb169 ≠ s_.2.2) ∧ (s_.2.2 ≠ gb169) ∧ (Below w.heap.size w w')) ?_ ?_
   rotate_left
   ·intro hJ1_11_12_16_21
    refine join_ (σ := Value × Value) 2 #[T,T,T,T,T,T,T,T,T,T,T,T,T,T,T,T,T,T,T,T,T,F,F] (fun s_ => [(98, s_.1), (108, .int .i64 t199), (109, s_.2), (113, .int .i64 t204), (117, .agg #[.int .i64 t182, .int .i64 t199, .int .i64 t204, .int .i64 t186, .int .i64 t189, .int .i64 t192])]) (fun s_ w' => (w'.cell? ⟨ad176.block, ad176.off + 2, none⟩ = some (.string (rdOf ByteArray.empty t170 2)) ∧ w'.cell? ⟨ad176.block, ad176.off + 2, none⟩ = some (.string (rdOf ByteArray.empty t170 2)) ∧ w'.cell? ⟨ad176.block, ad176.off + 1, none⟩ = some (.string (rdOf ByteArray.empty t170 1))) ∧ (Kd.R Kd.string 9 w' w.heap.size (fun k_ => some k_ ≠ (s_.1 : Value).ownBlock ∧ some k_ ≠ (s_.2 : Value).ownBlock ∧ some k_ ≠ (.slice (some ad176) t170.length co58 : Value).ownBlock) (.slice (some ad188) t177.length co60) t177) ∧ (Kd.R Kd.string 9 w' w.heap.size (fun k_ => some k_ ≠ (.slice (some ad188) t177.length co60 : Value).ownBlock ∧ some k_ ≠ (s_.2 : Value).ownBlock ∧ some k_ ≠ (.slice (some ad176) t170.length co58 : Value).ownBlock) s_.1 t194) ∧ (Kd.R Kd.string 9 w' w.heap.size (fun k_ => some k_ ≠ (.slice (some ad188) t177.length co60 : Value).ownBlock ∧ some k_ ≠ (s_.1 : Value).ownBlock ∧ some k_ ≠ (.slice (some ad176) t170.length co58 : Value).ownBlock) s_.2 t200) ∧ (Kd.R Kd.string 9 w' w.heap.size (fun k_ => some k_ ≠ (.slice (some ad188) t177.length co60 : Value).ownBlock ∧ some k_ ≠ (s_.1 : Value).ownBlock ∧ some k_ ≠ (s_.2 : Value).ownBlock) (.slice (some ad176) t170.length co58) t170) ∧ (w'.heap[gb168]? = some (.cells #[.int .i64 0, .int .i64 0, .int .i64 0, .int .i64 0, .int .i64 0, .int .i64 0] 25 (0, 0))) ∧ (w'.heap[gb169]? = some (.cells #[.int .i64 0, .int .i64 0, .int .i64 0, .int .i64 0, .int .i64 0, .int .i64 0] 25 (0, 0))) ∧ (Below w.heap.size w w')) ?_ ?_
    rotate_left
    ·intro hJ1_11_12_16
     refine join_ (σ := Value × Value × Nat) 3 #[T,T,T,T,T,T,T,T,T,T,T,T,T,T,T,T,F,T,T,T,F,T,F] (fun s_ => [(98, s_.1), (108, .int .i64 t199), (109, s_.2.1), (15, .pointer (some ⟨s_.2.2, 0, none⟩))]) (fun s_ w' => (w'.cell? ⟨ad176.block, ad176.off + 2, none⟩ = some (.string (rdOf ByteArray.empty t170 2)) ∧ w'.cell? ⟨ad176.block, ad176.off + 2, none⟩ = some (.string (rdOf ByteArray.empty t170 2)) ∧ w'.cell? ⟨ad176.block, ad176.off + 1, none⟩ = some (.string (rdOf ByteArray.empty t170 1))) ∧ (Kd.R Kd.string 9 w' w.heap.size (fun k_ => some k_ ≠ (s_.1 : Value).ownBlock ∧ some k_ ≠ (s_.2.1 : Value).ownBlock ∧ some k_ ≠ (.slice (some ad176) t170.length co58 : Value).ownBlock) (.slice (some ad188) t177.length co60) t177) ∧ (Kd.R Kd.string 9 w' w.heap.size (fun k_ => some k_ ≠ (.slice (some ad188) t177.length co60 : Value).ownBlock ∧ some k_ ≠ (s_.2.1 : Value).ownBlock ∧ some k_ ≠ (.slice (some ad176) t170.length co58 : Value).ownBlock) s_.1 t194) ∧ (Kd.R Kd.string 9 w' w.heap.size (fun k_ => some k_ ≠ (.slice (some ad188) t177.length co60 : Value).ownBlock ∧ some k_ ≠ (s_.1 : Value).ownBlock ∧ some k_ ≠ (.slice (some ad176) t170.length co58 : Value).ownBlock) s_.2.1 t200) ∧ (Kd.R Kd.string 9 w' w.heap.size (fun k_ => some k_ ≠ (.slice (some ad188) t177.length co60 : Value).ownBlock ∧ some k_ ≠ (s_.1 : Value).ownBlock ∧ some k_ ≠ (s_.2.1 : Value).ownBlock) (.slice (some ad176) t170.length co58) t170) ∧ (w'.heap[gb168]? = some (.cells #[.int .i64 0, .int .i64 0, .int .i64 0, .int .i64 0, .int .i64 0, .int .i64 0] 25 (0, 0))) ∧ (w'.heap[gb169]? = some (.cells #[.int .i64 0, .int .i64 0, .int .i64 0, .int .i64 0, .int .i64 0, .int .i64 0] 25 (0, 0))) ∧ (w'.heap[s_.2.2]? = some (.cells #[.int .i64 0, .int .i64 0, .int .i64 0, .int .i64 0, .int .i64 0, .int .i64 0] 25 (0, 0))) ∧ (w.heap.size ≤ s_.2.2) ∧ (w.heap.size ≤ s_.2.2) ∧ (gb168 ≠ s_.2.2) ∧ (s_.2.2 ≠ gb168) ∧ (gb169 ≠ s_.2.2) ∧ (s_.2.2 ≠ gb169) ∧ (Below w.heap.size w w')) ?_ ?_
     rotate_left
     ·intro hJ1_11_12_21
      refine join_ (σ := Value × Value) 4 #[T,T,T,T,T,T,T,T,T,T,T,T,T,T,T,T,F,T,T,T,F,F,F] (fun s_ => [(98, s_.1), (108, .int .i64 t199), (109, s_.2)]) (fun s_ w' => (w'.cell? ⟨ad176.block, ad176.off + 2, none⟩ = some (.string (rdOf ByteArray.empty t170 2)) ∧ w'.cell? ⟨ad176.block, ad176.off + 2, none⟩ = some (.string (rdOf ByteArray.empty t170 2)) ∧ w'.cell? ⟨ad176.block, ad176.off + 1, none⟩ = some (.string (rdOf ByteArray.empty t170 1))) ∧ (Kd.R Kd.string 9 w' w.heap.size (fun k_ => some k_ ≠ (s_.1 : Value).ownBlock ∧ some k_ ≠ (s_.2 : Value).ownBlock ∧ some k_ ≠ (.slice (some ad176) t170.length co58 : Value).ownBlock) (.slice (some ad188) t177.length co60) t177) ∧ (Kd.R Kd.string 9 w' w.heap.size (fun k_ => some k_ ≠ (.slice (some ad188) t177.length co60 : Value).ownBlock ∧ some k_ ≠ (s_.2 : Value).ownBlock ∧ some k_ ≠ (.slice (some ad176) t170.length co58 : Value).ownBlock) s_.1 t194) ∧ (Kd.R Kd.string 9 w' w.heap.size (fun k_ => some k_ ≠ (.slice (some ad188) t177.length co60 : Value).ownBlock ∧ some k_ ≠ (s_.1 : Value).ownBlock ∧ some k_ ≠ (.slice (some ad176) t170.length co58 : Value).ownBlock) s_.2 t200) ∧ (Kd.R Kd.string 9 w' w.heap.size (fun k_ => some k_ ≠ (.slice (some ad188) t177.length co60 : Value).ownBlock ∧ some k_ ≠ (s_.1 : Value).ownBlock ∧ some k_ ≠ (s_.2 : Value).ownBlock) (.slice (some ad176) t170.length co58) t170) ∧ (w'.heap[gb168]? = some (.cells #[.int .i64 0, .int .i64 0, .int .i64 0, .int .i64 0, .int .i64 0, .int .i64 0] 25 (0, 0))) ∧ (w'.heap[gb169]? = some (.cells #[.int .i64 0, .int .i64 0, .int .i64 0, .int .i64 0, .int .i64 0, .int .i64 0] 25 (0, 0))) ∧ (Below w.heap.size w w')) ?_ ?_
      rotate_left
      ·intro hJ1_11_12
       refine join_ (σ := Value × Nat) 4 #[T,T,T,T,T,T,T,T,T,T,T,T,F,T,T,T,F,T,T,T,F,T,F] (fun s_ => [(98, s_.1), (108, .int .i64 t199), (15, .pointer (some ⟨s_.2, 0, none⟩))]) (fun s_ w' => (w'.cell? ⟨ad176.block, ad176.off + 2, none⟩ = some (.string (rdOf ByteArray.empty t170 2)) ∧ w'.cell? ⟨ad176.block, ad176.off + 2, none⟩ = some (.string (rdOf ByteArray.empty t170 2)) ∧ w'.cell? ⟨ad176.block, ad176.off + 1, none⟩ = some (.string (rdOf ByteArray.empty t170 1))) ∧ (Kd.R Kd.string 9 w' w.heap.size (fun k_ => some k_ ≠ (s_.1 : Value).ownBlock ∧ some k_ ≠ (.slice (some ad176) t170.length co58 : Value).ownBlock) (.slice (some ad188) t177.length co60) t177) ∧ (Kd.R Kd.string 9 w' w.heap.size (fun k_ => some k_ ≠ (.slice (some ad188) t177.length co60 : Value).ownBlock ∧ some k_ ≠ (.slice (some ad176) t170.length co58 : Value).ownBlock) s_.1 t194) ∧ (Kd.R Kd.string 9 w' w.heap.size (fun k_ => some k_ ≠ (.slice (some ad188) t177.length co60 : Value).ownBlock ∧ some k_ ≠ (s_.1 : Value).ownBlock) (.slice (some ad176) t170.length co58) t170) ∧ (w'.heap[gb168]? = some (.cells #[.int .i64 0, .int .i64 0, .int .i64 0, .int .i64 0, .int .i64 0, .int .i64 0] 25 (0, 0))) ∧ (w'.heap[gb169]? = some (.cells #[.int .i64 0, .int .i64 0, .int .i64 0, .int .i64 0, .int .i64 0, .int .i64 0] 25 (0, 0))) ∧ (w'.heap[s_.2]? = some (.cells #[.int .i64 0, .int .i64 0, .int .i64 0, .int .i64 0, .int .i64 0, .int .i64 0] 25 (0, 0))) ∧ (w.heap.size ≤ s_.2) ∧ (w.heap.size ≤ s_.2) ∧ (gb168 ≠ s_.2) ∧ (s_.2 ≠ gb168) ∧ (gb169 ≠ s_.2) ∧ (s_.2 ≠ gb169) ∧ (Below w.heap.size w w')) ?_ ?_
       rotate_left
       ·intro hJ1_11_21
        refine join_ (σ := Value) 5 #[T,T,T,T,T,T,T,T,T,T,T,T,F,T,T,T,F,T,T,T,F,F,F] (fun s_ => [(98, s_), (108, .int .i64 t199)]) (fun s_ w' => (w'.cell? ⟨ad176.block, ad176.off + 2, none⟩ = some (.string (rdOf ByteArray.empty t170 2)) ∧ w'.cell? ⟨ad176.block, ad176.off + 2, none⟩ = some (.string (rdOf ByteArray.empty t170 2)) ∧ w'.cell? ⟨ad176.block, ad176.off + 1, none⟩ = some (.string (rdOf ByteArray.empty t170 1))) ∧ (Kd.R Kd.string 9 w' w.heap.size (fun k_ => some k_ ≠ (s_ : Value).ownBlock ∧ some k_ ≠ (.slice (some ad176) t170.length co58 : Value).ownBlock) (.slice (some ad188) t177.length co60) t177) ∧ (Kd.R Kd.string 9 w' w.heap.size (fun k_ => some k_ ≠ (.slice (some ad188) t177.length co60 : Value).ownBlock ∧ some k_ ≠ (.slice (some ad176) t170.length co58 : Value).ownBlock) s_ t194) ∧ (Kd.R Kd.string 9 w' w.heap.size (fun k_ => some k_ ≠ (.slice (some ad188) t177.length co60 : Value).ownBlock ∧ some k_ ≠ (s_ : Value).ownBlock) (.slice (some ad176) t170.length co58) t170) ∧ (w'.heap[gb168]? = some (.cells #[.int .i64 0, .int .i64 0, .int .i64 0, .int .i64 0, .int .i64 0, .int .i64 0] 25 (0, 0))) ∧ (w'.heap[gb169]? = some (.cells #[.int .i64 0, .int .i64 0, .int .i64 0, .int .i64 0, .int .i64 0, .int .i64 0] 25 (0, 0))) ∧ (Below w.heap.size w w')) ?_ ?_
        rotate_left
        ·intro hJ1_11
         refine join_ (σ := Value × Nat) 5 #[T,T,T,T,T,T,T,T,T,T,T,F,F,T,T,T,F,T,T,T,F,T,F] (fun s_ => [(98, s_.1), (15, .pointer (some ⟨s_.2, 0, none⟩))]) (fun s_ w' => (w'.cell? ⟨ad176.block, ad176.off + 2, none⟩ = some (.string (rdOf ByteArray.empty t170 2)) ∧ w'.cell? ⟨ad176.block, ad176.off + 2, none⟩ = some (.string (rdOf ByteArray.empty t170 2)) ∧ w'.cell? ⟨ad176.block, ad176.off + 1, none⟩ = some (.string (rdOf ByteArray.empty t170 1))) ∧ (Kd.R Kd.string 9 w' w.heap.size (fun k_ => some k_ ≠ (s_.1 : Value).ownBlock ∧ some k_ ≠ (.slice (some ad176) t170.length co58 : Value).ownBlock) (.slice (some ad188) t177.length co60) t177) ∧ (Kd.R Kd.string 9 w' w.heap.size (fun k_ => some k_ ≠ (.slice (some ad188) t177.length co60 : Value).ownBlock ∧ some k_ ≠ (.slice (some ad176) t170.length co58 : Value).ownBlock) s_.1 t194) ∧ (Kd.R Kd.string 9 w' w.heap.size (fun k_ => some k_ ≠ (.slice (some ad188) t177.length co60 : Value).ownBlock ∧ some k_ ≠ (s_.1 : Value).ownBlock) (.slice (some ad176) t170.length co58) t170) ∧ (w'.heap[gb168]? = some (.cells #[.int .i64 0, .int .i64 0, .int .i64 0, .int .i64 0, .int .i64 0, .int .i64 0] 25 (0, 0))) ∧ (w'.heap[gb169]? = some (.cells #[.int .i64 0, .int .i64 0, .int .i64 0, .int .i64 0, .int .i64 0, .int .i64 0] 25 (0, 0))) ∧ (w'.heap[s_.2]? = some (.cells #[.int .i64 0, .int .i64 0, .int .i64 0, .int .i64 0, .int .i64 0, .int .i64 0] 25 (0, 0))) ∧ (w.heap.size ≤ s_.2) ∧ (w.heap.size ≤ s_.2) ∧ (gb168 ≠ s_.2) ∧ (s_.2 ≠ gb168) ∧ (gb169 ≠ s_.2) ∧ (s_.2 ≠ gb169) ∧ (Below w.heap.size w w')) ?_ ?_
         rotate_left
         ·intro hJ1_21
          refine join_ (σ := Value) 6 #[T,T,T,T,T,T,T,T,T,T,T,F,F,T,T,T,F,T,T,T,F,F,F] (fun s_ => [(98, s_)]) (fun s_ w' => (w'.cell? ⟨ad176.block, ad176.off + 2, none⟩ = some (.string (rdOf ByteArray.empty t170 2)) ∧ w'.cell? ⟨ad176.block, ad176.off + 2, none⟩ = some (.string (rdOf ByteArray.empty t170 2)) ∧ w'.cell? ⟨ad176.block, ad176.off + 1, none⟩ = some (.string (rdOf ByteArray.empty t170 1))) ∧ (Kd.R Kd.string 9 w' w.heap.size (fun k_ => some k_ ≠ (s_ : Value).ownBlock ∧ some k_ ≠ (.slice (some ad176) t170.length co58 : Value).ownBlock) (.slice (some ad188) t177.length co60) t177) ∧ (Kd.R Kd.string 9 w' w.heap.size (fun k_ => some k_ ≠ (.slice (some ad188) t177.length co60 : Value).ownBlock ∧ some k_ ≠ (.slice (some ad176) t170.length co58 : Value).ownBlock) s_ t194) ∧ (Kd.R Kd.string 9 w' w.heap.size (fun k_ => some k_ ≠ (.slice (some ad188) t177.length co60 : Value).ownBlock ∧ some k_ ≠ (s_ : Value).ownBlock) (.slice (some ad176) t170.length co58) t170) ∧ (w'.heap[gb168]? = some (.cells #[.int .i64 0, .int .i64 0, .int .i64 0, .int .i64 0, .int .i64 0, .int .i64 0] 25 (0, 0))) ∧ (w'.heap[gb169]? = some (.cells #[.int .i64 0, .int .i64 0, .int .i64 0, .int .i64 0, .int .i64 0, .int .i64 0] 25 (0, 0))) ∧ (Below w.heap.size w w')) ?_ ?_
          rotate_left
          ·intro hJ1
           refine join_ (σ := Nat) 6 #[T,F,T,T,T,T,T,T,T,T,T,F,F,T,T,T,F,T,T,T,F,T,F] (fun s_ => [(15, .pointer (some ⟨s_, 0, none⟩))]) (fun s_ w' => (w'.cell? ⟨ad176.block, ad176.off + 2, none⟩ = some (.string (rdOf ByteArray.empty t170 2)) ∧ w'.cell? ⟨ad176.block, ad176.off + 2, none⟩ = some (.string (rdOf ByteArray.empty t170 2)) ∧ w'.cell? ⟨ad176.block, ad176.off + 1, none⟩ = some (.string (rdOf ByteArray.empty t170 1))) ∧ (Kd.R Kd.string 9 w' w.heap.size (fun k_ => some k_ ≠ (.slice (some ad176) t170.length co58 : Value).ownBlock) (.slice (some ad188) t177.length co60) t177) ∧ (Kd.R Kd.string 9 w' w.heap.size (fun k_ => some k_ ≠ (.slice (some ad188) t177.length co60 : Value).ownBlock) (.slice (some ad176) t170.length co58) t170) ∧ (w'.heap[gb168]? = some (.cells #[.int .i64 0, .int .i64 0, .int .i64 0, .int .i64 0, .int .i64 0, .int .i64 0] 25 (0, 0))) ∧ (w'.heap[gb169]? = some (.cells #[.int .i64 0, .int .i64 0, .int .i64 0, .int .i64 0, .int .i64 0, .int .i64 0] 25 (0, 0))) ∧ (w'.heap[s_]? = some (.cells #[.int .i64 0, .int .i64 0, .int .i64 0, .int .i64 0, .int .i64 0, .int .i64 0] 25 (0, 0))) ∧ (w.heap.size ≤ s_) ∧ (w.heap.size ≤ s_) ∧ (gb168 ≠ s_) ∧ (s_ ≠ gb168) ∧ (gb169 ≠ s_) ∧ (s_ ≠ gb169) ∧ (Below w.heap.size w w')) ?_ ?_
           rotate_left
           ·intro hJ21
            refine two_ (i := 1) (j := 21) (Ni := some 98) (Nj := some 15) #[T,T,T,T,T,T,T,T,T,T,T,F,F,T,T,T,F,T,T,T,F,F,F] #[T,F,T,T,T,T,T,T,T,T,T,F,F,T,T,T,F,T,T,T,F,T,F] rfl rfl rfl rfl (two_of HT_.out (by kernel_rfl)) (by decide) (by decide) (fun K hK => ?_) (fun K hK => ?_)
            ·skip
             refine goes_ Tryz.func95 (by kernel_rfl) rfl #[] (by rfl) rfl rfl zlx ?_
             with_reducible refine (spec_l17Topics.calls  t194 _ A41.out).mono ?_
             rintro e w68 ⟨v195, rfl, ho0, hb⟩
             have HS0_ := (hb.cell (World.block_lt_of_cell? _ _ (hHeld.1))).trans (hHeld.1)
             have HS1_ := (hb.cell (World.block_lt_of_cell? _ _ (hHeld.2.1))).trans (hHeld.2.1)
             have HS2_ := (hb.cell (World.block_lt_of_cell? _ _ (hHeld.2.2))).trans (hHeld.2.2)
             refine ⟨_, rfl, ?_⟩
             have HO196 := Aside0.mk (Kd.R_lower (Kd.R_new' (Kd.R_new' ho0 (Kd.R_lt (zRx HO_5.out))) (Kd.R_lt (zRx HO179.out))) (below_size (zBz HB.out GE168.out GE169.out)))
             replace HO_5 := Aside0.mk (Kd.R_elder' (zRx HO_5.out) (Kd.R_base ho0) hb)
             replace HO179 := Aside0.mk (Kd.R_elder' (zRx HO179.out) (Kd.R_base ho0) hb)
             replace BK168 := zbl BK168.out hb
             replace BK169 := zbl BK169.out hb
             replace HB := Aside0.mk (below_step (zBz HB.out GE168.out GE169.out) hb)
             (try clear hb)
             (try clear ho0)
             refine hK.out _ _ ⟨HS0_, HS1_, HS2_⟩ (fun hHeld => ?_)
             clear hK K
             refine norm_ (a' := ?_) ?_ ?_
             rotate_left
             ·show Act.put _ (some 98) _ = _
              simp only [Act.put, List.setIfInBounds_toArray, List.set_cons_zero, List.set_cons_succ, i64_w, i32_w]
              rfl
             exact norm_ (by first | (simp only [putAll, Act.put, List.setIfInBounds_toArray, List.set_cons_zero, List.set_cons_succ]; done) | (simp only [putAll, Act.put, List.setIfInBounds_toArray, List.set_cons_zero, List.set_cons_succ]; rfl)) (hJ1 (v195) _ ⟨hHeld, (by refine zDR ?_; exact Kd.R_mono HO179.out (fun _ hk => by first | exact ⟨hk.2, hk.1.2⟩ | exact ⟨hk.1.2, hk.2⟩ | grind)), (by refine zDR ?_; exact Kd.R_mono HO196.out (fun _ hk => by first | exact ⟨hk.2, hk.1.2⟩ | exact ⟨hk.1.2, hk.2⟩ | grind)), (by refine zDR ?_; exact Kd.R_mono HO_5.out (fun _ hk => by first | exact ⟨hk.1.2, hk.2⟩ | exact ⟨hk.2, hk.1.2⟩ | grind)), (zbx BK168.out), (zbx BK169.out), (zBz HB.out GE168.out GE169.out)⟩)
            ·skip
             refine box_step ?hg (N := 15) ?hd (cs := #[.int .i64 0, .int .i64 0, .int .i64 0, .int .i64 0, .int .i64 0, .int .i64 0]) (t := 25) ?hr ?_; (case hd => rfl); (case hg => rfl); (case hr => exact zsx)
             intro gb205 hg w68 hbox hb
             have HS0_ := (hb.cell (World.block_lt_of_cell? _ _ (hHeld.1))).trans (hHeld.1)
             have HS1_ := (hb.cell (World.block_lt_of_cell? _ _ (hHeld.2.1))).trans (hHeld.2.1)
             have HS2_ := (hb.cell (World.block_lt_of_cell? _ _ (hHeld.2.2))).trans (hHeld.2.2)
             replace HO_5 := Aside0.mk (Kd.R_below (zRx HO_5.out) hb)
             replace HO179 := Aside0.mk (Kd.R_below (zRx HO179.out) hb)
             have BK205 := Aside0.mk (hbox)
             have GW205 := zns hg HB.out
             have GE205 := zns hg HB.out
             replace HB := Aside0.mk (below_step (zBz HB.out GE168.out GE169.out) hb)
             have NB168_205 := znl hg BK168.out
             have NB205_168 := zng hg BK168.out
             replace BK168 := zbl BK168.out hb
             have NB169_205 := znl hg BK169.out
             have NB205_169 := zng hg BK169.out
             replace BK169 := zbl BK169.out hb
             clear hb hbox hg
             refine hK.out _ _ ⟨HS0_, HS1_, HS2_⟩ (fun hHeld => ?_)
             clear hK K
             refine norm_ (a' := ?_) ?_ ?_
             rotate_left
             ·show Act.put _ (some 15) _ = _
              simp only [Act.put, List.setIfInBounds_toArray, List.set_cons_zero, List.set_cons_succ, i64_w, i32_w]
              rfl
             exact norm_ (by first | (simp only [putAll, Act.put, List.setIfInBounds_toArray, List.set_cons_zero, List.set_cons_succ]; done) | (simp only [putAll, Act.put, List.setIfInBounds_toArray, List.set_cons_zero, List.set_cons_succ]; rfl)) (hJ21 (gb205) _ ⟨hHeld, (by refine zDR ?_; exact Kd.R_mono HO179.out (fun _ hk => hk.2)), (by refine zDR ?_; exact Kd.R_mono HO_5.out (fun _ hk => hk.2)), (zbx BK168.out), (zbx BK169.out), (zbx BK205.out), GW205.out, GE205.out, NB168_205.out, NB205_168.out, NB169_205.out, NB205_169.out, (zhB HB.out)⟩)
           ·skip
            rintro gb205 w69 ⟨hS_, h0_, h1_, h2_, h3_, h4_, h5_, h6_, h7_, h8_, h9_, h10_, h11_⟩
            replace HO179 : Aside0 (Kd.R Kd.string 9 w69 w.heap.size (fun k_ => some k_ ≠ (.slice (some ad176) t170.length co58 : Value).ownBlock) (.slice (some ad188) t177.length co60) t177) := ⟨h0_⟩
            replace HO_5 : Aside0 (Kd.R Kd.string 9 w69 w.heap.size (fun k_ => some k_ ≠ (.slice (some ad188) t177.length co60 : Value).ownBlock) (.slice (some ad176) t170.length co58) t170) := ⟨h1_⟩
            replace BK168 : Aside0 (w69.heap[gb168]? = some (.cells #[.int .i64 0, .int .i64 0, .int .i64 0, .int .i64 0, .int .i64 0, .int .i64 0] 25 (0, 0))) := ⟨h2_⟩
            replace BK169 : Aside0 (w69.heap[gb169]? = some (.cells #[.int .i64 0, .int .i64 0, .int .i64 0, .int .i64 0, .int .i64 0, .int .i64 0] 25 (0, 0))) := ⟨h3_⟩
            have BK205 : Aside0 (w69.heap[gb205]? = some (.cells #[.int .i64 0, .int .i64 0, .int .i64 0, .int .i64 0, .int .i64 0, .int .i64 0] 25 (0, 0))) := ⟨h4_⟩
            have GW205 : Aside0 (w.heap.size ≤ gb205) := ⟨h5_⟩
            have GE205 : Aside0 (w.heap.size ≤ gb205) := ⟨h6_⟩
            have NB168_205 : Aside0 (gb168 ≠ gb205) := ⟨h7_⟩
            have NB205_168 : Aside0 (gb205 ≠ gb168) := ⟨h8_⟩
            have NB169_205 : Aside0 (gb169 ≠ gb205) := ⟨h9_⟩
            have NB205_169 : Aside0 (gb205 ≠ gb169) := ⟨h10_⟩
            replace HB : Aside0 (Below w.heap.size w w69) := ⟨h11_⟩
            clear h0_
            clear h1_
            clear h2_
            clear h3_
            clear h4_
            clear h5_
            clear h6_
            clear h7_
            clear h8_
            clear h9_
            clear h10_
            clear h11_
            have hHeld : w69.cell? ⟨ad176.block, ad176.off + 2, none⟩ = some (.string (rdOf ByteArray.empty t170 2)) ∧ w69.cell? ⟨ad176.block, ad176.off + 2, none⟩ = some (.string (rdOf ByteArray.empty t170 2)) ∧ w69.cell? ⟨ad176.block, ad176.off + 1, none⟩ = some (.string (rdOf ByteArray.empty t170 1)) := hS_
            refine norm_ (a' := ?_) ?_ ?_
            rotate_left
            ·simp only [putAll, Act.put, List.setIfInBounds_toArray, List.set_cons_zero, List.set_cons_succ]
             rfl
            refine one_ (i := 1) (N := some 98) #[T,T,T,T,T,T,T,T,T,T,T,F,F,T,T,T,F,T,T,T,F,T,F] rfl rfl (one_of HT_.out (by kernel_rfl)) (by decide) (fun K hK => ?_)
            refine goes_ Tryz.func95 (by kernel_rfl) rfl #[] (by rfl) rfl rfl zlx ?_
            with_reducible refine (spec_l17Topics.calls  t194 _ A41.out).mono ?_
            rintro e w70 ⟨v195, rfl, ho0, hb⟩
            have HS0_ := (hb.cell (World.block_lt_of_cell? _ _ (hHeld.1))).trans (hHeld.1)
            have HS1_ := (hb.cell (World.block_lt_of_cell? _ _ (hHeld.2.1))).trans (hHeld.2.1)
            have HS2_ := (hb.cell (World.block_lt_of_cell? _ _ (hHeld.2.2))).trans (hHeld.2.2)
            refine ⟨_, rfl, ?_⟩
            have HO196 := Aside0.mk (Kd.R_lower (Kd.R_new' (Kd.R_new' ho0 (Kd.R_lt (zRx HO_5.out))) (Kd.R_lt (zRx HO179.out))) (below_size (zhB HB.out)))
            replace HO_5 := Aside0.mk (Kd.R_elder' (zRx HO_5.out) (Kd.R_base ho0) hb)
            replace HO179 := Aside0.mk (Kd.R_elder' (zRx HO179.out) (Kd.R_base ho0) hb)
            replace BK168 := zbl BK168.out hb
            replace BK169 := zbl BK169.out hb
            replace BK205 := zbl BK205.out hb
            replace HB := Aside0.mk (below_step (zhB HB.out) hb)
            (try clear hb)
            (try clear ho0)
            refine hK.out _ _ ⟨HS0_, HS1_, HS2_⟩ (fun hHeld => ?_)
            clear hK K
            refine norm_ (a' := ?_) ?_ ?_
            rotate_left
            ·show Act.put _ (some 98) _ = _
             simp only [Act.put, List.setIfInBounds_toArray, List.set_cons_zero, List.set_cons_succ, i64_w, i32_w]
             rfl
            exact norm_ (by first | (simp only [putAll, Act.put, List.setIfInBounds_toArray, List.set_cons_zero, List.set_cons_succ]; done) | (simp only [putAll, Act.put, List.setIfInBounds_toArray, List.set_cons_zero, List.set_cons_succ]; rfl)) (hJ1_21 (v195, gb205) _ ⟨hHeld, (by refine zDR ?_; exact Kd.R_mono HO179.out (fun _ hk => by first | exact ⟨hk.2, hk.1⟩ | exact ⟨hk.1, hk.2⟩ | grind)), (by refine zDR ?_; exact Kd.R_mono HO196.out (fun _ hk => by first | exact ⟨hk.2, hk.1.2⟩ | exact ⟨hk.1.2, hk.2⟩ | grind)), (zRx HO_5.out), (zbx BK168.out), (zbx BK169.out), (zbx BK205.out), GW205.out, GE205.out, NB168_205.out, NB205_168.out, NB169_205.out, NB205_169.out, (zhB HB.out)⟩)
          ·skip
           rintro v195 w69 ⟨hS_, h0_, h1_, h2_, h3_, h4_, h5_⟩
           replace HO179 : Aside0 (Kd.R Kd.string 9 w69 w.heap.size (fun k_ => some k_ ≠ (v195 : Value).ownBlock ∧ some k_ ≠ (.slice (some ad176) t170.length co58 : Value).ownBlock) (.slice (some ad188) t177.length co60) t177) := ⟨h0_⟩
           have HO196 : Aside0 (Kd.R Kd.string 9 w69 w.heap.size (fun k_ => some k_ ≠ (.slice (some ad188) t177.length co60 : Value).ownBlock ∧ some k_ ≠ (.slice (some ad176) t170.length co58 : Value).ownBlock) v195 t194) := ⟨h1_⟩
           replace HO_5 : Aside0 (Kd.R Kd.string 9 w69 w.heap.size (fun k_ => some k_ ≠ (.slice (some ad188) t177.length co60 : Value).ownBlock ∧ some k_ ≠ (v195 : Value).ownBlock) (.slice (some ad176) t170.length co58) t170) := ⟨h2_⟩
           replace BK168 : Aside0 (w69.heap[gb168]? = some (.cells #[.int .i64 0, .int .i64 0, .int .i64 0, .int .i64 0, .int .i64 0, .int .i64 0] 25 (0, 0))) := ⟨h3_⟩
           replace BK169 : Aside0 (w69.heap[gb169]? = some (.cells #[.int .i64 0, .int .i64 0, .int .i64 0, .int .i64 0, .int .i64 0, .int .i64 0] 25 (0, 0))) := ⟨h4_⟩
           replace HB : Aside0 (Below w.heap.size w w69) := ⟨h5_⟩
           clear h0_
           clear h1_
           clear h2_
           clear h3_
           clear h4_
           clear h5_
           have hHeld : w69.cell? ⟨ad176.block, ad176.off + 2, none⟩ = some (.string (rdOf ByteArray.empty t170 2)) ∧ w69.cell? ⟨ad176.block, ad176.off + 2, none⟩ = some (.string (rdOf ByteArray.empty t170 2)) ∧ w69.cell? ⟨ad176.block, ad176.off + 1, none⟩ = some (.string (rdOf ByteArray.empty t170 1)) := hS_
           obtain ⟨Ao70, co70, eo70⟩ := Kd.R_slice HO196.out
           (first | subst eo70 | (injection eo70 with f1_ f2_ f3_; have f4_ := f1_.symm; have f5_ := f3_.symm; clear f1_ f2_ f3_; subst f4_; subst f5_))
           refine norm_ (a' := ?_) ?_ ?_
           rotate_left
           ·simp only [putAll, Act.put, List.setIfInBounds_toArray, List.set_cons_zero, List.set_cons_succ]
            rfl
           refine two_ (i := 11) (j := 21) (Ni := some 108) (Nj := some 15) #[T,T,T,T,T,T,T,T,T,T,T,T,F,T,T,T,F,T,T,T,F,F,F] #[T,T,T,T,T,T,T,T,T,T,T,F,F,T,T,T,F,T,T,T,F,T,F] rfl rfl rfl rfl (two_of HT_.out (by kernel_rfl)) (by decide) (by decide) (fun K hK => ?_) (fun K hK => ?_)
           ·skip
            refine goes_ Tryz.func129 (by kernel_rfl) rfl #[.slice Ao70 t194.length co70, .string ((rdOf ByteArray.empty t170 2).extract 0 ((ji43) : Int).toNat)] (by rfl) rfl rfl (by (try simp only [List.map_toArray, List.map_cons, List.map_nil]); first | done | (simp only [hji43]; rfl) | rfl | (simp only [List.length_drop, List.length_take]; rfl)) ?_
            with_reducible refine (spec_l17Index.calls kj2 _ _ t194 ((rdOf ByteArray.empty t170 2).extract 0 ((ji43) : Int).toNat) t199 _ ?side1 ?side2 A46.out).mono ?_
            (case side1 => exact zCx (Kd.R_reads' HO196.out).2.2)
            (case side2 => exact (Kd.R_reads' HO196.out).2.1)
            rintro e w' ⟨rfl, ⟨nd, rfl⟩⟩
            refine ⟨_, rfl, ?_⟩
            refine hK.out _ _ ⟨hHeld.1, hHeld.2.1, hHeld.2.2⟩ (fun hHeld => ?_)
            clear hK K
            refine norm_ (a' := ?_) ?_ ?_
            rotate_left
            ·show Act.put _ (some 108) _ = _
             simp only [Act.put, List.setIfInBounds_toArray, List.set_cons_zero, List.set_cons_succ, i64_w, i32_w]
             rfl
            exact norm_ (by first | (simp only [putAll, Act.put, List.setIfInBounds_toArray, List.set_cons_zero, List.set_cons_succ]; done) | (simp only [putAll, Act.put, List.setIfInBounds_toArray, List.set_cons_zero, List.set_cons_succ]; rfl)) (hJ1_11 (.slice Ao70 t194.length co70) _ ⟨hHeld, (zRx HO179.out), (zRx HO196.out), (zRx HO_5.out), (zbx BK168.out), (zbx BK169.out), (zBz HB.out GE168.out GE169.out)⟩)
           ·skip
            refine box_step ?hg (N := 15) ?hd (cs := #[.int .i64 0, .int .i64 0, .int .i64 0, .int .i64 0, .int .i64 0, .int .i64 0]) (t := 25) ?hr ?_; (case hd => rfl); (case hg => rfl); (case hr => exact zsx)
            intro gb205 hg w70 hbox hb
            have HS0_ := (hb.cell (World.block_lt_of_cell? _ _ (hHeld.1))).trans (hHeld.1)
            have HS1_ := (hb.cell (World.block_lt_of_cell? _ _ (hHeld.2.1))).trans (hHeld.2.1)
            have HS2_ := (hb.cell (World.block_lt_of_cell? _ _ (hHeld.2.2))).trans (hHeld.2.2)
            replace HO_5 := Aside0.mk (Kd.R_below (zRx HO_5.out) hb)
            replace HO179 := Aside0.mk (Kd.R_below (zRx HO179.out) hb)
            replace HO196 := Aside0.mk (Kd.R_below (zRx HO196.out) hb)
            have BK205 := Aside0.mk (hbox)
            have GW205 := zns hg HB.out
            have GE205 := zns hg HB.out
            replace HB := Aside0.mk (below_step (zBz HB.out GE168.out GE169.out) hb)
            have NB168_205 := znl hg BK168.out
            have NB205_168 := zng hg BK168.out
            replace BK168 := zbl BK168.out hb
            have NB169_205 := znl hg BK169.out
            have NB205_169 := zng hg BK169.out
            replace BK169 := zbl BK169.out hb
            clear hb hbox hg
            refine hK.out _ _ ⟨HS0_, HS1_, HS2_⟩ (fun hHeld => ?_)
            clear hK K
            refine norm_ (a' := ?_) ?_ ?_
            rotate_left
            ·show Act.put _ (some 15) _ = _
             simp only [Act.put, List.setIfInBounds_toArray, List.set_cons_zero, List.set_cons_succ, i64_w, i32_w]
             rfl
            exact norm_ (by first | (simp only [putAll, Act.put, List.setIfInBounds_toArray, List.set_cons_zero, List.set_cons_succ]; done) | (simp only [putAll, Act.put, List.setIfInBounds_toArray, List.set_cons_zero, List.set_cons_succ]; rfl)) (hJ1_21 ((.slice Ao70 t194.length co70), gb205) _ ⟨hHeld, (zRx HO179.out), (zRx HO196.out), (zRx HO_5.out), (zbx BK168.out), (zbx BK169.out), (zbx BK205.out), GW205.out, GE205.out, NB168_205.out, NB205_168.out, NB169_205.out, NB205_169.out, (zhB HB.out)⟩)
         ·skip
          rintro ⟨v195, gb205⟩ w70 ⟨hS_, h0_, h1_, h2_, h3_, h4_, h5_, h6_, h7_, h8_, h9_, h10_, h11_, h12_⟩
          replace HO179 : Aside0 (Kd.R Kd.string 9 w70 w.heap.size (fun k_ => some k_ ≠ (v195 : Value).ownBlock ∧ some k_ ≠ (.slice (some ad176) t170.length co58 : Value).ownBlock) (.slice (some ad188) t177.length co60) t177) := ⟨h0_⟩
          have HO196 : Aside0 (Kd.R Kd.string 9 w70 w.heap.size (fun k_ => some k_ ≠ (.slice (some ad188) t177.length co60 : Value).ownBlock ∧ some k_ ≠ (.slice (some ad176) t170.length co58 : Value).ownBlock) v195 t194) := ⟨h1_⟩
          replace HO_5 : Aside0 (Kd.R Kd.string 9 w70 w.heap.size (fun k_ => some k_ ≠ (.slice (some ad188) t177.length co60 : Value).ownBlock ∧ some k_ ≠ (v195 : Value).ownBlock) (.slice (some ad176) t170.length co58) t170) := ⟨h2_⟩
          replace BK168 : Aside0 (w70.heap[gb168]? = some (.cells #[.int .i64 0, .int .i64 0, .int .i64 0, .int .i64 0, .int .i64 0, .int .i64 0] 25 (0, 0))) := ⟨h3_⟩
          replace BK169 : Aside0 (w70.heap[gb169]? = some (.cells #[.int .i64 0, .int .i64 0, .int .i64 0, .int .i64 0, .int .i64 0, .int .i64 0] 25 (0, 0))) := ⟨h4_⟩
          have BK205 : Aside0 (w70.heap[gb205]? = some (.cells #[.int .i64 0, .int .i64 0, .int .i64 0, .int .i64 0, .int .i64 0, .int .i64 0] 25 (0, 0))) := ⟨h5_⟩
          have GW205 : Aside0 (w.heap.size ≤ gb205) := ⟨h6_⟩
          have GE205 : Aside0 (w.heap.size ≤ gb205) := ⟨h7_⟩
          have NB168_205 : Aside0 (gb168 ≠ gb205) := ⟨h8_⟩
          have NB205_168 : Aside0 (gb205 ≠ gb168) := ⟨h9_⟩
          have NB169_205 : Aside0 (gb169 ≠ gb205) := ⟨h10_⟩
          have NB205_169 : Aside0 (gb205 ≠ gb169) := ⟨h11_⟩
          replace HB : Aside0 (Below w.heap.size w w70) := ⟨h12_⟩
          clear h0_
          clear h1_
          clear h2_
          clear h3_
          clear h4_
          clear h5_
          clear h6_
          clear h7_
          clear h8_
          clear h9_
          clear h10_
          clear h11_
          clear h12_
          have hHeld : w70.cell? ⟨ad176.block, ad176.off + 2, none⟩ = some (.string (rdOf ByteArray.empty t170 2)) ∧ w70.cell? ⟨ad176.block, ad176.off + 2, none⟩ = some (.string (rdOf ByteArray.empty t170 2)) ∧ w70.cell? ⟨ad176.block, ad176.off + 1, none⟩ = some (.string (rdOf ByteArray.empty t170 1)) := hS_
          obtain ⟨Ao71, co71, eo71⟩ := Kd.R_slice HO196.out
          (first | subst eo71 | (injection eo71 with f1_ f2_ f3_; have f4_ := f1_.symm; have f5_ := f3_.symm; clear f1_ f2_ f3_; subst f4_; subst f5_))
          refine norm_ (a' := ?_) ?_ ?_
          rotate_left
          ·simp only [putAll, Act.put, List.setIfInBounds_toArray, List.set_cons_zero, List.set_cons_succ]
           rfl
          refine one_ (i := 11) (N := some 108) #[T,T,T,T,T,T,T,T,T,T,T,T,F,T,T,T,F,T,T,T,F,T,F] rfl rfl (one_of HT_.out (by kernel_rfl)) (by decide) (fun K hK => ?_)
          refine goes_ Tryz.func129 (by kernel_rfl) rfl #[.slice Ao71 t194.length co71, .string ((rdOf ByteArray.empty t170 2).extract 0 ((ji43) : Int).toNat)] (by rfl) rfl rfl (by (try simp only [List.map_toArray, List.map_cons, List.map_nil]); first | done | (simp only [hji43]; rfl) | rfl | (simp only [List.length_drop, List.length_take]; rfl)) ?_
          with_reducible refine (spec_l17Index.calls kj2 _ _ t194 ((rdOf ByteArray.empty t170 2).extract 0 ((ji43) : Int).toNat) t199 _ ?side1 ?side2 A46.out).mono ?_
          (case side1 => exact zCx (Kd.R_reads' HO196.out).2.2)
          (case side2 => exact (Kd.R_reads' HO196.out).2.1)
          rintro e w' ⟨rfl, ⟨nd, rfl⟩⟩
          refine ⟨_, rfl, ?_⟩
          refine hK.out _ _ ⟨hHeld.1, hHeld.2.1, hHeld.2.2⟩ (fun hHeld => ?_)
          clear hK K
          refine norm_ (a' := ?_) ?_ ?_
          rotate_left
          ·show Act.put _ (some 108) _ = _
           simp only [Act.put, List.setIfInBounds_toArray, List.set_cons_zero, List.set_cons_succ, i64_w, i32_w]
           rfl
          exact norm_ (by first | (simp only [putAll, Act.put, List.setIfInBounds_toArray, List.set_cons_zero, List.set_cons_succ]; done) | (simp only [putAll, Act.put, List.setIfInBounds_toArray, List.set_cons_zero, List.set_cons_succ]; rfl)) (hJ1_11_21 (.slice Ao71 t194.length co71, gb205) _ ⟨hHeld, (zRx HO179.out), (zRx HO196.out), (zRx HO_5.out), (zbx BK168.out), (zbx BK169.out), (zbx BK205.out), GW205.out, GE205.out, NB168_205.out, NB205_168.out, NB169_205.out, NB205_169.out, (zhB HB.out)⟩)
        ·skip
         rintro v195 w70 ⟨hS_, h0_, h1_, h2_, h3_, h4_, h5_⟩
         replace HO179 : Aside0 (Kd.R Kd.string 9 w70 w.heap.size (fun k_ => some k_ ≠ (v195 : Value).ownBlock ∧ some k_ ≠ (.slice (some ad176) t170.length co58 : Value).ownBlock) (.slice (some ad188) t177.length co60) t177) := ⟨h0_⟩
         have HO196 : Aside0 (Kd.R Kd.string 9 w70 w.heap.size (fun k_ => some k_ ≠ (.slice (some ad188) t177.length co60 : Value).ownBlock ∧ some k_ ≠ (.slice (some ad176) t170.length co58 : Value).ownBlock) v195 t194) := ⟨h1_⟩
         replace HO_5 : Aside0 (Kd.R Kd.string 9 w70 w.heap.size (fun k_ => some k_ ≠ (.slice (some ad188) t177.length co60 : Value).ownBlock ∧ some k_ ≠ (v195 : Value).ownBlock) (.slice (some ad176) t170.length co58) t170) := ⟨h2_⟩
         replace BK168 : Aside0 (w70.heap[gb168]? = some (.cells #[.int .i64 0, .int .i64 0, .int .i64 0, .int .i64 0, .int .i64 0, .int .i64 0] 25 (0, 0))) := ⟨h3_⟩
         replace BK169 : Aside0 (w70.heap[gb169]? = some (.cells #[.int .i64 0, .int .i64 0, .int .i64 0, .int .i64 0, .int .i64 0, .int .i64 0] 25 (0, 0))) := ⟨h4_⟩
         replace HB : Aside0 (Below w.heap.size w w70) := ⟨h5_⟩
         clear h0_
         clear h1_
         clear h2_
         clear h3_
         clear h4_
         clear h5_
         have hHeld : w70.cell? ⟨ad176.block, ad176.off + 2, none⟩ = some (.string (rdOf ByteArray.empty t170 2)) ∧ w70.cell? ⟨ad176.block, ad176.off + 2, none⟩ = some (.string (rdOf ByteArray.empty t170 2)) ∧ w70.cell? ⟨ad176.block, ad176.off + 1, none⟩ = some (.string (rdOf ByteArray.empty t170 1)) := hS_
         refine norm_ (a' := ?_) ?_ ?_
         rotate_left
         ·simp only [putAll, Act.put, List.setIfInBounds_toArray, List.set_cons_zero, List.set_cons_succ]
          rfl
         refine two_ (i := 12) (j := 21) (Ni := some 109) (Nj := some 15) #[T,T,T,T,T,T,T,T,T,T,T,T,T,T,T,T,F,T,T,T,F,F,F] #[T,T,T,T,T,T,T,T,T,T,T,T,F,T,T,T,F,T,T,T,F,T,F] rfl rfl rfl rfl (two_of HT_.out (by kernel_rfl)) (by decide) (by decide) (fun K hK => ?_) (fun K hK => ?_)
         ·skip
          refine goes_ Tryz.func94 (by kernel_rfl) rfl #[] (by rfl) rfl rfl zlx ?_
          with_reducible refine (spec_l17Levels.calls  t200 _ A47.out).mono ?_
          rintro e w71 ⟨v201, rfl, ho0, hb⟩
          have HS0_ := (hb.cell (World.block_lt_of_cell? _ _ (hHeld.1))).trans (hHeld.1)
          have HS1_ := (hb.cell (World.block_lt_of_cell? _ _ (hHeld.2.1))).trans (hHeld.2.1)
          have HS2_ := (hb.cell (World.block_lt_of_cell? _ _ (hHeld.2.2))).trans (hHeld.2.2)
          refine ⟨_, rfl, ?_⟩
          have HO202 := Aside0.mk (Kd.R_lower (Kd.R_new' (Kd.R_new' (Kd.R_new' ho0 (Kd.R_lt (zRx HO_5.out))) (Kd.R_lt (zRx HO179.out))) (Kd.R_lt (zRx HO196.out))) (below_size (zBz HB.out GE168.out GE169.out)))
          replace HO_5 := Aside0.mk (Kd.R_elder' (zRx HO_5.out) (Kd.R_base ho0) hb)
          replace HO179 := Aside0.mk (Kd.R_elder' (zRx HO179.out) (Kd.R_base ho0) hb)
          replace HO196 := Aside0.mk (Kd.R_elder' (zRx HO196.out) (Kd.R_base ho0) hb)
          replace BK168 := zbl BK168.out hb
          replace BK169 := zbl BK169.out hb
          replace HB := Aside0.mk (below_step (zBz HB.out GE168.out GE169.out) hb)
          (try clear hb)
          (try clear ho0)
          refine hK.out _ _ ⟨HS0_, HS1_, HS2_⟩ (fun hHeld => ?_)
          clear hK K
          refine norm_ (a' := ?_) ?_ ?_
          rotate_left
          ·show Act.put _ (some 109) _ = _
           simp only [Act.put, List.setIfInBounds_toArray, List.set_cons_zero, List.set_cons_succ, i64_w, i32_w]
           rfl
          exact norm_ (by first | (simp only [putAll, Act.put, List.setIfInBounds_toArray, List.set_cons_zero, List.set_cons_succ]; done) | (simp only [putAll, Act.put, List.setIfInBounds_toArray, List.set_cons_zero, List.set_cons_succ]; rfl)) (hJ1_11_12 (v195, v201) _ ⟨hHeld, (by refine zDR ?_; exact Kd.R_mono HO179.out (fun _ hk => ⟨hk.1.1, ⟨hk.2, hk.1.2⟩⟩)), (by refine zDR ?_; exact Kd.R_mono HO196.out (fun _ hk => ⟨hk.1.1, ⟨hk.2, hk.1.2⟩⟩)), (by refine zDR ?_; exact Kd.R_mono HO202.out (fun _ hk => ⟨hk.1.2, ⟨hk.2, hk.1.1.2⟩⟩)), (by refine zDR ?_; exact Kd.R_mono HO_5.out (fun _ hk => ⟨hk.1.1, ⟨hk.1.2, hk.2⟩⟩)), (zbx BK168.out), (zbx BK169.out), (zBz HB.out GE168.out GE169.out)⟩)
         ·skip
          refine box_step ?hg (N := 15) ?hd (cs := #[.int .i64 0, .int .i64 0, .int .i64 0, .int .i64 0, .int .i64 0, .int .i64 0]) (t := 25) ?hr ?_; (case hd => rfl); (case hg => rfl); (case hr => exact zsx)
          intro gb205 hg w71 hbox hb
          have HS0_ := (hb.cell (World.block_lt_of_cell? _ _ (hHeld.1))).trans (hHeld.1)
          have HS1_ := (hb.cell (World.block_lt_of_cell? _ _ (hHeld.2.1))).trans (hHeld.2.1)
          have HS2_ := (hb.cell (World.block_lt_of_cell? _ _ (hHeld.2.2))).trans (hHeld.2.2)
          replace HO_5 := Aside0.mk (Kd.R_below (zRx HO_5.out) hb)
          replace HO179 := Aside0.mk (Kd.R_below (zRx HO179.out) hb)
          replace HO196 := Aside0.mk (Kd.R_below (zRx HO196.out) hb)
          have BK205 := Aside0.mk (hbox)
          have GW205 := zns hg HB.out
          have GE205 := zns hg HB.out
          replace HB := Aside0.mk (below_step (zBz HB.out GE168.out GE169.out) hb)
          have NB168_205 := znl hg BK168.out
          have NB205_168 := zng hg BK168.out
          replace BK168 := zbl BK168.out hb
          have NB169_205 := znl hg BK169.out
          have NB205_169 := zng hg BK169.out
          replace BK169 := zbl BK169.out hb
          clear hb hbox hg
          refine hK.out _ _ ⟨HS0_, HS1_, HS2_⟩ (fun hHeld => ?_)
          clear hK K
          refine norm_ (a' := ?_) ?_ ?_
          rotate_left
          ·show Act.put _ (some 15) _ = _
           simp only [Act.put, List.setIfInBounds_toArray, List.set_cons_zero, List.set_cons_succ, i64_w, i32_w]
           rfl
          exact norm_ (by first | (simp only [putAll, Act.put, List.setIfInBounds_toArray, List.set_cons_zero, List.set_cons_succ]; done) | (simp only [putAll, Act.put, List.setIfInBounds_toArray, List.set_cons_zero, List.set_cons_succ]; rfl)) (hJ1_11_21 (v195, gb205) _ ⟨hHeld, (zRx HO179.out), (zRx HO196.out), (zRx HO_5.out), (zbx BK168.out), (zbx BK169.out), (zbx BK205.out), GW205.out, GE205.out, NB168_205.out, NB205_168.out, NB169_205.out, NB205_169.out, (zhB HB.out)⟩)
       ·skip
        rintro ⟨v195, gb205⟩ w71 ⟨hS_, h0_, h1_, h2_, h3_, h4_, h5_, h6_, h7_, h8_, h9_, h10_, h11_, h12_⟩
        replace HO179 : Aside0 (Kd.R Kd.string 9 w71 w.heap.size (fun k_ => some k_ ≠ (v195 : Value).ownBlock ∧ some k_ ≠ (.slice (some ad176) t170.length co58 : Value).ownBlock) (.slice (some ad188) t177.length co60) t177) := ⟨h0_⟩
        have HO196 : Aside0 (Kd.R Kd.string 9 w71 w.heap.size (fun k_ => some k_ ≠ (.slice (some ad188) t177.length co60 : Value).ownBlock ∧ some k_ ≠ (.slice (some ad176) t170.length co58 : Value).ownBlock) v195 t194) := ⟨h1_⟩
        replace HO_5 : Aside0 (Kd.R Kd.string 9 w71 w.heap.size (fun k_ => some k_ ≠ (.slice (some ad188) t177.length co60 : Value).ownBlock ∧ some k_ ≠ (v195 : Value).ownBlock) (.slice (some ad176) t170.length co58) t170) := ⟨h2_⟩
        replace BK168 : Aside0 (w71.heap[gb168]? = some (.cells #[.int .i64 0, .int .i64 0, .int .i64 0, .int .i64 0, .int .i64 0, .int .i64 0] 25 (0, 0))) := ⟨h3_⟩
        replace BK169 : Aside0 (w71.heap[gb169]? = some (.cells #[.int .i64 0, .int .i64 0, .int .i64 0, .int .i64 0, .int .i64 0, .int .i64 0] 25 (0, 0))) := ⟨h4_⟩
        have BK205 : Aside0 (w71.heap[gb205]? = some (.cells #[.int .i64 0, .int .i64 0, .int .i64 0, .int .i64 0, .int .i64 0, .int .i64 0] 25 (0, 0))) := ⟨h5_⟩
        have GW205 : Aside0 (w.heap.size ≤ gb205) := ⟨h6_⟩
        have GE205 : Aside0 (w.heap.size ≤ gb205) := ⟨h7_⟩
        have NB168_205 : Aside0 (gb168 ≠ gb205) := ⟨h8_⟩
        have NB205_168 : Aside0 (gb205 ≠ gb168) := ⟨h9_⟩
        have NB169_205 : Aside0 (gb169 ≠ gb205) := ⟨h10_⟩
        have NB205_169 : Aside0 (gb205 ≠ gb169) := ⟨h11_⟩
        replace HB : Aside0 (Below w.heap.size w w71) := ⟨h12_⟩
        clear h0_
        clear h1_
        clear h2_
        clear h3_
        clear h4_
        clear h5_
        clear h6_
        clear h7_
        clear h8_
        clear h9_
        clear h10_
        clear h11_
        clear h12_
        have hHeld : w71.cell? ⟨ad176.block, ad176.off + 2, none⟩ = some (.string (rdOf ByteArray.empty t170 2)) ∧ w71.cell? ⟨ad176.block, ad176.off + 2, none⟩ = some (.string (rdOf ByteArray.empty t170 2)) ∧ w71.cell? ⟨ad176.block, ad176.off + 1, none⟩ = some (.string (rdOf ByteArray.empty t170 1)) := hS_
        refine norm_ (a' := ?_) ?_ ?_
        rotate_left
        ·simp only [putAll, Act.put, List.setIfInBounds_toArray, List.set_cons_zero, List.set_cons_succ]
         rfl
        refine one_ (i := 12) (N := some 109) #[T,T,T,T,T,T,T,T,T,T,T,T,T,T,T,T,F,T,T,T,F,T,F] rfl rfl (one_of HT_.out (by kernel_rfl)) (by decide) (fun K hK => ?_)
        refine goes_ Tryz.func94 (by kernel_rfl) rfl #[] (by rfl) rfl rfl zlx ?_
        with_reducible refine (spec_l17Levels.calls  t200 _ A47.out).mono ?_
        rintro e w72 ⟨v201, rfl, ho0, hb⟩
        have HS0_ := (hb.cell (World.block_lt_of_cell? _ _ (hHeld.1))).trans (hHeld.1)
        have HS1_ := (hb.cell (World.block_lt_of_cell? _ _ (hHeld.2.1))).trans (hHeld.2.1)
        have HS2_ := (hb.cell (World.block_lt_of_cell? _ _ (hHeld.2.2))).trans (hHeld.2.2)
        refine ⟨_, rfl, ?_⟩
        have HO202 := Aside0.mk (Kd.R_lower (Kd.R_new' (Kd.R_new' (Kd.R_new' ho0 (Kd.R_lt (zRx HO_5.out))) (Kd.R_lt (zRx HO179.out))) (Kd.R_lt (zRx HO196.out))) (below_size (zhB HB.out)))
        replace HO_5 := Aside0.mk (Kd.R_elder' (zRx HO_5.out) (Kd.R_base ho0) hb)
        replace HO179 := Aside0.mk (Kd.R_elder' (zRx HO179.out) (Kd.R_base ho0) hb)
        replace HO196 := Aside0.mk (Kd.R_elder' (zRx HO196.out) (Kd.R_base ho0) hb)
        replace BK168 := zbl BK168.out hb
        replace BK169 := zbl BK169.out hb
        replace BK205 := zbl BK205.out hb
        replace HB := Aside0.mk (below_step (zhB HB.out) hb)
        (try clear hb)
        (try clear ho0)
        refine hK.out _ _ ⟨HS0_, HS1_, HS2_⟩ (fun hHeld => ?_)
        clear hK K
        refine norm_ (a' := ?_) ?_ ?_
        rotate_left
        ·show Act.put _ (some 109) _ = _
         simp only [Act.put, List.setIfInBounds_toArray, List.set_cons_zero, List.set_cons_succ, i64_w, i32_w]
         rfl
        exact norm_ (by first | (simp only [putAll, Act.put, List.setIfInBounds_toArray, List.set_cons_zero, List.set_cons_succ]; done) | (simp only [putAll, Act.put, List.setIfInBounds_toArray, List.set_cons_zero, List.set_cons_succ]; rfl)) (hJ1_11_12_21 (v195, v201, gb205) _ ⟨hHeld, (by refine zDR ?_; exact Kd.R_mono HO179.out (fun _ hk => ⟨hk.1.1, ⟨hk.2, hk.1.2⟩⟩)), (by refine zDR ?_; exact Kd.R_mono HO196.out (fun _ hk => ⟨hk.1.1, ⟨hk.2, hk.1.2⟩⟩)), (by refine zDR ?_; exact Kd.R_mono HO202.out (fun _ hk => ⟨hk.1.2, ⟨hk.2, hk.1.1.2⟩⟩)), (by refine zDR ?_; exact Kd.R_mono HO_5.out (fun _ hk => ⟨hk.1.1, ⟨hk.1.2, hk.2⟩⟩)), (zbx BK168.out), (zbx BK169.out), (zbx BK205.out), GW205.out, GE205.out, NB168_205.out, NB205_168.out, NB169_205.out, NB205_169.out, (zhB HB.out)⟩)
      ·skip
       rintro ⟨v195, v201⟩ w71 ⟨hS_, h0_, h1_, h2_, h3_, h4_, h5_, h6_⟩
       replace HO179 : Aside0 (Kd.R Kd.string 9 w71 w.heap.size (fun k_ => some k_ ≠ (v195 : Value).ownBlock ∧ some k_ ≠ (v201 : Value).ownBlock ∧ some k_ ≠ (.slice (some ad176) t170.length co58 : Value).ownBlock) (.slice (some ad188) t177.length co60) t177) := ⟨h0_⟩
       have HO196 : Aside0 (Kd.R Kd.string 9 w71 w.heap.size (fun k_ => some k_ ≠ (.slice (some ad188) t177.length co60 : Value).ownBlock ∧ some k_ ≠ (v201 : Value).ownBlock ∧ some k_ ≠ (.slice (some ad176) t170.length co58 : Value).ownBlock) v195 t194) := ⟨h1_⟩
       have HO202 : Aside0 (Kd.R Kd.string 9 w71 w.heap.size (fun k_ => some k_ ≠ (.slice (some ad188) t177.length co60 : Value).ownBlock ∧ some k_ ≠ (v195 : Value).ownBlock ∧ some k_ ≠ (.slice (some ad176) t170.length co58 : Value).ownBlock) v201 t200) := ⟨h2_⟩
       replace HO_5 : Aside0 (Kd.R Kd.string 9 w71 w.heap.size (fun k_ => some k_ ≠ (.slice (some ad188) t177.length co60 : Value).ownBlock ∧ some k_ ≠ (v195 : Value).ownBlock ∧ some k_ ≠ (v201 : Value).ownBlock) (.slice (some ad176) t170.length co58) t170) := ⟨h3_⟩
       replace BK168 : Aside0 (w71.heap[gb168]? = some (.cells #[.int .i64 0, .int .i64 0, .int .i64 0, .int .i64 0, .int .i64 0, .int .i64 0] 25 (0, 0))) := ⟨h4_⟩
       replace BK169 : Aside0 (w71.heap[gb169]? = some (.cells #[.int .i64 0, .int .i64 0, .int .i64 0, .int .i64 0, .int .i64 0, .int .i64 0] 25 (0, 0))) := ⟨h5_⟩
       replace HB : Aside0 (Below w.heap.size w w71) := ⟨h6_⟩
       clear h0_
       clear h1_
       clear h2_
       clear h3_
       clear h4_
       clear h5_
       clear h6_
       have hHeld : w71.cell? ⟨ad176.block, ad176.off + 2, none⟩ = some (.string (rdOf ByteArray.empty t170 2)) ∧ w71.cell? ⟨ad176.block, ad176.off + 2, none⟩ = some (.string (rdOf ByteArray.empty t170 2)) ∧ w71.cell? ⟨ad176.block, ad176.off + 1, none⟩ = some (.string (rdOf ByteArray.empty t170 1)) := hS_
       obtain ⟨Ao72, co72, eo72⟩ := Kd.R_slice HO202.out
       (first | subst eo72 | (injection eo72 with f1_ f2_ f3_; have f4_ := f1_.symm; have f5_ := f3_.symm; clear f1_ f2_ f3_; subst f4_; subst f5_))
       refine norm_ (a' := ?_) ?_ ?_
       rotate_left
       ·simp only [putAll, Act.put, List.setIfInBounds_toArray, List.set_cons_zero, List.set_cons_succ]
        rfl
       refine two_ (i := 16) (j := 21) (Ni := some 113) (Nj := some 15) #[T,T,T,T,T,T,T,T,T,T,T,T,T,T,T,T,T,T,T,T,F,F,F] #[T,T,T,T,T,T,T,T,T,T,T,T,T,T,T,T,F,T,T,T,F,T,F] rfl rfl rfl rfl (two_of HT_.out (by kernel_rfl)) (by decide) (by decide) (fun K hK => ?_) (fun K hK => ?_)
       ·skip
        refine goes_ Tryz.func129 (by kernel_rfl) rfl #[.slice Ao72 t200.length co72, .string (rdOf ByteArray.empty t170 1)] (by rfl) rfl rfl zlx ?_
        with_reducible refine (spec_l17Index.calls kj2 _ _ t200 (rdOf ByteArray.empty t170 1) t204 _ ?side1 ?side2 A49.out).mono ?_
        (case side1 => exact zCx (Kd.R_reads' HO202.out).2.2)
        (case side2 => exact (Kd.R_reads' HO202.out).2.1)
        rintro e w' ⟨rfl, ⟨nd, rfl⟩⟩
        refine ⟨_, rfl, ?_⟩
        refine hK.out _ _ ⟨hHeld.1, hHeld.2.1, hHeld.2.2⟩ (fun hHeld => ?_)
        clear hK K
        refine norm_ (a' := ?_) ?_ ?_
        rotate_left
        ·show Act.put _ (some 113) _ = _
         simp only [Act.put, List.setIfInBounds_toArray, List.set_cons_zero, List.set_cons_succ, i64_w, i32_w]
         rfl
        refine zpu 20 117 #[T,T,T,T,T,T,T,T,T,T,T,T,T,T,T,T,T,T,T,T,T,F,F] HT_.out ?_
        exact norm_ (by first | (simp only [putAll, Act.put, List.setIfInBounds_toArray, List.set_cons_zero, List.set_cons_succ]; done) | (simp only [putAll, Act.put, List.setIfInBounds_toArray, List.set_cons_zero, List.set_cons_succ]; rfl)) (hJ1_11_12_16 (v195, .slice Ao72 t200.length co72) _ ⟨hHeld, (zRx HO179.out), (zRx HO196.out), (zRx HO202.out), (zRx HO_5.out), (zbx BK168.out), (zbx BK169.out), (zBz HB.out GE168.out GE169.out)⟩)
       ·skip
        refine box_step ?hg (N := 15) ?hd (cs := #[.int .i64 0, .int .i64 0, .int .i64 0, .int .i64 0, .int .i64 0, .int .i64 0]) (t := 25) ?hr ?_; (case hd => rfl); (case hg => rfl); (case hr => exact zsx)
        intro gb205 hg w72 hbox hb
        have HS0_ := (hb.cell (World.block_lt_of_cell? _ _ (hHeld.1))).trans (hHeld.1)
        have HS1_ := (hb.cell (World.block_lt_of_cell? _ _ (hHeld.2.1))).trans (hHeld.2.1)
        have HS2_ := (hb.cell (World.block_lt_of_cell? _ _ (hHeld.2.2))).trans (hHeld.2.2)
        replace HO_5 := Aside0.mk (Kd.R_below (zRx HO_5.out) hb)
        replace HO179 := Aside0.mk (Kd.R_below (zRx HO179.out) hb)
        replace HO196 := Aside0.mk (Kd.R_below (zRx HO196.out) hb)
        replace HO202 := Aside0.mk (Kd.R_below (zRx HO202.out) hb)
        have BK205 := Aside0.mk (hbox)
        have GW205 := zns hg HB.out
        have GE205 := zns hg HB.out
        replace HB := Aside0.mk (below_step (zBz HB.out GE168.out GE169.out) hb)
        have NB168_205 := znl hg BK168.out
        have NB205_168 := zng hg BK168.out
        replace BK168 := zbl BK168.out hb
        have NB169_205 := znl hg BK169.out
        have NB205_169 := zng hg BK169.out
        replace BK169 := zbl BK169.out hb
        clear hb hbox hg
        refine hK.out _ _ ⟨HS0_, HS1_, HS2_⟩ (fun hHeld => ?_)
        clear hK K
        refine norm_ (a' := ?_) ?_ ?_
        rotate_left
        ·show Act.put _ (some 15) _ = _
         simp only [Act.put, List.setIfInBounds_toArray, List.set_cons_zero, List.set_cons_succ, i64_w, i32_w]
         rfl
        exact norm_ (by first | (simp only [putAll, Act.put, List.setIfInBounds_toArray, List.set_cons_zero, List.set_cons_succ]; done) | (simp only [putAll, Act.put, List.setIfInBounds_toArray, List.set_cons_zero, List.set_cons_succ]; rfl)) (hJ1_11_12_21 (v195, (.slice Ao72 t200.length co72), gb205) _ ⟨hHeld, (zRx HO179.out), (zRx HO196.out), (zRx HO202.out), (zRx HO_5.out), (zbx BK168.out), (zbx BK169.out), (zbx BK205.out), GW205.out, GE205.out, NB168_205.out, NB205_168.out, NB169_205.out, NB205_169.out, (zhB HB.out)⟩)
     ·skip
      rintro ⟨v195, v201, gb205⟩ w72 ⟨hS_, h0_, h1_, h2_, h3_, h4_, h5_, h6_, h7_, h8_, h9_, h10_, h11_, h12_, h13_⟩
      replace HO179 : Aside0 (Kd.R Kd.string 9 w72 w.heap.size (fun k_ => some k_ ≠ (v195 : Value).ownBlock ∧ some k_ ≠ (v201 : Value).ownBlock ∧ some k_ ≠ (.slice (some ad176) t170.length co58 : Value).ownBlock) (.slice (some ad188) t177.length co60) t177) := ⟨h0_⟩
      have HO196 : Aside0 (Kd.R Kd.string 9 w72 w.heap.size (fun k_ => some k_ ≠ (.slice (some ad188) t177.length co60 : Value).ownBlock ∧ some k_ ≠ (v201 : Value).ownBlock ∧ some k_ ≠ (.slice (some ad176) t170.length co58 : Value).ownBlock) v195 t194) := ⟨h1_⟩
      have HO202 : Aside0 (Kd.R Kd.string 9 w72 w.heap.size (fun k_ => some k_ ≠ (.slice (some ad188) t177.length co60 : Value).ownBlock ∧ some k_ ≠ (v195 : Value).ownBlock ∧ some k_ ≠ (.slice (some ad176) t170.length co58 : Value).ownBlock) v201 t200) := ⟨h2_⟩
      replace HO_5 : Aside0 (Kd.R Kd.string 9 w72 w.heap.size (fun k_ => some k_ ≠ (.slice (some ad188) t177.length co60 : Value).ownBlock ∧ some k_ ≠ (v195 : Value).ownBlock ∧ some k_ ≠ (v201 : Value).ownBlock) (.slice (some ad176) t170.length co58) t170) := ⟨h3_⟩
      replace BK168 : Aside0 (w72.heap[gb168]? = some (.cells #[.int .i64 0, .int .i64 0, .int .i64 0, .int .i64 0, .int .i64 0, .int .i64 0] 25 (0, 0))) := ⟨h4_⟩
      replace BK169 : Aside0 (w72.heap[gb169]? = some (.cells #[.int .i64 0, .int .i64 0, .int .i64 0, .int .i64 0, .int .i64 0, .int .i64 0] 25 (0, 0))) := ⟨h5_⟩
      have BK205 : Aside0 (w72.heap[gb205]? = some (.cells #[.int .i64 0, .int .i64 0, .int .i64 0, .int .i64 0, .int .i64 0, .int .i64 0] 25 (0, 0))) := ⟨h6_⟩
      have GW205 : Aside0 (w.heap.size ≤ gb205) := ⟨h7_⟩
      have GE205 : Aside0 (w.heap.size ≤ gb205) := ⟨h8_⟩
      have NB168_205 : Aside0 (gb168 ≠ gb205) := ⟨h9_⟩
      have NB205_168 : Aside0 (gb205 ≠ gb168) := ⟨h10_⟩
      have NB169_205 : Aside0 (gb169 ≠ gb205) := ⟨h11_⟩
      have NB205_169 : Aside0 (gb205 ≠ gb169) := ⟨h12_⟩
      replace HB : Aside0 (Below w.heap.size w w72) := ⟨h13_⟩
      clear h0_
      clear h1_
      clear h2_
      clear h3_
      clear h4_
      clear h5_
      clear h6_
      clear h7_
      clear h8_
      clear h9_
      clear h10_
      clear h11_
      clear h12_
      clear h13_
      have hHeld : w72.cell? ⟨ad176.block, ad176.off + 2, none⟩ = some (.string (rdOf ByteArray.empty t170 2)) ∧ w72.cell? ⟨ad176.block, ad176.off + 2, none⟩ = some (.string (rdOf ByteArray.empty t170 2)) ∧ w72.cell? ⟨ad176.block, ad176.off + 1, none⟩ = some (.string (rdOf ByteArray.empty t170 1)) := hS_
      obtain ⟨Ao73, co73, eo73⟩ := Kd.R_slice HO202.out
      (first | subst eo73 | (injection eo73 with f1_ f2_ f3_; have f4_ := f1_.symm; have f5_ := f3_.symm; clear f1_ f2_ f3_; subst f4_; subst f5_))
      refine norm_ (a' := ?_) ?_ ?_
      rotate_left
      ·simp only [putAll, Act.put, List.setIfInBounds_toArray, List.set_cons_zero, List.set_cons_succ]
       rfl
      refine one_ (i := 16) (N := some 113) #[T,T,T,T,T,T,T,T,T,T,T,T,T,T,T,T,T,T,T,T,F,T,F] rfl rfl (one_of HT_.out (by kernel_rfl)) (by decide) (fun K hK => ?_)
      refine goes_ Tryz.func129 (by kernel_rfl) rfl #[.slice Ao73 t200.length co73, .string (rdOf ByteArray.empty t170 1)] (by rfl) rfl rfl zlx ?_
      with_reducible refine (spec_l17Index.calls kj2 _ _ t200 (rdOf ByteArray.empty t170 1) t204 _ ?side1 ?side2 A49.out).mono ?_
      (case side1 => exact zCx (Kd.R_reads' HO202.out).2.2)
      (case side2 => exact (Kd.R_reads' HO202.out).2.1)
      rintro e w' ⟨rfl, ⟨nd, rfl⟩⟩
      refine ⟨_, rfl, ?_⟩
      refine hK.out _ _ ⟨hHeld.1, hHeld.2.1, hHeld.2.2⟩ (fun hHeld => ?_)
      clear hK K
      refine norm_ (a' := ?_) ?_ ?_
      rotate_left
      ·show Act.put _ (some 113) _ = _
       simp only [Act.put, List.setIfInBounds_toArray, List.set_cons_zero, List.set_cons_succ, i64_w, i32_w]
       rfl
      refine zpu 20 117 #[T,T,T,T,T,T,T,T,T,T,T,T,T,T,T,T,T,T,T,T,T,T,F] HT_.out ?_
      exact norm_ (by first | (simp only [putAll, Act.put, List.setIfInBounds_toArray, List.set_cons_zero, List.set_cons_succ]; done) | (simp only [putAll, Act.put, List.setIfInBounds_toArray, List.set_cons_zero, List.set_cons_succ]; rfl)) (hJ1_11_12_16_21 (v195, .slice Ao73 t200.length co73, gb205) _ ⟨hHeld, (zRx HO179.out), (zRx HO196.out), (zRx HO202.out), (zRx HO_5.out), (zbx BK168.out), (zbx BK169.out), (zbx BK205.out), GW205.out, GE205.out, NB168_205.out, NB205_168.out, NB169_205.out, NB205_169.out, (zhB HB.out)⟩)
    ·skip
     rintro ⟨v195, v201⟩ w72 ⟨hS_, h0_, h1_, h2_, h3_, h4_, h5_, h6_⟩
     replace HO179 : Aside0 (Kd.R Kd.string 9 w72 w.heap.size (fun k_ => some k_ ≠ (v195 : Value).ownBlock ∧ some k_ ≠ (v201 : Value).ownBlock ∧ some k_ ≠ (.slice (some ad176) t170.length co58 : Value).ownBlock) (.slice (some ad188) t177.length co60) t177) := ⟨h0_⟩
     have HO196 : Aside0 (Kd.R Kd.string 9 w72 w.heap.size (fun k_ => some k_ ≠ (.slice (some ad188) t177.length co60 : Value).ownBlock ∧ some k_ ≠ (v201 : Value).ownBlock ∧ some k_ ≠ (.slice (some ad176) t170.length co58 : Value).ownBlock) v195 t194) := ⟨h1_⟩
     have HO202 : Aside0 (Kd.R Kd.string 9 w72 w.heap.size (fun k_ => some k_ ≠ (.slice (some ad188) t177.length co60 : Value).ownBlock ∧ some k_ ≠ (v195 : Value).ownBlock ∧ some k_ ≠ (.slice (some ad176) t170.length co58 : Value).ownBlock) v201 t200) := ⟨h2_⟩
     replace HO_5 : Aside0 (Kd.R Kd.string 9 w72 w.heap.size (fun k_ => some k_ ≠ (.slice (some ad188) t177.length co60 : Value).ownBlock ∧ some k_ ≠ (v195 : Value).ownBlock ∧ some k_ ≠ (v201 : Value).ownBlock) (.slice (some ad176) t170.length co58) t170) := ⟨h3_⟩
     replace BK168 : Aside0 (w72.heap[gb168]? = some (.cells #[.int .i64 0, .int .i64 0, .int .i64 0, .int .i64 0, .int .i64 0, .int .i64 0] 25 (0, 0))) := ⟨h4_⟩
     replace BK169 : Aside0 (w72.heap[gb169]? = some (.cells #[.int .i64 0, .int .i64 0, .int .i64 0, .int .i64 0, .int .i64 0, .int .i64 0] 25 (0, 0))) := ⟨h5_⟩
     replace HB : Aside0 (Below w.heap.size w w72) := ⟨h6_⟩
     clear h0_
     clear h1_
     clear h2_
     clear h3_
     clear h4_
     clear h5_
     clear h6_
     have hHeld : w72.cell? ⟨ad176.block, ad176.off + 2, none⟩ = some (.string (rdOf ByteArray.empty t170 2)) ∧ w72.cell? ⟨ad176.block, ad176.off + 2, none⟩ = some (.string (rdOf ByteArray.empty t170 2)) ∧ w72.cell? ⟨ad176.block, ad176.off + 1, none⟩ = some (.string (rdOf ByteArray.empty t170 1)) := hS_
     refine norm_ (a' := ?_) ?_ ?_
     rotate_left
     ·simp only [putAll, Act.put, List.setIfInBounds_toArray, List.set_cons_zero, List.set_cons_succ]
      rfl
     refine one_ (i := 21) (N := some 15) #[T,T,T,T,T,T,T,T,T,T,T,T,T,T,T,T,T,T,T,T,T,T,F] rfl rfl (one_of HT_.out (by kernel_rfl)) (by decide) (fun K hK => ?_)
     refine box_step ?hg (N := 15) ?hd (cs := #[.int .i64 0, .int .i64 0, .int .i64 0, .int .i64 0, .int .i64 0, .int .i64 0]) (t := 25) ?hr ?_; (case hd => rfl); (case hg => rfl); (case hr => exact zsx)
     intro gb205 hg w73 hbox hb
     have HS0_ := (hb.cell (World.block_lt_of_cell? _ _ (hHeld.1))).trans (hHeld.1)
     have HS1_ := (hb.cell (World.block_lt_of_cell? _ _ (hHeld.2.1))).trans (hHeld.2.1)
     have HS2_ := (hb.cell (World.block_lt_of_cell? _ _ (hHeld.2.2))).trans (hHeld.2.2)
     replace HO_5 := Aside0.mk (Kd.R_below (zRx HO_5.out) hb)
     replace HO179 := Aside0.mk (Kd.R_below (zRx HO179.out) hb)
     replace HO196 := Aside0.mk (Kd.R_below (zRx HO196.out) hb)
     replace HO202 := Aside0.mk (Kd.R_below (zRx HO202.out) hb)
     have BK205 := Aside0.mk (hbox)
     have GW205 := zns hg HB.out
     have GE205 := zns hg HB.out
     replace HB := Aside0.mk (below_step (zBz HB.out GE168.out GE169.out) hb)
     have NB168_205 := znl hg BK168.out
     have NB205_168 := zng hg BK168.out
     replace BK168 := zbl BK168.out hb
     have NB169_205 := znl hg BK169.out
     have NB205_169 := zng hg BK169.out
     replace BK169 := zbl BK169.out hb
     clear hb hbox hg
     refine hK.out _ _ ⟨HS0_, HS1_, HS2_⟩ (fun hHeld => ?_)
     clear hK K
     refine norm_ (a' := ?_) ?_ ?_
     rotate_left
     ·show Act.put _ (some 15) _ = _
      simp only [Act.put, List.setIfInBounds_toArray, List.set_cons_zero, List.set_cons_succ, i64_w, i32_w]
      rfl
     exact norm_ (by first | (simp only [putAll, Act.put, List.setIfInBounds_toArray, List.set_cons_zero, List.set_cons_succ]; done) | (simp only [putAll, Act.put, List.setIfInBounds_toArray, List.set_cons_zero, List.set_cons_succ]; rfl)) (hJ1_11_12_16_21 (v195, v201, gb205) _ ⟨hHeld, (zRx HO179.out), (zRx HO196.out), (zRx HO202.out), (zRx HO_5.out), (zbx BK168.out), (zbx BK169.out), (zbx BK205.out), GW205.out, GE205.out, NB168_205.out, NB205_168.out, NB169_205.out, NB205_169.out, (zhB HB.out)⟩)
   rintro ⟨v195, v201, gb205⟩ w73 ⟨hS_, h0_, h1_, h2_, h3_, h4_, h5_, h6_, h7_, h8_, h9_, h10_, h11_, h12_, h13_⟩
   replace HO179 : Aside0 (Kd.R Kd.string 9 w73 w.heap.size (fun k_ => some k_ ≠ (v195 : Value).ownBlock ∧ some k_ ≠ (v201 : Value).ownBlock ∧ some k_ ≠ (.slice (some ad176) t170.length co58 : Value).ownBlock) (.slice (some ad188) t177.length co60) t177) := ⟨h0_⟩
   have HO196 : Aside0 (Kd.R Kd.string 9 w73 w.heap.size (fun k_ => some k_ ≠ (.slice (some ad188) t177.length co60 : Value).ownBlock ∧ some k_ ≠ (v201 : Value).ownBlock ∧ some k_ ≠ (.slice (some ad176) t170.length co58 : Value).ownBlock) v195 t194) := ⟨h1_⟩
   have HO202 : Aside0 (Kd.R Kd.string 9 w73 w.heap.size (fun k_ => some k_ ≠ (.slice (some ad188) t177.length co60 : Value).ownBlock ∧ some k_ ≠ (v195 : Value).ownBlock ∧ some k_ ≠ (.slice (some ad176) t170.length co58 : Value).ownBlock) v201 t200) := ⟨h2_⟩
   replace HO_5 : Aside0 (Kd.R Kd.string 9 w73 w.heap.size (fun k_ => some k_ ≠ (.slice (some ad188) t177.length co60 : Value).ownBlock ∧ some k_ ≠ (v195 : Value).ownBlock ∧ some k_ ≠ (v201 : Value).ownBlock) (.slice (some ad176) t170.length co58) t170) := ⟨h3_⟩
   replace BK168 : Aside0 (w73.heap[gb168]? = some (.cells #[.int .i64 0, .int .i64 0, .int .i64 0, .int .i64 0, .int .i64 0, .int .i64 0] 25 (0, 0))) := ⟨h4_⟩
   replace BK169 : Aside0 (w73.heap[gb169]? = some (.cells #[.int .i64 0, .int .i64 0, .int .i64 0, .int .i64 0, .int .i64 0, .int .i64 0] 25 (0, 0))) := ⟨h5_⟩
   have BK205 : Aside0 (w73.heap[gb205]? = some (.cells #[.int .i64 0, .int .i64 0, .int .i64 0, .int .i64 0, .int .i64 0, .int .i64 0] 25 (0, 0))) := ⟨h6_⟩
   have GW205 : Aside0 (w.heap.size ≤ gb205) := ⟨h7_⟩
   have GE205 : Aside0 (w.heap.size ≤ gb205) := ⟨h8_⟩
   have NB168_205 : Aside0 (gb168 ≠ gb205) := ⟨h9_⟩
   have NB205_168 : Aside0 (gb205 ≠ gb168) := ⟨h10_⟩
   have NB169_205 : Aside0 (gb169 ≠ gb205) := ⟨h11_⟩
   have NB205_169 : Aside0 (gb205 ≠ gb169) := ⟨h12_⟩
   replace HB : Aside0 (Below w.heap.size w w73) := ⟨h13_⟩
   clear h0_
   clear h1_
   clear h2_
   clear h3_
   clear h4_
   clear h5_
   clear h6_
   clear h7_
   clear h8_
   clear h9_
   clear h10_
   clear h11_
   clear h12_
   clear h13_
   have hHeld : w73.cell? ⟨ad176.block, ad176.off + 2, none⟩ = some (.string (rdOf ByteArray.empty t170 2)) ∧ w73.cell? ⟨ad176.block, ad176.off + 2, none⟩ = some (.string (rdOf ByteArray.empty t170 2)) ∧ w73.cell? ⟨ad176.block, ad176.off + 1, none⟩ = some (.string (rdOf ByteArray.empty t170 1)) := hS_
   refine norm_ (a' := ?_) ?_ ?_
   rotate_left
   ·simp only [putAll, Act.put, List.setIfInBounds_toArray, List.set_cons_zero, List.set_cons_succ]
    rfl
   refine one_ (i := 22) (N := none) #[T,T,T,T,T,T,T,T,T,T,T,T,T,T,T,T,T,T,T,T,T,T,T] rfl rfl (one_of HT_.out (by kernel_rfl)) (by decide) (fun K hK => ?_)
   have hs74 : w73.cell? ⟨gb205, 0, none⟩ = some (.int .i64 0) := (blk_cell BK205.out 0).trans rfl
   have hfs74 := blk_frozen BK205.out 0
   have hns74_0 := NB168_205.out
   have hns74_1 := NB169_205.out
   have hms74_0 := NB205_168.out
   have hms74_1 := NB205_169.out
   have hs75 : w73.cell? ⟨gb205, 1, none⟩ = some (.int .i64 0) := (blk_cell BK205.out 1).trans rfl
   have hfs75 := blk_frozen BK205.out 1
   have hns75_0 := NB168_205.out
   have hns75_1 := NB169_205.out
   have hms75_0 := NB205_168.out
   have hms75_1 := NB205_169.out
   have hs76 : w73.cell? ⟨gb205, 2, none⟩ = some (.int .i64 0) := (blk_cell BK205.out 2).trans rfl
   have hfs76 := blk_frozen BK205.out 2
   have hns76_0 := NB168_205.out
   have hns76_1 := NB169_205.out
   have hms76_0 := NB205_168.out
   have hms76_1 := NB205_169.out
   have hs77 : w73.cell? ⟨gb205, 3, none⟩ = some (.int .i64 0) := (blk_cell BK205.out 3).trans rfl
   have hfs77 := blk_frozen BK205.out 3
   have hns77_0 := NB168_205.out
   have hns77_1 := NB169_205.out
   have hms77_0 := NB205_168.out
   have hms77_1 := NB205_169.out
   have hs78 : w73.cell? ⟨gb205, 4, none⟩ = some (.int .i64 0) := (blk_cell BK205.out 4).trans rfl
   have hfs78 := blk_frozen BK205.out 4
   have hns78_0 := NB168_205.out
   have hns78_1 := NB169_205.out
   have hms78_0 := NB205_168.out
   have hms78_1 := NB205_169.out
   have hs79 : w73.cell? ⟨gb205, 5, none⟩ = some (.int .i64 0) := (blk_cell BK205.out 5).trans rfl
   have hfs79 := blk_frozen BK205.out 5
   have hns79_0 := NB168_205.out
   have hns79_1 := NB169_205.out
   have hms79_0 := NB205_168.out
   have hms79_1 := NB205_169.out
   refine skip_ (w1 := ?_) (by rfl) rfl ?_ ?_
   rotate_left
   ·go_simp
    rfl
   have hne_ : ad176.block ≠ gb205 := Kd.own_blk (Kd.R_ne HO_5.out BK205.out (by decide))
   refine hK.out _ _ ⟨(by (repeat (with_reducible first | refine (cell_far (p := ⟨gb205, _, none⟩) (a := ⟨ad176.block, _, none⟩) hne_ _).trans ?_ | refine (cell_far (p := ⟨gb205, _, none⟩) (a := ad176) hne_ _).trans ?_)); with_reducible exact hHeld.1), (by (repeat (with_reducible first | refine (cell_far (p := ⟨gb205, _, none⟩) (a := ⟨ad176.block, _, none⟩) hne_ _).trans ?_ | refine (cell_far (p := ⟨gb205, _, none⟩) (a := ad176) hne_ _).trans ?_)); with_reducible exact hHeld.2.1), (by (repeat (with_reducible first | refine (cell_far (p := ⟨gb205, _, none⟩) (a := ⟨ad176.block, _, none⟩) hne_ _).trans ?_ | refine (cell_far (p := ⟨gb205, _, none⟩) (a := ad176) hne_ _).trans ?_)); with_reducible exact hHeld.2.2)⟩ (fun hHeld => ?_)
   clear hK K
   refine done_ (done_of HT_.out (by kernel_rfl)) ?_
   have H := HH_.out
   clear HH_
   by_cases c50 : t183 = true
   rotate_left
   ·replace c50 := Bool.eq_false_iff.mpr c50
    subst c50
    rw [if_neg (show ¬ (false = true) by decide)] at H
    focus
     simp only [Option.some.injEq, Prod.mk.injEq] at H
     obtain ⟨rfl, rfl, rfl, rfl, rfl, rfl, rfl⟩ := H
     have hnb252 := NB169_168.out
     have hnc252 := NB168_169.out
     have hnb253 := NB169_205.out
     have hnc253 := NB205_169.out
     have hcz254_0 : w73.cell? ⟨gb169, 0, none⟩ = some (.int .i64 0) := (blk_cell BK169.out 0).trans rfl
     have hcz254_1 : w73.cell? ⟨gb169, 1, none⟩ = some (.int .i64 0) := (blk_cell BK169.out 1).trans rfl
     have hcz254_2 : w73.cell? ⟨gb169, 2, none⟩ = some (.int .i64 0) := (blk_cell BK169.out 2).trans rfl
     have hcz254_3 : w73.cell? ⟨gb169, 3, none⟩ = some (.int .i64 0) := (blk_cell BK169.out 3).trans rfl
     have hcz254_4 : w73.cell? ⟨gb169, 4, none⟩ = some (.int .i64 0) := (blk_cell BK169.out 4).trans rfl
     have hcz254_5 : w73.cell? ⟨gb169, 5, none⟩ = some (.int .i64 0) := (blk_cell BK169.out 5).trans rfl
     have hfz254_0 := blk_frozen BK169.out 0
     have hfz254_1 := blk_frozen BK169.out 1
     have hfz254_2 := blk_frozen BK169.out 2
     have hfz254_3 := blk_frozen BK169.out 3
     have hfz254_4 := blk_frozen BK169.out 4
     have hfz254_5 := blk_frozen BK169.out 5
     have hnb255 := NB168_205.out
     have hnc255 := NB205_168.out
     have hcz256_0 : w73.cell? ⟨gb168, 0, none⟩ = some (.int .i64 0) := (blk_cell BK168.out 0).trans rfl
     have hcz256_1 : w73.cell? ⟨gb168, 1, none⟩ = some (.int .i64 0) := (blk_cell BK168.out 1).trans rfl
     have hcz256_2 : w73.cell? ⟨gb168, 2, none⟩ = some (.int .i64 0) := (blk_cell BK168.out 2).trans rfl
     have hcz256_3 : w73.cell? ⟨gb168, 3, none⟩ = some (.int .i64 0) := (blk_cell BK168.out 3).trans rfl
     have hcz256_4 : w73.cell? ⟨gb168, 4, none⟩ = some (.int .i64 0) := (blk_cell BK168.out 4).trans rfl
     have hcz256_5 : w73.cell? ⟨gb168, 5, none⟩ = some (.int .i64 0) := (blk_cell BK168.out 5).trans rfl
     have hfz256_0 := blk_frozen BK168.out 0
     have hfz256_1 := blk_frozen BK168.out 1
     have hfz256_2 := blk_frozen BK168.out 2
     have hfz256_3 := blk_frozen BK168.out 3
     have hfz256_4 := blk_frozen BK168.out 4
     have hfz256_5 := blk_frozen BK168.out 5
     try go_wp2
     refine bodyPost_ret (results_ct rfl _ _ gb168 25 #[.int .i64 0, .int .i64 0, .int .i64 0, .int .i64 0, .int .i64 0, .int .i64 0] (0, 0) _ rfl (zbp BK168.out) Tryz.underlying25 rfl (by kernel_rfl)) rfl ?_
     exact ⟨by first | rfl | (simp [errW_none, errW_some] <;> rfl) | (simp only [← hji28, ← hji33, ← hji43]; first | rfl | (simp [errW_none, errW_some] <;> rfl)) | (simp [*, errW_none, errW_some] <;> rfl), zhB HB.out⟩
   subst c50
   rw [if_pos rfl] at H
   by_cases c51 : t187 = true
   rotate_left
   ·replace c51 := Bool.eq_false_iff.mpr c51
    subst c51
    rw [if_neg (show ¬ (false = true) by decide)] at H
    focus
     simp only [Option.some.injEq, Prod.mk.injEq] at H
     obtain ⟨rfl, rfl, rfl, rfl, rfl, rfl, rfl⟩ := H
     have hnb225 := NB169_168.out
     have hnc225 := NB168_169.out
     have hnb226 := NB169_205.out
     have hnc226 := NB205_169.out
     have hcz227_0 : w73.cell? ⟨gb169, 0, none⟩ = some (.int .i64 0) := (blk_cell BK169.out 0).trans rfl
     have hcz227_1 : w73.cell? ⟨gb169, 1, none⟩ = some (.int .i64 0) := (blk_cell BK169.out 1).trans rfl
     have hcz227_2 : w73.cell? ⟨gb169, 2, none⟩ = some (.int .i64 0) := (blk_cell BK169.out 2).trans rfl
     have hcz227_3 : w73.cell? ⟨gb169, 3, none⟩ = some (.int .i64 0) := (blk_cell BK169.out 3).trans rfl
     have hcz227_4 : w73.cell? ⟨gb169, 4, none⟩ = some (.int .i64 0) := (blk_cell BK169.out 4).trans rfl
     have hcz227_5 : w73.cell? ⟨gb169, 5, none⟩ = some (.int .i64 0) := (blk_cell BK169.out 5).trans rfl
     have hfz227_0 := blk_frozen BK169.out 0
     have hfz227_1 := blk_frozen BK169.out 1
     have hfz227_2 := blk_frozen BK169.out 2
     have hfz227_3 := blk_frozen BK169.out 3
     have hfz227_4 := blk_frozen BK169.out 4
     have hfz227_5 := blk_frozen BK169.out 5
     have hnb228 := NB168_205.out
     have hnc228 := NB205_168.out
     have hcz229_0 : w73.cell? ⟨gb168, 0, none⟩ = some (.int .i64 0) := (blk_cell BK168.out 0).trans rfl
     have hcz229_1 : w73.cell? ⟨gb168, 1, none⟩ = some (.int .i64 0) := (blk_cell BK168.out 1).trans rfl
     have hcz229_2 : w73.cell? ⟨gb168, 2, none⟩ = some (.int .i64 0) := (blk_cell BK168.out 2).trans rfl
     have hcz229_3 : w73.cell? ⟨gb168, 3, none⟩ = some (.int .i64 0) := (blk_cell BK168.out 3).trans rfl
     have hcz229_4 : w73.cell? ⟨gb168, 4, none⟩ = some (.int .i64 0) := (blk_cell BK168.out 4).trans rfl
     have hcz229_5 : w73.cell? ⟨gb168, 5, none⟩ = some (.int .i64 0) := (blk_cell BK168.out 5).trans rfl
     have hfz229_0 := blk_frozen BK168.out 0
     have hfz229_1 := blk_frozen BK168.out 1
     have hfz229_2 := blk_frozen BK168.out 2
     have hfz229_3 := blk_frozen BK168.out 3
     have hfz229_4 := blk_frozen BK168.out 4
     have hfz229_5 := blk_frozen BK168.out 5
     try go_wp2
     refine bodyPost_ret (results_ct rfl _ _ gb168 25 #[.int .i64 0, .int .i64 0, .int .i64 0, .int .i64 0, .int .i64 0, .int .i64 0] (0, 0) _ rfl (zbp BK168.out) Tryz.underlying25 rfl (by kernel_rfl)) rfl ?_
     exact ⟨by first | rfl | (simp [errW_none, errW_some] <;> rfl) | (simp only [← hji28, ← hji33, ← hji43]; first | rfl | (simp [errW_none, errW_some] <;> rfl)) | (simp [*, errW_none, errW_some] <;> rfl), zhB HB.out⟩
   subst c51
   rw [if_pos rfl] at H
   by_cases c52 : t190 = true
   rotate_left
   ·replace c52 := Bool.eq_false_iff.mpr c52
    subst c52
    rw [if_neg (show ¬ (false = true) by decide)] at H
    focus
     simp only [Option.some.injEq, Prod.mk.injEq] at H
     obtain ⟨rfl, rfl, rfl, rfl, rfl, rfl, rfl⟩ := H
     have hnb198 := NB169_168.out
     have hnc198 := NB168_169.out
     have hnb199 := NB169_205.out
     have hnc199 := NB205_169.out
     have hcz200_0 : w73.cell? ⟨gb169, 0, none⟩ = some (.int .i64 0) := (blk_cell BK169.out 0).trans rfl
     have hcz200_1 : w73.cell? ⟨gb169, 1, none⟩ = some (.int .i64 0) := (blk_cell BK169.out 1).trans rfl
     have hcz200_2 : w73.cell? ⟨gb169, 2, none⟩ = some (.int .i64 0) := (blk_cell BK169.out 2).trans rfl
     have hcz200_3 : w73.cell? ⟨gb169, 3, none⟩ = some (.int .i64 0) := (blk_cell BK169.out 3).trans rfl
     have hcz200_4 : w73.cell? ⟨gb169, 4, none⟩ = some (.int .i64 0) := (blk_cell BK169.out 4).trans rfl
     have hcz200_5 : w73.cell? ⟨gb169, 5, none⟩ = some (.int .i64 0) := (blk_cell BK169.out 5).trans rfl
     have hfz200_0 := blk_frozen BK169.out 0
     have hfz200_1 := blk_frozen BK169.out 1
     have hfz200_2 := blk_frozen BK169.out 2
     have hfz200_3 := blk_frozen BK169.out 3
     have hfz200_4 := blk_frozen BK169.out 4
     have hfz200_5 := blk_frozen BK169.out 5
     have hnb201 := NB168_205.out
     have hnc201 := NB205_168.out
     have hcz202_0 : w73.cell? ⟨gb168, 0, none⟩ = some (.int .i64 0) := (blk_cell BK168.out 0).trans rfl
     have hcz202_1 : w73.cell? ⟨gb168, 1, none⟩ = some (.int .i64 0) := (blk_cell BK168.out 1).trans rfl
     have hcz202_2 : w73.cell? ⟨gb168, 2, none⟩ = some (.int .i64 0) := (blk_cell BK168.out 2).trans rfl
     have hcz202_3 : w73.cell? ⟨gb168, 3, none⟩ = some (.int .i64 0) := (blk_cell BK168.out 3).trans rfl
     have hcz202_4 : w73.cell? ⟨gb168, 4, none⟩ = some (.int .i64 0) := (blk_cell BK168.out 4).trans rfl
     have hcz202_5 : w73.cell? ⟨gb168, 5, none⟩ = some (.int .i64 0) := (blk_cell BK168.out 5).trans rfl
     have hfz202_0 := blk_frozen BK168.out 0
     have hfz202_1 := blk_frozen BK168.out 1
     have hfz202_2 := blk_frozen BK168.out 2
     have hfz202_3 := blk_frozen BK168.out 3
     have hfz202_4 := blk_frozen BK168.out 4
     have hfz202_5 := blk_frozen BK168.out 5
     try go_wp2
     refine bodyPost_ret (results_ct rfl _ _ gb168 25 #[.int .i64 0, .int .i64 0, .int .i64 0, .int .i64 0, .int .i64 0, .int .i64 0] (0, 0) _ rfl (zbp BK168.out) Tryz.underlying25 rfl (by kernel_rfl)) rfl ?_
     exact ⟨by first | rfl | (simp [errW_none, errW_some] <;> rfl) | (simp only [← hji28, ← hji33, ← hji43]; first | rfl | (simp [errW_none, errW_some] <;> rfl)) | (simp [*, errW_none, errW_some] <;> rfl), zhB HB.out⟩
   subst c52
   rw [if_pos rfl] at H
   by_cases c53 : t193 = true
   rotate_left
   ·replace c53 := Bool.eq_false_iff.mpr c53
    subst c53
    rw [if_neg (show ¬ (false = true) by decide)] at H
    focus
     simp only [Option.some.injEq, Prod.mk.injEq] at H
     obtain ⟨rfl, rfl, rfl, rfl, rfl, rfl, rfl⟩ := H
     have hnb171 := NB169_168.out
     have hnc171 := NB168_169.out
     have hnb172 := NB169_205.out
     have hnc172 := NB205_169.out
     have hcz173_0 : w73.cell? ⟨gb169, 0, none⟩ = some (.int .i64 0) := (blk_cell BK169.out 0).trans rfl
     have hcz173_1 : w73.cell? ⟨gb169, 1, none⟩ = some (.int .i64 0) := (blk_cell BK169.out 1).trans rfl
     have hcz173_2 : w73.cell? ⟨gb169, 2, none⟩ = some (.int .i64 0) := (blk_cell BK169.out 2).trans rfl
     have hcz173_3 : w73.cell? ⟨gb169, 3, none⟩ = some (.int .i64 0) := (blk_cell BK169.out 3).trans rfl
     have hcz173_4 : w73.cell? ⟨gb169, 4, none⟩ = some (.int .i64 0) := (blk_cell BK169.out 4).trans rfl
     have hcz173_5 : w73.cell? ⟨gb169, 5, none⟩ = some (.int .i64 0) := (blk_cell BK169.out 5).trans rfl
     have hfz173_0 := blk_frozen BK169.out 0
     have hfz173_1 := blk_frozen BK169.out 1
     have hfz173_2 := blk_frozen BK169.out 2
     have hfz173_3 := blk_frozen BK169.out 3
     have hfz173_4 := blk_frozen BK169.out 4
     have hfz173_5 := blk_frozen BK169.out 5
     have hnb174 := NB168_205.out
     have hnc174 := NB205_168.out
     have hcz175_0 : w73.cell? ⟨gb168, 0, none⟩ = some (.int .i64 0) := (blk_cell BK168.out 0).trans rfl
     have hcz175_1 : w73.cell? ⟨gb168, 1, none⟩ = some (.int .i64 0) := (blk_cell BK168.out 1).trans rfl
     have hcz175_2 : w73.cell? ⟨gb168, 2, none⟩ = some (.int .i64 0) := (blk_cell BK168.out 2).trans rfl
     have hcz175_3 : w73.cell? ⟨gb168, 3, none⟩ = some (.int .i64 0) := (blk_cell BK168.out 3).trans rfl
     have hcz175_4 : w73.cell? ⟨gb168, 4, none⟩ = some (.int .i64 0) := (blk_cell BK168.out 4).trans rfl
     have hcz175_5 : w73.cell? ⟨gb168, 5, none⟩ = some (.int .i64 0) := (blk_cell BK168.out 5).trans rfl
     have hfz175_0 := blk_frozen BK168.out 0
     have hfz175_1 := blk_frozen BK168.out 1
     have hfz175_2 := blk_frozen BK168.out 2
     have hfz175_3 := blk_frozen BK168.out 3
     have hfz175_4 := blk_frozen BK168.out 4
     have hfz175_5 := blk_frozen BK168.out 5
     try go_wp2
     refine bodyPost_ret (results_ct rfl _ _ gb168 25 #[.int .i64 0, .int .i64 0, .int .i64 0, .int .i64 0, .int .i64 0, .int .i64 0] (0, 0) _ rfl (zbp BK168.out) Tryz.underlying25 rfl (by kernel_rfl)) rfl ?_
     exact ⟨by first | rfl | (simp [errW_none, errW_some] <;> rfl) | (simp only [← hji28, ← hji33, ← hji43]; first | rfl | (simp [errW_none, errW_some] <;> rfl)) | (simp [*, errW_none, errW_some] <;> rfl), zhB HB.out⟩
   subst c53
   rw [if_pos rfl] at H
   replace H := Option.bind_eq_some_iff.mp H
   obtain ⟨t206, A540, H⟩ := H
   replace H : (if t206 = true then ((spec_l17Line.f kj2 t182 t199 t204 t186 t189 t192).bind fun t207 => (if t207.toList = a0.toList then (some (t182, t199, t204, t186, t189, t192, true)) else (some (0, 0, 0, 0, 0, 0, false)))) else (some (0, 0, 0, 0, 0, 0, false))) = some (r1, r2, r3, r4, r5, r6, r7) := H
   have A54 := Aside0.mk A540
   clear A540
   by_cases c55 : t206 = true
   rotate_left
   ·replace c55 := Bool.eq_false_iff.mpr c55
    subst c55
    rw [if_neg (show ¬ (false = true) by decide)] at H
    focus
     simp only [Option.some.injEq, Prod.mk.injEq] at H
     obtain ⟨rfl, rfl, rfl, rfl, rfl, rfl, rfl⟩ := H
     have hnb80 := NB205_168.out
     have hnc80 := NB168_205.out
     have hnb81 := NB205_169.out
     have hnc81 := NB169_205.out
     have hcz82_0 : w73.cell? ⟨gb205, 0, none⟩ = some (.int .i64 0) := (blk_cell BK205.out 0).trans rfl
     have hcz82_1 : w73.cell? ⟨gb205, 1, none⟩ = some (.int .i64 0) := (blk_cell BK205.out 1).trans rfl
     have hcz82_2 : w73.cell? ⟨gb205, 2, none⟩ = some (.int .i64 0) := (blk_cell BK205.out 2).trans rfl
     have hcz82_3 : w73.cell? ⟨gb205, 3, none⟩ = some (.int .i64 0) := (blk_cell BK205.out 3).trans rfl
     have hcz82_4 : w73.cell? ⟨gb205, 4, none⟩ = some (.int .i64 0) := (blk_cell BK205.out 4).trans rfl
     have hcz82_5 : w73.cell? ⟨gb205, 5, none⟩ = some (.int .i64 0) := (blk_cell BK205.out 5).trans rfl
     have hfz82_0 := blk_frozen BK205.out 0
     have hfz82_1 := blk_frozen BK205.out 1
     have hfz82_2 := blk_frozen BK205.out 2
     have hfz82_3 := blk_frozen BK205.out 3
     have hfz82_4 := blk_frozen BK205.out 4
     have hfz82_5 := blk_frozen BK205.out 5
     try go_wp2_with (first | (go_at_call 47; (with_reducible refine (spec_l14Good.calls t182 t199 t204 t186 t189 t192 false _ A54.out).mono ?_); rintro e w145 ⟨rfl, hb⟩; replace HO_5 := Aside0.mk (Kd.R_below (by (with_reducible repeat (first | apply Kd.R_alloc | apply Kd.R_drewN | apply Kd.R_drew)); exact (Kd.R_mono (Kd.R_far (p := ⟨gb205, 5, none⟩) (Kd.R_far (p := ⟨gb205, 4, none⟩) (Kd.R_far (p := ⟨gb205, 3, none⟩) (Kd.R_far (p := ⟨gb205, 2, none⟩) (Kd.R_far (p := ⟨gb205, 1, none⟩) (Kd.R_far (p := ⟨gb205, 0, none⟩) (Kd.R_types HO_5.out BK205.out (by decide)) (fun _ hk => hk.2) (.int .i64 t182)) (fun _ hk => hk.2) (.int .i64 t199)) (fun _ hk => hk.2) (.int .i64 t204)) (fun _ hk => hk.2) (.int .i64 t186)) (fun _ hk => hk.2) (.int .i64 t189)) (fun _ hk => hk.2) (.int .i64 t192)) (fun _ h_ => h_.1))) hb); replace HO179 := Aside0.mk (Kd.R_below (by (with_reducible repeat (first | apply Kd.R_alloc | apply Kd.R_drewN | apply Kd.R_drew)); exact (Kd.R_mono (Kd.R_far (p := ⟨gb205, 5, none⟩) (Kd.R_far (p := ⟨gb205, 4, none⟩) (Kd.R_far (p := ⟨gb205, 3, none⟩) (Kd.R_far (p := ⟨gb205, 2, none⟩) (Kd.R_far (p := ⟨gb205, 1, none⟩) (Kd.R_far (p := ⟨gb205, 0, none⟩) (Kd.R_types HO179.out BK205.out (by decide)) (fun _ hk => hk.2) (.int .i64 t182)) (fun _ hk => hk.2) (.int .i64 t199)) (fun _ hk => hk.2) (.int .i64 t204)) (fun _ hk => hk.2) (.int .i64 t186)) (fun _ hk => hk.2) (.int .i64 t189)) (fun _ hk => hk.2) (.int .i64 t192)) (fun _ h_ => h_.1))) hb); replace HO196 := Aside0.mk (Kd.R_below (by (with_reducible repeat (first | apply Kd.R_alloc | apply Kd.R_drewN | apply Kd.R_drew)); exact (Kd.R_mono (Kd.R_far (p := ⟨gb205, 5, none⟩) (Kd.R_far (p := ⟨gb205, 4, none⟩) (Kd.R_far (p := ⟨gb205, 3, none⟩) (Kd.R_far (p := ⟨gb205, 2, none⟩) (Kd.R_far (p := ⟨gb205, 1, none⟩) (Kd.R_far (p := ⟨gb205, 0, none⟩) (Kd.R_types HO196.out BK205.out (by decide)) (fun _ hk => hk.2) (.int .i64 t182)) (fun _ hk => hk.2) (.int .i64 t199)) (fun _ hk => hk.2) (.int .i64 t204)) (fun _ hk => hk.2) (.int .i64 t186)) (fun _ hk => hk.2) (.int .i64 t189)) (fun _ hk => hk.2) (.int .i64 t192)) (fun _ h_ => h_.1))) hb); replace HO202 := Aside0.mk (Kd.R_below (by (with_reducible repeat (first | apply Kd.R_alloc | apply Kd.R_drewN | apply Kd.R_drew)); exact (Kd.R_mono (Kd.R_far (p := ⟨gb205, 5, none⟩) (Kd.R_far (p := ⟨gb205, 4, none⟩) (Kd.R_far (p := ⟨gb205, 3, none⟩) (Kd.R_far (p := ⟨gb205, 2, none⟩) (Kd.R_far (p := ⟨gb205, 1, none⟩) (Kd.R_far (p := ⟨gb205, 0, none⟩) (Kd.R_types HO202.out BK205.out (by decide)) (fun _ hk => hk.2) (.int .i64 t182)) (fun _ hk => hk.2) (.int .i64 t199)) (fun _ hk => hk.2) (.int .i64 t204)) (fun _ hk => hk.2) (.int .i64 t186)) (fun _ hk => hk.2) (.int .i64 t189)) (fun _ hk => hk.2) (.int .i64 t192)) (fun _ h_ => h_.1))) hb); replace BK168 := zbl BK168.out hb; replace BK169 := zbl BK169.out hb; replace BK205 := Aside0.mk (blk_below (g := gb205) (o := .cells #[.int .i64 t182, .int .i64 t199, .int .i64 t204, .int .i64 t186, .int .i64 t189, .int .i64 t192] 25 (0, 0)) (zbp BK205.out) hb); replace HB := Aside0.mk (below_step (zhB HB.out) hb); (try clear hb); have hnb146 := NB169_168.out; have hnc146 := NB168_169.out; have hcz147_0 : w145.cell? ⟨gb169, 0, none⟩ = some (.int .i64 0) := (blk_cell BK169.out 0).trans rfl; have hcz147_1 : w145.cell? ⟨gb169, 1, none⟩ = some (.int .i64 0) := (blk_cell BK169.out 1).trans rfl; have hcz147_2 : w145.cell? ⟨gb169, 2, none⟩ = some (.int .i64 0) := (blk_cell BK169.out 2).trans rfl; have hcz147_3 : w145.cell? ⟨gb169, 3, none⟩ = some (.int .i64 0) := (blk_cell BK169.out 3).trans rfl; have hcz147_4 : w145.cell? ⟨gb169, 4, none⟩ = some (.int .i64 0) := (blk_cell BK169.out 4).trans rfl; have hcz147_5 : w145.cell? ⟨gb169, 5, none⟩ = some (.int .i64 0) := (blk_cell BK169.out 5).trans rfl; have hfz147_0 := blk_frozen BK169.out 0; have hfz147_1 := blk_frozen BK169.out 1; have hfz147_2 := blk_frozen BK169.out 2; have hfz147_3 := blk_frozen BK169.out 3; have hfz147_4 := blk_frozen BK169.out 4; have hfz147_5 := blk_frozen BK169.out 5; have hcz148_0 : w145.cell? ⟨gb168, 0, none⟩ = some (.int .i64 0) := (blk_cell BK168.out 0).trans rfl; have hcz148_1 : w145.cell? ⟨gb168, 1, none⟩ = some (.int .i64 0) := (blk_cell BK168.out 1).trans rfl; have hcz148_2 : w145.cell? ⟨gb168, 2, none⟩ = some (.int .i64 0) := (blk_cell BK168.out 2).trans rfl; have hcz148_3 : w145.cell? ⟨gb168, 3, none⟩ = some (.int .i64 0) := (blk_cell BK168.out 3).trans rfl; have hcz148_4 : w145.cell? ⟨gb168, 4, none⟩ = some (.int .i64 0) := (blk_cell BK168.out 4).trans rfl; have hcz148_5 : w145.cell? ⟨gb168, 5, none⟩ = some (.int .i64 0) := (blk_cell BK168.out 5).trans rfl; have hfz148_0 := blk_frozen BK168.out 0; have hfz148_1 := blk_frozen BK168.out 1; have hfz148_2 := blk_frozen BK168.out 2; have hfz148_3 := blk_frozen BK168.out 3; have hfz148_4 := blk_frozen BK168.out 4; have hfz148_5 := blk_frozen BK168.out 5))
     refine bodyPost_ret (results_ct rfl _ _ gb168 25 #[.int .i64 0, .int .i64 0, .int .i64 0, .int .i64 0, .int .i64 0, .int .i64 0] (0, 0) _ rfl (zbp BK168.out) Tryz.underlying25 rfl (by kernel_rfl)) rfl ?_
     exact ⟨by first | rfl | (simp [errW_none, errW_some] <;> rfl) | (simp only [← hji28, ← hji33, ← hji43]; first | rfl | (simp [errW_none, errW_some] <;> rfl)) | (simp [*, errW_none, errW_some] <;> rfl), zhB HB.out⟩
   subst c55
   rw [if_pos rfl] at H
   replace H := Option.bind_eq_some_iff.mp H
   obtain ⟨t207, A560, H⟩ := H
   replace H : (if t207.toList = a0.toList then (some (t182, t199, t204, t186, t189, t192, true)) else (some (0, 0, 0, 0, 0, 0, false))) = some (r1, r2, r3, r4, r5, r6, r7) := H
   have A56 := Aside0.mk A560
   clear A560
   by_cases c57 : t207.toList = a0.toList
   rotate_left
   ·rw [if_neg c57] at H
    have c57b0 : (t207.toList == a0.toList) = false := beq_eq_false_iff_ne.mpr c57
    have c57b1 : (t207.toList != a0.toList) = true := bne_iff_ne.mpr c57
    focus
     simp only [Option.some.injEq, Prod.mk.injEq] at H
     obtain ⟨rfl, rfl, rfl, rfl, rfl, rfl, rfl⟩ := H
     have hnb80 := NB205_168.out
     have hnc80 := NB168_205.out
     have hnb81 := NB205_169.out
     have hnc81 := NB169_205.out
     have hcz82_0 : w73.cell? ⟨gb205, 0, none⟩ = some (.int .i64 0) := (blk_cell BK205.out 0).trans rfl
     have hcz82_1 : w73.cell? ⟨gb205, 1, none⟩ = some (.int .i64 0) := (blk_cell BK205.out 1).trans rfl
     have hcz82_2 : w73.cell? ⟨gb205, 2, none⟩ = some (.int .i64 0) := (blk_cell BK205.out 2).trans rfl
     have hcz82_3 : w73.cell? ⟨gb205, 3, none⟩ = some (.int .i64 0) := (blk_cell BK205.out 3).trans rfl
     have hcz82_4 : w73.cell? ⟨gb205, 4, none⟩ = some (.int .i64 0) := (blk_cell BK205.out 4).trans rfl
     have hcz82_5 : w73.cell? ⟨gb205, 5, none⟩ = some (.int .i64 0) := (blk_cell BK205.out 5).trans rfl
     have hfz82_0 := blk_frozen BK205.out 0
     have hfz82_1 := blk_frozen BK205.out 1
     have hfz82_2 := blk_frozen BK205.out 2
     have hfz82_3 := blk_frozen BK205.out 3
     have hfz82_4 := blk_frozen BK205.out 4
     have hfz82_5 := blk_frozen BK205.out 5
     try go_wp2_with (first | (go_at_call 47; (with_reducible refine (spec_l14Good.calls t182 t199 t204 t186 t189 t192 true _ A54.out).mono ?_); rintro e w114 ⟨rfl, hb⟩; replace HO_5 := Aside0.mk (Kd.R_below (by (with_reducible repeat (first | apply Kd.R_alloc | apply Kd.R_drewN | apply Kd.R_drew)); exact (Kd.R_mono (Kd.R_far (p := ⟨gb205, 5, none⟩) (Kd.R_far (p := ⟨gb205, 4, none⟩) (Kd.R_far (p := ⟨gb205, 3, none⟩) (Kd.R_far (p := ⟨gb205, 2, none⟩) (Kd.R_far (p := ⟨gb205, 1, none⟩) (Kd.R_far (p := ⟨gb205, 0, none⟩) (Kd.R_types HO_5.out BK205.out (by decide)) (fun _ hk => hk.2) (.int .i64 t182)) (fun _ hk => hk.2) (.int .i64 t199)) (fun _ hk => hk.2) (.int .i64 t204)) (fun _ hk => hk.2) (.int .i64 t186)) (fun _ hk => hk.2) (.int .i64 t189)) (fun _ hk => hk.2) (.int .i64 t192)) (fun _ h_ => h_.1))) hb); replace HO179 := Aside0.mk (Kd.R_below (by (with_reducible repeat (first | apply Kd.R_alloc | apply Kd.R_drewN | apply Kd.R_drew)); exact (Kd.R_mono (Kd.R_far (p := ⟨gb205, 5, none⟩) (Kd.R_far (p := ⟨gb205, 4, none⟩) (Kd.R_far (p := ⟨gb205, 3, none⟩) (Kd.R_far (p := ⟨gb205, 2, none⟩) (Kd.R_far (p := ⟨gb205, 1, none⟩) (Kd.R_far (p := ⟨gb205, 0, none⟩) (Kd.R_types HO179.out BK205.out (by decide)) (fun _ hk => hk.2) (.int .i64 t182)) (fun _ hk => hk.2) (.int .i64 t199)) (fun _ hk => hk.2) (.int .i64 t204)) (fun _ hk => hk.2) (.int .i64 t186)) (fun _ hk => hk.2) (.int .i64 t189)) (fun _ hk => hk.2) (.int .i64 t192)) (fun _ h_ => h_.1))) hb); replace HO196 := Aside0.mk (Kd.R_below (by (with_reducible repeat (first | apply Kd.R_alloc | apply Kd.R_drewN | apply Kd.R_drew)); exact (Kd.R_mono (Kd.R_far (p := ⟨gb205, 5, none⟩) (Kd.R_far (p := ⟨gb205, 4, none⟩) (Kd.R_far (p := ⟨gb205, 3, none⟩) (Kd.R_far (p := ⟨gb205, 2, none⟩) (Kd.R_far (p := ⟨gb205, 1, none⟩) (Kd.R_far (p := ⟨gb205, 0, none⟩) (Kd.R_types HO196.out BK205.out (by decide)) (fun _ hk => hk.2) (.int .i64 t182)) (fun _ hk => hk.2) (.int .i64 t199)) (fun _ hk => hk.2) (.int .i64 t204)) (fun _ hk => hk.2) (.int .i64 t186)) (fun _ hk => hk.2) (.int .i64 t189)) (fun _ hk => hk.2) (.int .i64 t192)) (fun _ h_ => h_.1))) hb); replace HO202 := Aside0.mk (Kd.R_below (by (with_reducible repeat (first | apply Kd.R_alloc | apply Kd.R_drewN | apply Kd.R_drew)); exact (Kd.R_mono (Kd.R_far (p := ⟨gb205, 5, none⟩) (Kd.R_far (p := ⟨gb205, 4, none⟩) (Kd.R_far (p := ⟨gb205, 3, none⟩) (Kd.R_far (p := ⟨gb205, 2, none⟩) (Kd.R_far (p := ⟨gb205, 1, none⟩) (Kd.R_far (p := ⟨gb205, 0, none⟩) (Kd.R_types HO202.out BK205.out (by decide)) (fun _ hk => hk.2) (.int .i64 t182)) (fun _ hk => hk.2) (.int .i64 t199)) (fun _ hk => hk.2) (.int .i64 t204)) (fun _ hk => hk.2) (.int .i64 t186)) (fun _ hk => hk.2) (.int .i64 t189)) (fun _ hk => hk.2) (.int .i64 t192)) (fun _ h_ => h_.1))) hb); replace BK168 := zbl BK168.out hb; replace BK169 := zbl BK169.out hb; replace BK205 := Aside0.mk (blk_below (g := gb205) (o := .cells #[.int .i64 t182, .int .i64 t199, .int .i64 t204, .int .i64 t186, .int .i64 t189, .int .i64 t192] 25 (0, 0)) (zbp BK205.out) hb); replace HB := Aside0.mk (below_step (zhB HB.out) hb); (try clear hb); have hcz115_0 : w114.cell? ⟨gb205, 0, none⟩ = some (.int .i64 t182) := (blk_cell BK205.out 0).trans rfl; have hcz115_1 : w114.cell? ⟨gb205, 1, none⟩ = some (.int .i64 t199) := (blk_cell BK205.out 1).trans rfl; have hcz115_2 : w114.cell? ⟨gb205, 2, none⟩ = some (.int .i64 t204) := (blk_cell BK205.out 2).trans rfl; have hcz115_3 : w114.cell? ⟨gb205, 3, none⟩ = some (.int .i64 t186) := (blk_cell BK205.out 3).trans rfl; have hcz115_4 : w114.cell? ⟨gb205, 4, none⟩ = some (.int .i64 t189) := (blk_cell BK205.out 4).trans rfl; have hcz115_5 : w114.cell? ⟨gb205, 5, none⟩ = some (.int .i64 t192) := (blk_cell BK205.out 5).trans rfl; have hfz115_0 := blk_frozen BK205.out 0; have hfz115_1 := blk_frozen BK205.out 1; have hfz115_2 := blk_frozen BK205.out 2; have hfz115_3 := blk_frozen BK205.out 3; have hfz115_4 := blk_frozen BK205.out 4; have hfz115_5 := blk_frozen BK205.out 5) | (go_at_call 48; (with_reducible refine (spec_l17Line.calls kj2 t182 t199 t204 t186 t189 t192 t207 _ A56.out).mono ?_); rintro e w116 ⟨rfl, hb⟩; replace HO_5 := Aside0.mk (Kd.R_below (zRx HO_5.out) hb); replace HO179 := Aside0.mk (Kd.R_below (zRx HO179.out) hb); replace HO196 := Aside0.mk (Kd.R_below (zRx HO196.out) hb); replace HO202 := Aside0.mk (Kd.R_below (zRx HO202.out) hb); replace BK168 := zbl BK168.out hb; replace BK169 := zbl BK169.out hb; replace BK205 := zbl BK205.out hb; replace HB := Aside0.mk (below_step (zhB HB.out) hb); (try clear hb); have hnb117 := NB169_168.out; have hnc117 := NB168_169.out; have hcz118_0 : w116.cell? ⟨gb169, 0, none⟩ = some (.int .i64 0) := (blk_cell BK169.out 0).trans rfl; have hcz118_1 : w116.cell? ⟨gb169, 1, none⟩ = some (.int .i64 0) := (blk_cell BK169.out 1).trans rfl; have hcz118_2 : w116.cell? ⟨gb169, 2, none⟩ = some (.int .i64 0) := (blk_cell BK169.out 2).trans rfl; have hcz118_3 : w116.cell? ⟨gb169, 3, none⟩ = some (.int .i64 0) := (blk_cell BK169.out 3).trans rfl; have hcz118_4 : w116.cell? ⟨gb169, 4, none⟩ = some (.int .i64 0) := (blk_cell BK169.out 4).trans rfl; have hcz118_5 : w116.cell? ⟨gb169, 5, none⟩ = some (.int .i64 0) := (blk_cell BK169.out 5).trans rfl; have hfz118_0 := blk_frozen BK169.out 0; have hfz118_1 := blk_frozen BK169.out 1; have hfz118_2 := blk_frozen BK169.out 2; have hfz118_3 := blk_frozen BK169.out 3; have hfz118_4 := blk_frozen BK169.out 4; have hfz118_5 := blk_frozen BK169.out 5; have hcz119_0 : w116.cell? ⟨gb168, 0, none⟩ = some (.int .i64 0) := (blk_cell BK168.out 0).trans rfl; have hcz119_1 : w116.cell? ⟨gb168, 1, none⟩ = some (.int .i64 0) := (blk_cell BK168.out 1).trans rfl; have hcz119_2 : w116.cell? ⟨gb168, 2, none⟩ = some (.int .i64 0) := (blk_cell BK168.out 2).trans rfl; have hcz119_3 : w116.cell? ⟨gb168, 3, none⟩ = some (.int .i64 0) := (blk_cell BK168.out 3).trans rfl; have hcz119_4 : w116.cell? ⟨gb168, 4, none⟩ = some (.int .i64 0) := (blk_cell BK168.out 4).trans rfl; have hcz119_5 : w116.cell? ⟨gb168, 5, none⟩ = some (.int .i64 0) := (blk_cell BK168.out 5).trans rfl; have hfz119_0 := blk_frozen BK168.out 0; have hfz119_1 := blk_frozen BK168.out 1; have hfz119_2 := blk_frozen BK168.out 2; have hfz119_3 := blk_frozen BK168.out 3; have hfz119_4 := blk_frozen BK168.out 4; have hfz119_5 := blk_frozen BK168.out 5))
     refine bodyPost_ret (results_ct rfl _ _ gb168 25 #[.int .i64 0, .int .i64 0, .int .i64 0, .int .i64 0, .int .i64 0, .int .i64 0] (0, 0) _ rfl (zbp BK168.out) Tryz.underlying25 rfl (by kernel_rfl)) rfl ?_
     exact ⟨by first | rfl | (simp [errW_none, errW_some] <;> rfl) | (simp only [← hji28, ← hji33, ← hji43]; first | rfl | (simp [errW_none, errW_some] <;> rfl)) | (simp [*, errW_none, errW_some] <;> rfl), zhB HB.out⟩
   rw [if_pos c57] at H
   have c57b0 : (t207.toList == a0.toList) = true := beq_iff_eq.mpr c57
   have c57b1 : (t207.toList != a0.toList) = false := bne_eq_false_iff_eq.mpr c57
   clear c57
   focus
    simp only [Option.some.injEq, Prod.mk.injEq] at H
    obtain ⟨rfl, rfl, rfl, rfl, rfl, rfl, rfl⟩ := H
    have hnb80 := NB205_168.out
    have hnc80 := NB168_205.out
    have hnb81 := NB205_169.out
    have hnc81 := NB169_205.out
    have hcz82_0 : w73.cell? ⟨gb205, 0, none⟩ = some (.int .i64 0) := (blk_cell BK205.out 0).trans rfl
    have hcz82_1 : w73.cell? ⟨gb205, 1, none⟩ = some (.int .i64 0) := (blk_cell BK205.out 1).trans rfl
    have hcz82_2 : w73.cell? ⟨gb205, 2, none⟩ = some (.int .i64 0) := (blk_cell BK205.out 2).trans rfl
    have hcz82_3 : w73.cell? ⟨gb205, 3, none⟩ = some (.int .i64 0) := (blk_cell BK205.out 3).trans rfl
    have hcz82_4 : w73.cell? ⟨gb205, 4, none⟩ = some (.int .i64 0) := (blk_cell BK205.out 4).trans rfl
    have hcz82_5 : w73.cell? ⟨gb205, 5, none⟩ = some (.int .i64 0) := (blk_cell BK205.out 5).trans rfl
    have hfz82_0 := blk_frozen BK205.out 0
    have hfz82_1 := blk_frozen BK205.out 1
    have hfz82_2 := blk_frozen BK205.out 2
    have hfz82_3 := blk_frozen BK205.out 3
    have hfz82_4 := blk_frozen BK205.out 4
    have hfz82_5 := blk_frozen BK205.out 5
    try go_wp2_with (first | (go_at_call 47; (with_reducible refine (spec_l14Good.calls t182 t199 t204 t186 t189 t192 true _ A54.out).mono ?_); rintro e w83 ⟨rfl, hb⟩; replace HO_5 := Aside0.mk (Kd.R_below (by (with_reducible repeat (first | apply Kd.R_alloc | apply Kd.R_drewN | apply Kd.R_drew)); exact (Kd.R_mono (Kd.R_far (p := ⟨gb205, 5, none⟩) (Kd.R_far (p := ⟨gb205, 4, none⟩) (Kd.R_far (p := ⟨gb205, 3, none⟩) (Kd.R_far (p := ⟨gb205, 2, none⟩) (Kd.R_far (p := ⟨gb205, 1, none⟩) (Kd.R_far (p := ⟨gb205, 0, none⟩) (Kd.R_types HO_5.out BK205.out (by decide)) (fun _ hk => hk.2) (.int .i64 t182)) (fun _ hk => hk.2) (.int .i64 t199)) (fun _ hk => hk.2) (.int .i64 t204)) (fun _ hk => hk.2) (.int .i64 t186)) (fun _ hk => hk.2) (.int .i64 t189)) (fun _ hk => hk.2) (.int .i64 t192)) (fun _ h_ => h_.1))) hb); replace HO179 := Aside0.mk (Kd.R_below (by (with_reducible repeat (first | apply Kd.R_alloc | apply Kd.R_drewN | apply Kd.R_drew)); exact (Kd.R_mono (Kd.R_far (p := ⟨gb205, 5, none⟩) (Kd.R_far (p := ⟨gb205, 4, none⟩) (Kd.R_far (p := ⟨gb205, 3, none⟩) (Kd.R_far (p := ⟨gb205, 2, none⟩) (Kd.R_far (p := ⟨gb205, 1, none⟩) (Kd.R_far (p := ⟨gb205, 0, none⟩) (Kd.R_types HO179.out BK205.out (by decide)) (fun _ hk => hk.2) (.int .i64 t182)) (fun _ hk => hk.2) (.int .i64 t199)) (fun _ hk => hk.2) (.int .i64 t204)) (fun _ hk => hk.2) (.int .i64 t186)) (fun _ hk => hk.2) (.int .i64 t189)) (fun _ hk => hk.2) (.int .i64 t192)) (fun _ h_ => h_.1))) hb); replace HO196 := Aside0.mk (Kd.R_below (by (with_reducible repeat (first | apply Kd.R_alloc | apply Kd.R_drewN | apply Kd.R_drew)); exact (Kd.R_mono (Kd.R_far (p := ⟨gb205, 5, none⟩) (Kd.R_far (p := ⟨gb205, 4, none⟩) (Kd.R_far (p := ⟨gb205, 3, none⟩) (Kd.R_far (p := ⟨gb205, 2, none⟩) (Kd.R_far (p := ⟨gb205, 1, none⟩) (Kd.R_far (p := ⟨gb205, 0, none⟩) (Kd.R_types HO196.out BK205.out (by decide)) (fun _ hk => hk.2) (.int .i64 t182)) (fun _ hk => hk.2) (.int .i64 t199)) (fun _ hk => hk.2) (.int .i64 t204)) (fun _ hk => hk.2) (.int .i64 t186)) (fun _ hk => hk.2) (.int .i64 t189)) (fun _ hk => hk.2) (.int .i64 t192)) (fun _ h_ => h_.1))) hb); replace HO202 := Aside0.mk (Kd.R_below (by (with_reducible repeat (first | apply Kd.R_alloc | apply Kd.R_drewN | apply Kd.R_drew)); exact (Kd.R_mono (Kd.R_far (p := ⟨gb205, 5, none⟩) (Kd.R_far (p := ⟨gb205, 4, none⟩) (Kd.R_far (p := ⟨gb205, 3, none⟩) (Kd.R_far (p := ⟨gb205, 2, none⟩) (Kd.R_far (p := ⟨gb205, 1, none⟩) (Kd.R_far (p := ⟨gb205, 0, none⟩) (Kd.R_types HO202.out BK205.out (by decide)) (fun _ hk => hk.2) (.int .i64 t182)) (fun _ hk => hk.2) (.int .i64 t199)) (fun _ hk => hk.2) (.int .i64 t204)) (fun _ hk => hk.2) (.int .i64 t186)) (fun _ hk => hk.2) (.int .i64 t189)) (fun _ hk => hk.2) (.int .i64 t192)) (fun _ h_ => h_.1))) hb); replace BK168 := zbl BK168.out hb; replace BK169 := zbl BK169.out hb; replace BK205 := Aside0.mk (blk_below (g := gb205) (o := .cells #[.int .i64 t182, .int .i64 t199, .int .i64 t204, .int .i64 t186, .int .i64 t189, .int .i64 t192] 25 (0, 0)) (zbp BK205.out) hb); replace HB := Aside0.mk (below_step (zhB HB.out) hb); (try clear hb); have hcz84_0 : w83.cell? ⟨gb205, 0, none⟩ = some (.int .i64 t182) := (blk_cell BK205.out 0).trans rfl; have hcz84_1 : w83.cell? ⟨gb205, 1, none⟩ = some (.int .i64 t199) := (blk_cell BK205.out 1).trans rfl; have hcz84_2 : w83.cell? ⟨gb205, 2, none⟩ = some (.int .i64 t204) := (blk_cell BK205.out 2).trans rfl; have hcz84_3 : w83.cell? ⟨gb205, 3, none⟩ = some (.int .i64 t186) := (blk_cell BK205.out 3).trans rfl; have hcz84_4 : w83.cell? ⟨gb205, 4, none⟩ = some (.int .i64 t189) := (blk_cell BK205.out 4).trans rfl; have hcz84_5 : w83.cell? ⟨gb205, 5, none⟩ = some (.int .i64 t192) := (blk_cell BK205.out 5).trans rfl; have hfz84_0 := blk_frozen BK205.out 0; have hfz84_1 := blk_frozen BK205.out 1; have hfz84_2 := blk_frozen BK205.out 2; have hfz84_3 := blk_frozen BK205.out 3; have hfz84_4 := blk_frozen BK205.out 4; have hfz84_5 := blk_frozen BK205.out 5) | (go_at_call 48; (with_reducible refine (spec_l17Line.calls kj2 t182 t199 t204 t186 t189 t192 t207 _ A56.out).mono ?_); rintro e w85 ⟨rfl, hb⟩; replace HO_5 := Aside0.mk (Kd.R_below (zRx HO_5.out) hb); replace HO179 := Aside0.mk (Kd.R_below (zRx HO179.out) hb); replace HO196 := Aside0.mk (Kd.R_below (zRx HO196.out) hb); replace HO202 := Aside0.mk (Kd.R_below (zRx HO202.out) hb); replace BK168 := zbl BK168.out hb; replace BK169 := zbl BK169.out hb; replace BK205 := zbl BK205.out hb; replace HB := Aside0.mk (below_step (zhB HB.out) hb); (try clear hb); have hcz86_0 : w85.cell? ⟨gb205, 0, none⟩ = some (.int .i64 t182) := (blk_cell BK205.out 0).trans rfl; have hcz86_1 : w85.cell? ⟨gb205, 1, none⟩ = some (.int .i64 t199) := (blk_cell BK205.out 1).trans rfl; have hcz86_2 : w85.cell? ⟨gb205, 2, none⟩ = some (.int .i64 t204) := (blk_cell BK205.out 2).trans rfl; have hcz86_3 : w85.cell? ⟨gb205, 3, none⟩ = some (.int .i64 t186) := (blk_cell BK205.out 3).trans rfl; have hcz86_4 : w85.cell? ⟨gb205, 4, none⟩ = some (.int .i64 t189) := (blk_cell BK205.out 4).trans rfl; have hcz86_5 : w85.cell? ⟨gb205, 5, none⟩ = some (.int .i64 t192) := (blk_cell BK205.out 5).trans rfl; have hfz86_0 := blk_frozen BK205.out 0; have hfz86_1 := blk_frozen BK205.out 1; have hfz86_2 := blk_frozen BK205.out 2; have hfz86_3 := blk_frozen BK205.out 3; have hfz86_4 := blk_frozen BK205.out 4; have hfz86_5 := blk_frozen BK205.out 5; have hnb87 := NB168_169.out; have hnc87 := NB169_168.out; have hcz88_0 : w85.cell? ⟨gb168, 0, none⟩ = some (.int .i64 0) := (blk_cell BK168.out 0).trans rfl; have hcz88_1 : w85.cell? ⟨gb168, 1, none⟩ = some (.int .i64 0) := (blk_cell BK168.out 1).trans rfl; have hcz88_2 : w85.cell? ⟨gb168, 2, none⟩ = some (.int .i64 0) := (blk_cell BK168.out 2).trans rfl; have hcz88_3 : w85.cell? ⟨gb168, 3, none⟩ = some (.int .i64 0) := (blk_cell BK168.out 3).trans rfl; have hcz88_4 : w85.cell? ⟨gb168, 4, none⟩ = some (.int .i64 0) := (blk_cell BK168.out 4).trans rfl; have hcz88_5 : w85.cell? ⟨gb168, 5, none⟩ = some (.int .i64 0) := (blk_cell BK168.out 5).trans rfl; have hfz88_0 := blk_frozen BK168.out 0; have hfz88_1 := blk_frozen BK168.out 1; have hfz88_2 := blk_frozen BK168.out 2; have hfz88_3 := blk_frozen BK168.out 3; have hfz88_4 := blk_frozen BK168.out 4; have hfz88_5 := blk_frozen BK168.out 5))
    refine bodyPost_ret (results_ct rfl _ _ gb168 25 #[.int .i64 t182, .int .i64 t199, .int .i64 t204, .int .i64 t186, .int .i64 t189, .int .i64 t192] (0, 0) _ rfl (zbp BK168.out) Tryz.underlying25 rfl (by kernel_rfl)) rfl ?_
    exact ⟨by first | rfl | (simp [errW_none, errW_some] <;> rfl) | (simp only [← hji28, ← hji33, ← hji43]; first | rfl | (simp [errW_none, errW_some] <;> rfl)) | (simp [*, errW_none, errW_some] <;> rfl), zhB HB.out⟩
end Go.Proofs.YtlfoojgbiafffaaGreatDoor.XFnExactReadBulletin
