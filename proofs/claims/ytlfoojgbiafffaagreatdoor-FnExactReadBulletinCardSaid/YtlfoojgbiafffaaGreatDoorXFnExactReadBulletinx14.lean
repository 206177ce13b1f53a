-- written by wip/tools/xprint.py (a program of this project) out of the translation
import Derived.Test.YtlfoojgbiafffaaGreatDoorXFnExactReadBulletinx0
import Derived.Test.YtlfoojgbiafffaaGreatDoorStrsE
namespace Go.Proofs.YtlfoojgbiafffaaGreatDoor.XFnExactReadBulletin
open Go.RowKit Go.Proofs.YtlfoojgbiafffaaGreatDoorW.PrintWords Go.Proofs.YtlfoojgbiafffaaGreatDoorW.PrintLast Go.Proofs.YtlfoojgbiafffaaGreatDoorW.PrintMore
open Go.Proofs.YtlfoojgbiafffaaGreatDoor.Strs
attribute [local go_sem] max2_int min2_int max_two min_two max_three min_three max_four min_four   -- for this text's walks alone
set_option linter.unusedVariables false
set_option linter.unusedSimpArgs false

/-! ### laws_heldWarningS: function 65 -/
def laws_heldWarningS.l0 : Nat → List (S25) → Int → Int → Option (Int)
 | 0, _, _, _ => none
 | k + 1, x0, x1, x5 => if x5 < (x0.length : Int) then (if 0 ≤ x5 then (if ((rd_T25 x0 x5).f0) = x1 then (if ((rd_T25 x0 x5).f1) = (wrap64 (x1 + 1)) then (if ((rd_T25 x0 x5).f2) = (wrap64 ((wrap64 (x1 + 1)) + 1)) then (if ((rd_T25 x0 x5).f3) = (wrap64 ((wrap64 ((wrap64 (x1 + 1)) + 1)) + 1)) then (if ((rd_T25 x0 x5).f4) = (wrap64 ((wrap64 ((wrap64 ((wrap64 (x1 + 1)) + 1)) + 1)) + 1)) then (if ((rd_T25 x0 x5).f5) = (wrap64 ((wrap64 ((wrap64 ((wrap64 ((wrap64 (x1 + 1)) + 1)) + 1)) + 1)) + 1)) then (laws_heldWarningS.l0 k x0 (wrap64 ((wrap64 ((wrap64 ((wrap64 ((wrap64 ((wrap64 (x1 + 1)) + 1)) + 1)) + 1)) + 1)) + 1)) (wrap64 (x5 + 1))) else (some (-1))) else (some (-1))) else (some (-1))) else (some (-1))) else (some (-1))) else (some (-1))) else (none)) else (some x1)
def laws_heldWarningS.f (k : Nat) (l0 : List (S25)) (a1 : Int) : Option (Int) := laws_heldWarningS.l0 k l0 a1 0
set_option maxHeartbeats 8000000 in
set_option maxRecDepth 100000 in
theorem laws_heldWarningS.calls (k : Nat) (A0 : Option Addr) (c0 : Nat) (l0 : List (S25)) (a1 : Int) (r : Int) (w : World) (hr0 : Kd.C k25 w A0 l0.length l0) (hc0 : l0.length ≤ c0) (h : laws_heldWarningS.f k l0 a1 = some r) :
 Calls Tryz.prog 65 #[.slice A0 l0.length c0, .int .i64 a1] w fun e w' => e = .returned (.int .i64 r) ∧ Drawn0 w w' := by
 have HR0 := Aside0.mk hr0
 have HC0 := Aside0.mk hc0
 clear hr0 hc0
 have H : (laws_heldWarningS.l0 k l0 a1 0) = some r := h
 clear h
 have H' := Aside0.mk H
 clear H
 go_enter Tryz.func65, Tryz.ntmps65
 go_wp2
 go_loopg [1, 5] k (fun kq v1 v5 w' => ∃ (x1_1 : Int) (x5_1 : Int), v1 = .int .i64 x1_1 ∧ v5 = .int .i64 x5_1 ∧ Aside0 (laws_heldWarningS.l0 kq l0 x1_1 x5_1 = some r) ∧ Aside0 (kq ≤ k) ∧ Drawn0 w w')
 case atStart => exact ⟨(a1), (0), zrx, zrx, H', ⟨Nat.le_refl _⟩, by repeat (first | exact Drawn0.refl _ | apply Drawn0.step)⟩
 case round =>
  clear H'
  try clear p2
  obtain ⟨x1_1, x5_1, rfl, rfl, HA, HK1, ⟨m1, rfl⟩⟩ := hrel
  cases gk with
  | zero => exact absurd HA.out (by simp [laws_heldWarningS.l0])
  | succ k1 =>
   have H := HA.out
   clear HA
   simp only [laws_heldWarningS.l0] at H
   by_cases c3 : x5_1 < (l0.length : Int)
   rotate_left
   ·rw [if_neg c3] at H
    have c3b0 : decide (x5_1 < (l0.length : Int)) = false := decide_eq_false c3
    clear c3
    focus
     obtain rfl := Option.some.inj H
     go_wp2
     go_ret
     exact ⟨by first | rfl | (simp; done) | (simp [*]; done), by repeat (first | exact Drawn0.refl _ | apply Drawn0.step)⟩

   rw [if_pos c3] at H
   have c3b0 : decide (x5_1 < (l0.length : Int)) = true := decide_eq_true c3
   clear c3
   obtain ⟨c4, H⟩ := zin H
   have c4b0 : decide (0 ≤ x5_1) = true := decide_eq_true c4
   clear c4
   by_cases c5 : ((rd_T25 l0 x5_1).f0) = x1_1
   rotate_left
   ·rw [if_neg c5] at H
    have c5b0 : (((rd_T25 l0 x5_1).f0) == x1_1) = false := beq_eq_false_iff_ne.mpr c5
    have c5b1 : (((rd_T25 l0 x5_1).f0) != x1_1) = true := bne_iff_ne.mpr c5
    focus
     obtain rfl := Option.some.inj H
     have p378 : 0 ≤ (x5_1 : Int) := of_decide_eq_true zax
     have q378 : x5_1 < (l0.length : Int) := of_decide_eq_true zax
     obtain ⟨ad378, e378, hx378_0, hx378_1, hx378_2, hx378_3, hx378_4, hx378_5⟩ := at_T25 HR0.out x5_1 p378 q378
     cases e378
     replace p378 := eq_true p378
     replace q378 := eq_true q378
     go_wp2
     go_ret
     exact ⟨by first | rfl | (simp; done) | (simp [*]; done), by repeat (first | exact Drawn0.refl _ | apply Drawn0.step)⟩
   rw [if_pos c5] at H
   have c5b0 : (((rd_T25 l0 x5_1).f0) == x1_1) = true := beq_iff_eq.mpr c5
   have c5b1 : (((rd_T25 l0 x5_1).f0) != x1_1) = false := bne_eq_false_iff_eq.mpr c5
   clear c5
   by_cases c6 : ((rd_T25 l0 x5_1).f1) = (wrap64 (x1_1 + 1))
   rotate_left
   ·rw [if_neg c6] at H
    have c6b0 : (((rd_T25 l0 x5_1).f1) == (wrap64 (x1_1 + 1))) = false := beq_eq_false_iff_ne.mpr c6
    have c6b1 : (((rd_T25 l0 x5_1).f1) != (wrap64 (x1_1 + 1))) = true := bne_iff_ne.mpr c6
    focus
     obtain rfl := Option.some.inj H
     have p378 : 0 ≤ (x5_1 : Int) := of_decide_eq_true zax
     have q378 : x5_1 < (l0.length : Int) := of_decide_eq_true zax
     obtain ⟨ad378, e378, hx378_0, hx378_1, hx378_2, hx378_3, hx378_4, hx378_5⟩ := at_T25 HR0.out x5_1 p378 q378
     cases e378
     replace p378 := eq_true p378
     replace q378 := eq_true q378
     have p379 : 0 ≤ (x5_1 : Int) := of_decide_eq_true zax
     have q379 : x5_1 < (l0.length : Int) := of_decide_eq_true zax
     obtain ⟨ad379, e379, hx379_0, hx379_1, hx379_2, hx379_3, hx379_4, hx379_5⟩ := at_T25 HR0.out x5_1 p379 q379
     obtain rfl : ad378 = ad379 := (by injection e379)
     replace p379 := eq_true p379
     replace q379 := eq_true q379
     go_wp2
     go_ret
     exact ⟨by first | rfl | (simp; done) | (simp [*]; done), by repeat (first | exact Drawn0.refl _ | apply Drawn0.step)⟩
   rw [if_pos c6] at H
   have c6b0 : (((rd_T25 l0 x5_1).f1) == (wrap64 (x1_1 + 1))) = true := beq_iff_eq.mpr c6
   have c6b1 : (((rd_T25 l0 x5_1).f1) != (wrap64 (x1_1 + 1))) = false := bne_eq_false_iff_eq.mpr c6
   clear c6
   by_cases c7 : ((rd_T25 l0 x5_1).f2) = (wrap64 ((wrap64 (x1_1 + 1)) + 1))
   rotate_left
   ·rw [if_neg c7] at H
    have c7b0 : (((rd_T25 l0 x5_1).f2) == (wrap64 ((wrap64 (x1_1 + 1)) + 1))) = false := beq_eq_false_iff_ne.mpr c7
    have c7b1 : (((rd_T25 l0 x5_1).f2) != (wrap64 ((wrap64 (x1_1 + 1)) + 1))) = true := bne_iff_ne.mpr c7
    focus
     obtain rfl := Option.some.inj H
     have p378 : 0 ≤ (x5_1 : Int) := of_decide_eq_true zax
     have q378 : x5_1 < (l0.length : Int) := of_decide_eq_true zax
     obtain ⟨ad378, e378, hx378_0, hx378_1, hx378_2, hx378_3, hx378_4, hx378_5⟩ := at_T25 HR0.out x5_1 p378 q378
     cases e378
     replace p378 := eq_true p378
     replace q378 := eq_true q378
     have p379 : 0 ≤ (x5_1 : Int) := of_decide_eq_true zax
     have q379 : x5_1 < (l0.length : Int) := of_decide_eq_true zax
     obtain ⟨ad379, e379, hx379_0, hx379_1, hx379_2, hx379_3, hx379_4, hx379_5⟩ := at_T25 HR0.out x5_1 p379 q379
     obtain rfl : ad378 = ad379 := (by injection e379)
     replace p379 := eq_true p379
     replace q379 := eq_true q379
     have p380 : 0 ≤ (x5_1 : Int) := of_decide_eq_true zax
     have q380 : x5_1 < (l0.length : Int) := of_decide_eq_true zax
     obtain ⟨ad380, e380, hx380_0, hx380_1, hx380_2, hx380_3, hx380_4, hx380_5⟩ := at_T25 HR0.out x5_1 p380 q380
     obtain rfl : ad378 = ad380 := (by injection e380)
     replace p380 := eq_true p380
     replace q380 := eq_true q380
     go_wp2
     go_ret
     exact ⟨by first | rfl | (simp; done) | (simp [*]; done), by repeat (first | exact Drawn0.refl _ | apply Drawn0.step)⟩
   rw [if_pos c7] at H
   have c7b0 : (((rd_T25 l0 x5_1).f2) == (wrap64 ((wrap64 (x1_1 + 1)) + 1))) = true := beq_iff_eq.mpr c7
   have c7b1 : (((rd_T25 l0 x5_1).f2) != (wrap64 ((wrap64 (x1_1 + 1)) + 1))) = false := bne_eq_false_iff_eq.mpr c7
   clear c7
   by_cases c8 : ((rd_T25 l0 x5_1).f3) = (wrap64 ((wrap64 ((wrap64 (x1_1 + 1)) + 1)) + 1))
   rotate_left
   ·rw [if_neg c8] at H
    have c8b0 : (((rd_T25 l0 x5_1).f3) == (wrap64 ((wrap64 ((wrap64 (x1_1 + 1)) + 1)) + 1))) = false := beq_eq_false_iff_ne.mpr c8
    have c8b1 : (((rd_T25 l0 x5_1).f3) != (wrap64 ((wrap64 ((wrap64 (x1_1 + 1)) + 1)) + 1))) = true := bne_iff_ne.mpr c8
    focus
     obtain rfl := Option.some.inj H
     have p378 : 0 ≤ (x5_1 : Int) := of_decide_eq_true zax
     have q378 : x5_1 < (l0.length : Int) := of_decide_eq_true zax
     obtain ⟨ad378, e378, hx378_0, hx378_1, hx378_2, hx378_3, hx378_4, hx378_5⟩ := at_T25 HR0.out x5_1 p378 q378
     cases e378
     replace p378 := eq_true p378
     replace q378 := eq_true q378
     have p379 : 0 ≤ (x5_1 : Int) := of_decide_eq_true zax
     have q379 : x5_1 < (l0.length : Int) := of_decide_eq_true zax
     obtain ⟨ad379, e379, hx379_0, hx379_1, hx379_2, hx379_3, hx379_4, hx379_5⟩ := at_T25 HR0.out x5_1 p379 q379
     obtain rfl : ad378 = ad379 := (by injection e379)
     replace p379 := eq_true p379
     replace q379 := eq_true q379
     have p380 : 0 ≤ (x5_1 : Int) := of_decide_eq_true zax
     have q380 : x5_1 < (l0.length : Int) := of_decide_eq_true zax
     obtain ⟨ad380, e380, hx380_0, hx380_1, hx380_2, hx380_3, hx380_4, hx380_5⟩ := at_T25 HR0.out x5_1 p380 q380
     obtain rfl : ad378 = ad380 := (by injection e380)
     replace p380 := eq_true p380
     replace q380 := eq_true q380
     have p381 : 0 ≤ (x5_1 : Int) := of_decide_eq_true zax
     have q381 : x5_1 < (l0.length : Int) := of_decide_eq_true zax
     obtain ⟨ad381, e381, hx381_0, hx381_1, hx381_2, hx381_3, hx381_4, hx381_5⟩ := at_T25 HR0.out x5_1 p381 q381
     obtain rfl : ad378 = ad381 := (by injection e381)
     replace p381 := eq_true p381
     replace q381 := eq_true q381
     go_wp2
     go_ret
     exact ⟨by first | rfl | (simp; done) | (simp [*]; done), by repeat (first | exact Drawn0.refl _ | apply Drawn0.step)⟩
   rw [if_pos c8] at H
   have c8b0 : (((rd_T25 l0 x5_1).f3) == (wrap64 ((wrap64 ((wrap64 (x1_1 + 1)) + 1)) + 1))) = true := beq_iff_eq.mpr c8
   have c8b1 : (((rd_T25 l0 x5_1).f3) != (wrap64 ((wrap64 ((wrap64 (x1_1 + 1)) + 1)) + 1))) = false := bne_eq_false_iff_eq.mpr c8
   clear c8
   by_cases c9 : ((rd_T25 l0 x5_1).f4) = (wrap64 ((wrap64 ((wrap64 ((wrap64 (x1_1 + 1)) + 1)) + 1)) + 1))
   rotate_left
   ·rw [if_neg c9] at H
    have c9b0 : (((rd_T25 l0 x5_1).f4) == (wrap64 ((wrap64 ((wrap64 ((wrap64 (x1_1 + 1)) + 1)) + 1)) + 1))) = false := beq_eq_false_iff_ne.mpr c9
    have c9b1 : (((rd_T25 l0 x5_1).f4) != (wrap64 ((wrap64 ((wrap64 ((wrap64 (x1_1 + 1)) + 1)) + 1)) + 1))) = true := bne_iff_ne.mpr c9
    focus
     obtain rfl := Option.some.inj H
     have p378 : 0 ≤ (x5_1 : Int) := of_decide_eq_true zax
     have q378 : x5_1 < (l0.length : Int) := of_decide_eq_true zax
     obtain ⟨ad378, e378, hx378_0, hx378_1, hx378_2, hx378_3, hx378_4, hx378_5⟩ := at_T25 HR0.out x5_1 p378 q378
     cases e378
     replace p378 := eq_true p378
     replace q378 := eq_true q378
     have p379 : 0 ≤ (x5_1 : Int) := of_decide_eq_true zax
     have q379 : x5_1 < (l0.length : Int) := of_decide_eq_true zax
     obtain ⟨ad379, e379, hx379_0, hx379_1, hx379_2, hx379_3, hx379_4, hx379_5⟩ := at_T25 HR0.out x5_1 p379 q379
     obtain rfl : ad378 = ad379 := (by injection e379)
     replace p379 := eq_true p379
     replace q379 := eq_true q379
     have p380 : 0 ≤ (x5_1 : Int) := of_decide_eq_true zax
     have q380 : x5_1 < (l0.length : Int) := of_decide_eq_true zax
     obtain ⟨ad380, e380, hx380_0, hx380_1, hx380_2, hx380_3, hx380_4, hx380_5⟩ := at_T25 HR0.out x5_1 p380 q380
     obtain rfl : ad378 = ad380 := (by injection e380)
     replace p380 := eq_true p380
     replace q380 := eq_true q380
     have p381 : 0 ≤ (x5_1 : Int) := of_decide_eq_true zax
     have q381 : x5_1 < (l0.length : Int) := of_decide_eq_true zax
     obtain ⟨ad381, e381, hx381_0, hx381_1, hx381_2, hx381_3, hx381_4, hx381_5⟩ := at_T25 HR0.out x5_1 p381 q381
     obtain rfl : ad378 = ad381 := (by injection e381)
     replace p381 := eq_true p381
     replace q381 := eq_true q381
     have p382 : 0 ≤ (x5_1 : Int) := of_decide_eq_true zax
     have q382 : x5_1 < (l0.length : Int) := of_decide_eq_true zax
     obtain ⟨ad382, e382, hx382_0, hx382_1, hx382_2, hx382_3, hx382_4, hx382_5⟩ := at_T25 HR0.out x5_1 p382 q382
     obtain rfl : ad378 = ad382 := (by injection e382)
     replace p382 := eq_true p382
     replace q382 := eq_true q382
     go_wp2
     go_ret
     exact ⟨by first | rfl | (simp; done) | (simp [*]; done), by repeat (first | exact Drawn0.refl _ | apply Drawn0.step)⟩
   rw [if_pos c9] at H
   have c9b0 : (((rd_T25 l0 x5_1).f4) == (wrap64 ((wrap64 ((wrap64 ((wrap64 (x1_1 + 1)) + 1)) + 1)) + 1))) = true := beq_iff_eq.mpr c9
   have c9b1 : (((rd_T25 l0 x5_1).f4) != (wrap64 ((wrap64 ((wrap64 ((wrap64 (x1_1 + 1)) + 1)) + 1)) + 1))) = false := bne_eq_false_iff_eq.mpr c9
   clear c9
   by_cases c10 : ((rd_T25 l0 x5_1).f5) = (wrap64 ((wrap64 ((wrap64 ((wrap64 ((wrap64 (x1_1 + 1)) + 1)) + 1)) + 1)) + 1))
   rotate_left
   ·rw [if_neg c10] at H
    have c10b0 : (((rd_T25 l0 x5_1).f5) == (wrap64 ((wrap64 ((wrap64 ((wrap64 ((wrap64 (x1_1 + 1)) + 1)) + 1)) + 1)) + 1))) = false := beq_eq_false_iff_ne.mpr c10
    have c10b1 : (((rd_T25 l0 x5_1).f5) != (wrap64 ((wrap64 ((wrap64 ((wrap64 ((wrap64 (x1_1 + 1)) + 1)) + 1)) + 1)) + 1))) = true := bne_iff_ne.mpr c10
    focus
     obtain rfl := Option.some.inj H
     have p378 : 0 ≤ (x5_1 : Int) := of_decide_eq_true zax
     have q378 : x5_1 < (l0.length : Int) := of_decide_eq_true zax
     obtain ⟨ad378, e378, hx378_0, hx378_1, hx378_2, hx378_3, hx378_4, hx378_5⟩ := at_T25 HR0.out x5_1 p378 q378
     cases e378
     replace p378 := eq_true p378
     replace q378 := eq_true q378
     have p379 : 0 ≤ (x5_1 : Int) := of_decide_eq_true zax
     have q379 : x5_1 < (l0.length : Int) := of_decide_eq_true zax
     obtain ⟨ad379, e379, hx379_0, hx379_1, hx379_2, hx379_3, hx379_4, hx379_5⟩ := at_T25 HR0.out x5_1 p379 q379
     obtain rfl : ad378 = ad379 := (by injection e379)
     replace p379 := eq_true p379
     replace q379 := eq_true q379
     have p380 : 0 ≤ (x5_1 : Int) := of_decide_eq_true zax
     have q380 : x5_1 < (l0.length : Int) := of_decide_eq_true zax
     obtain ⟨ad380, e380, hx380_0, hx380_1, hx380_2, hx380_3, hx380_4, hx380_5⟩ := at_T25 HR0.out x5_1 p380 q380
     obtain rfl : ad378 = ad380 := (by injection e380)
     replace p380 := eq_true p380
     replace q380 := eq_true q380
     have p381 : 0 ≤ (x5_1 : Int) := of_decide_eq_true zax
     have q381 : x5_1 < (l0.length : Int) := of_decide_eq_true zax
     obtain ⟨ad381, e381, hx381_0, hx381_1, hx381_2, hx381_3, hx381_4, hx381_5⟩ := at_T25 HR0.out x5_1 p381 q381
     obtain rfl : ad378 = ad381 := (by injection e381)
     replace p381 := eq_true p381
     replace q381 := eq_true q381
     have p382 : 0 ≤ (x5_1 : Int) := of_decide_eq_true zax
     have q382 : x5_1 < (l0.length : Int) := of_decide_eq_true zax
     obtain ⟨ad382, e382, hx382_0, hx382_1, hx382_2, hx382_3, hx382_4, hx382_5⟩ := at_T25 HR0.out x5_1 p382 q382
     obtain rfl : ad378 = ad382 := (by injection e382)
     replace p382 := eq_true p382
     replace q382 := eq_true q382
     have p383 : 0 ≤ (x5_1 : Int) := of_decide_eq_true zax
     have q383 : x5_1 < (l0.length : Int) := of_decide_eq_true zax
     obtain ⟨ad383, e383, hx383_0, hx383_1, hx383_2, hx383_3, hx383_4, hx383_5⟩ := at_T25 HR0.out x5_1 p383 q383
     obtain rfl : ad378 = ad383 := (by injection e383)
     replace p383 := eq_true p383
     replace q383 := eq_true q383
     go_wp2
     go_ret
     exact ⟨by first | rfl | (simp; done) | (simp [*]; done), by repeat (first | exact Drawn0.refl _ | apply Drawn0.step)⟩
   rw [if_pos c10] at H
   have c10b0 : (((rd_T25 l0 x5_1).f5) == (wrap64 ((wrap64 ((wrap64 ((wrap64 ((wrap64 (x1_1 + 1)) + 1)) + 1)) + 1)) + 1))) = true := beq_iff_eq.mpr c10
   have c10b1 : (((rd_T25 l0 x5_1).f5) != (wrap64 ((wrap64 ((wrap64 ((wrap64 ((wrap64 (x1_1 + 1)) + 1)) + 1)) + 1)) + 1))) = false := bne_eq_false_iff_eq.mpr c10
   clear c10
   focus
    have H' := Aside0.mk H
    clear H
    have p378 : 0 ≤ (x5_1 : Int) := of_decide_eq_true zax
    have q378 : x5_1 < (l0.length : Int) := of_decide_eq_true zax
    obtain ⟨ad378, e378, hx378_0, hx378_1, hx378_2, hx378_3, hx378_4, hx378_5⟩ := at_T25 HR0.out x5_1 p378 q378
    cases e378
    replace p378 := eq_true p378
    replace q378 := eq_true q378
    have p379 : 0 ≤ (x5_1 : Int) := of_decide_eq_true zax
    have q379 : x5_1 < (l0.length : Int) := of_decide_eq_true zax
    obtain ⟨ad379, e379, hx379_0, hx379_1, hx379_2, hx379_3, hx379_4, hx379_5⟩ := at_T25 HR0.out x5_1 p379 q379
    obtain rfl : ad378 = ad379 := (by injection e379)
    replace p379 := eq_true p379
    replace q379 := eq_true q379
    have p380 : 0 ≤ (x5_1 : Int) := of_decide_eq_true zax
    have q380 : x5_1 < (l0.length : Int) := of_decide_eq_true zax
    obtain ⟨ad380, e380, hx380_0, hx380_1, hx380_2, hx380_3, hx380_4, hx380_5⟩ := at_T25 HR0.out x5_1 p380 q380
    obtain rfl : ad378 = ad380 := (by injection e380)
    replace p380 := eq_true p380
    replace q380 := eq_true q380
    have p381 : 0 ≤ (x5_1 : Int) := of_decide_eq_true zax
    have q381 : x5_1 < (l0.length : Int) := of_decide_eq_true zax
    obtain ⟨ad381, e381, hx381_0, hx381_1, hx381_2, hx381_3, hx381_4, hx381_5⟩ := at_T25 HR0.out x5_1 p381 q381
    obtain rfl : ad378 = ad381 := (by injection e381)
    replace p381 := eq_true p381
    replace q381 := eq_true q381
    have p382 : 0 ≤ (x5_1 : Int) := of_decide_eq_true zax
    have q382 : x5_1 < (l0.length : Int) := of_decide_eq_true zax
    obtain ⟨ad382, e382, hx382_0, hx382_1, hx382_2, hx382_3, hx382_4, hx382_5⟩ := at_T25 HR0.out x5_1 p382 q382
    obtain rfl : ad378 = ad382 := (by injection e382)
    replace p382 := eq_true p382
    replace q382 := eq_true q382
    have p383 : 0 ≤ (x5_1 : Int) := of_decide_eq_true zax
    have q383 : x5_1 < (l0.length : Int) := of_decide_eq_true zax
    obtain ⟨ad383, e383, hx383_0, hx383_1, hx383_2, hx383_3, hx383_4, hx383_5⟩ := at_T25 HR0.out x5_1 p383 q383
    obtain rfl : ad378 = ad383 := (by injection e383)
    replace p383 := eq_true p383
    replace q383 := eq_true q383
    go_wp2
    go_roundg k1
    case measure => have := HK1.out; omega
    case rel => exact ⟨(wrap64 ((wrap64 ((wrap64 ((wrap64 ((wrap64 ((wrap64 (x1_1 + 1)) + 1)) + 1)) + 1)) + 1)) + 1)), (wrap64 (x5_1 + 1)), zrx, zrx, H', ⟨by have := HK1.out; omega⟩, by repeat (first | exact Drawn0.refl _ | apply Drawn0.step)⟩
/-! ### laws_heldBulletin: function 20 -/
def laws_heldBulletin.f (k : Nat) (a0_0 : Int) (a0_1 : Int) (l0_2 : List (S25)) (a1 : Int) : Option (Int) := (laws_heldWarningS.f k l0_2 a1).bind fun t385 => (if t385 < 0 then (some (-1)) else (some t385))
theorem zenddBulletinx14_0 {P_ : Prop} (h_ : P_ := by
  obtain rfl := Option.some.inj H
  go_enter Tryz.func20, Tryz.ntmps20
  go_wp2_with (first | ((with_reducible refine gate_dst (N := 2) rfl ?_); refine box_event ?hg (N := 2) ?hd (cs := #[.int .i64 a0_0, .int .i64 a0_1, .slice A0_2 l0_2.length c0_2]) (t := 34) ?hr ?_; (case hd => rfl); (case hg => rfl); (case hr => exact zsx); intro gb384 hg w5 hbox hb; have BK384 := Aside0.mk (hbox); have GW384 := zns hg HB.out; have GE384 := zns hg HB.out; replace HB := Aside0.mk (below_step (zBx HB.out) hb); clear hb hbox hg; have hcz6_0 : w5.cell? ⟨gb384, 0, none⟩ = some (.int .i64 a0_0) := (blk_cell BK384.out 0).trans rfl; have hcz6_1 : w5.cell? ⟨gb384, 1, none⟩ = some (.int .i64 a0_1) := (blk_cell BK384.out 1).trans rfl; have hcz6_2 : w5.cell? ⟨gb384, 2, none⟩ = some (.slice A0_2 l0_2.length c0_2) := (blk_cell BK384.out 2).trans rfl; have hfz6_0 := blk_frozen BK384.out 0; have hfz6_1 := blk_frozen BK384.out 1; have hfz6_2 := blk_frozen BK384.out 2) | ((with_reducible refine gate_callee (f := 65) rfl ?_); refine goesL_ (some 8) rfl rfl Tryz.func65 (by kernel_rfl) rfl #[.slice A0_2 l0_2.length c0_2, .int .i64 a1] rfl zlx ?_; (with_reducible refine (laws_heldWarningS.calls k _ _ l0_2 a1 t385 _ ?side1 ?side2 A3.out).mono ?_); (case side1 => exact zCx (Kd.C_below HR0_2.out HB.out)); (case side2 => exact HC0_2.out); rintro e w' ⟨rfl, ⟨nd, rfl⟩⟩; refine ⟨_, rfl, ?_⟩))
  go_ret
  exact ⟨by first | rfl | (simp [errW_none, errW_some] <;> rfl) | (simp [*, errW_none, errW_some] <;> rfl), by exact zBy HB.out GE384.out⟩) : P_ := h_
set_option maxHeartbeats 8000000 in
set_option maxRecDepth 100000 in
theorem laws_heldBulletin.calls (k : Nat) (a0_0 : Int) (a0_1 : Int) (A0_2 : Option Addr) (c0_2 : Nat) (l0_2 : List (S25)) (a1 : Int) (r : Int) (w : World) (hr0_2 : Kd.C k25 w A0_2 l0_2.length l0_2) (hc0_2 : l0_2.length ≤ c0_2) (h : laws_heldBulletin.f k a0_0 a0_1 l0_2 a1 = some r) :
 Calls Tryz.prog 20 #[.agg #[.int .i64 a0_0, .int .i64 a0_1, .slice A0_2 l0_2.length c0_2], .int .i64 a1] w fun e w' => e = .returned (.int .i64 r) ∧ Below w.heap.size w w' := by
 have hu34 := Tryz.underlying34
 have HR0_2 := Aside0.mk hr0_2
 have HC0_2 := Aside0.mk hc0_2
 clear hr0_2 hc0_2
 have HB := Aside0.mk (Below.refl w.heap.size w)
 have H : ((laws_heldWarningS.f k l0_2 a1).bind fun t385 => (if t385 < 0 then (some (-1)) else (some t385))) = some r := h
 clear h
 replace H := Option.bind_eq_some_iff.mp H
 obtain ⟨t385, A30, H⟩ := H
 replace H : (if t385 < 0 then (some (-1)) else (some t385)) = some r := H
 have A3 := Aside0.mk A30
 clear A30
 by_cases c4 : t385 < 0
 ·rw [if_pos c4] at H
  have c4b0 : decide (t385 < 0) = true := decide_eq_true c4
  clear c4
  focus
   exact zenddBulletinx14_0
 ·rw [if_neg c4] at H
  have c4b0 : decide (t385 < 0) = false := decide_eq_false c4
  clear c4
  focus
   exact zenddBulletinx14_0

end Go.Proofs.YtlfoojgbiafffaaGreatDoor.XFnExactReadBulletin
