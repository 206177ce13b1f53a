-- written by wip/tools/xprint.py (a program of this project) out of the translation
import Derived.Test.YtlfoojgbiafffaaGreatDoorXFnMessagesx0
import Derived.Test.YtlfoojgbiafffaaGreatDoorStrsE
import Derived.Test.YtlfoojgbiafffaaGreatDoorXFnMessagesx2
import Derived.Test.YtlfoojgbiafffaaGreatDoorXFnMessagesx6
import Derived.Test.YtlfoojgbiafffaaGreatDoorXFnMessagesx7
namespace Go.Proofs.YtlfoojgbiafffaaGreatDoor.XFnMessages
open Go.RowKit Go.Proofs.YtlfoojgbiafffaaGreatDoorW.PrintWords Go.Proofs.YtlfoojgbiafffaaGreatDoorW.PrintLast Go.Proofs.YtlfoojgbiafffaaGreatDoorW.PrintMore
open Go.Proofs.YtlfoojgbiafffaaGreatDoor.Strs
attribute [local go_sem] max2_int min2_int max_two min_two max_three min_three max_four min_four   -- for this text's walks alone
set_option linter.unusedVariables false
set_option linter.unusedSimpArgs false

/-! ### spec_l1Cur_spoilt: function 51 -/
def spec_l1Cur_spoilt.f (s0_0 : List Int) (s0_1 : Int) (s0_2 : Int) (a1 : ByteArray) (a2 : ByteArray) : Option (ByteArray × Int × Int) := if a1.toList = ([] : List UInt8) then (if 0 ≤ 1 then (if 1 ≤ (a2.size : Int) then (some (a2.extract 0 1, s0_1, s0_2)) else (none)) else (none)) else ((spec_l1Cur_pick.f s0_0 s0_1 s0_2 (a1.size : Int)).bind fun bt291 => ((spec_l1Cur_pick.f s0_0 bt291.2.1 bt291.2.2 (a2.size : Int)).bind fun bt294 => (if 0 ≤ bt294.1 then (if bt294.1 ≤ (a2.size : Int) then (if 0 ≤ 1 then (if 1 ≤ ((a2.extract (bt294.1 : Int).toNat a2.size).size : Int) then ((spec_l1Cur_pick.f s0_0 bt294.2.1 bt294.2.2 3).bind fun bt297 => (if bt297.1 = 0 then (if 0 ≤ bt291.1 then (if bt291.1 ≤ (a1.size : Int) then (if (a1.extract 0 (bt291.1 : Int).toNat).size + ((a2.extract (bt294.1 : Int).toNat a2.size).extract 0 1).size ≤ 9223372036854775807 then (if ((a1.extract 0 (bt291.1 : Int).toNat) ++ ((a2.extract (bt294.1 : Int).toNat a2.size).extract 0 1)).size + (a1.extract (bt291.1 : Int).toNat a1.size).size ≤ 9223372036854775807 then (some (((a1.extract 0 (bt291.1 : Int).toNat) ++ ((a2.extract (bt294.1 : Int).toNat a2.size).extract 0 1)) ++ (a1.extract (bt291.1 : Int).toNat a1.size), bt297.2.1, bt297.2.2)) else (none)) else (none)) else (none)) else (none)) else (if bt297.1 = 1 then (if 0 ≤ bt291.1 then (if bt291.1 ≤ (a1.size : Int) then (if (a1.extract 0 (bt291.1 : Int).toNat).size + ((a2.extract (bt294.1 : Int).toNat a2.size).extract 0 1).size ≤ 9223372036854775807 then (if 0 ≤ (wrap64 (bt291.1 + 1)) then (if (wrap64 (bt291.1 + 1)) ≤ (a1.size : Int) then (if ((a1.extract 0 (bt291.1 : Int).toNat) ++ ((a2.extract (bt294.1 : Int).toNat a2.size).extract 0 1)).size + (a1.extract ((wrap64 (bt291.1 + 1)) : Int).toNat a1.size).size ≤ 9223372036854775807 then (some (((a1.extract 0 (bt291.1 : Int).toNat) ++ ((a2.extract (bt294.1 : Int).toNat a2.size).extract 0 1)) ++ (a1.extract ((wrap64 (bt291.1 + 1)) : Int).toNat a1.size), bt297.2.1, bt297.2.2)) else (none)) else (none)) else (none)) else (none)) else (none)) else (none)) else (if 0 ≤ bt291.1 then (if bt291.1 ≤ (a1.size : Int) then (if 0 ≤ (wrap64 (bt291.1 + 1)) then (if (wrap64 (bt291.1 + 1)) ≤ (a1.size : Int) then (if (a1.extract 0 (bt291.1 : Int).toNat).size + (a1.extract ((wrap64 (bt291.1 + 1)) : Int).toNat a1.size).size ≤ 9223372036854775807 then (some ((a1.extract 0 (bt291.1 : Int).toNat) ++ (a1.extract ((wrap64 (bt291.1 + 1)) : Int).toNat a1.size), bt297.2.1, bt297.2.2)) else (none)) else (none)) else (none)) else (none)) else (none))))) else (none)) else (none)) else (none)) else (none))))
set_option maxHeartbeats 8000000 in
set_option maxRecDepth 100000 in
theorem spec_l1Cur_spoilt.calls (g : Nat) (s0_0 : List Int) (s0_1 : Int) (s0_2 : Int) (a1 : ByteArray) (a2 : ByteArray) (r1 : ByteArray) (r2 : Int) (r3 : Int) (w0 w : World) (hI : IsS71 w0 w g s0_0 s0_1 s0_2) (hB : Below w0.heap.size w0 w) (h : spec_l1Cur_spoilt.f s0_0 s0_1 s0_2 a1 a2 = some (r1, r2, r3)) :
 Calls Tryz.prog 51 #[.pointer (some ⟨g, 0, none⟩), .string a1, .string a2] w fun e w' => e = .returned (.string r1) ∧ IsS71 w0 w' g s0_0 r2 r3 ∧ Below w0.heap.size w0 w' ∧ KeepBut w w' g none := by
 have HI0 := Aside0.mk hI
 have HK := Aside0.mk (KeepBut.refl w g none)
 have HL := Aside0.mk hB.size
 clear hI
 have HW0 := Aside0.mk hB.size
 have HB := Aside0.mk hB
 clear hB
 have H : (if a1.toList = ([] : List UInt8) then (if 0 ≤ 1 then (if 1 ≤ (a2.size : Int) then (some (a2.extract 0 1, s0_1, s0_2)) else (none)) else (none)) else ((spec_l1Cur_pick.f s0_0 s0_1 s0_2 (a1.size : Int)).bind fun bt291 => ((spec_l1Cur_pick.f s0_0 bt291.2.1 bt291.2.2 (a2.size : Int)).bind fun bt294 => (if 0 ≤ bt294.1 then (if bt294.1 ≤ (a2.size : Int) then (if 0 ≤ 1 then (if 1 ≤ ((a2.extract (bt294.1 : Int).toNat a2.size).size : Int) then ((spec_l1Cur_pick.f s0_0 bt294.2.1 bt294.2.2 3).bind fun bt297 => (if bt297.1 = 0 then (if 0 ≤ bt291.1 then (if bt291.1 ≤ (a1.size : Int) then (if (a1.extract 0 (bt291.1 : Int).toNat).size + ((a2.extract (bt294.1 : Int).toNat a2.size).extract 0 1).size ≤ 9223372036854775807 then (if ((a1.extract 0 (bt291.1 : Int).toNat) ++ ((a2.extract (bt294.1 : Int).toNat a2.size).extract 0 1)).size + (a1.extract (bt291.1 : Int).toNat a1.size).size ≤ 9223372036854775807 then (some (((a1.extract 0 (bt291.1 : Int).toNat) ++ ((a2.extract (bt294.1 : Int).toNat a2.size).extract 0 1)) ++ (a1.extract (bt291.1 : Int).toNat a1.size), bt297.2.1, bt297.2.2)) else (none)) else (none)) else (none)) else (none)) else (if bt297.1 = 1 then (if 0 ≤ bt291.1 then (if bt291.1 ≤ (a1.size : Int) then (if (a1.extract 0 (bt291.1 : Int).toNat).size + ((a2.extract (bt294.1 : Int).toNat a2.size).extract 0 1).size ≤ 9223372036854775807 then (if 0 ≤ (wrap64 (bt291.1 + 1)) then (if (wrap64 (bt291.1 + 1)) ≤ (a1.size : Int) then (if ((a1.extract 0 (bt291.1 : Int).toNat) ++ ((a2.extract (bt294.1 : Int).toNat a2.size).extract 0 1)).size + (a1.extract ((wrap64 (bt291.1 + 1)) : Int).toNat a1.size).size ≤ 9223372036854775807 then (some (((a1.extract 0 (bt291.1 : Int).toNat) ++ ((a2.extract (bt294.1 : Int).toNat a2.size).extract 0 1)) ++ (a1.extract ((wrap64 (bt291.1 + 1)) : Int).toNat a1.size), bt297.2.1, bt297.2.2)) else (none)) else (none)) else (none)) else (none)) else (none)) else (none)) else (if 0 ≤ bt291.1 then (if bt291.1 ≤ (a1.size : Int) then (if 0 ≤ (wrap64 (bt291.1 + 1)) then (if (wrap64 (bt291.1 + 1)) ≤ (a1.size : Int) then (if (a1.extract 0 (bt291.1 : Int).toNat).size + (a1.extract ((wrap64 (bt291.1 + 1)) : Int).toNat a1.size).size ≤ 9223372036854775807 then (some ((a1.extract 0 (bt291.1 : Int).toNat) ++ (a1.extract ((wrap64 (bt291.1 + 1)) : Int).toNat a1.size), bt297.2.1, bt297.2.2)) else (none)) else (none)) else (none)) else (none)) else (none))))) else (none)) else (none)) else (none)) else (none))))) = some (r1, r2, r3) := h
 clear h
 by_cases c4 : a1.toList = ([] : List UInt8)
 ·rw [if_pos c4] at H
  have c4b0 : (a1.toList == ([] : List UInt8)) = true := beq_iff_eq.mpr c4
  have c4b1 : (a1.toList != ([] : List UInt8)) = false := bne_eq_false_iff_eq.mpr c4
  clear c4
  by_cases c5 : 0 ≤ 1
  ·rw [if_pos c5] at H
   have c5b0 := eq_true c5
   have c5b1 : decide (0 ≤ 1) = true := decide_eq_true c5
   clear c5
   by_cases c6 : 1 ≤ (a2.size : Int)
   ·rw [if_pos c6] at H
    have c6b0 := eq_true c6
    have c6b1 : decide (1 ≤ (a2.size : Int)) = true := decide_eq_true c6
    clear c6
    focus
     simp only [Option.some.injEq, Prod.mk.injEq] at H
     obtain ⟨rfl, rfl, rfl⟩ := H
     go_enter Tryz.func51, Tryz.ntmps51
     go_wp2
     repeat (go_quiet (fail); try go_wp2)
     go_ret
     exact ⟨by first | rfl | (simp [errW_none, errW_some] <;> rfl) | (simp [*, errW_none, errW_some] <;> rfl), by exact IsS71.zI HI0.out, by first | exact zBy HB.out (IsS71.ge HI0.out) | exact zBx HB.out, by exact zKx HK.out⟩
   ·rw [if_neg c6] at H
    exact absurd H (by simp)
  ·rw [if_neg c5] at H
   exact absurd H (by simp)
 ·rw [if_neg c4] at H
  have c4b0 : (a1.toList == ([] : List UInt8)) = false := beq_eq_false_iff_ne.mpr c4
  have c4b1 : (a1.toList != ([] : List UInt8)) = true := bne_iff_ne.mpr c4
  replace H := Option.bind_eq_some_iff.mp H
  obtain ⟨⟨t291, t292, t293⟩, A70, H⟩ := H
  replace H : ((spec_l1Cur_pick.f s0_0 t292 t293 (a2.size : Int)).bind fun bt294 => (if 0 ≤ bt294.1 then (if bt294.1 ≤ (a2.size : Int) then (if 0 ≤ 1 then (if 1 ≤ ((a2.extract (bt294.1 : Int).toNat a2.size).size : Int) then ((spec_l1Cur_pick.f s0_0 bt294.2.1 bt294.2.2 3).bind fun bt297 => (if bt297.1 = 0 then (if 0 ≤ t291 then (if t291 ≤ (a1.size : Int) then (if (a1.extract 0 (t291 : Int).toNat).size + ((a2.extract (bt294.1 : Int).toNat a2.size).extract 0 1).size ≤ 9223372036854775807 then (if ((a1.extract 0 (t291 : Int).toNat) ++ ((a2.extract (bt294.1 : Int).toNat a2.size).extract 0 1)).size + (a1.extract (t291 : Int).toNat a1.size).size ≤ 9223372036854775807 then (some (((a1.extract 0 (t291 : Int).toNat) ++ ((a2.extract (bt294.1 : Int).toNat a2.size).extract 0 1)) ++ (a1.extract (t291 : Int).toNat a1.size), bt297.2.1, bt297.2.2)) else (none)) else (none)) else (none)) else (none)) else (if bt297.1 = 1 then (if 0 ≤ t291 then (if t291 ≤ (a1.size : Int) then (if (a1.extract 0 (t291 : Int).toNat).size + ((a2.extract (bt294.1 : Int).toNat a2.size).extract 0 1).size ≤ 9223372036854775807 then (if 0 ≤ (wrap64 (t291 + 1)) then (if (wrap64 (t291 + 1)) ≤ (a1.size : Int) then (if ((a1.extract 0 (t291 : Int).toNat) ++ ((a2.extract (bt294.1 : Int).toNat a2.size).extract 0 1)).size + (a1.extract ((wrap64 (t291 + 1)) : Int).toNat a1.size).size ≤ 9223372036854775807 then (some (((a1.extract 0 (t291 : Int).toNat) ++ ((a2.extract (bt294.1 : Int).toNat a2.size).extract 0 1)) ++ (a1.extract ((wrap64 (t291 + 1)) : Int).toNat a1.size), bt297.2.1, bt297.2.2)) else (none)) else (none)) else (none)) else (none)) else (none)) else (none)) else (if 0 ≤ t291 then (if t291 ≤ (a1.size : Int) then (if 0 ≤ (wrap64 (t291 + 1)) then (if (wrap64 (t291 + 1)) ≤ (a1.size : Int) then (if (a1.extract 0 (t291 : Int).toNat).size + (a1.extract ((wrap64 (t291 + 1)) : Int).toNat a1.size).size ≤ 9223372036854775807 then (some ((a1.extract 0 (t291 : Int).toNat) ++ (a1.extract ((wrap64 (t291 + 1)) : Int).toNat a1.size), bt297.2.1, bt297.2.2)) else (none)) else (none)) else (none)) else (none)) else (none))))) else (none)) else (none)) else (none)) else (none))) = some (r1, r2, r3) := H
  have A7 := Aside0.mk A70
  clear A70
  replace H := Option.bind_eq_some_iff.mp H
  obtain ⟨⟨t294, t295, t296⟩, A80, H⟩ := H
  replace H : (if 0 ≤ t294 then (if t294 ≤ (a2.size : Int) then (if 0 ≤ 1 then (if 1 ≤ ((a2.extract (t294 : Int).toNat a2.size).size : Int) then ((spec_l1Cur_pick.f s0_0 t295 t296 3).bind fun bt297 => (if bt297.1 = 0 then (if 0 ≤ t291 then (if t291 ≤ (a1.size : Int) then (if (a1.extract 0 (t291 : Int).toNat).size + ((a2.extract (t294 : Int).toNat a2.size).extract 0 1).size ≤ 9223372036854775807 then (if ((a1.extract 0 (t291 : Int).toNat) ++ ((a2.extract (t294 : Int).toNat a2.size).extract 0 1)).size + (a1.extract (t291 : Int).toNat a1.size).size ≤ 9223372036854775807 then (some (((a1.extract 0 (t291 : Int).toNat) ++ ((a2.extract (t294 : Int).toNat a2.size).extract 0 1)) ++ (a1.extract (t291 : Int).toNat a1.size), bt297.2.1, bt297.2.2)) else (none)) else (none)) else (none)) else (none)) else (if bt297.1 = 1 then (if 0 ≤ t291 then (if t291 ≤ (a1.size : Int) then (if (a1.extract 0 (t291 : Int).toNat).size + ((a2.extract (t294 : Int).toNat a2.size).extract 0 1).size ≤ 9223372036854775807 then (if 0 ≤ (wrap64 (t291 + 1)) then (if (wrap64 (t291 + 1)) ≤ (a1.size : Int) then (if ((a1.extract 0 (t291 : Int).toNat) ++ ((a2.extract (t294 : Int).toNat a2.size).extract 0 1)).size + (a1.extract ((wrap64 (t291 + 1)) : Int).toNat a1.size).size ≤ 9223372036854775807 then (some (((a1.extract 0 (t291 : Int).toNat) ++ ((a2.extract (t294 : Int).toNat a2.size).extract 0 1)) ++ (a1.extract ((wrap64 (t291 + 1)) : Int).toNat a1.size), bt297.2.1, bt297.2.2)) else (none)) else (none)) else (none)) else (none)) else (none)) else (none)) else (if 0 ≤ t291 then (if t291 ≤ (a1.size : Int) then (if 0 ≤ (wrap64 (t291 + 1)) then (if (wrap64 (t291 + 1)) ≤ (a1.size : Int) then (if (a1.extract 0 (t291 : Int).toNat).size + (a1.extract ((wrap64 (t291 + 1)) : Int).toNat a1.size).size ≤ 9223372036854775807 then (some ((a1.extract 0 (t291 : Int).toNat) ++ (a1.extract ((wrap64 (t291 + 1)) : Int).toNat a1.size), bt297.2.1, bt297.2.2)) else (none)) else (none)) else (none)) else (none)) else (none))))) else (none)) else (none)) else (none)) else (none)) = some (r1, r2, r3) := H
  have A8 := Aside0.mk A80
  clear A80
  by_cases c9 : 0 ≤ t294
  ·rw [if_pos c9] at H
   have c9b0 := eq_true c9
   have c9b1 : decide (0 ≤ t294) = true := decide_eq_true c9
   clear c9
   by_cases c10 : t294 ≤ (a2.size : Int)
   ·rw [if_pos c10] at H
    have c10b0 := eq_true c10
    have c10b1 : decide (t294 ≤ (a2.size : Int)) = true := decide_eq_true c10
    clear c10
    by_cases c11 : 0 ≤ 1
    ·rw [if_pos c11] at H
     have c11b0 := eq_true c11
     have c11b1 : decide (0 ≤ 1) = true := decide_eq_true c11
     clear c11
     by_cases c12 : 1 ≤ ((a2.extract (t294 : Int).toNat a2.size).size : Int)
     ·rw [if_pos c12] at H
      have c12b0 := eq_true c12
      have c12b3 : (1 ≤ ((a2.size - (t294 : Int).toNat : Nat) : Int)) = True := eq_true (by have h_ := c12; simp only [ByteArray.size_extract] at h_; omega)
      have c12b1 : decide (1 ≤ ((a2.extract (t294 : Int).toNat a2.size).size : Int)) = true := decide_eq_true c12
      clear c12
      replace H := Option.bind_eq_some_iff.mp H
      obtain ⟨⟨t297, t298, t299⟩, A130, H⟩ := H
      replace H : (if t297 = 0 then (if 0 ≤ t291 then (if t291 ≤ (a1.size : Int) then (if (a1.extract 0 (t291 : Int).toNat).size + ((a2.extract (t294 : Int).toNat a2.size).extract 0 1).size ≤ 9223372036854775807 then (if ((a1.extract 0 (t291 : Int).toNat) ++ ((a2.extract (t294 : Int).toNat a2.size).extract 0 1)).size + (a1.extract (t291 : Int).toNat a1.size).size ≤ 9223372036854775807 then (some (((a1.extract 0 (t291 : Int).toNat) ++ ((a2.extract (t294 : Int).toNat a2.size).extract 0 1)) ++ (a1.extract (t291 : Int).toNat a1.size), t298, t299)) else (none)) else (none)) else (none)) else (none)) else (if t297 = 1 then (if 0 ≤ t291 then (if t291 ≤ (a1.size : Int) then (if (a1.extract 0 (t291 : Int).toNat).size + ((a2.extract (t294 : Int).toNat a2.size).extract 0 1).size ≤ 9223372036854775807 then (if 0 ≤ (wrap64 (t291 + 1)) then (if (wrap64 (t291 + 1)) ≤ (a1.size : Int) then (if ((a1.extract 0 (t291 : Int).toNat) ++ ((a2.extract (t294 : Int).toNat a2.size).extract 0 1)).size + (a1.extract ((wrap64 (t291 + 1)) : Int).toNat a1.size).size ≤ 9223372036854775807 then (some (((a1.extract 0 (t291 : Int).toNat) ++ ((a2.extract (t294 : Int).toNat a2.size).extract 0 1)) ++ (a1.extract ((wrap64 (t291 + 1)) : Int).toNat a1.size), t298, t299)) else (none)) else (none)) else (none)) else (none)) else (none)) else (none)) else (if 0 ≤ t291 then (if t291 ≤ (a1.size : Int) then (if 0 ≤ (wrap64 (t291 + 1)) then (if (wrap64 (t291 + 1)) ≤ (a1.size : Int) then (if (a1.extract 0 (t291 : Int).toNat).size + (a1.extract ((wrap64 (t291 + 1)) : Int).toNat a1.size).size ≤ 9223372036854775807 then (some ((a1.extract 0 (t291 : Int).toNat) ++ (a1.extract ((wrap64 (t291 + 1)) : Int).toNat a1.size), t298, t299)) else (none)) else (none)) else (none)) else (none)) else (none)))) = some (r1, r2, r3) := H
      have A13 := Aside0.mk A130
      clear A130
      by_cases c14 : t297 = 0
      ·rw [if_pos c14] at H
       have c14b0 : (t297 == 0) = true := beq_iff_eq.mpr c14
       have c14b1 : (t297 != 0) = false := bne_eq_false_iff_eq.mpr c14
       clear c14
       by_cases c15 : 0 ≤ t291
       ·rw [if_pos c15] at H
        have c15b0 := eq_true c15
        have c15b1 : decide (0 ≤ t291) = true := decide_eq_true c15
        clear c15
        by_cases c16 : t291 ≤ (a1.size : Int)
        ·rw [if_pos c16] at H
         have c16b0 := eq_true c16
         have c16b1 : decide (t291 ≤ (a1.size : Int)) = true := decide_eq_true c16
         clear c16
         by_cases c17 : (a1.extract 0 (t291 : Int).toNat).size + ((a2.extract (t294 : Int).toNat a2.size).extract 0 1).size ≤ 9223372036854775807
         ·rw [if_pos c17] at H
          have c17b0 := eq_true c17
          have c17b1 : decide ((a1.extract 0 (t291 : Int).toNat).size + ((a2.extract (t294 : Int).toNat a2.size).extract 0 1).size ≤ 9223372036854775807) = true := decide_eq_true c17
          try have c17b2 : (9223372036854775807 < (a1.extract 0 (t291 : Int).toNat).size + ((a2.extract (t294 : Int).toNat a2.size).extract 0 1).size) = False := eq_false (Nat.not_lt.2 c17)
          have c17b3 : (9223372036854775807 < t291.toNat + 1) = False := eq_false (Nat.not_lt.2 (by have h_ := c17; simp only [ByteArray.size_append, ByteArray.size_extract] at h_; (try simp only [ByteArray.size_append, ByteArray.size_extract, decide_eq_true_eq, eq_iff_iff, iff_true] at *); omega))
          have c18b0 := eq_true (of_decide_eq_true zax : 0 ≤ t291)
          have c19b0 := eq_true (of_decide_eq_true zax : t291 ≤ (a1.size : Int))
          by_cases c20 : ((a1.extract 0 (t291 : Int).toNat) ++ ((a2.extract (t294 : Int).toNat a2.size).extract 0 1)).size + (a1.extract (t291 : Int).toNat a1.size).size ≤ 9223372036854775807
          ·rw [if_pos c20] at H
           have c20b0 := eq_true c20
           have c20b1 : decide (((a1.extract 0 (t291 : Int).toNat) ++ ((a2.extract (t294 : Int).toNat a2.size).extract 0 1)).size + (a1.extract (t291 : Int).toNat a1.size).size ≤ 9223372036854775807) = true := decide_eq_true c20
           try have c20b2 : (9223372036854775807 < ((a1.extract 0 (t291 : Int).toNat) ++ ((a2.extract (t294 : Int).toNat a2.size).extract 0 1)).size + (a1.extract (t291 : Int).toNat a1.size).size) = False := eq_false (Nat.not_lt.2 c20)
           have c20b3 : (9223372036854775807 < t291.toNat + 1 + (a1.size - t291.toNat)) = False := eq_false (Nat.not_lt.2 (by have h_ := c20; simp only [ByteArray.size_append, ByteArray.size_extract] at h_; (try simp only [ByteArray.size_append, ByteArray.size_extract, decide_eq_true_eq, eq_iff_iff, iff_true] at *); omega))
           focus
            simp only [Option.some.injEq, Prod.mk.injEq] at H
            obtain ⟨rfl, rfl, rfl⟩ := H
            go_enter Tryz.func51, Tryz.ntmps51
            go_wp2_with (first | (go_at_call 75; (with_reducible refine (spec_l1Cur_pick.calls g s0_0 s0_1 s0_2 (a1.size : Int) t291 t292 t293 w0 _ ?side1 ?side2 A7.out).mono ?_); (case side1 => exact IsS71.zI HI0.out); (case side2 => first | exact zBy HB.out (IsS71.ge HI0.out) | exact zBx HB.out); rintro e w21 ⟨rfl, hi, hb, hk⟩; replace HK := Aside0.mk (KeepBut.trans (zKx HK.out) hk (.inl rfl)); replace HB := Aside0.mk (hb); replace HI0 := Aside0.mk (hi); (try clear hb); (try clear hb2); (try clear hk); (try clear hi)) | (go_at_call 75; (with_reducible refine (spec_l1Cur_pick.calls g s0_0 t292 t293 (a2.size : Int) t294 t295 t296 w0 _ ?side1 ?side2 A8.out).mono ?_); (case side1 => exact IsS71.zI HI0.out); (case side2 => first | exact zBy HB.out (IsS71.ge HI0.out) | exact zBx HB.out); rintro e w22 ⟨rfl, hi, hb, hk⟩; replace HK := Aside0.mk (KeepBut.trans (zKx HK.out) hk (.inl rfl)); replace HB := Aside0.mk (hb); replace HI0 := Aside0.mk (hi); (try clear hb); (try clear hb2); (try clear hk); (try clear hi)) | (go_at_call 75; (with_reducible refine (spec_l1Cur_pick.calls g s0_0 t295 t296 3 t297 t298 t299 w0 _ ?side1 ?side2 A13.out).mono ?_); (case side1 => exact IsS71.zI HI0.out); (case side2 => first | exact zBy HB.out (IsS71.ge HI0.out) | exact zBx HB.out); rintro e w23 ⟨rfl, hi, hb, hk⟩; replace HK := Aside0.mk (KeepBut.trans (zKx HK.out) hk (.inl rfl)); replace HB := Aside0.mk (hb); replace HI0 := Aside0.mk (hi); (try clear hb); (try clear hb2); (try clear hk); (try clear hi)))
            repeat (go_quiet (first | (go_at_call 75; (with_reducible refine (spec_l1Cur_pick.calls g s0_0 s0_1 s0_2 (a1.size : Int) t291 t292 t293 w0 _ ?side1 ?side2 A7.out).mono ?_); (case side1 => exact IsS71.zI HI0.out); (case side2 => first | exact zBy HB.out (IsS71.ge HI0.out) | exact zBx HB.out); rintro e w21 ⟨rfl, hi, hb, hk⟩; replace HK := Aside0.mk (KeepBut.trans (zKx HK.out) hk (.inl rfl)); replace HB := Aside0.mk (hb); replace HI0 := Aside0.mk (hi); (try clear hb); (try clear hb2); (try clear hk); (try clear hi)) | (go_at_call 75; (with_reducible refine (spec_l1Cur_pick.calls g s0_0 t292 t293 (a2.size : Int) t294 t295 t296 w0 _ ?side1 ?side2 A8.out).mono ?_); (case side1 => exact IsS71.zI HI0.out); (case side2 => first | exact zBy HB.out (IsS71.ge HI0.out) | exact zBx HB.out); rintro e w22 ⟨rfl, hi, hb, hk⟩; replace HK := Aside0.mk (KeepBut.trans (zKx HK.out) hk (.inl rfl)); replace HB := Aside0.mk (hb); replace HI0 := Aside0.mk (hi); (try clear hb); (try clear hb2); (try clear hk); (try clear hi)) | (go_at_call 75; (with_reducible refine (spec_l1Cur_pick.calls g s0_0 t295 t296 3 t297 t298 t299 w0 _ ?side1 ?side2 A13.out).mono ?_); (case side1 => exact IsS71.zI HI0.out); (case side2 => first | exact zBy HB.out (IsS71.ge HI0.out) | exact zBx HB.out); rintro e w23 ⟨rfl, hi, hb, hk⟩; replace HK := Aside0.mk (KeepBut.trans (zKx HK.out) hk (.inl rfl)); replace HB := Aside0.mk (hb); replace HI0 := Aside0.mk (hi); (try clear hb); (try clear hb2); (try clear hk); (try clear hi))); try go_wp2_with (first | (go_at_call 75; (with_reducible refine (spec_l1Cur_pick.calls g s0_0 s0_1 s0_2 (a1.size : Int) t291 t292 t293 w0 _ ?side1 ?side2 A7.out).mono ?_); (case side1 => exact IsS71.zI HI0.out); (case side2 => first | exact zBy HB.out (IsS71.ge HI0.out) | exact zBx HB.out); rintro e w21 ⟨rfl, hi, hb, hk⟩; replace HK := Aside0.mk (KeepBut.trans (zKx HK.out) hk (.inl rfl)); replace HB := Aside0.mk (hb); replace HI0 := Aside0.mk (hi); (try clear hb); (try clear hb2); (try clear hk); (try clear hi)) | (go_at_call 75; (with_reducible refine (spec_l1Cur_pick.calls g s0_0 t292 t293 (a2.size : Int) t294 t295 t296 w0 _ ?side1 ?side2 A8.out).mono ?_); (case side1 => exact IsS71.zI HI0.out); (case side2 => first | exact zBy HB.out (IsS71.ge HI0.out) | exact zBx HB.out); rintro e w22 ⟨rfl, hi, hb, hk⟩; replace HK := Aside0.mk (KeepBut.trans (zKx HK.out) hk (.inl rfl)); replace HB := Aside0.mk (hb); replace HI0 := Aside0.mk (hi); (try clear hb); (try clear hb2); (try clear hk); (try clear hi)) | (go_at_call 75; (with_reducible refine (spec_l1Cur_pick.calls g s0_0 t295 t296 3 t297 t298 t299 w0 _ ?side1 ?side2 A13.out).mono ?_); (case side1 => exact IsS71.zI HI0.out); (case side2 => first | exact zBy HB.out (IsS71.ge HI0.out) | exact zBx HB.out); rintro e w23 ⟨rfl, hi, hb, hk⟩; replace HK := Aside0.mk (KeepBut.trans (zKx HK.out) hk (.inl rfl)); replace HB := Aside0.mk (hb); replace HI0 := Aside0.mk (hi); (try clear hb); (try clear hb2); (try clear hk); (try clear hi))))
            go_ret
            exact ⟨by first | rfl | (simp [errW_none, errW_some] <;> rfl) | (simp [*, errW_none, errW_some] <;> rfl), by exact IsS71.zI HI0.out, by first | exact zBy HB.out (IsS71.ge HI0.out) | exact zBx HB.out, by exact zKx HK.out⟩
          ·rw [if_neg c20] at H
           exact absurd H (by simp)
         ·rw [if_neg c17] at H
          exact absurd H (by simp)
        ·rw [if_neg c16] at H
         exact absurd H (by simp)
       ·rw [if_neg c15] at H
        exact absurd H (by simp)
      ·rw [if_neg c14] at H
       have c14b0 : (t297 == 0) = false := beq_eq_false_iff_ne.mpr c14
       have c14b1 : (t297 != 0) = true := bne_iff_ne.mpr c14
       by_cases c24 : t297 = 1
       ·rw [if_pos c24] at H
        have c24b0 : (t297 == 1) = true := beq_iff_eq.mpr c24
        have c24b1 : (t297 != 1) = false := bne_eq_false_iff_eq.mpr c24
        clear c24
        by_cases c25 : 0 ≤ t291
        ·rw [if_pos c25] at H
         have c25b0 := eq_true c25
         have c25b1 : decide (0 ≤ t291) = true := decide_eq_true c25
         clear c25
         by_cases c26 : t291 ≤ (a1.size : Int)
         ·rw [if_pos c26] at H
          have c26b0 := eq_true c26
          have c26b1 : decide (t291 ≤ (a1.size : Int)) = true := decide_eq_true c26
          clear c26
          by_cases c27 : (a1.extract 0 (t291 : Int).toNat).size + ((a2.extract (t294 : Int).toNat a2.size).extract 0 1).size ≤ 9223372036854775807
          ·rw [if_pos c27] at H
           have c27b0 := eq_true c27
           have c27b1 : decide ((a1.extract 0 (t291 : Int).toNat).size + ((a2.extract (t294 : Int).toNat a2.size).extract 0 1).size ≤ 9223372036854775807) = true := decide_eq_true c27
           try have c27b2 : (9223372036854775807 < (a1.extract 0 (t291 : Int).toNat).size + ((a2.extract (t294 : Int).toNat a2.size).extract 0 1).size) = False := eq_false (Nat.not_lt.2 c27)
           have c27b3 : (9223372036854775807 < t291.toNat + 1) = False := eq_false (Nat.not_lt.2 (by have h_ := c27; simp only [ByteArray.size_append, ByteArray.size_extract] at h_; (try simp only [ByteArray.size_append, ByteArray.size_extract, decide_eq_true_eq, eq_iff_iff, iff_true] at *); omega))
           obtain ⟨ji28, hji28⟩ : ∃ j_ : Int, (wrap64 (t291 + 1)) = j_ := ⟨_, rfl⟩
           replace H : (if 0 ≤ (ji28) then (if (ji28) ≤ (a1.size : Int) then (if ((a1.extract 0 (t291 : Int).toNat) ++ ((a2.extract (t294 : Int).toNat a2.size).extract 0 1)).size + (a1.extract ((ji28) : Int).toNat a1.size).size ≤ 9223372036854775807 then (some (((a1.extract 0 (t291 : Int).toNat) ++ ((a2.extract (t294 : Int).toNat a2.size).extract 0 1)) ++ (a1.extract ((ji28) : Int).toNat a1.size), t298, t299)) else (none)) else (none)) else (none)) = some (r1, r2, r3) := by first | (rw [hji28] at H; exact H) | (simp only [hji28] at H ⊢; exact H)
           (try rw [hji28] at A7)
           (try rw [hji28] at A8)
           (try rw [hji28] at A13)
           have hji28w : (IntKind.i64.wrap (t291 + 1)) = ji28 := (i64_w _).trans hji28
           by_cases c29 : 0 ≤ (ji28)
           ·rw [if_pos c29] at H
            have c29b0 := eq_true c29
            have c29b1 : decide (0 ≤ (ji28)) = true := decide_eq_true c29
            clear c29
            by_cases c30 : (ji28) ≤ (a1.size : Int)
            ·rw [if_pos c30] at H
             have c30b0 := eq_true c30
             have c30b1 : decide ((ji28) ≤ (a1.size : Int)) = true := decide_eq_true c30
             clear c30
             by_cases c31 : ((a1.extract 0 (t291 : Int).toNat) ++ ((a2.extract (t294 : Int).toNat a2.size).extract 0 1)).size + (a1.extract ((ji28) : Int).toNat a1.size).size ≤ 9223372036854775807
             ·rw [if_pos c31] at H
              have c31b0 := eq_true c31
              have c31b1 : decide (((a1.extract 0 (t291 : Int).toNat) ++ ((a2.extract (t294 : Int).toNat a2.size).extract 0 1)).size + (a1.extract ((ji28) : Int).toNat a1.size).size ≤ 9223372036854775807) = true := decide_eq_true c31
              try have c31b2 : (9223372036854775807 < ((a1.extract 0 (t291 : Int).toNat) ++ ((a2.extract (t294 : Int).toNat a2.size).extract 0 1)).size + (a1.extract ((ji28) : Int).toNat a1.size).size) = False := eq_false (Nat.not_lt.2 c31)
              have c31b3 : (9223372036854775807 < t291.toNat + 1 + (a1.size - ji28.toNat)) = False := eq_false (Nat.not_lt.2 (by have h_ := c31; simp only [ByteArray.size_append, ByteArray.size_extract] at h_; (try simp only [ByteArray.size_append, ByteArray.size_extract, decide_eq_true_eq, eq_iff_iff, iff_true] at *); omega))
              focus
               simp only [Option.some.injEq, Prod.mk.injEq] at H
               obtain ⟨rfl, rfl, rfl⟩ := H
               go_enter Tryz.func51, Tryz.ntmps51
               go_wp2_with (first | (go_at_call 75; (with_reducible refine (spec_l1Cur_pick.calls g s0_0 s0_1 s0_2 (a1.size : Int) t291 t292 t293 w0 _ ?side1 ?side2 A7.out).mono ?_); (case side1 => exact IsS71.zI HI0.out); (case side2 => first | exact zBy HB.out (IsS71.ge HI0.out) | exact zBx HB.out); rintro e w32 ⟨rfl, hi, hb, hk⟩; replace HK := Aside0.mk (KeepBut.trans (zKx HK.out) hk (.inl rfl)); replace HB := Aside0.mk (hb); replace HI0 := Aside0.mk (hi); (try clear hb); (try clear hb2); (try clear hk); (try clear hi)) | (go_at_call 75; (with_reducible refine (spec_l1Cur_pick.calls g s0_0 t292 t293 (a2.size : Int) t294 t295 t296 w0 _ ?side1 ?side2 A8.out).mono ?_); (case side1 => exact IsS71.zI HI0.out); (case side2 => first | exact zBy HB.out (IsS71.ge HI0.out) | exact zBx HB.out); rintro e w33 ⟨rfl, hi, hb, hk⟩; replace HK := Aside0.mk (KeepBut.trans (zKx HK.out) hk (.inl rfl)); replace HB := Aside0.mk (hb); replace HI0 := Aside0.mk (hi); (try clear hb); (try clear hb2); (try clear hk); (try clear hi)) | (go_at_call 75; (with_reducible refine (spec_l1Cur_pick.calls g s0_0 t295 t296 3 t297 t298 t299 w0 _ ?side1 ?side2 A13.out).mono ?_); (case side1 => exact IsS71.zI HI0.out); (case side2 => first | exact zBy HB.out (IsS71.ge HI0.out) | exact zBx HB.out); rintro e w34 ⟨rfl, hi, hb, hk⟩; replace HK := Aside0.mk (KeepBut.trans (zKx HK.out) hk (.inl rfl)); replace HB := Aside0.mk (hb); replace HI0 := Aside0.mk (hi); (try clear hb); (try clear hb2); (try clear hk); (try clear hi)))
               repeat (go_quiet (first | (go_at_call 75; (with_reducible refine (spec_l1Cur_pick.calls g s0_0 s0_1 s0_2 (a1.size : Int) t291 t292 t293 w0 _ ?side1 ?side2 A7.out).mono ?_); (case side1 => exact IsS71.zI HI0.out); (case side2 => first | exact zBy HB.out (IsS71.ge HI0.out) | exact zBx HB.out); rintro e w32 ⟨rfl, hi, hb, hk⟩; replace HK := Aside0.mk (KeepBut.trans (zKx HK.out) hk (.inl rfl)); replace HB := Aside0.mk (hb); replace HI0 := Aside0.mk (hi); (try clear hb); (try clear hb2); (try clear hk); (try clear hi)) | (go_at_call 75; (with_reducible refine (spec_l1Cur_pick.calls g s0_0 t292 t293 (a2.size : Int) t294 t295 t296 w0 _ ?side1 ?side2 A8.out).mono ?_); (case side1 => exact IsS71.zI HI0.out); (case side2 => first | exact zBy HB.out (IsS71.ge HI0.out) | exact zBx HB.out); rintro e w33 ⟨rfl, hi, hb, hk⟩; replace HK := Aside0.mk (KeepBut.trans (zKx HK.out) hk (.inl rfl)); replace HB := Aside0.mk (hb); replace HI0 := Aside0.mk (hi); (try clear hb); (try clear hb2); (try clear hk); (try clear hi)) | (go_at_call 75; (with_reducible refine (spec_l1Cur_pick.calls g s0_0 t295 t296 3 t297 t298 t299 w0 _ ?side1 ?side2 A13.out).mono ?_); (case side1 => exact IsS71.zI HI0.out); (case side2 => first | exact zBy HB.out (IsS71.ge HI0.out) | exact zBx HB.out); rintro e w34 ⟨rfl, hi, hb, hk⟩; replace HK := Aside0.mk (KeepBut.trans (zKx HK.out) hk (.inl rfl)); replace HB := Aside0.mk (hb); replace HI0 := Aside0.mk (hi); (try clear hb); (try clear hb2); (try clear hk); (try clear hi))); try go_wp2_with (first | (go_at_call 75; (with_reducible refine (spec_l1Cur_pick.calls g s0_0 s0_1 s0_2 (a1.size : Int) t291 t292 t293 w0 _ ?side1 ?side2 A7.out).mono ?_); (case side1 => exact IsS71.zI HI0.out); (case side2 => first | exact zBy HB.out (IsS71.ge HI0.out) | exact zBx HB.out); rintro e w32 ⟨rfl, hi, hb, hk⟩; replace HK := Aside0.mk (KeepBut.trans (zKx HK.out) hk (.inl rfl)); replace HB := Aside0.mk (hb); replace HI0 := Aside0.mk (hi); (try clear hb); (try clear hb2); (try clear hk); (try clear hi)) | (go_at_call 75; (with_reducible refine (spec_l1Cur_pick.calls g s0_0 t292 t293 (a2.size : Int) t294 t295 t296 w0 _ ?side1 ?side2 A8.out).mono ?_); (case side1 => exact IsS71.zI HI0.out); (case side2 => first | exact zBy HB.out (IsS71.ge HI0.out) | exact zBx HB.out); rintro e w33 ⟨rfl, hi, hb, hk⟩; replace HK := Aside0.mk (KeepBut.trans (zKx HK.out) hk (.inl rfl)); replace HB := Aside0.mk (hb); replace HI0 := Aside0.mk (hi); (try clear hb); (try clear hb2); (try clear hk); (try clear hi)) | (go_at_call 75; (with_reducible refine (spec_l1Cur_pick.calls g s0_0 t295 t296 3 t297 t298 t299 w0 _ ?side1 ?side2 A13.out).mono ?_); (case side1 => exact IsS71.zI HI0.out); (case side2 => first | exact zBy HB.out (IsS71.ge HI0.out) | exact zBx HB.out); rintro e w34 ⟨rfl, hi, hb, hk⟩; replace HK := Aside0.mk (KeepBut.trans (zKx HK.out) hk (.inl rfl)); replace HB := Aside0.mk (hb); replace HI0 := Aside0.mk (hi); (try clear hb); (try clear hb2); (try clear hk); (try clear hi))))
               go_ret
               exact ⟨by first | rfl | (simp [errW_none, errW_some] <;> rfl) | (simp only [← hji28]; first | rfl | (simp [errW_none, errW_some] <;> rfl)) | (simp [*, errW_none, errW_some] <;> rfl), by exact IsS71.zI HI0.out, by first | exact zBy HB.out (IsS71.ge HI0.out) | exact zBx HB.out, by exact zKx HK.out⟩
             ·rw [if_neg c31] at H
              exact absurd H (by simp)
            ·rw [if_neg c30] at H
             exact absurd H (by simp)
           ·rw [if_neg c29] at H
            exact absurd H (by simp)
          ·rw [if_neg c27] at H
           exact absurd H (by simp)
         ·rw [if_neg c26] at H
          exact absurd H (by simp)
        ·rw [if_neg c25] at H
         exact absurd H (by simp)
       ·rw [if_neg c24] at H
        have c24b0 : (t297 == 1) = false := beq_eq_false_iff_ne.mpr c24
        have c24b1 : (t297 != 1) = true := bne_iff_ne.mpr c24
        by_cases c35 : 0 ≤ t291
        ·rw [if_pos c35] at H
         have c35b0 := eq_true c35
         have c35b1 : decide (0 ≤ t291) = true := decide_eq_true c35
         clear c35
         by_cases c36 : t291 ≤ (a1.size : Int)
         ·rw [if_pos c36] at H
          have c36b0 := eq_true c36
          have c36b1 : decide (t291 ≤ (a1.size : Int)) = true := decide_eq_true c36
          clear c36
          obtain ⟨ji37, hji37⟩ : ∃ j_ : Int, (wrap64 (t291 + 1)) = j_ := ⟨_, rfl⟩
          replace H : (if 0 ≤ (ji37) then (if (ji37) ≤ (a1.size : Int) then (if (a1.extract 0 (t291 : Int).toNat).size + (a1.extract ((ji37) : Int).toNat a1.size).size ≤ 9223372036854775807 then (some ((a1.extract 0 (t291 : Int).toNat) ++ (a1.extract ((ji37) : Int).toNat a1.size), t298, t299)) else (none)) else (none)) else (none)) = some (r1, r2, r3) := by first | (rw [hji37] at H; exact H) | (simp only [hji37] at H ⊢; exact H)
          (try rw [hji37] at A7)
          (try rw [hji37] at A8)
          (try rw [hji37] at A13)
          have hji37w : (IntKind.i64.wrap (t291 + 1)) = ji37 := (i64_w _).trans hji37
          by_cases c38 : 0 ≤ (ji37)
          ·rw [if_pos c38] at H
           have c38b0 := eq_true c38
           have c38b1 : decide (0 ≤ (ji37)) = true := decide_eq_true c38
           clear c38
           by_cases c39 : (ji37) ≤ (a1.size : Int)
           ·rw [if_pos c39] at H
            have c39b0 := eq_true c39
            have c39b1 : decide ((ji37) ≤ (a1.size : Int)) = true := decide_eq_true c39
            clear c39
            by_cases c40 : (a1.extract 0 (t291 : Int).toNat).size + (a1.extract ((ji37) : Int).toNat a1.size).size ≤ 9223372036854775807
            ·rw [if_pos c40] at H
             have c40b0 := eq_true c40
             have c40b1 : decide ((a1.extract 0 (t291 : Int).toNat).size + (a1.extract ((ji37) : Int).toNat a1.size).size ≤ 9223372036854775807) = true := decide_eq_true c40
             try have c40b2 : (9223372036854775807 < (a1.extract 0 (t291 : Int).toNat).size + (a1.extract ((ji37) : Int).toNat a1.size).size) = False := eq_false (Nat.not_lt.2 c40)
             have c40b3 : (9223372036854775807 < t291.toNat + (a1.size - ji37.toNat)) = False := eq_false (Nat.not_lt.2 (by have h_ := c40; simp only [ByteArray.size_append, ByteArray.size_extract] at h_; (try simp only [ByteArray.size_append, ByteArray.size_extract, decide_eq_true_eq, eq_iff_iff, iff_true] at *); omega))
             focus
              simp only [Option.some.injEq, Prod.mk.injEq] at H
              obtain ⟨rfl, rfl, rfl⟩ := H
              go_enter Tryz.func51, Tryz.ntmps51
              go_wp2_with (first | (go_at_call 75; (with_reducible refine (spec_l1Cur_pick.calls g s0_0 s0_1 s0_2 (a1.size : Int) t291 t292 t293 w0 _ ?side1 ?side2 A7.out).mono ?_); (case side1 => exact IsS71.zI HI0.out); (case side2 => first | exact zBy HB.out (IsS71.ge HI0.out) | exact zBx HB.out); rintro e w41 ⟨rfl, hi, hb, hk⟩; replace HK := Aside0.mk (KeepBut.trans (zKx HK.out) hk (.inl rfl)); replace HB := Aside0.mk (hb); replace HI0 := Aside0.mk (hi); (try clear hb); (try clear hb2); (try clear hk); (try clear hi)) | (go_at_call 75; (with_reducible refine (spec_l1Cur_pick.calls g s0_0 t292 t293 (a2.size : Int) t294 t295 t296 w0 _ ?side1 ?side2 A8.out).mono ?_); (case side1 => exact IsS71.zI HI0.out); (case side2 => first | exact zBy HB.out (IsS71.ge HI0.out) | exact zBx HB.out); rintro e w42 ⟨rfl, hi, hb, hk⟩; replace HK := Aside0.mk (KeepBut.trans (zKx HK.out) hk (.inl rfl)); replace HB := Aside0.mk (hb); replace HI0 := Aside0.mk (hi); (try clear hb); (try clear hb2); (try clear hk); (try clear hi)) | (go_at_call 75; (with_reducible refine (spec_l1Cur_pick.calls g s0_0 t295 t296 3 t297 t298 t299 w0 _ ?side1 ?side2 A13.out).mono ?_); (case side1 => exact IsS71.zI HI0.out); (case side2 => first | exact zBy HB.out (IsS71.ge HI0.out) | exact zBx HB.out); rintro e w43 ⟨rfl, hi, hb, hk⟩; replace HK := Aside0.mk (KeepBut.trans (zKx HK.out) hk (.inl rfl)); replace HB := Aside0.mk (hb); replace HI0 := Aside0.mk (hi); (try clear hb); (try clear hb2); (try clear hk); (try clear hi)))
              repeat (go_quiet (first | (go_at_call 75; (with_reducible refine (spec_l1Cur_pick.calls g s0_0 s0_1 s0_2 (a1.size : Int) t291 t292 t293 w0 _ ?side1 ?side2 A7.out).mono ?_); (case side1 => exact IsS71.zI HI0.out); (case side2 => first | exact zBy HB.out (IsS71.ge HI0.out) | exact zBx HB.out); rintro e w41 ⟨rfl, hi, hb, hk⟩; replace HK := Aside0.mk (KeepBut.trans (zKx HK.out) hk (.inl rfl)); replace HB := Aside0.mk (hb); replace HI0 := Aside0.mk (hi); (try clear hb); (try clear hb2); (try clear hk); (try clear hi)) | (go_at_call 75; (with_reducible refine (spec_l1Cur_pick.calls g s0_0 t292 t293 (a2.size : Int) t294 t295 t296 w0 _ ?side1 ?side2 A8.out).mono ?_); (case side1 => exact IsS71.zI HI0.out); (case side2 => first | exact zBy HB.out (IsS71.ge HI0.out) | exact zBx HB.out); rintro e w42 ⟨rfl, hi, hb, hk⟩; replace HK := Aside0.mk (KeepBut.trans (zKx HK.out) hk (.inl rfl)); replace HB := Aside0.mk (hb); replace HI0 := Aside0.mk (hi); (try clear hb); (try clear hb2); (try clear hk); (try clear hi)) | (go_at_call 75; (with_reducible refine (spec_l1Cur_pick.calls g s0_0 t295 t296 3 t297 t298 t299 w0 _ ?side1 ?side2 A13.out).mono ?_); (case side1 => exact IsS71.zI HI0.out); (case side2 => first | exact zBy HB.out (IsS71.ge HI0.out) | exact zBx HB.out); rintro e w43 ⟨rfl, hi, hb, hk⟩; replace HK := Aside0.mk (KeepBut.trans (zKx HK.out) hk (.inl rfl)); replace HB := Aside0.mk (hb); replace HI0 := Aside0.mk (hi); (try clear hb); (try clear hb2); (try clear hk); (try clear hi))); try go_wp2_with (first | (go_at_call 75; (with_reducible refine (spec_l1Cur_pick.calls g s0_0 s0_1 s0_2 (a1.size : Int) t291 t292 t293 w0 _ ?side1 ?side2 A7.out).mono ?_); (case side1 => exact IsS71.zI HI0.out); (case side2 => first | exact zBy HB.out (IsS71.ge HI0.out) | exact zBx HB.out); rintro e w41 ⟨rfl, hi, hb, hk⟩; replace HK := Aside0.mk (KeepBut.trans (zKx HK.out) hk (.inl rfl)); replace HB := Aside0.mk (hb); replace HI0 := Aside0.mk (hi); (try clear hb); (try clear hb2); (try clear hk); (try clear hi)) | (go_at_call 75; (with_reducible refine (spec_l1Cur_pick.calls g s0_0 t292 t293 (a2.size : Int) t294 t295 t296 w0 _ ?side1 ?side2 A8.out).mono ?_); (case side1 => exact IsS71.zI HI0.out); (case side2 => first | exact zBy HB.out (IsS71.ge HI0.out) | exact zBx HB.out); rintro e w42 ⟨rfl, hi, hb, hk⟩; replace HK := Aside0.mk (KeepBut.trans (zKx HK.out) hk (.inl rfl)); replace HB := Aside0.mk (hb); replace HI0 := Aside0.mk (hi); (try clear hb); (try clear hb2); (try clear hk); (try clear hi)) | (go_at_call 75; (with_reducible refine (spec_l1Cur_pick.calls g s0_0 t295 t296 3 t297 t298 t299 w0 _ ?side1 ?side2 A13.out).mono ?_); (case side1 => exact IsS71.zI HI0.out); (case side2 => first | exact zBy HB.out (IsS71.ge HI0.out) | exact zBx HB.out); rintro e w43 ⟨rfl, hi, hb, hk⟩; replace HK := Aside0.mk (KeepBut.trans (zKx HK.out) hk (.inl rfl)); replace HB := Aside0.mk (hb); replace HI0 := Aside0.mk (hi); (try clear hb); (try clear hb2); (try clear hk); (try clear hi))))
              go_ret
              exact ⟨by first | rfl | (simp [errW_none, errW_some] <;> rfl) | (simp only [← hji37]; first | rfl | (simp [errW_none, errW_some] <;> rfl)) | (simp [*, errW_none, errW_some] <;> rfl), by exact IsS71.zI HI0.out, by first | exact zBy HB.out (IsS71.ge HI0.out) | exact zBx HB.out, by exact zKx HK.out⟩
            ·rw [if_neg c40] at H
             exact absurd H (by simp)
           ·rw [if_neg c39] at H
            exact absurd H (by simp)
          ·rw [if_neg c38] at H
           exact absurd H (by simp)
         ·rw [if_neg c36] at H
          exact absurd H (by simp)
        ·rw [if_neg c35] at H
         exact absurd H (by simp)
     ·rw [if_neg c12] at H
      exact absurd H (by simp)
    ·rw [if_neg c11] at H
     exact absurd H (by simp)
   ·rw [if_neg c10] at H
    exact absurd H (by simp)
  ·rw [if_neg c9] at H
   exact absurd H (by simp)

/-! ### spec_DrawParseWarningLine: function 13 -/
def spec_DrawParseWarningLine.j0 : Nat → List Int → Int → Int → Int → Int → Int → Int → Int → Int → Option (ByteArray)
 | 0, _, _, _, _, _, _, _, _, _ => none
 | k + 1, x301000, x301001, x301002, x310000, x310001, x310002, x310003, x310004, x310005 => (spec_l17Line.f k x310000 x310001 x310002 x310003 x310004 x310005).bind fun t311 => ((spec_l1Cur_one.f x301000 x301001 x301002 4).bind fun bt312 => (if bt312.1 = true then ((spec_l1Cur_spoilt.f x301000 bt312.2.1 bt312.2.2 t311 (⟨#[49, 32, 44, 45, 114]⟩ : ByteArray)).bind fun bt315 => (some bt315.1)) else (some t311)))
def spec_DrawParseWarningLine.f (k : Nat) (l0 : List Int) : Option (ByteArray) := (spec_l1Cur_warning.f l0 0 0).bind fun bt301 => ((spec_l14Good.f bt301.1 bt301.2.1 bt301.2.2.1 bt301.2.2.2.1 bt301.2.2.2.2.1 bt301.2.2.2.2.2.1).bind fun t310 => (if t310 = true then (spec_DrawParseWarningLine.j0 k l0 bt301.2.2.2.2.2.2.1 bt301.2.2.2.2.2.2.2 bt301.1 bt301.2.1 bt301.2.2.1 bt301.2.2.2.1 bt301.2.2.2.2.1 bt301.2.2.2.2.2.1) else (spec_DrawParseWarningLine.j0 k l0 bt301.2.2.2.2.2.2.1 bt301.2.2.2.2.2.2.2 1 1 1 1 0 1)))
theorem spec_DrawParseWarningLine.mono_l : ∀ k, (∀ y0 y1 y2 y3 y4 y5 y6 y7 y8, LeO (spec_DrawParseWarningLine.j0 k y0 y1 y2 y3 y4 y5 y6 y7 y8) (spec_DrawParseWarningLine.j0 (k + 1) y0 y1 y2 y3 y4 y5 y6 y7 y8))
 | 0 => fun _ _ _ _ _ _ _ _ _ r h => by simp [spec_DrawParseWarningLine.j0] at h
 | k + 1 => by
  have ih0 := spec_DrawParseWarningLine.mono_l k
  ·intro y0 y1 y2 y3 y4 y5 y6 y7 y8
   unfold spec_DrawParseWarningLine.j0
   repeat' first
   | (with_reducible exact ih0 _ _ _ _ _ _ _ _ _)
   | (with_reducible exact spec_l17Line.mono _ _ _ _ _ _ _)
   | (with_reducible exact LeO.refl _)
   | (with_reducible exact LeO.none _)
   | (with_reducible refine LeO.ite ?_ ?_)
   | (with_reducible refine LeO.bind ?_ (fun _ => ?_))
   | exact ih0 _ _ _ _ _ _ _ _ _
   | exact spec_l17Line.mono _ _ _ _ _ _ _
   | exact LeO.none _
   | refine LeO.ite ?_ ?_
   | refine LeO.bind ?_ (fun _ => ?_)
theorem spec_DrawParseWarningLine.mono : ∀ a0 k, LeO (spec_DrawParseWarningLine.f k a0) (spec_DrawParseWarningLine.f (k + 1) a0) := by
 intro a0 k
 have ih0 := spec_DrawParseWarningLine.mono_l k
 unfold spec_DrawParseWarningLine.f
 repeat' first
  | (with_reducible exact ih0 _ _ _ _ _ _ _ _ _)
  | (with_reducible exact spec_l17Line.mono _ _ _ _ _ _ _)
  | (with_reducible exact LeO.refl _)
  | (with_reducible exact LeO.none _)
  | (with_reducible refine LeO.ite ?_ ?_)
  | (with_reducible refine LeO.bind ?_ (fun _ => ?_))
  | exact ih0 _ _ _ _ _ _ _ _ _
  | exact spec_l17Line.mono _ _ _ _ _ _ _
  | exact LeO.none _
  | refine LeO.ite ?_ ?_
  | refine LeO.bind ?_ (fun _ => ?_)
set_option maxHeartbeats 8000000 in
set_option maxRecDepth 100000 in
theorem spec_DrawParseWarningLine.calls (k : Nat) (A0 : Option Addr) (c0 : Nat) (l0 : List Int) (r : ByteArray) (w : World) (hr0 : Kd.C (Kd.int .u8) w A0 l0.length l0) (hc0 : l0.length ≤ c0) (h : spec_DrawParseWarningLine.f k l0 = some r) :
 Calls Tryz.prog 13 #[.slice A0 l0.length c0] w fun e w' => e = .returned (.string r) ∧ Below w.heap.size w w' := by
 have hu71 := Tryz.underlying71
 have hu25 := Tryz.underlying25
 have HR0 := Aside0.mk hr0
 have HC0 := Aside0.mk hc0
 clear hr0 hc0
 have HB := Aside0.mk (Below.refl w.heap.size w)
 have H : ((spec_l1Cur_warning.f l0 0 0).bind fun bt301 => ((spec_l14Good.f bt301.1 bt301.2.1 bt301.2.2.1 bt301.2.2.2.1 bt301.2.2.2.2.1 bt301.2.2.2.2.2.1).bind fun t310 => (if t310 = true then (spec_DrawParseWarningLine.j0 k l0 bt301.2.2.2.2.2.2.1 bt301.2.2.2.2.2.2.2 bt301.1 bt301.2.1 bt301.2.2.1 bt301.2.2.2.1 bt301.2.2.2.2.1 bt301.2.2.2.2.2.1) else (spec_DrawParseWarningLine.j0 k l0 bt301.2.2.2.2.2.2.1 bt301.2.2.2.2.2.2.2 1 1 1 1 0 1)))) = some r := h
 clear h
 replace H := Option.bind_eq_some_iff.mp H
 obtain ⟨⟨t301, t302, t303, t304, t305, t306, t307, t308⟩, A20, H⟩ := H
 replace H : ((spec_l14Good.f t301 t302 t303 t304 t305 t306).bind fun t310 => (if t310 = true then (spec_DrawParseWarningLine.j0 k l0 t307 t308 t301 t302 t303 t304 t305 t306) else (spec_DrawParseWarningLine.j0 k l0 t307 t308 1 1 1 1 0 1))) = some r := H
 have A2 := Aside0.mk A20
 clear A20
 replace H := Option.bind_eq_some_iff.mp H
 obtain ⟨t310, A30, H⟩ := H
 replace H : (if t310 = true then (spec_DrawParseWarningLine.j0 k l0 t307 t308 t301 t302 t303 t304 t305 t306) else (spec_DrawParseWarningLine.j0 k l0 t307 t308 1 1 1 1 0 1)) = some r := H
 have A3 := Aside0.mk A30
 clear A30
 have HC4 := Aside0.mk H
 clear H
 go_enter Tryz.func13, Tryz.ntmps13
 go_upto_if 13 with (first | ((with_reducible refine gate_dst (N := 8) rfl ?_); refine box_event ?hg (N := 8) ?hd (cs := #[.slice A0 l0.length c0, .int .i64 0, .int .u64 0]) (t := 71) ?hr ?_; (case hd => rfl); (case hg => rfl); (case hr => exact zsx); intro gb300 hg w5 hbox hb; have BK300 := Aside0.mk (hbox); have GW300 := zns hg HB.out; have GE300 := zns hg HB.out; replace HB := Aside0.mk (below_step (zBx HB.out) hb); clear hb hbox hg) | ((with_reducible refine gate_callee (f := 49) rfl ?_); refine goesL_ (some 10) rfl rfl Tryz.func49 (by kernel_rfl) rfl #[.pointer (some ⟨gb300, 0, none⟩)] rfl zlx ?_; (with_reducible refine (spec_l1Cur_warning.calls gb300 l0 0 0 t301 t302 t303 t304 t305 t306 t307 t308 w _ ?side1 ?side2 A2.out).mono ?_); (case side1 => first | exact ⟨_, _, (zbx BK300.out), GE300.out, HR0.out⟩); (case side2 => first | exact zBy HB.out (IsS71.ge HI300.out) | exact zBx HB.out); rintro e w6 ⟨rfl, hi, hb, hk⟩; refine ⟨_, rfl, ?_⟩; replace HB := Aside0.mk (hb); have HI300 := Aside0.mk (hi); (try clear hb); (try clear hk); (try clear hi)) | ((with_reducible refine gate_dst (N := 4) rfl ?_); refine box_event ?hg (N := 4) ?hd (cs := #[.int .i64 0, .int .i64 0, .int .i64 0, .int .i64 0, .int .i64 0, .int .i64 0]) (t := 25) ?hr ?_; (case hd => rfl); (case hg => rfl); (case hr => exact zsx); intro gb309 hg w7 hbox hb; have BK309 := Aside0.mk (hbox); have GW309 := Aside0.mk ((by rw [hg]; exact (below_size (by first | exact zBy HB.out (IsS71.ge HI300.out) | exact zBx HB.out)) : w.heap.size ≤ gb309)); have GE309 := Aside0.mk ((by rw [hg]; exact (below_size (by first | exact zBy HB.out (IsS71.ge HI300.out) | exact zBx HB.out)) : w.heap.size ≤ gb309)); replace HB := Aside0.mk (below_step (by first | exact zBy HB.out (IsS71.ge HI300.out) | exact zBx HB.out) hb); have NB300_309 := Aside0.mk ((by rw [hg]; exact Nat.ne_of_lt (IsS71.lt (show IsS71 w _ gb300 l0 t307 t308 from IsS71.zI HI300.out)) : gb300 ≠ gb309)); have NB309_300 := Aside0.mk ((by rw [hg]; exact Nat.ne_of_gt (IsS71.lt (show IsS71 w _ gb300 l0 t307 t308 from IsS71.zI HI300.out)) : gb309 ≠ gb300)); replace HI300 := Aside0.mk (IsS71.below (IsS71.zI HI300.out) hb); clear hb hbox hg; have hnb8 := NB309_300.out; have hnc8 := NB300_309.out; have hcz9_0 : w7.cell? ⟨gb309, 0, none⟩ = some (.int .i64 0) := (blk_cell BK309.out 0).trans rfl; have hcz9_1 : w7.cell? ⟨gb309, 1, none⟩ = some (.int .i64 0) := (blk_cell BK309.out 1).trans rfl; have hcz9_2 : w7.cell? ⟨gb309, 2, none⟩ = some (.int .i64 0) := (blk_cell BK309.out 2).trans rfl; have hcz9_3 : w7.cell? ⟨gb309, 3, none⟩ = some (.int .i64 0) := (blk_cell BK309.out 3).trans rfl; have hcz9_4 : w7.cell? ⟨gb309, 4, none⟩ = some (.int .i64 0) := (blk_cell BK309.out 4).trans rfl; have hcz9_5 : w7.cell? ⟨gb309, 5, none⟩ = some (.int .i64 0) := (blk_cell BK309.out 5).trans rfl; have hfz9_0 := blk_frozen BK309.out 0; have hfz9_1 := blk_frozen BK309.out 1; have hfz9_2 := blk_frozen BK309.out 2; have hfz9_3 := blk_frozen BK309.out 3; have hfz9_4 := blk_frozen BK309.out 4; have hfz9_5 := blk_frozen BK309.out 5) | ((with_reducible refine gate_callee (f := 47) rfl ?_); refine goesL_ (some 12) rfl rfl Tryz.func47 (by kernel_rfl) rfl #[.agg #[.int .i64 t301, .int .i64 t302, .int .i64 t303, .int .i64 t304, .int .i64 t305, .int .i64 t306]] rfl zlx ?_; (with_reducible refine (spec_l14Good.calls t301 t302 t303 t304 t305 t306 t310 _ A3.out).mono ?_); rintro e w10 ⟨rfl, hb⟩; refine ⟨_, rfl, ?_⟩; replace BK309 := Aside0.mk (blk_below (g := gb309) (o := .cells #[.int .i64 t301, .int .i64 t302, .int .i64 t303, .int .i64 t304, .int .i64 t305, .int .i64 t306] 25 (0, 0)) (zbp BK309.out) hb); replace HB := Aside0.mk (below_step (by first | exact zBz HB.out (IsS71.ge HI300.out) GE309.out | exact zBy HB.out GE309.out) hb); replace HI300 := Aside0.mk (IsS71.below (show IsS71 w ((((((w7.setCell ⟨gb309, 0, none⟩ (.int .i64 t301)).setCell ⟨gb309, 1, none⟩ (.int .i64 t302)).setCell ⟨gb309, 2, none⟩ (.int .i64 t303)).setCell ⟨gb309, 3, none⟩ (.int .i64 t304)).setCell ⟨gb309, 4, none⟩ (.int .i64 t305)).setCell ⟨gb309, 5, none⟩ (.int .i64 t306)) gb300 l0 t307 t308 from IsS71.zJ HI300.out NB300_309.out) hb); (try clear hb)))
 (try simp only [Act.put, List.setIfInBounds_toArray, List.set_cons_zero, List.set_cons_succ])
 go_cut [] (fun wc => ∃ (kq : Nat) (x310000_3 : Int) (x310001_3 : Int) (x310002_3 : Int) (x310003_3 : Int) (x310004_3 : Int) (x310005_3 : Int), Aside0 (spec_DrawParseWarningLine.j0 kq l0 t307 t308 x310000_3 x310001_3 x310002_3 x310003_3 x310004_3 x310005_3 = some r) ∧ Aside0 (kq ≤ k) ∧ Aside0 (wc.heap[gb309]? = some (.cells #[.int .i64 x310000_3, .int .i64 x310001_3, .int .i64 x310002_3, .int .i64 x310003_3, .int .i64 x310004_3, .int .i64 x310005_3] 25 (0, 0))) ∧ Aside0 (IsS71 w wc gb300 l0 t307 t308) ∧ Aside0 (Below w.heap.size w wc))
 case first =>
  have H := HC4.out
  clear HC4
  by_cases c11 : t310 = true
  ·subst c11
   rw [if_pos rfl] at H
   focus
    have H' := Aside0.mk H
    clear H
    go_wp2
    go_meet
    case rel => exact ⟨_, (t301), (t302), (t303), (t304), (t305), (t306), H', ⟨by first | omega | exact Nat.le_refl _⟩, ⟨by refine zbx ?_; exact BK309.out⟩, ⟨by exact IsS71.zJ HI300.out NB300_309.out⟩, ⟨by exact zBz HB.out (IsS71.ge HI300.out) GE309.out⟩⟩
  ·replace c11 := Bool.eq_false_iff.mpr c11
   subst c11
   rw [if_neg (show ¬ (false = true) by decide)] at H
   focus
    have H' := Aside0.mk H
    clear H
    have hnb12 := NB309_300.out
    have hnc12 := NB300_309.out
    have hcz13_0 : w10.cell? ⟨gb309, 0, none⟩ = some (.int .i64 t301) := (blk_cell BK309.out 0).trans rfl
    have hcz13_1 : w10.cell? ⟨gb309, 1, none⟩ = some (.int .i64 t302) := (blk_cell BK309.out 1).trans rfl
    have hcz13_2 : w10.cell? ⟨gb309, 2, none⟩ = some (.int .i64 t303) := (blk_cell BK309.out 2).trans rfl
    have hcz13_3 : w10.cell? ⟨gb309, 3, none⟩ = some (.int .i64 t304) := (blk_cell BK309.out 3).trans rfl
    have hcz13_4 : w10.cell? ⟨gb309, 4, none⟩ = some (.int .i64 t305) := (blk_cell BK309.out 4).trans rfl
    have hcz13_5 : w10.cell? ⟨gb309, 5, none⟩ = some (.int .i64 t306) := (blk_cell BK309.out 5).trans rfl
    have hfz13_0 := blk_frozen BK309.out 0
    have hfz13_1 := blk_frozen BK309.out 1
    have hfz13_2 := blk_frozen BK309.out 2
    have hfz13_3 := blk_frozen BK309.out 3
    have hfz13_4 := blk_frozen BK309.out 4
    have hfz13_5 := blk_frozen BK309.out 5
    go_wp2
    go_meet
    case rel => exact ⟨_, (1), (1), (1), (1), (0), (1), H', ⟨by first | omega | exact Nat.le_refl _⟩, ⟨zbp BK309.out⟩, ⟨by exact IsS71.zJ HI300.out NB300_309.out⟩, ⟨by exact zBz HB.out (IsS71.ge HI300.out) GE309.out⟩⟩
 case rest =>
  clear HC4
  try clear c1
  try clear p2
  try clear c4
  try clear c8
  try clear c11
  try clear c12
  try clear c13
  try clear hcz13_0
  try clear hcz13_1
  try clear hcz13_2
  try clear hcz13_3
  try clear hcz13_4
  try clear hcz13_5
  try clear hcz9_0
  try clear hcz9_1
  try clear hcz9_2
  try clear hcz9_3
  try clear hcz9_4
  try clear hcz9_5
  try clear hfz13_0
  try clear hfz13_1
  try clear hfz13_2
  try clear hfz13_3
  try clear hfz13_4
  try clear hfz13_5
  try clear hfz9_0
  try clear hfz9_1
  try clear hfz9_2
  try clear hfz9_3
  try clear hfz9_4
  try clear hfz9_5
  obtain ⟨kq, x310000_3, x310001_3, x310002_3, x310003_3, x310004_3, x310005_3, HA, HJ3, BK309, HI300, HB⟩ := hcut
  cases kq with
  | zero => exact absurd HA.out (by simp [spec_DrawParseWarningLine.j0])
  | succ kj3 =>
   have H := HA.out
   clear HA
   simp only [spec_DrawParseWarningLine.j0] at H
   replace H := Option.bind_eq_some_iff.mp H
   obtain ⟨t311, A140, H⟩ := H
   replace H : ((spec_l1Cur_one.f l0 t307 t308 4).bind fun bt312 => (if bt312.1 = true then ((spec_l1Cur_spoilt.f l0 bt312.2.1 bt312.2.2 t311 (⟨#[49, 32, 44, 45, 114]⟩ : ByteArray)).bind fun bt315 => (some bt315.1)) else (some t311))) = some r := H
   have A14 := Aside0.mk A140
   clear A140
   replace H := Option.bind_eq_some_iff.mp H
   obtain ⟨⟨t312, t313, t314⟩, A150, H⟩ := H
   replace H : (if t312 = true then ((spec_l1Cur_spoilt.f l0 t313 t314 t311 (⟨#[49, 32, 44, 45, 114]⟩ : ByteArray)).bind fun bt315 => (some bt315.1)) else (some t311)) = some r := H
   have A15 := Aside0.mk A150
   clear A150
   by_cases c16 : t312 = true
   ·subst c16
    rw [if_pos rfl] at H
    replace H := Option.bind_eq_some_iff.mp H
    obtain ⟨⟨t315, t316, t317⟩, A170, H⟩ := H
    replace H : (some t315) = some r := H
    have A17 := Aside0.mk A170
    clear A170
    focus
     obtain rfl := Option.some.inj H
     have hnb18 := NB309_300.out
     have hnc18 := NB300_309.out
     have hcz19_0 : wc.cell? ⟨gb309, 0, none⟩ = some (.int .i64 x310000_3) := (blk_cell BK309.out 0).trans rfl
     have hcz19_1 : wc.cell? ⟨gb309, 1, none⟩ = some (.int .i64 x310001_3) := (blk_cell BK309.out 1).trans rfl
     have hcz19_2 : wc.cell? ⟨gb309, 2, none⟩ = some (.int .i64 x310002_3) := (blk_cell BK309.out 2).trans rfl
     have hcz19_3 : wc.cell? ⟨gb309, 3, none⟩ = some (.int .i64 x310003_3) := (blk_cell BK309.out 3).trans rfl
     have hcz19_4 : wc.cell? ⟨gb309, 4, none⟩ = some (.int .i64 x310004_3) := (blk_cell BK309.out 4).trans rfl
     have hcz19_5 : wc.cell? ⟨gb309, 5, none⟩ = some (.int .i64 x310005_3) := (blk_cell BK309.out 5).trans rfl
     have hfz19_0 := blk_frozen BK309.out 0
     have hfz19_1 := blk_frozen BK309.out 1
     have hfz19_2 := blk_frozen BK309.out 2
     have hfz19_3 := blk_frozen BK309.out 3
     have hfz19_4 := blk_frozen BK309.out 4
     have hfz19_5 := blk_frozen BK309.out 5
     go_wp2_with (first | ((with_reducible refine gate_callee (f := 48) rfl ?_); refine goesL_ (some 16) rfl rfl Tryz.func48 (by kernel_rfl) rfl #[.agg #[.int .i64 x310000_3, .int .i64 x310001_3, .int .i64 x310002_3, .int .i64 x310003_3, .int .i64 x310004_3, .int .i64 x310005_3]] rfl zlx ?_; (with_reducible refine (spec_l17Line.calls kj3 x310000_3 x310001_3 x310002_3 x310003_3 x310004_3 x310005_3 t311 _ A14.out).mono ?_); rintro e w20 ⟨rfl, hb⟩; refine ⟨_, rfl, ?_⟩; replace BK309 := zbl BK309.out hb; replace HB := Aside0.mk (below_step (by first | exact zBz HB.out (IsS71.ge HI300.out) GE309.out | exact zBy HB.out GE309.out) hb); replace HI300 := Aside0.mk (IsS71.below (IsS71.zF HI300.out NB300_309.out) hb); (try clear hb)) | ((with_reducible refine gate_callee (f := 50) rfl ?_); refine goesL_ (some 18) rfl rfl Tryz.func50 (by kernel_rfl) rfl #[.pointer (some ⟨gb300, 0, none⟩), .int .i64 4] rfl zlx ?_; (with_reducible refine (spec_l1Cur_one.calls gb300 l0 t307 t308 4 true t313 t314 w _ ?side1 ?side2 A15.out).mono ?_); (case side1 => exact IsS71.zJ HI300.out NB300_309.out); (case side2 => first | exact zBz HB.out (IsS71.ge HI300.out) GE309.out | exact zBy HB.out GE309.out); rintro e w21 ⟨rfl, hi, hb, hk⟩; refine ⟨_, rfl, ?_⟩; replace BK309 := Aside0.mk (KeepBut.blk hk (g' := gb309) (o := .cells #[.int .i64 x310000_3, .int .i64 x310001_3, .int .i64 x310002_3, .int .i64 x310003_3, .int .i64 x310004_3, .int .i64 x310005_3] 25 (0, 0)) (zbx BK309.out) NB309_300.out (by simp)); replace HB := Aside0.mk (hb); replace HI300 := Aside0.mk (hi); (try clear hb); (try clear hk); (try clear hi)) | ((with_reducible refine gate_callee (f := 51) rfl ?_); refine goesL_ (some 21) rfl rfl Tryz.func51 (by kernel_rfl) rfl #[.pointer (some ⟨gb300, 0, none⟩), .string t311, .string (⟨#[49, 32, 44, 45, 114]⟩ : ByteArray)] rfl zlx ?_; (with_reducible refine (spec_l1Cur_spoilt.calls gb300 l0 t313 t314 t311 (⟨#[49, 32, 44, 45, 114]⟩ : ByteArray) t315 t316 t317 w _ ?side1 ?side2 A17.out).mono ?_); (case side1 => exact IsS71.zJ HI300.out NB300_309.out); (case side2 => first | exact zBz HB.out (IsS71.ge HI300.out) GE309.out | exact zBy HB.out GE309.out); rintro e w22 ⟨rfl, hi, hb, hk⟩; refine ⟨_, rfl, ?_⟩; replace BK309 := Aside0.mk (KeepBut.blk hk (g' := gb309) (o := .cells #[.int .i64 x310000_3, .int .i64 x310001_3, .int .i64 x310002_3, .int .i64 x310003_3, .int .i64 x310004_3, .int .i64 x310005_3] 25 (0, 0)) (zbx BK309.out) NB309_300.out (by simp)); replace HB := Aside0.mk (hb); replace HI300 := Aside0.mk (hi); (try clear hb); (try clear hk); (try clear hi)))
     go_ret
     exact ⟨by first | rfl | (simp [errW_none, errW_some] <;> rfl) | (simp [*, errW_none, errW_some] <;> rfl), by exact zBz HB.out (IsS71.ge HI300.out) GE309.out⟩
   ·replace c16 := Bool.eq_false_iff.mpr c16
    subst c16
    rw [if_neg (show ¬ (false = true) by decide)] at H
    focus
     obtain rfl := Option.some.inj H
     have hnb23 := NB309_300.out
     have hnc23 := NB300_309.out
     have hcz24_0 : wc.cell? ⟨gb309, 0, none⟩ = some (.int .i64 x310000_3) := (blk_cell BK309.out 0).trans rfl
     have hcz24_1 : wc.cell? ⟨gb309, 1, none⟩ = some (.int .i64 x310001_3) := (blk_cell BK309.out 1).trans rfl
     have hcz24_2 : wc.cell? ⟨gb309, 2, none⟩ = some (.int .i64 x310002_3) := (blk_cell BK309.out 2).trans rfl
     have hcz24_3 : wc.cell? ⟨gb309, 3, none⟩ = some (.int .i64 x310003_3) := (blk_cell BK309.out 3).trans rfl
     have hcz24_4 : wc.cell? ⟨gb309, 4, none⟩ = some (.int .i64 x310004_3) := (blk_cell BK309.out 4).trans rfl
     have hcz24_5 : wc.cell? ⟨gb309, 5, none⟩ = some (.int .i64 x310005_3) := (blk_cell BK309.out 5).trans rfl
     have hfz24_0 := blk_frozen BK309.out 0
     have hfz24_1 := blk_frozen BK309.out 1
     have hfz24_2 := blk_frozen BK309.out 2
     have hfz24_3 := blk_frozen BK309.out 3
     have hfz24_4 := blk_frozen BK309.out 4
     have hfz24_5 := blk_frozen BK309.out 5
     go_wp2_with (first | ((with_reducible refine gate_callee (f := 48) rfl ?_); refine goesL_ (some 16) rfl rfl Tryz.func48 (by kernel_rfl) rfl #[.agg #[.int .i64 x310000_3, .int .i64 x310001_3, .int .i64 x310002_3, .int .i64 x310003_3, .int .i64 x310004_3, .int .i64 x310005_3]] rfl zlx ?_; (with_reducible refine (spec_l17Line.calls kj3 x310000_3 x310001_3 x310002_3 x310003_3 x310004_3 x310005_3 t311 _ A14.out).mono ?_); rintro e w25 ⟨rfl, hb⟩; refine ⟨_, rfl, ?_⟩; replace BK309 := zbl BK309.out hb; replace HB := Aside0.mk (below_step (by first | exact zBz HB.out (IsS71.ge HI300.out) GE309.out | exact zBy HB.out GE309.out) hb); replace HI300 := Aside0.mk (IsS71.below (IsS71.zF HI300.out NB300_309.out) hb); (try clear hb)) | ((with_reducible refine gate_callee (f := 50) rfl ?_); refine goesL_ (some 18) rfl rfl Tryz.func50 (by kernel_rfl) rfl #[.pointer (some ⟨gb300, 0, none⟩), .int .i64 4] rfl zlx ?_; (with_reducible refine (spec_l1Cur_one.calls gb300 l0 t307 t308 4 false t313 t314 w _ ?side1 ?side2 A15.out).mono ?_); (case side1 => exact IsS71.zJ HI300.out NB300_309.out); (case side2 => first | exact zBz HB.out (IsS71.ge HI300.out) GE309.out | exact zBy HB.out GE309.out); rintro e w26 ⟨rfl, hi, hb, hk⟩; refine ⟨_, rfl, ?_⟩; replace BK309 := Aside0.mk (KeepBut.blk hk (g' := gb309) (o := .cells #[.int .i64 x310000_3, .int .i64 x310001_3, .int .i64 x310002_3, .int .i64 x310003_3, .int .i64 x310004_3, .int .i64 x310005_3] 25 (0, 0)) (zbx BK309.out) NB309_300.out (by simp)); replace HB := Aside0.mk (hb); replace HI300 := Aside0.mk (hi); (try clear hb); (try clear hk); (try clear hi)))
     go_ret
     exact ⟨by first | rfl | (simp [errW_none, errW_some] <;> rfl) | (simp [*, errW_none, errW_some] <;> rfl), by exact zBz HB.out (IsS71.ge HI300.out) GE309.out⟩

end Go.Proofs.YtlfoojgbiafffaaGreatDoor.XFnMessages
