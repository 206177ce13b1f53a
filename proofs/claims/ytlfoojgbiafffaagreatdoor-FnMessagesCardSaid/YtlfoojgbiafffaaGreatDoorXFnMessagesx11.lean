-- written by wip/tools/xprint.py (a program of this project) out of the translation
import Derived.Test.YtlfoojgbiafffaaGreatDoorXFnMessagesx0
import Derived.Test.YtlfoojgbiafffaaGreatDoorStrsE
import Derived.Test.YtlfoojgbiafffaaGreatDoorXFnMessagesx6
import Derived.Test.YtlfoojgbiafffaaGreatDoorXFnMessagesx9
import Derived.Test.YtlfoojgbiafffaaGreatDoorXFnMessagesx10
namespace Go.Proofs.YtlfoojgbiafffaaGreatDoor.XFnMessages
open Go.RowKit Go.Proofs.YtlfoojgbiafffaaGreatDoorW.PrintWords Go.Proofs.YtlfoojgbiafffaaGreatDoorW.PrintLast Go.Proofs.YtlfoojgbiafffaaGreatDoorW.PrintMore
open Go.Proofs.YtlfoojgbiafffaaGreatDoor.Strs
attribute [local go_sem] max2_int min2_int max_two min_two max_three min_three max_four min_four   -- for this text's walks alone
set_option linter.unusedVariables false
set_option linter.unusedSimpArgs false

/-! ### spec_ParseCode: function 15 -/
def spec_ParseCode.f (k : Nat) (a0 : ByteArray) : Option (Int × Int × Int × Int × Int × Int × Bool) := (spec_l1In.f (a0.size : Int) 9 20).bind fun t355 => (if t355 = true then (if 2 ≤ (a0.size : Int) then ((spec_l1Split.f k (a0.extract 2 a0.size) 46).bind fun t356 => (if (t356.length : Int) = 4 then (if 0 < (t356.length : Int) then ((spec_l1Read.f k (rdOf ByteArray.empty t356 0)).bind fun bt360 => (if 1 < (t356.length : Int) then ((spec_l1Read.f k (rdOf ByteArray.empty t356 1)).bind fun bt363 => (if 2 < (t356.length : Int) then ((spec_l1Read.f k (rdOf ByteArray.empty t356 2)).bind fun bt366 => (if 3 < (t356.length : Int) then ((spec_l1Read.f k (rdOf ByteArray.empty t356 3)).bind fun bt369 => (if 1 < (a0.size : Int) then ((spec_l17Place.f k (⟨#[87, 82, 83, 72, 84]⟩ : ByteArray) (bt a0 1)).bind fun t371 => (if 0 < (a0.size : Int) then ((spec_l17Place.f k (⟨#[89, 79, 82]⟩ : ByteArray) (bt a0 0)).bind fun t372 => (if bt360.2 = true then (if bt363.2 = true then (if bt366.2 = true then (if bt369.2 = true then ((spec_l14Good.f bt369.1 t371 t372 bt360.1 bt363.1 bt366.1).bind fun t374 => (if t374 = true then ((spec_l17Code.f k bt369.1 t371 t372 bt360.1 bt363.1 bt366.1).bind fun t375 => (if t375.toList = a0.toList then (some (bt369.1, t371, t372, bt360.1, bt363.1, bt366.1, true)) else (some (0, 0, 0, 0, 0, 0, false)))) else (some (0, 0, 0, 0, 0, 0, false)))) else (some (0, 0, 0, 0, 0, 0, false))) else (some (0, 0, 0, 0, 0, 0, false))) else (some (0, 0, 0, 0, 0, 0, false))) else (some (0, 0, 0, 0, 0, 0, false)))) else (none))) else (none))) else (none))) else (none))) else (none))) else (none)) else (some (0, 0, 0, 0, 0, 0, false)))) else (none)) else (some (0, 0, 0, 0, 0, 0, false)))
theorem spec_ParseCode.mono : ∀ a0 k, LeO (spec_ParseCode.f k a0) (spec_ParseCode.f (k + 1) a0) := by
 intro a0 k
 unfold spec_ParseCode.f
 repeat' first
  | (with_reducible exact spec_l17Code.mono _ _ _ _ _ _ _)
  | (with_reducible exact spec_l17Place.mono _ _ _)
  | (with_reducible exact spec_l1Read.mono _ _)
  | (with_reducible exact spec_l1Split.mono _ _ _)
  | (with_reducible exact LeO.refl _)
  | (with_reducible exact LeO.none _)
  | (with_reducible refine LeO.ite ?_ ?_)
  | (with_reducible refine LeO.bind ?_ (fun _ => ?_))
  | exact spec_l17Code.mono _ _ _ _ _ _ _
  | exact spec_l17Place.mono _ _ _
  | exact spec_l1Read.mono _ _
  | exact spec_l1Split.mono _ _ _
  | exact LeO.none _
  | refine LeO.ite ?_ ?_
  | refine LeO.bind ?_ (fun _ => ?_)
def spec_ParseCode.T11 : Bool × List (List Nat × List Nat) := (true, [([], []), ([], []), ([1], [1]), ([2], [2]), ([], []), ([4], [4]), ([5, 3], [5]), ([], []), ([], []), ([], []), ([0, 3, 6, 7, 8, 9], [0, 3, 6, 7, 8, 9]), ([], []), ([11, 10, 6, 0, 1, 2, 3, 4, 5, 6, 7, 8, 9, 10, 11], [10, 11])])
def spec_ParseCode.B11 : List Nat := [0, 0, 2, 6, 0, 16, 62, 0, 0, 0, 1023, 0, 4095]
theorem spec_ParseCode.tab11 : rtab .any (opsOf Tryz.f15 11) = spec_ParseCode.T11 := by kernel_rfl
theorem spec_ParseCode.bits11 : waitsOk spec_ParseCode.T11.2 spec_ParseCode.B11 = true := by kernel_rfl
set_option maxHeartbeats 8000000 in
set_option maxRecDepth 100000 in
theorem spec_ParseCode.calls (k : Nat) (a0 : ByteArray) (r1 : Int) (r2 : Int) (r3 : Int) (r4 : Int) (r5 : Int) (r6 : Int) (r7 : Bool) (w : World) (h : spec_ParseCode.f k a0 = some (r1, r2, r3, r4, r5, r6, r7)) :
 Calls Tryz.prog 15 #[.string a0] w fun e w' => e = .returned (.tuple #[.agg #[.int .i64 r1, .int .i64 r2, .int .i64 r3, .int .i64 r4, .int .i64 r5, .int .i64 r6], .bool r7]) ∧ Below w.heap.size w w' := by
 have hu25 := Tryz.underlying25
 have HB := Aside0.mk (Below.refl w.heap.size w)
 have H : ((spec_l1In.f (a0.size : Int) 9 20).bind fun t355 => (if t355 = true then (if 2 ≤ (a0.size : Int) then ((spec_l1Split.f k (a0.extract 2 a0.size) 46).bind fun t356 => (if (t356.length : Int) = 4 then (if 0 < (t356.length : Int) then ((spec_l1Read.f k (rdOf ByteArray.empty t356 0)).bind fun bt360 => (if 1 < (t356.length : Int) then ((spec_l1Read.f k (rdOf ByteArray.empty t356 1)).bind fun bt363 => (if 2 < (t356.length : Int) then ((spec_l1Read.f k (rdOf ByteArray.empty t356 2)).bind fun bt366 => (if 3 < (t356.length : Int) then ((spec_l1Read.f k (rdOf ByteArray.empty t356 3)).bind fun bt369 => (if 1 < (a0.size : Int) then ((spec_l17Place.f k (⟨#[87, 82, 83, 72, 84]⟩ : ByteArray) (bt a0 1)).bind fun t371 => (if 0 < (a0.size : Int) then ((spec_l17Place.f k (⟨#[89, 79, 82]⟩ : ByteArray) (bt a0 0)).bind fun t372 => (if bt360.2 = true then (if bt363.2 = true then (if bt366.2 = true then (if bt369.2 = true then ((spec_l14Good.f bt369.1 t371 t372 bt360.1 bt363.1 bt366.1).bind fun t374 => (if t374 = true then ((spec_l17Code.f k bt369.1 t371 t372 bt360.1 bt363.1 bt366.1).bind fun t375 => (if t375.toList = a0.toList then (some (bt369.1, t371, t372, bt360.1, bt363.1, bt366.1, true)) else (some (0, 0, 0, 0, 0, 0, false)))) else (some (0, 0, 0, 0, 0, 0, false)))) else (some (0, 0, 0, 0, 0, 0, false))) else (some (0, 0, 0, 0, 0, 0, false))) else (some (0, 0, 0, 0, 0, 0, false))) else (some (0, 0, 0, 0, 0, 0, false)))) else (none))) else (none))) else (none))) else (none))) else (none))) else (none)) else (some (0, 0, 0, 0, 0, 0, false)))) else (none)) else (some (0, 0, 0, 0, 0, 0, false)))) = some (r1, r2, r3, r4, r5, r6, r7) := h
 clear h
 replace H := Option.bind_eq_some_iff.mp H
 obtain ⟨t355, A20, H⟩ := H
 replace H : (if t355 = true then (if 2 ≤ (a0.size : Int) then ((spec_l1Split.f k (a0.extract 2 a0.size) 46).bind fun t356 => (if (t356.length : Int) = 4 then (if 0 < (t356.length : Int) then ((spec_l1Read.f k (rdOf ByteArray.empty t356 0)).bind fun bt360 => (if 1 < (t356.length : Int) then ((spec_l1Read.f k (rdOf ByteArray.empty t356 1)).bind fun bt363 => (if 2 < (t356.length : Int) then ((spec_l1Read.f k (rdOf ByteArray.empty t356 2)).bind fun bt366 => (if 3 < (t356.length : Int) then ((spec_l1Read.f k (rdOf ByteArray.empty t356 3)).bind fun bt369 => (if 1 < (a0.size : Int) then ((spec_l17Place.f k (⟨#[87, 82, 83, 72, 84]⟩ : ByteArray) (bt a0 1)).bind fun t371 => (if 0 < (a0.size : Int) then ((spec_l17Place.f k (⟨#[89, 79, 82]⟩ : ByteArray) (bt a0 0)).bind fun t372 => (if bt360.2 = true then (if bt363.2 = true then (if bt366.2 = true then (if bt369.2 = true then ((spec_l14Good.f bt369.1 t371 t372 bt360.1 bt363.1 bt366.1).bind fun t374 => (if t374 = true then ((spec_l17Code.f k bt369.1 t371 t372 bt360.1 bt363.1 bt366.1).bind fun t375 => (if t375.toList = a0.toList then (some (bt369.1, t371, t372, bt360.1, bt363.1, bt366.1, true)) else (some (0, 0, 0, 0, 0, 0, false)))) else (some (0, 0, 0, 0, 0, 0, false)))) else (some (0, 0, 0, 0, 0, 0, false))) else (some (0, 0, 0, 0, 0, 0, false))) else (some (0, 0, 0, 0, 0, 0, false))) else (some (0, 0, 0, 0, 0, 0, false)))) else (none))) else (none))) else (none))) else (none))) else (none))) else (none)) else (some (0, 0, 0, 0, 0, 0, false)))) else (none)) else (some (0, 0, 0, 0, 0, 0, false))) = some (r1, r2, r3, r4, r5, r6, r7) := H
 have A2 := Aside0.mk A20
 clear A20
 by_cases c3 : t355 = true
 ·subst c3
  rw [if_pos rfl] at H
  by_cases c4 : 2 ≤ (a0.size : Int)
  ·rw [if_pos c4] at H
   have c4b0 := eq_true c4
   have c4b1 : decide (2 ≤ (a0.size : Int)) = true := decide_eq_true c4
   clear c4
   replace H := Option.bind_eq_some_iff.mp H
   obtain ⟨t356, A50, H⟩ := H
   replace H : (if (t356.length : Int) = 4 then (if 0 < (t356.length : Int) then ((spec_l1Read.f k (rdOf ByteArray.empty t356 0)).bind fun bt360 => (if 1 < (t356.length : Int) then ((spec_l1Read.f k (rdOf ByteArray.empty t356 1)).bind fun bt363 => (if 2 < (t356.length : Int) then ((spec_l1Read.f k (rdOf ByteArray.empty t356 2)).bind fun bt366 => (if 3 < (t356.length : Int) then ((spec_l1Read.f k (rdOf ByteArray.empty t356 3)).bind fun bt369 => (if 1 < (a0.size : Int) then ((spec_l17Place.f k (⟨#[87, 82, 83, 72, 84]⟩ : ByteArray) (bt a0 1)).bind fun t371 => (if 0 < (a0.size : Int) then ((spec_l17Place.f k (⟨#[89, 79, 82]⟩ : ByteArray) (bt a0 0)).bind fun t372 => (if bt360.2 = true then (if bt363.2 = true then (if bt366.2 = true then (if bt369.2 = true then ((spec_l14Good.f bt369.1 t371 t372 bt360.1 bt363.1 bt366.1).bind fun t374 => (if t374 = true then ((spec_l17Code.f k bt369.1 t371 t372 bt360.1 bt363.1 bt366.1).bind fun t375 => (if t375.toList = a0.toList then (some (bt369.1, t371, t372, bt360.1, bt363.1, bt366.1, true)) else (some (0, 0, 0, 0, 0, 0, false)))) else (some (0, 0, 0, 0, 0, 0, false)))) else (some (0, 0, 0, 0, 0, 0, false))) else (some (0, 0, 0, 0, 0, 0, false))) else (some (0, 0, 0, 0, 0, 0, false))) else (some (0, 0, 0, 0, 0, 0, false)))) else (none))) else (none))) else (none))) else (none))) else (none))) else (none)) else (some (0, 0, 0, 0, 0, 0, false))) = some (r1, r2, r3, r4, r5, r6, r7) := H
   have A5 := Aside0.mk A50
   clear A50
   by_cases c6 : (t356.length : Int) = 4
   ·rw [if_pos c6] at H
    have c6b0 : ((t356.length : Int) == 4) = true := beq_iff_eq.mpr c6
    have c6b1 : ((t356.length : Int) != 4) = false := bne_eq_false_iff_eq.mpr c6
    clear c6
    by_cases c7 : 0 < (t356.length : Int)
    ·rw [if_pos c7] at H
     have c7b0 : decide (0 < (t356.length : Int)) = true := decide_eq_true c7
     have c7b1 : decide (0 < t356.length) = true := decide_eq_true (by omega)
     clear c7
     replace H := Option.bind_eq_some_iff.mp H
     obtain ⟨⟨t360, t361⟩, A80, H⟩ := H
     replace H : (if 1 < (t356.length : Int) then ((spec_l1Read.f k (rdOf ByteArray.empty t356 1)).bind fun bt363 => (if 2 < (t356.length : Int) then ((spec_l1Read.f k (rdOf ByteArray.empty t356 2)).bind fun bt366 => (if 3 < (t356.length : Int) then ((spec_l1Read.f k (rdOf ByteArray.empty t356 3)).bind fun bt369 => (if 1 < (a0.size : Int) then ((spec_l17Place.f k (⟨#[87, 82, 83, 72, 84]⟩ : ByteArray) (bt a0 1)).bind fun t371 => (if 0 < (a0.size : Int) then ((spec_l17Place.f k (⟨#[89, 79, 82]⟩ : ByteArray) (bt a0 0)).bind fun t372 => (if t361 = true then (if bt363.2 = true then (if bt366.2 = true then (if bt369.2 = true then ((spec_l14Good.f bt369.1 t371 t372 t360 bt363.1 bt366.1).bind fun t374 => (if t374 = true then ((spec_l17Code.f k bt369.1 t371 t372 t360 bt363.1 bt366.1).bind fun t375 => (if t375.toList = a0.toList then (some (bt369.1, t371, t372, t360, bt363.1, bt366.1, true)) else (some (0, 0, 0, 0, 0, 0, false)))) else (some (0, 0, 0, 0, 0, 0, false)))) else (some (0, 0, 0, 0, 0, 0, false))) else (some (0, 0, 0, 0, 0, 0, false))) else (some (0, 0, 0, 0, 0, 0, false))) else (some (0, 0, 0, 0, 0, 0, false)))) else (none))) else (none))) else (none))) else (none))) else (none)) = some (r1, r2, r3, r4, r5, r6, r7) := H
     have A8 := Aside0.mk A80
     clear A80
     by_cases c9 : 1 < (t356.length : Int)
     ·rw [if_pos c9] at H
      have c9b0 : decide (1 < (t356.length : Int)) = true := decide_eq_true c9
      have c9b1 : decide (1 < t356.length) = true := decide_eq_true (by omega)
      clear c9
      replace H := Option.bind_eq_some_iff.mp H
      obtain ⟨⟨t363, t364⟩, A100, H⟩ := H
      replace H : (if 2 < (t356.length : Int) then ((spec_l1Read.f k (rdOf ByteArray.empty t356 2)).bind fun bt366 => (if 3 < (t356.length : Int) then ((spec_l1Read.f k (rdOf ByteArray.empty t356 3)).bind fun bt369 => (if 1 < (a0.size : Int) then ((spec_l17Place.f k (⟨#[87, 82, 83, 72, 84]⟩ : ByteArray) (bt a0 1)).bind fun t371 => (if 0 < (a0.size : Int) then ((spec_l17Place.f k (⟨#[89, 79, 82]⟩ : ByteArray) (bt a0 0)).bind fun t372 => (if t361 = true then (if t364 = true then (if bt366.2 = true then (if bt369.2 = true then ((spec_l14Good.f bt369.1 t371 t372 t360 t363 bt366.1).bind fun t374 => (if t374 = true then ((spec_l17Code.f k bt369.1 t371 t372 t360 t363 bt366.1).bind fun t375 => (if t375.toList = a0.toList then (some (bt369.1, t371, t372, t360, t363, bt366.1, true)) else (some (0, 0, 0, 0, 0, 0, false)))) else (some (0, 0, 0, 0, 0, 0, false)))) else (some (0, 0, 0, 0, 0, 0, false))) else (some (0, 0, 0, 0, 0, 0, false))) else (some (0, 0, 0, 0, 0, 0, false))) else (some (0, 0, 0, 0, 0, 0, false)))) else (none))) else (none))) else (none))) else (none)) = some (r1, r2, r3, r4, r5, r6, r7) := H
      have A10 := Aside0.mk A100
      clear A100
      by_cases c11 : 2 < (t356.length : Int)
      ·rw [if_pos c11] at H
       have c11b0 : decide (2 < (t356.length : Int)) = true := decide_eq_true c11
       have c11b1 : decide (2 < t356.length) = true := decide_eq_true (by omega)
       clear c11
       replace H := Option.bind_eq_some_iff.mp H
       obtain ⟨⟨t366, t367⟩, A120, H⟩ := H
       replace H : (if 3 < (t356.length : Int) then ((spec_l1Read.f k (rdOf ByteArray.empty t356 3)).bind fun bt369 => (if 1 < (a0.size : Int) then ((spec_l17Place.f k (⟨#[87, 82, 83, 72, 84]⟩ : ByteArray) (bt a0 1)).bind fun t371 => (if 0 < (a0.size : Int) then ((spec_l17Place.f k (⟨#[89, 79, 82]⟩ : ByteArray) (bt a0 0)).bind fun t372 => (if t361 = true then (if t364 = true then (if t367 = true then (if bt369.2 = true then ((spec_l14Good.f bt369.1 t371 t372 t360 t363 t366).bind fun t374 => (if t374 = true then ((spec_l17Code.f k bt369.1 t371 t372 t360 t363 t366).bind fun t375 => (if t375.toList = a0.toList then (some (bt369.1, t371, t372, t360, t363, t366, true)) else (some (0, 0, 0, 0, 0, 0, false)))) else (some (0, 0, 0, 0, 0, 0, false)))) else (some (0, 0, 0, 0, 0, 0, false))) else (some (0, 0, 0, 0, 0, 0, false))) else (some (0, 0, 0, 0, 0, 0, false))) else (some (0, 0, 0, 0, 0, 0, false)))) else (none))) else (none))) else (none)) = some (r1, r2, r3, r4, r5, r6, r7) := H
       have A12 := Aside0.mk A120
       clear A120
       by_cases c13 : 3 < (t356.length : Int)
       ·rw [if_pos c13] at H
        have c13b0 : decide (3 < (t356.length : Int)) = true := decide_eq_true c13
        have c13b1 : decide (3 < t356.length) = true := decide_eq_true (by omega)
        clear c13
        replace H := Option.bind_eq_some_iff.mp H
        obtain ⟨⟨t369, t370⟩, A140, H⟩ := H
        replace H : (if 1 < (a0.size : Int) then ((spec_l17Place.f k (⟨#[87, 82, 83, 72, 84]⟩ : ByteArray) (bt a0 1)).bind fun t371 => (if 0 < (a0.size : Int) then ((spec_l17Place.f k (⟨#[89, 79, 82]⟩ : ByteArray) (bt a0 0)).bind fun t372 => (if t361 = true then (if t364 = true then (if t367 = true then (if t370 = true then ((spec_l14Good.f t369 t371 t372 t360 t363 t366).bind fun t374 => (if t374 = true then ((spec_l17Code.f k t369 t371 t372 t360 t363 t366).bind fun t375 => (if t375.toList = a0.toList then (some (t369, t371, t372, t360, t363, t366, true)) else (some (0, 0, 0, 0, 0, 0, false)))) else (some (0, 0, 0, 0, 0, 0, false)))) else (some (0, 0, 0, 0, 0, 0, false))) else (some (0, 0, 0, 0, 0, 0, false))) else (some (0, 0, 0, 0, 0, 0, false))) else (some (0, 0, 0, 0, 0, 0, false)))) else (none))) else (none)) = some (r1, r2, r3, r4, r5, r6, r7) := H
        have A14 := Aside0.mk A140
        clear A140
        by_cases c15 : 1 < (a0.size : Int)
        ·rw [if_pos c15] at H
         have c15b0 : decide (1 < (a0.size : Int)) = true := decide_eq_true c15
         have c15b1 : decide (1 < a0.size) = true := decide_eq_true (by omega)
         clear c15
         replace H := Option.bind_eq_some_iff.mp H
         obtain ⟨t371, A170, H⟩ := H
         replace H : (if 0 < (a0.size : Int) then ((spec_l17Place.f k (⟨#[89, 79, 82]⟩ : ByteArray) (bt a0 0)).bind fun t372 => (if t361 = true then (if t364 = true then (if t367 = true then (if t370 = true then ((spec_l14Good.f t369 t371 t372 t360 t363 t366).bind fun t374 => (if t374 = true then ((spec_l17Code.f k t369 t371 t372 t360 t363 t366).bind fun t375 => (if t375.toList = a0.toList then (some (t369, t371, t372, t360, t363, t366, true)) else (some (0, 0, 0, 0, 0, 0, false)))) else (some (0, 0, 0, 0, 0, 0, false)))) else (some (0, 0, 0, 0, 0, 0, false))) else (some (0, 0, 0, 0, 0, 0, false))) else (some (0, 0, 0, 0, 0, 0, false))) else (some (0, 0, 0, 0, 0, 0, false)))) else (none)) = some (r1, r2, r3, r4, r5, r6, r7) := H
         have A17 := Aside0.mk A170
         clear A170
         by_cases c18 : 0 < (a0.size : Int)
         ·rw [if_pos c18] at H
          have c18b0 : decide (0 < (a0.size : Int)) = true := decide_eq_true c18
          have c18b1 : decide (0 < a0.size) = true := decide_eq_true (by omega)
          clear c18
          replace H := Option.bind_eq_some_iff.mp H
          obtain ⟨t372, A200, H⟩ := H
          replace H : (if t361 = true then (if t364 = true then (if t367 = true then (if t370 = true then ((spec_l14Good.f t369 t371 t372 t360 t363 t366).bind fun t374 => (if t374 = true then ((spec_l17Code.f k t369 t371 t372 t360 t363 t366).bind fun t375 => (if t375.toList = a0.toList then (some (t369, t371, t372, t360, t363, t366, true)) else (some (0, 0, 0, 0, 0, 0, false)))) else (some (0, 0, 0, 0, 0, 0, false)))) else (some (0, 0, 0, 0, 0, 0, false))) else (some (0, 0, 0, 0, 0, 0, false))) else (some (0, 0, 0, 0, 0, 0, false))) else (some (0, 0, 0, 0, 0, 0, false))) = some (r1, r2, r3, r4, r5, r6, r7) := H
          have A20 := Aside0.mk A200
          clear A200
          have HH_ := Aside0.mk H
          clear H
          go_enter Tryz.func15, Tryz.ntmps15
          try go_wp2_with (first | ((with_reducible refine gate_dst (N := 2) rfl ?_); refine box_event ?hg (N := 2) ?hd (cs := #[.int .i64 0, .int .i64 0, .int .i64 0, .int .i64 0, .int .i64 0, .int .i64 0]) (t := 25) ?hr ?_; (case hd => rfl); (case hg => rfl); (case hr => exact zsx); intro gb353 hg w29 hbox hb; have BK353 := Aside0.mk (hbox); have GW353 := zns hg HB.out; have GE353 := zns hg HB.out; replace HB := Aside0.mk (below_step (zBx HB.out) hb); clear hb hbox hg) | ((with_reducible refine gate_dst (N := 4) rfl ?_); refine box_event ?hg (N := 4) ?hd (cs := #[.int .i64 0, .int .i64 0, .int .i64 0, .int .i64 0, .int .i64 0, .int .i64 0]) (t := 25) ?hr ?_; (case hd => rfl); (case hg => rfl); (case hr => exact zsx); intro gb354 hg w30 hbox hb; have BK354 := Aside0.mk (hbox); have GW354 := zns hg HB.out; have GE354 := zns hg HB.out; replace HB := Aside0.mk (below_step (zBy HB.out GE353.out) hb); have NB353_354 := znl hg BK353.out; have NB354_353 := zng hg BK353.out; replace BK353 := zbl BK353.out hb; clear hb hbox hg; have hnb31 := NB354_353.out; have hnc31 := NB353_354.out; have hcz32_0 : w30.cell? ⟨gb354, 0, none⟩ = some (.int .i64 0) := (blk_cell BK354.out 0).trans rfl; have hcz32_1 : w30.cell? ⟨gb354, 1, none⟩ = some (.int .i64 0) := (blk_cell BK354.out 1).trans rfl; have hcz32_2 : w30.cell? ⟨gb354, 2, none⟩ = some (.int .i64 0) := (blk_cell BK354.out 2).trans rfl; have hcz32_3 : w30.cell? ⟨gb354, 3, none⟩ = some (.int .i64 0) := (blk_cell BK354.out 3).trans rfl; have hcz32_4 : w30.cell? ⟨gb354, 4, none⟩ = some (.int .i64 0) := (blk_cell BK354.out 4).trans rfl; have hcz32_5 : w30.cell? ⟨gb354, 5, none⟩ = some (.int .i64 0) := (blk_cell BK354.out 5).trans rfl; have hfz32_0 := blk_frozen BK354.out 0; have hfz32_1 := blk_frozen BK354.out 1; have hfz32_2 := blk_frozen BK354.out 2; have hfz32_3 := blk_frozen BK354.out 3; have hfz32_4 := blk_frozen BK354.out 4; have hfz32_5 := blk_frozen BK354.out 5) | ((with_reducible refine gate_callee (f := 53) rfl ?_); refine goesL_ (some 18) rfl rfl Tryz.func53 (by kernel_rfl) rfl #[.int .i64 (a0.size : Int), .int .i64 9, .int .i64 20] rfl zlx ?_; (with_reducible refine (spec_l1In.calls (a0.size : Int) 9 20 true _ A2.out).mono ?_); rintro e w' ⟨rfl, ⟨nd, rfl⟩⟩; refine ⟨_, rfl, ?_⟩) | ((with_reducible refine gate_callee (f := 54) rfl ?_); refine goesL_ (some 23) rfl rfl Tryz.func54 (by kernel_rfl) rfl #[.string (a0.extract 2 a0.size), .int .u8 46] rfl zlx ?_; (with_reducible refine (spec_l1Split.calls k (a0.extract 2 a0.size) 46 t356 _ A5.out).mono ?_); rintro e w33 ⟨v357, rfl, ho0, hb⟩; refine ⟨_, rfl, ?_⟩; have HO358 := Aside0.mk (Kd.R_lower ho0 (below_size (zBz HB.out GE353.out GE354.out))); replace BK353 := zbl BK353.out hb; replace BK354 := Aside0.mk (blk_below (g := gb354) (o := .cells #[.int .i64 0, .int .i64 0, .int .i64 0, .int .i64 0, .int .i64 0, .int .i64 0] 25 (0, 0)) (zbp BK354.out) hb); replace HB := Aside0.mk (below_step (zBz HB.out GE353.out GE354.out) hb); (try clear hb); (try clear ho0); obtain ⟨Ao34, co34, eo34⟩ := Kd.R_slice HO358.out; subst eo34; have p359 : 0 ≤ (0 : Int) := (by omega); have q359 : 0 < (t356.length : Int) := of_decide_eq_true zax; obtain ⟨ad359, e359, hx359_0⟩ := Kd.at_string (Kd.R_reads' HO358.out).2.2 0 p359 q359; cases e359; have qi359 : (0 < t356.length) = True := eq_true (by omega); (try rw [show ((0 : Int)).toNat = 0 from rfl] at hx359_0); (try rw [Addr.add_zero'] at hx359_0); replace p359 := eq_true p359; replace q359 := eq_true q359) | ((with_reducible refine gate_callee (f := 55) rfl ?_); refine goesL_ (some 32) rfl rfl Tryz.func55 (by kernel_rfl) rfl #[.string (rdOf ByteArray.empty t356 0)] rfl zlx ?_; (with_reducible refine (spec_l1Read.calls k (rdOf ByteArray.empty t356 0) t360 t361 _ A8.out).mono ?_); rintro e w35 ⟨rfl, hb⟩; refine ⟨_, rfl, ?_⟩; replace HO358 := Aside0.mk (Kd.R_below (zRx HO358.out) hb); replace BK353 := zbl BK353.out hb; replace BK354 := zbl BK354.out hb; replace HB := Aside0.mk (below_step (zBz HB.out GE353.out GE354.out) hb); (try clear hb); have p362 : 0 ≤ (1 : Int) := (by omega); have q362 : 1 < (t356.length : Int) := of_decide_eq_true zax; obtain ⟨ad362, e362, hx362_0⟩ := Kd.at_string (Kd.R_reads' HO358.out).2.2 1 p362 q362; obtain rfl : ad359 = ad362 := (by injection e362); (try simp only [show (1 : Int).toNat = 1 from rfl, Nat.reduceMul, Nat.reduceEqDiff, Go.Addr.add, ↓reduceIte] at hx362_0); have qi362 : (1 < t356.length) = True := eq_true (by omega); (try rw [show ((1 : Int)).toNat = 1 from rfl] at hx362_0); replace p362 := eq_true p362; replace q362 := eq_true q362) | ((with_reducible refine gate_callee (f := 55) rfl ?_); refine goesL_ (some 39) rfl rfl Tryz.func55 (by kernel_rfl) rfl #[.string (rdOf ByteArray.empty t356 1)] rfl zlx ?_; (with_reducible refine (spec_l1Read.calls k (rdOf ByteArray.empty t356 1) t363 t364 _ A10.out).mono ?_); rintro e w36 ⟨rfl, hb⟩; refine ⟨_, rfl, ?_⟩; replace HO358 := Aside0.mk (Kd.R_below (zRx HO358.out) hb); replace BK353 := zbl BK353.out hb; replace BK354 := zbl BK354.out hb; replace HB := Aside0.mk (below_step (zBz HB.out GE353.out GE354.out) hb); (try clear hb); have p365 : 0 ≤ (2 : Int) := (by omega); have q365 : 2 < (t356.length : Int) := of_decide_eq_true zax; obtain ⟨ad365, e365, hx365_0⟩ := Kd.at_string (Kd.R_reads' HO358.out).2.2 2 p365 q365; obtain rfl : ad359 = ad365 := (by injection e365); (try simp only [show (2 : Int).toNat = 2 from rfl, Nat.reduceMul, Nat.reduceEqDiff, Go.Addr.add, ↓reduceIte] at hx365_0); have qi365 : (2 < t356.length) = True := eq_true (by omega); (try rw [show ((2 : Int)).toNat = 2 from rfl] at hx365_0); replace p365 := eq_true p365; replace q365 := eq_true q365) | ((with_reducible refine gate_callee (f := 55) rfl ?_); refine goesL_ (some 46) rfl rfl Tryz.func55 (by kernel_rfl) rfl #[.string (rdOf ByteArray.empty t356 2)] rfl zlx ?_; (with_reducible refine (spec_l1Read.calls k (rdOf ByteArray.empty t356 2) t366 t367 _ A12.out).mono ?_); rintro e w37 ⟨rfl, hb⟩; refine ⟨_, rfl, ?_⟩; replace HO358 := Aside0.mk (Kd.R_below (zRx HO358.out) hb); replace BK353 := zbl BK353.out hb; replace BK354 := zbl BK354.out hb; replace HB := Aside0.mk (below_step (zBz HB.out GE353.out GE354.out) hb); (try clear hb); have p368 : 0 ≤ (3 : Int) := (by omega); have q368 : 3 < (t356.length : Int) := of_decide_eq_true zax; obtain ⟨ad368, e368, hx368_0⟩ := Kd.at_string (Kd.R_reads' HO358.out).2.2 3 p368 q368; obtain rfl : ad359 = ad368 := (by injection e368); (try simp only [show (3 : Int).toNat = 3 from rfl, Nat.reduceMul, Nat.reduceEqDiff, Go.Addr.add, ↓reduceIte] at hx368_0); have qi368 : (3 < t356.length) = True := eq_true (by omega); (try rw [show ((3 : Int)).toNat = 3 from rfl] at hx368_0); replace p368 := eq_true p368; replace q368 := eq_true q368) | ((with_reducible refine gate_callee (f := 55) rfl ?_); refine goesL_ (some 53) rfl rfl Tryz.func55 (by kernel_rfl) rfl #[.string (rdOf ByteArray.empty t356 3)] rfl zlx ?_; (with_reducible refine (spec_l1Read.calls k (rdOf ByteArray.empty t356 3) t369 t370 _ A14.out).mono ?_); rintro e w38 ⟨rfl, hb⟩; refine ⟨_, rfl, ?_⟩; replace HO358 := Aside0.mk (Kd.R_below (zRx HO358.out) hb); replace BK353 := zbl BK353.out hb; replace BK354 := zbl BK354.out hb; replace HB := Aside0.mk (below_step (zBz HB.out GE353.out GE354.out) hb); (try clear hb)))
          replace HO358 := Aside0.mk (Kd.R_drew HO358.out)
          replace BK353 := Aside0.mk (blk_drew BK353.out)
          replace BK354 := Aside0.mk (blk_drew BK354.out)
          replace HB := Aside0.mk (below_drew1 HB.out)
          have p16 : 0 ≤ (1 : Int) := (by omega)
          have q16 : 1 < a0.size := (by have : (1 : Int) < (a0.size : Int) := of_decide_eq_true zax; omega)
          have hx16 : ∀ h : 1 < a0.size, ((a0[1]'h).toNat : Int) = bt a0 1 := bt_at a0 1
          clear p16
          have qi16 : (1 < (a0.size : Int)) = True := eq_true (of_decide_eq_true zax)
          replace q16 := eq_true q16
          have p19 : 0 ≤ (0 : Int) := (by omega)
          have q19 : 0 < a0.size := (by have : (0 : Int) < (a0.size : Int) := of_decide_eq_true zax; omega)
          have hx19 : ∀ h : 0 < a0.size, ((a0[0]'h).toNat : Int) = bt a0 0 := bt_at a0 0
          clear p19
          have qi19 : (0 < (a0.size : Int)) = True := eq_true (of_decide_eq_true zax)
          replace q19 := eq_true q19
          refine start_ (n := 13) (S := fun w' => True) (ds := []) #[F,F,F,F,F,F,F,F,F,F,F,F,F] (by kernel_rfl) rfl rfl trivial (fun hHeld => ?_); refine with_tabW spec_ParseCode.tab11 spec_ParseCode.bits11 (fun HT_ HW_ => ?_)
          generalize w38.drew = w39 at HO358 BK353 BK354 HB hHeld ⊢
          refine pure_ (i := 0) (N := some 56) (v := ?_) (a' := ?_) #[T,F,F,F,F,F,F,F,F,F,F,F,F] rfl rfl (any_of HT_.out (by kernel_rfl)) (fun _ _ _ h => h) (Or.inl ⟨by rfl, ?_⟩) ?_ ?_
          rotate_left
          ·exact zwx
          rotate_left
          ·exact zpx
          refine pure_ (i := 1) (N := some 57) (v := ?_) (a' := ?_) #[T,T,F,F,F,F,F,F,F,F,F,F,F] rfl rfl (any_of HT_.out (by kernel_rfl)) (fun _ _ _ h => h) (Or.inl ⟨by rfl, ?_⟩) ?_ ?_
          rotate_left
          ·exact zwx
          rotate_left
          ·exact zpx
          refine pure_ (i := 4) (N := some 60) (v := ?_) (a' := ?_) #[T,T,F,F,T,F,F,F,F,F,F,F,F] rfl rfl (any_of HT_.out (by kernel_rfl)) (fun _ _ _ h => h) (Or.inl ⟨by rfl, ?_⟩) ?_ ?_
          rotate_left
          ·exact zwx
          rotate_left
          ·exact zpx
          refine pure_ (i := 7) (N := some 63) (v := ?_) (a' := ?_) #[T,T,F,F,T,F,F,T,F,F,F,F,F] rfl rfl (any_of HT_.out (by kernel_rfl)) (fun _ _ _ h => h) (Or.inl ⟨by rfl, ?_⟩) ?_ ?_
          rotate_left
          ·exact zwx
          rotate_left
          ·exact zpx
          refine pure_ (i := 8) (N := some 64) (v := ?_) (a' := ?_) #[T,T,F,F,T,F,F,T,T,F,F,F,F] rfl rfl (any_of HT_.out (by kernel_rfl)) (fun _ _ _ h => h) (Or.inl ⟨by rfl, ?_⟩) ?_ ?_
          rotate_left
          ·exact zwx
          rotate_left
          ·exact zpx
          refine pure_ (i := 9) (N := some 65) (v := ?_) (a' := ?_) #[T,T,F,F,T,F,F,T,T,T,F,F,F] rfl rfl (any_of HT_.out (by kernel_rfl)) (fun _ _ _ h => h) (Or.inl ⟨by rfl, ?_⟩) ?_ ?_
          rotate_left
          ·exact zwx
          rotate_left
          ·exact zpx
          refine take_ (i := 2) (N := some 58) (v := ?_) (a' := ?_) #[T,T,T,F,T,F,F,T,T,T,F,F,F] rfl rfl (take_ofW HT_.out HW_.out (by kernel_rfl)) (fun _ _ _ h => h) (Or.inl ⟨by rfl, ?_⟩) hHeld ?_ ?_
          rotate_left
          ·intro w' _
           go_simp
           with_reducible rfl
          rotate_left
          ·exact zpx
          refine take_ (i := 5) (N := some 61) (v := ?_) (a' := ?_) #[T,T,T,F,T,T,F,T,T,T,F,F,F] rfl rfl (take_ofW HT_.out HW_.out (by kernel_rfl)) (fun _ _ _ h => h) (Or.inl ⟨by rfl, ?_⟩) hHeld ?_ ?_
          rotate_left
          ·intro w' _
           go_simp
           with_reducible rfl
          rotate_left
          ·exact zpx
          refine join_ (σ := Nat) 1 #[T,T,T,T,T,T,T,T,T,T,T,T,F] (fun s_ => [(59, .int .i64 t371), (62, .int .i64 t372), (14, .pointer (some ⟨s_, 0, none⟩)), (66, .agg #[.int .i64 t369, .int .i64 t371, .int .i64 t372, .int .i64 t360, .int .i64 t363, .int .i64 t366])]) (fun s_ w' => (Kd.R Kd.string 9 w' w.heap.size (fun _ => True) (.slice (some ad359) t356.length co34) t356) ∧ (w'.heap[gb353]? = some (.cells #[.int .i64 0, .int .i64 0, .int .i64 0, .int .i64 0, .int .i64 0, .int .i64 0] 25 (0, 0))) ∧ (w'.heap[gb354]? = some (.cells #[.int .i64 0, .int .i64 0, .int .i64 0, .int .i64 0, .int .i64 0, .int .i64 0] 25 (0, 0))) ∧ (w'.heap[s_]? = some (.cells #[.int .i64 0, .int .i64 0, .int .i64 0, .int .i64 0, .int .i64 0, .int .i64 0] 25 (0, 0))) ∧ (w.heap.size ≤ s_) ∧ (w.heap.size ≤ s_) ∧ (gb353 ≠ s_) ∧ (s_ ≠ gb353) ∧ (gb354 ≠ s_) ∧ (s_ ≠ gb354) ∧ (Below w.heap.size w w')) ?_ ?_
          rotate_left
          ·intro hCont
           refine two_ (i := 3) (j := 11) (Ni := some 59) (Nj := some 14) #[T,T,T,T,T,T,F,T,T,T,F,F,F] #[T,T,T,F,T,T,F,T,T,T,F,T,F] rfl rfl rfl rfl (two_of HT_.out (by kernel_rfl)) (by decide) (by decide) (fun K hK => ?_) (fun K hK => ?_)
           ·skip
            refine goes_ Tryz.func56 (by kernel_rfl) rfl #[.string (⟨#[87, 82, 83, 72, 84]⟩ : ByteArray), .int .u8 (bt a0 1)] (by rfl) rfl rfl zlx ?_
            with_reducible refine (spec_l17Place.calls k (⟨#[87, 82, 83, 72, 84]⟩ : ByteArray) (bt a0 1) t371 _ A17.out).mono ?_
            rintro e w' ⟨rfl, ⟨nd, rfl⟩⟩
            refine ⟨_, rfl, ?_⟩
            refine hK.out _ _ trivial (fun hHeld => ?_)
            clear hK K
            refine norm_ (a' := ?_) ?_ ?_
            rotate_left
            ·show Act.put _ (some 59) _ = _
             simp only [Act.put, List.setIfInBounds_toArray, List.set_cons_zero, List.set_cons_succ, i64_w, i32_w]
             rfl
            refine two_ (i := 6) (j := 11) (Ni := some 62) (Nj := some 14) #[T,T,T,T,T,T,T,T,T,T,F,F,F] #[T,T,T,T,T,T,F,T,T,T,F,T,F] rfl rfl rfl rfl (two_of HT_.out (by kernel_rfl)) (by decide) (by decide) (fun K hK => ?_) (fun K hK => ?_)
            ·skip
             refine goes_ Tryz.func56 (by kernel_rfl) rfl #[.string (⟨#[89, 79, 82]⟩ : ByteArray), .int .u8 (bt a0 0)] (by rfl) rfl rfl zlx ?_
             with_reducible refine (spec_l17Place.calls k (⟨#[89, 79, 82]⟩ : ByteArray) (bt a0 0) t372 _ A20.out).mono ?_
             rintro e w' ⟨rfl, ⟨nd, rfl⟩⟩
             refine ⟨_, rfl, ?_⟩
             refine hK.out _ _ trivial (fun hHeld => ?_)
             clear hK K
             refine norm_ (a' := ?_) ?_ ?_
             rotate_left
             ·show Act.put _ (some 62) _ = _
              simp only [Act.put, List.setIfInBounds_toArray, List.set_cons_zero, List.set_cons_succ, i64_w, i32_w]
              rfl
             refine pure_ (i := 10) (N := some 66) (v := ?_) (a' := ?_) #[T,T,T,T,T,T,T,T,T,T,T,F,F] rfl rfl (any_of HT_.out (by kernel_rfl)) (fun _ _ _ h => h) (Or.inl ⟨by rfl, ?_⟩) ?_ ?_
             rotate_left
             ·exact zwx
             rotate_left
             ·exact zpx
             refine one_ (i := 11) (N := some 14) #[T,T,T,T,T,T,T,T,T,T,T,T,F] rfl rfl (one_of HT_.out (by kernel_rfl)) (by decide) (fun K hK => ?_)
             refine box_step ?hg (N := 14) ?hd (cs := #[.int .i64 0, .int .i64 0, .int .i64 0, .int .i64 0, .int .i64 0, .int .i64 0]) (t := 25) ?hr ?_; (case hd => rfl); (case hg => rfl); (case hr => exact zsx)
             intro gb373 hg w40 hbox hb
             replace HO358 := Aside0.mk (Kd.R_below (zRx HO358.out) hb)
             have BK373 := Aside0.mk (hbox)
             have GW373 := zns hg HB.out
             have GE373 := zns hg HB.out
             replace HB := Aside0.mk (below_step (zBz HB.out GE353.out GE354.out) hb)
             have NB353_373 := znl hg BK353.out
             have NB373_353 := zng hg BK353.out
             replace BK353 := zbl BK353.out hb
             have NB354_373 := znl hg BK354.out
             have NB373_354 := zng hg BK354.out
             replace BK354 := zbl BK354.out hb
             clear hb hbox hg
             refine hK.out _ _ trivial (fun hHeld => ?_)
             clear hK K
             refine norm_ (a' := ?_) ?_ ?_
             rotate_left
             ·show Act.put _ (some 14) _ = _
              simp only [Act.put, List.setIfInBounds_toArray, List.set_cons_zero, List.set_cons_succ, i64_w, i32_w]
              rfl
             exact norm_ (by simp only [putAll, Act.put, List.setIfInBounds_toArray, List.set_cons_zero, List.set_cons_succ]) (hCont (gb373) _ ⟨(zRx HO358.out), (zbx BK353.out), (zbx BK354.out), (zbx BK373.out), GW373.out, GE373.out, NB353_373.out, NB373_353.out, NB354_373.out, NB373_354.out, (zhB HB.out)⟩)
            ·skip
             refine box_step ?hg (N := 14) ?hd (cs := #[.int .i64 0, .int .i64 0, .int .i64 0, .int .i64 0, .int .i64 0, .int .i64 0]) (t := 25) ?hr ?_; (case hd => rfl); (case hg => rfl); (case hr => exact zsx)
             intro gb373 hg w40 hbox hb
             replace HO358 := Aside0.mk (Kd.R_below (zRx HO358.out) hb)
             have BK373 := Aside0.mk (hbox)
             have GW373 := zns hg HB.out
             have GE373 := zns hg HB.out
             replace HB := Aside0.mk (below_step (zBz HB.out GE353.out GE354.out) hb)
             have NB353_373 := znl hg BK353.out
             have NB373_353 := zng hg BK353.out
             replace BK353 := zbl BK353.out hb
             have NB354_373 := znl hg BK354.out
             have NB373_354 := zng hg BK354.out
             replace BK354 := zbl BK354.out hb
             clear hb hbox hg
             refine hK.out _ _ trivial (fun hHeld => ?_)
             clear hK K
             refine norm_ (a' := ?_) ?_ ?_
             rotate_left
             ·show Act.put _ (some 14) _ = _
              simp only [Act.put, List.setIfInBounds_toArray, List.set_cons_zero, List.set_cons_succ, i64_w, i32_w]
              rfl
             refine one_ (i := 6) (N := some 62) #[T,T,T,T,T,T,T,T,T,T,F,T,F] rfl rfl (one_of HT_.out (by kernel_rfl)) (by decide) (fun K hK => ?_)
             refine goes_ Tryz.func56 (by kernel_rfl) rfl #[.string (⟨#[89, 79, 82]⟩ : ByteArray), .int .u8 (bt a0 0)] (by rfl) rfl rfl zlx ?_
             with_reducible refine (spec_l17Place.calls k (⟨#[89, 79, 82]⟩ : ByteArray) (bt a0 0) t372 _ A20.out).mono ?_
             rintro e w' ⟨rfl, ⟨nd, rfl⟩⟩
             refine ⟨_, rfl, ?_⟩
             refine hK.out _ _ trivial (fun hHeld => ?_)
             clear hK K
             refine norm_ (a' := ?_) ?_ ?_
             rotate_left
             ·show Act.put _ (some 62) _ = _
              simp only [Act.put, List.setIfInBounds_toArray, List.set_cons_zero, List.set_cons_succ, i64_w, i32_w]
              rfl
             refine pure_ (i := 10) (N := some 66) (v := ?_) (a' := ?_) #[T,T,T,T,T,T,T,T,T,T,T,T,F] rfl rfl (any_of HT_.out (by kernel_rfl)) (fun _ _ _ h => h) (Or.inl ⟨by rfl, ?_⟩) ?_ ?_
             rotate_left
             ·exact zwx
             rotate_left
             ·exact zpx
             exact norm_ (by simp only [putAll, Act.put, List.setIfInBounds_toArray, List.set_cons_zero, List.set_cons_succ]) (hCont (gb373) _ ⟨(zRx HO358.out), (zbx BK353.out), (zbx BK354.out), (zbx BK373.out), GW373.out, GE373.out, NB353_373.out, NB373_353.out, NB354_373.out, NB373_354.out, (zhB HB.out)⟩)
           ·skip
            refine box_step ?hg (N := 14) ?hd (cs := #[.int .i64 0, .int .i64 0, .int .i64 0, .int .i64 0, .int .i64 0, .int .i64 0]) (t := 25) ?hr ?_; (case hd => rfl); (case hg => rfl); (case hr => exact zsx)
            intro gb373 hg w40 hbox hb
            replace HO358 := Aside0.mk (Kd.R_below (zRx HO358.out) hb)
            have BK373 := Aside0.mk (hbox)
            have GW373 := zns hg HB.out
            have GE373 := zns hg HB.out
            replace HB := Aside0.mk (below_step (zBz HB.out GE353.out GE354.out) hb)
            have NB353_373 := znl hg BK353.out
            have NB373_353 := zng hg BK353.out
            replace BK353 := zbl BK353.out hb
            have NB354_373 := znl hg BK354.out
            have NB373_354 := zng hg BK354.out
            replace BK354 := zbl BK354.out hb
            clear hb hbox hg
            refine hK.out _ _ trivial (fun hHeld => ?_)
            clear hK K
            refine norm_ (a' := ?_) ?_ ?_
            rotate_left
            ·show Act.put _ (some 14) _ = _
             simp only [Act.put, List.setIfInBounds_toArray, List.set_cons_zero, List.set_cons_succ, i64_w, i32_w]
             rfl
            refine one_ (i := 3) (N := some 59) #[T,T,T,T,T,T,F,T,T,T,F,T,F] rfl rfl (one_of HT_.out (by kernel_rfl)) (by decide) (fun K hK => ?_)
            refine goes_ Tryz.func56 (by kernel_rfl) rfl #[.string (⟨#[87, 82, 83, 72, 84]⟩ : ByteArray), .int .u8 (bt a0 1)] (by rfl) rfl rfl zlx ?_
            with_reducible refine (spec_l17Place.calls k (⟨#[87, 82, 83, 72, 84]⟩ : ByteArray) (bt a0 1) t371 _ A17.out).mono ?_
            rintro e w' ⟨rfl, ⟨nd, rfl⟩⟩
            refine ⟨_, rfl, ?_⟩
            refine hK.out _ _ trivial (fun hHeld => ?_)
            clear hK K
            refine norm_ (a' := ?_) ?_ ?_
            rotate_left
            ·show Act.put _ (some 59) _ = _
             simp only [Act.put, List.setIfInBounds_toArray, List.set_cons_zero, List.set_cons_succ, i64_w, i32_w]
             rfl
            refine one_ (i := 6) (N := some 62) #[T,T,T,T,T,T,T,T,T,T,F,T,F] rfl rfl (one_of HT_.out (by kernel_rfl)) (by decide) (fun K hK => ?_)
            refine goes_ Tryz.func56 (by kernel_rfl) rfl #[.string (⟨#[89, 79, 82]⟩ : ByteArray), .int .u8 (bt a0 0)] (by rfl) rfl rfl zlx ?_
            with_reducible refine (spec_l17Place.calls k (⟨#[89, 79, 82]⟩ : ByteArray) (bt a0 0) t372 _ A20.out).mono ?_
            rintro e w' ⟨rfl, ⟨nd, rfl⟩⟩
            refine ⟨_, rfl, ?_⟩
            refine hK.out _ _ trivial (fun hHeld => ?_)
            clear hK K
            refine norm_ (a' := ?_) ?_ ?_
            rotate_left
            ·show Act.put _ (some 62) _ = _
             simp only [Act.put, List.setIfInBounds_toArray, List.set_cons_zero, List.set_cons_succ, i64_w, i32_w]
             rfl
            refine pure_ (i := 10) (N := some 66) (v := ?_) (a' := ?_) #[T,T,T,T,T,T,T,T,T,T,T,T,F] rfl rfl (any_of HT_.out (by kernel_rfl)) (fun _ _ _ h => h) (Or.inl ⟨by rfl, ?_⟩) ?_ ?_
            rotate_left
            ·exact zwx
            rotate_left
            ·exact zpx
            exact norm_ (by simp only [putAll, Act.put, List.setIfInBounds_toArray, List.set_cons_zero, List.set_cons_succ]) (hCont (gb373) _ ⟨(zRx HO358.out), (zbx BK353.out), (zbx BK354.out), (zbx BK373.out), GW373.out, GE373.out, NB353_373.out, NB373_353.out, NB354_373.out, NB373_354.out, (zhB HB.out)⟩)
          rintro gb373 w41 ⟨h0_, h1_, h2_, h3_, h4_, h5_, h6_, h7_, h8_, h9_, h10_⟩
          replace HO358 : Aside0 (Kd.R Kd.string 9 w41 w.heap.size (fun _ => True) (.slice (some ad359) t356.length co34) t356) := ⟨h0_⟩
          replace BK353 : Aside0 (w41.heap[gb353]? = some (.cells #[.int .i64 0, .int .i64 0, .int .i64 0, .int .i64 0, .int .i64 0, .int .i64 0] 25 (0, 0))) := ⟨h1_⟩
          replace BK354 : Aside0 (w41.heap[gb354]? = some (.cells #[.int .i64 0, .int .i64 0, .int .i64 0, .int .i64 0, .int .i64 0, .int .i64 0] 25 (0, 0))) := ⟨h2_⟩
          have BK373 : Aside0 (w41.heap[gb373]? = some (.cells #[.int .i64 0, .int .i64 0, .int .i64 0, .int .i64 0, .int .i64 0, .int .i64 0] 25 (0, 0))) := ⟨h3_⟩
          have GW373 : Aside0 (w.heap.size ≤ gb373) := ⟨h4_⟩
          have GE373 : Aside0 (w.heap.size ≤ gb373) := ⟨h5_⟩
          have NB353_373 : Aside0 (gb353 ≠ gb373) := ⟨h6_⟩
          have NB373_353 : Aside0 (gb373 ≠ gb353) := ⟨h7_⟩
          have NB354_373 : Aside0 (gb354 ≠ gb373) := ⟨h8_⟩
          have NB373_354 : Aside0 (gb373 ≠ gb354) := ⟨h9_⟩
          replace HB : Aside0 (Below w.heap.size w w41) := ⟨h10_⟩
          clear h0_
          clear h1_
          clear h2_
          clear h3_
          clear h4_
          clear h5_
          clear h6_
          clear h7_
          clear h8_
          clear h9_
          clear h10_
          have hHeld := trivial
          refine norm_ (a' := ?_) ?_ ?_
          rotate_left
          ·simp only [putAll, Act.put, List.setIfInBounds_toArray, List.set_cons_zero, List.set_cons_succ]
           rfl
          refine one_ (i := 12) (N := none) #[T,T,T,T,T,T,T,T,T,T,T,T,T] rfl rfl (one_of HT_.out (by kernel_rfl)) (by decide) (fun K hK => ?_)
          have hs42 : w41.cell? ⟨gb373, 0, none⟩ = some (.int .i64 0) := (blk_cell BK373.out 0).trans rfl
          have hfs42 := blk_frozen BK373.out 0
          have hns42_0 := NB353_373.out
          have hns42_1 := NB354_373.out
          have hms42_0 := NB373_353.out
          have hms42_1 := NB373_354.out
          have hs43 : w41.cell? ⟨gb373, 1, none⟩ = some (.int .i64 0) := (blk_cell BK373.out 1).trans rfl
          have hfs43 := blk_frozen BK373.out 1
          have hns43_0 := NB353_373.out
          have hns43_1 := NB354_373.out
          have hms43_0 := NB373_353.out
          have hms43_1 := NB373_354.out
          have hs44 : w41.cell? ⟨gb373, 2, none⟩ = some (.int .i64 0) := (blk_cell BK373.out 2).trans rfl
          have hfs44 := blk_frozen BK373.out 2
          have hns44_0 := NB353_373.out
          have hns44_1 := NB354_373.out
          have hms44_0 := NB373_353.out
          have hms44_1 := NB373_354.out
          have hs45 : w41.cell? ⟨gb373, 3, none⟩ = some (.int .i64 0) := (blk_cell BK373.out 3).trans rfl
          have hfs45 := blk_frozen BK373.out 3
          have hns45_0 := NB353_373.out
          have hns45_1 := NB354_373.out
          have hms45_0 := NB373_353.out
          have hms45_1 := NB373_354.out
          have hs46 : w41.cell? ⟨gb373, 4, none⟩ = some (.int .i64 0) := (blk_cell BK373.out 4).trans rfl
          have hfs46 := blk_frozen BK373.out 4
          have hns46_0 := NB353_373.out
          have hns46_1 := NB354_373.out
          have hms46_0 := NB373_353.out
          have hms46_1 := NB373_354.out
          have hs47 : w41.cell? ⟨gb373, 5, none⟩ = some (.int .i64 0) := (blk_cell BK373.out 5).trans rfl
          have hfs47 := blk_frozen BK373.out 5
          have hns47_0 := NB353_373.out
          have hns47_1 := NB354_373.out
          have hms47_0 := NB373_353.out
          have hms47_1 := NB373_354.out
          refine skip_ (w1 := ?_) (by rfl) rfl ?_ ?_
          rotate_left
          ·go_simp
           rfl
          refine hK.out _ _ trivial (fun hHeld => ?_)
          clear hK K
          refine done_ (done_of HT_.out (by kernel_rfl)) ?_
          have H := HH_.out
          clear HH_
          by_cases c21 : t361 = true
          ·subst c21
           rw [if_pos rfl] at H
           by_cases c22 : t364 = true
           ·subst c22
            rw [if_pos rfl] at H
            by_cases c23 : t367 = true
            ·subst c23
             rw [if_pos rfl] at H
             by_cases c24 : t370 = true
             ·subst c24
              rw [if_pos rfl] at H
              replace H := Option.bind_eq_some_iff.mp H
              obtain ⟨t374, A250, H⟩ := H
              replace H : (if t374 = true then ((spec_l17Code.f k t369 t371 t372 t360 t363 t366).bind fun t375 => (if t375.toList = a0.toList then (some (t369, t371, t372, t360, t363, t366, true)) else (some (0, 0, 0, 0, 0, 0, false)))) else (some (0, 0, 0, 0, 0, 0, false))) = some (r1, r2, r3, r4, r5, r6, r7) := H
              have A25 := Aside0.mk A250
              clear A250
              by_cases c26 : t374 = true
              ·subst c26
               rw [if_pos rfl] at H
               replace H := Option.bind_eq_some_iff.mp H
               obtain ⟨t375, A270, H⟩ := H
               replace H : (if t375.toList = a0.toList then (some (t369, t371, t372, t360, t363, t366, true)) else (some (0, 0, 0, 0, 0, 0, false))) = some (r1, r2, r3, r4, r5, r6, r7) := H
               have A27 := Aside0.mk A270
               clear A270
               by_cases c28 : t375.toList = a0.toList
               ·rw [if_pos c28] at H
                have c28b0 : (t375.toList == a0.toList) = true := beq_iff_eq.mpr c28
                have c28b1 : (t375.toList != a0.toList) = false := bne_eq_false_iff_eq.mpr c28
                clear c28
                focus
                 simp only [Option.some.injEq, Prod.mk.injEq] at H
                 obtain ⟨rfl, rfl, rfl, rfl, rfl, rfl, rfl⟩ := H
                 have hnb48 := NB373_353.out
                 have hnc48 := NB353_373.out
                 have hnb49 := NB373_354.out
                 have hnc49 := NB354_373.out
                 have hcz50_0 : w41.cell? ⟨gb373, 0, none⟩ = some (.int .i64 0) := (blk_cell BK373.out 0).trans rfl
                 have hcz50_1 : w41.cell? ⟨gb373, 1, none⟩ = some (.int .i64 0) := (blk_cell BK373.out 1).trans rfl
                 have hcz50_2 : w41.cell? ⟨gb373, 2, none⟩ = some (.int .i64 0) := (blk_cell BK373.out 2).trans rfl
                 have hcz50_3 : w41.cell? ⟨gb373, 3, none⟩ = some (.int .i64 0) := (blk_cell BK373.out 3).trans rfl
                 have hcz50_4 : w41.cell? ⟨gb373, 4, none⟩ = some (.int .i64 0) := (blk_cell BK373.out 4).trans rfl
                 have hcz50_5 : w41.cell? ⟨gb373, 5, none⟩ = some (.int .i64 0) := (blk_cell BK373.out 5).trans rfl
                 have hfz50_0 := blk_frozen BK373.out 0
                 have hfz50_1 := blk_frozen BK373.out 1
                 have hfz50_2 := blk_frozen BK373.out 2
                 have hfz50_3 := blk_frozen BK373.out 3
                 have hfz50_4 := blk_frozen BK373.out 4
                 have hfz50_5 := blk_frozen BK373.out 5
                 try go_wp2_with (first | (go_at_call 47; (with_reducible refine (spec_l14Good.calls t369 t371 t372 t360 t363 t366 true _ A25.out).mono ?_); rintro e w51 ⟨rfl, hb⟩; replace HO358 := Aside0.mk (Kd.R_below (by (with_reducible repeat (first | apply Kd.R_alloc | apply Kd.R_drewN | apply Kd.R_drew)); exact (Kd.R_mono (Kd.R_far (p := ⟨gb373, 5, none⟩) (Kd.R_far (p := ⟨gb373, 4, none⟩) (Kd.R_far (p := ⟨gb373, 3, none⟩) (Kd.R_far (p := ⟨gb373, 2, none⟩) (Kd.R_far (p := ⟨gb373, 1, none⟩) (Kd.R_far (p := ⟨gb373, 0, none⟩) (Kd.R_types HO358.out BK373.out (by decide)) (fun _ hk => hk.2) (.int .i64 t369)) (fun _ hk => hk.2) (.int .i64 t371)) (fun _ hk => hk.2) (.int .i64 t372)) (fun _ hk => hk.2) (.int .i64 t360)) (fun _ hk => hk.2) (.int .i64 t363)) (fun _ hk => hk.2) (.int .i64 t366)) (fun _ h_ => h_.1))) hb); replace BK353 := zbl BK353.out hb; replace BK354 := zbl BK354.out hb; replace BK373 := Aside0.mk (blk_below (g := gb373) (o := .cells #[.int .i64 t369, .int .i64 t371, .int .i64 t372, .int .i64 t360, .int .i64 t363, .int .i64 t366] 25 (0, 0)) (zbp BK373.out) hb); replace HB := Aside0.mk (below_step (zhB HB.out) hb); (try clear hb); have hcz52_0 : w51.cell? ⟨gb373, 0, none⟩ = some (.int .i64 t369) := (blk_cell BK373.out 0).trans rfl; have hcz52_1 : w51.cell? ⟨gb373, 1, none⟩ = some (.int .i64 t371) := (blk_cell BK373.out 1).trans rfl; have hcz52_2 : w51.cell? ⟨gb373, 2, none⟩ = some (.int .i64 t372) := (blk_cell BK373.out 2).trans rfl; have hcz52_3 : w51.cell? ⟨gb373, 3, none⟩ = some (.int .i64 t360) := (blk_cell BK373.out 3).trans rfl; have hcz52_4 : w51.cell? ⟨gb373, 4, none⟩ = some (.int .i64 t363) := (blk_cell BK373.out 4).trans rfl; have hcz52_5 : w51.cell? ⟨gb373, 5, none⟩ = some (.int .i64 t366) := (blk_cell BK373.out 5).trans rfl; have hfz52_0 := blk_frozen BK373.out 0; have hfz52_1 := blk_frozen BK373.out 1; have hfz52_2 := blk_frozen BK373.out 2; have hfz52_3 := blk_frozen BK373.out 3; have hfz52_4 := blk_frozen BK373.out 4; have hfz52_5 := blk_frozen BK373.out 5) | (go_at_call 52; (with_reducible refine (spec_l17Code.calls k t369 t371 t372 t360 t363 t366 t375 _ A27.out).mono ?_); rintro e w53 ⟨rfl, hb⟩; replace HO358 := Aside0.mk (Kd.R_below (zRx HO358.out) hb); replace BK353 := zbl BK353.out hb; replace BK354 := zbl BK354.out hb; replace BK373 := zbl BK373.out hb; replace HB := Aside0.mk (below_step (zhB HB.out) hb); (try clear hb); have hcz54_0 : w53.cell? ⟨gb373, 0, none⟩ = some (.int .i64 t369) := (blk_cell BK373.out 0).trans rfl; have hcz54_1 : w53.cell? ⟨gb373, 1, none⟩ = some (.int .i64 t371) := (blk_cell BK373.out 1).trans rfl; have hcz54_2 : w53.cell? ⟨gb373, 2, none⟩ = some (.int .i64 t372) := (blk_cell BK373.out 2).trans rfl; have hcz54_3 : w53.cell? ⟨gb373, 3, none⟩ = some (.int .i64 t360) := (blk_cell BK373.out 3).trans rfl; have hcz54_4 : w53.cell? ⟨gb373, 4, none⟩ = some (.int .i64 t363) := (blk_cell BK373.out 4).trans rfl; have hcz54_5 : w53.cell? ⟨gb373, 5, none⟩ = some (.int .i64 t366) := (blk_cell BK373.out 5).trans rfl; have hfz54_0 := blk_frozen BK373.out 0; have hfz54_1 := blk_frozen BK373.out 1; have hfz54_2 := blk_frozen BK373.out 2; have hfz54_3 := blk_frozen BK373.out 3; have hfz54_4 := blk_frozen BK373.out 4; have hfz54_5 := blk_frozen BK373.out 5; have hcz55_0 : w53.cell? ⟨gb353, 0, none⟩ = some (.int .i64 0) := (blk_cell BK353.out 0).trans rfl; have hcz55_1 : w53.cell? ⟨gb353, 1, none⟩ = some (.int .i64 0) := (blk_cell BK353.out 1).trans rfl; have hcz55_2 : w53.cell? ⟨gb353, 2, none⟩ = some (.int .i64 0) := (blk_cell BK353.out 2).trans rfl; have hcz55_3 : w53.cell? ⟨gb353, 3, none⟩ = some (.int .i64 0) := (blk_cell BK353.out 3).trans rfl; have hcz55_4 : w53.cell? ⟨gb353, 4, none⟩ = some (.int .i64 0) := (blk_cell BK353.out 4).trans rfl; have hcz55_5 : w53.cell? ⟨gb353, 5, none⟩ = some (.int .i64 0) := (blk_cell BK353.out 5).trans rfl; have hfz55_0 := blk_frozen BK353.out 0; have hfz55_1 := blk_frozen BK353.out 1; have hfz55_2 := blk_frozen BK353.out 2; have hfz55_3 := blk_frozen BK353.out 3; have hfz55_4 := blk_frozen BK353.out 4; have hfz55_5 := blk_frozen BK353.out 5))
                 refine bodyPost_ret (results_ct rfl _ _ gb353 25 #[.int .i64 t369, .int .i64 t371, .int .i64 t372, .int .i64 t360, .int .i64 t363, .int .i64 t366] (0, 0) _ rfl (zbp BK353.out) Tryz.underlying25 rfl (by kernel_rfl)) rfl ?_
                 exact ⟨by first | rfl | (simp [errW_none, errW_some] <;> rfl) | (simp [*, errW_none, errW_some] <;> rfl), zhB HB.out⟩
               ·rw [if_neg c28] at H
                have c28b0 : (t375.toList == a0.toList) = false := beq_eq_false_iff_ne.mpr c28
                have c28b1 : (t375.toList != a0.toList) = true := bne_iff_ne.mpr c28
                focus
                 simp only [Option.some.injEq, Prod.mk.injEq] at H
                 obtain ⟨rfl, rfl, rfl, rfl, rfl, rfl, rfl⟩ := H
                 have hnb48 := NB373_353.out
                 have hnc48 := NB353_373.out
                 have hnb49 := NB373_354.out
                 have hnc49 := NB354_373.out
                 have hcz50_0 : w41.cell? ⟨gb373, 0, none⟩ = some (.int .i64 0) := (blk_cell BK373.out 0).trans rfl
                 have hcz50_1 : w41.cell? ⟨gb373, 1, none⟩ = some (.int .i64 0) := (blk_cell BK373.out 1).trans rfl
                 have hcz50_2 : w41.cell? ⟨gb373, 2, none⟩ = some (.int .i64 0) := (blk_cell BK373.out 2).trans rfl
                 have hcz50_3 : w41.cell? ⟨gb373, 3, none⟩ = some (.int .i64 0) := (blk_cell BK373.out 3).trans rfl
                 have hcz50_4 : w41.cell? ⟨gb373, 4, none⟩ = some (.int .i64 0) := (blk_cell BK373.out 4).trans rfl
                 have hcz50_5 : w41.cell? ⟨gb373, 5, none⟩ = some (.int .i64 0) := (blk_cell BK373.out 5).trans rfl
                 have hfz50_0 := blk_frozen BK373.out 0
                 have hfz50_1 := blk_frozen BK373.out 1
                 have hfz50_2 := blk_frozen BK373.out 2
                 have hfz50_3 := blk_frozen BK373.out 3
                 have hfz50_4 := blk_frozen BK373.out 4
                 have hfz50_5 := blk_frozen BK373.out 5
                 try go_wp2_with (first | (go_at_call 47; (with_reducible refine (spec_l14Good.calls t369 t371 t372 t360 t363 t366 true _ A25.out).mono ?_); rintro e w78 ⟨rfl, hb⟩; replace HO358 := Aside0.mk (Kd.R_below (by (with_reducible repeat (first | apply Kd.R_alloc | apply Kd.R_drewN | apply Kd.R_drew)); exact (Kd.R_mono (Kd.R_far (p := ⟨gb373, 5, none⟩) (Kd.R_far (p := ⟨gb373, 4, none⟩) (Kd.R_far (p := ⟨gb373, 3, none⟩) (Kd.R_far (p := ⟨gb373, 2, none⟩) (Kd.R_far (p := ⟨gb373, 1, none⟩) (Kd.R_far (p := ⟨gb373, 0, none⟩) (Kd.R_types HO358.out BK373.out (by decide)) (fun _ hk => hk.2) (.int .i64 t369)) (fun _ hk => hk.2) (.int .i64 t371)) (fun _ hk => hk.2) (.int .i64 t372)) (fun _ hk => hk.2) (.int .i64 t360)) (fun _ hk => hk.2) (.int .i64 t363)) (fun _ hk => hk.2) (.int .i64 t366)) (fun _ h_ => h_.1))) hb); replace BK353 := zbl BK353.out hb; replace BK354 := zbl BK354.out hb; replace BK373 := Aside0.mk (blk_below (g := gb373) (o := .cells #[.int .i64 t369, .int .i64 t371, .int .i64 t372, .int .i64 t360, .int .i64 t363, .int .i64 t366] 25 (0, 0)) (zbp BK373.out) hb); replace HB := Aside0.mk (below_step (zhB HB.out) hb); (try clear hb); have hcz79_0 : w78.cell? ⟨gb373, 0, none⟩ = some (.int .i64 t369) := (blk_cell BK373.out 0).trans rfl; have hcz79_1 : w78.cell? ⟨gb373, 1, none⟩ = some (.int .i64 t371) := (blk_cell BK373.out 1).trans rfl; have hcz79_2 : w78.cell? ⟨gb373, 2, none⟩ = some (.int .i64 t372) := (blk_cell BK373.out 2).trans rfl; have hcz79_3 : w78.cell? ⟨gb373, 3, none⟩ = some (.int .i64 t360) := (blk_cell BK373.out 3).trans rfl; have hcz79_4 : w78.cell? ⟨gb373, 4, none⟩ = some (.int .i64 t363) := (blk_cell BK373.out 4).trans rfl; have hcz79_5 : w78.cell? ⟨gb373, 5, none⟩ = some (.int .i64 t366) := (blk_cell BK373.out 5).trans rfl; have hfz79_0 := blk_frozen BK373.out 0; have hfz79_1 := blk_frozen BK373.out 1; have hfz79_2 := blk_frozen BK373.out 2; have hfz79_3 := blk_frozen BK373.out 3; have hfz79_4 := blk_frozen BK373.out 4; have hfz79_5 := blk_frozen BK373.out 5) | (go_at_call 52; (with_reducible refine (spec_l17Code.calls k t369 t371 t372 t360 t363 t366 t375 _ A27.out).mono ?_); rintro e w80 ⟨rfl, hb⟩; replace HO358 := Aside0.mk (Kd.R_below (zRx HO358.out) hb); replace BK353 := zbl BK353.out hb; replace BK354 := zbl BK354.out hb; replace BK373 := zbl BK373.out hb; replace HB := Aside0.mk (below_step (zhB HB.out) hb); (try clear hb); have hcz81_0 : w80.cell? ⟨gb354, 0, none⟩ = some (.int .i64 0) := (blk_cell BK354.out 0).trans rfl; have hcz81_1 : w80.cell? ⟨gb354, 1, none⟩ = some (.int .i64 0) := (blk_cell BK354.out 1).trans rfl; have hcz81_2 : w80.cell? ⟨gb354, 2, none⟩ = some (.int .i64 0) := (blk_cell BK354.out 2).trans rfl; have hcz81_3 : w80.cell? ⟨gb354, 3, none⟩ = some (.int .i64 0) := (blk_cell BK354.out 3).trans rfl; have hcz81_4 : w80.cell? ⟨gb354, 4, none⟩ = some (.int .i64 0) := (blk_cell BK354.out 4).trans rfl; have hcz81_5 : w80.cell? ⟨gb354, 5, none⟩ = some (.int .i64 0) := (blk_cell BK354.out 5).trans rfl; have hfz81_0 := blk_frozen BK354.out 0; have hfz81_1 := blk_frozen BK354.out 1; have hfz81_2 := blk_frozen BK354.out 2; have hfz81_3 := blk_frozen BK354.out 3; have hfz81_4 := blk_frozen BK354.out 4; have hfz81_5 := blk_frozen BK354.out 5; have hcz82_0 : w80.cell? ⟨gb353, 0, none⟩ = some (.int .i64 0) := (blk_cell BK353.out 0).trans rfl; have hcz82_1 : w80.cell? ⟨gb353, 1, none⟩ = some (.int .i64 0) := (blk_cell BK353.out 1).trans rfl; have hcz82_2 : w80.cell? ⟨gb353, 2, none⟩ = some (.int .i64 0) := (blk_cell BK353.out 2).trans rfl; have hcz82_3 : w80.cell? ⟨gb353, 3, none⟩ = some (.int .i64 0) := (blk_cell BK353.out 3).trans rfl; have hcz82_4 : w80.cell? ⟨gb353, 4, none⟩ = some (.int .i64 0) := (blk_cell BK353.out 4).trans rfl; have hcz82_5 : w80.cell? ⟨gb353, 5, none⟩ = some (.int .i64 0) := (blk_cell BK353.out 5).trans rfl; have hfz82_0 := blk_frozen BK353.out 0; have hfz82_1 := blk_frozen BK353.out 1; have hfz82_2 := blk_frozen BK353.out 2; have hfz82_3 := blk_frozen BK353.out 3; have hfz82_4 := blk_frozen BK353.out 4; have hfz82_5 := blk_frozen BK353.out 5))
                 refine bodyPost_ret (results_ct rfl _ _ gb353 25 #[.int .i64 0, .int .i64 0, .int .i64 0, .int .i64 0, .int .i64 0, .int .i64 0] (0, 0) _ rfl (zbp BK353.out) Tryz.underlying25 rfl (by kernel_rfl)) rfl ?_
                 exact ⟨by first | rfl | (simp [errW_none, errW_some] <;> rfl) | (simp [*, errW_none, errW_some] <;> rfl), zhB HB.out⟩
              ·replace c26 := Bool.eq_false_iff.mpr c26
               subst c26
               rw [if_neg (show ¬ (false = true) by decide)] at H
               focus
                simp only [Option.some.injEq, Prod.mk.injEq] at H
                obtain ⟨rfl, rfl, rfl, rfl, rfl, rfl, rfl⟩ := H
                have hnb48 := NB373_353.out
                have hnc48 := NB353_373.out
                have hnb49 := NB373_354.out
                have hnc49 := NB354_373.out
                have hcz50_0 : w41.cell? ⟨gb373, 0, none⟩ = some (.int .i64 0) := (blk_cell BK373.out 0).trans rfl
                have hcz50_1 : w41.cell? ⟨gb373, 1, none⟩ = some (.int .i64 0) := (blk_cell BK373.out 1).trans rfl
                have hcz50_2 : w41.cell? ⟨gb373, 2, none⟩ = some (.int .i64 0) := (blk_cell BK373.out 2).trans rfl
                have hcz50_3 : w41.cell? ⟨gb373, 3, none⟩ = some (.int .i64 0) := (blk_cell BK373.out 3).trans rfl
                have hcz50_4 : w41.cell? ⟨gb373, 4, none⟩ = some (.int .i64 0) := (blk_cell BK373.out 4).trans rfl
                have hcz50_5 : w41.cell? ⟨gb373, 5, none⟩ = some (.int .i64 0) := (blk_cell BK373.out 5).trans rfl
                have hfz50_0 := blk_frozen BK373.out 0
                have hfz50_1 := blk_frozen BK373.out 1
                have hfz50_2 := blk_frozen BK373.out 2
                have hfz50_3 := blk_frozen BK373.out 3
                have hfz50_4 := blk_frozen BK373.out 4
                have hfz50_5 := blk_frozen BK373.out 5
                try go_wp2_with (first | (go_at_call 47; (with_reducible refine (spec_l14Good.calls t369 t371 t372 t360 t363 t366 false _ A25.out).mono ?_); rintro e w105 ⟨rfl, hb⟩; replace HO358 := Aside0.mk (Kd.R_below (by (with_reducible repeat (first | apply Kd.R_alloc | apply Kd.R_drewN | apply Kd.R_drew)); exact (Kd.R_mono (Kd.R_far (p := ⟨gb373, 5, none⟩) (Kd.R_far (p := ⟨gb373, 4, none⟩) (Kd.R_far (p := ⟨gb373, 3, none⟩) (Kd.R_far (p := ⟨gb373, 2, none⟩) (Kd.R_far (p := ⟨gb373, 1, none⟩) (Kd.R_far (p := ⟨gb373, 0, none⟩) (Kd.R_types HO358.out BK373.out (by decide)) (fun _ hk => hk.2) (.int .i64 t369)) (fun _ hk => hk.2) (.int .i64 t371)) (fun _ hk => hk.2) (.int .i64 t372)) (fun _ hk => hk.2) (.int .i64 t360)) (fun _ hk => hk.2) (.int .i64 t363)) (fun _ hk => hk.2) (.int .i64 t366)) (fun _ h_ => h_.1))) hb); replace BK353 := zbl BK353.out hb; replace BK354 := zbl BK354.out hb; replace BK373 := Aside0.mk (blk_below (g := gb373) (o := .cells #[.int .i64 t369, .int .i64 t371, .int .i64 t372, .int .i64 t360, .int .i64 t363, .int .i64 t366] 25 (0, 0)) (zbp BK373.out) hb); replace HB := Aside0.mk (below_step (zhB HB.out) hb); (try clear hb); have hcz106_0 : w105.cell? ⟨gb354, 0, none⟩ = some (.int .i64 0) := (blk_cell BK354.out 0).trans rfl; have hcz106_1 : w105.cell? ⟨gb354, 1, none⟩ = some (.int .i64 0) := (blk_cell BK354.out 1).trans rfl; have hcz106_2 : w105.cell? ⟨gb354, 2, none⟩ = some (.int .i64 0) := (blk_cell BK354.out 2).trans rfl; have hcz106_3 : w105.cell? ⟨gb354, 3, none⟩ = some (.int .i64 0) := (blk_cell BK354.out 3).trans rfl; have hcz106_4 : w105.cell? ⟨gb354, 4, none⟩ = some (.int .i64 0) := (blk_cell BK354.out 4).trans rfl; have hcz106_5 : w105.cell? ⟨gb354, 5, none⟩ = some (.int .i64 0) := (blk_cell BK354.out 5).trans rfl; have hfz106_0 := blk_frozen BK354.out 0; have hfz106_1 := blk_frozen BK354.out 1; have hfz106_2 := blk_frozen BK354.out 2; have hfz106_3 := blk_frozen BK354.out 3; have hfz106_4 := blk_frozen BK354.out 4; have hfz106_5 := blk_frozen BK354.out 5; have hcz107_0 : w105.cell? ⟨gb353, 0, none⟩ = some (.int .i64 0) := (blk_cell BK353.out 0).trans rfl; have hcz107_1 : w105.cell? ⟨gb353, 1, none⟩ = some (.int .i64 0) := (blk_cell BK353.out 1).trans rfl; have hcz107_2 : w105.cell? ⟨gb353, 2, none⟩ = some (.int .i64 0) := (blk_cell BK353.out 2).trans rfl; have hcz107_3 : w105.cell? ⟨gb353, 3, none⟩ = some (.int .i64 0) := (blk_cell BK353.out 3).trans rfl; have hcz107_4 : w105.cell? ⟨gb353, 4, none⟩ = some (.int .i64 0) := (blk_cell BK353.out 4).trans rfl; have hcz107_5 : w105.cell? ⟨gb353, 5, none⟩ = some (.int .i64 0) := (blk_cell BK353.out 5).trans rfl; have hfz107_0 := blk_frozen BK353.out 0; have hfz107_1 := blk_frozen BK353.out 1; have hfz107_2 := blk_frozen BK353.out 2; have hfz107_3 := blk_frozen BK353.out 3; have hfz107_4 := blk_frozen BK353.out 4; have hfz107_5 := blk_frozen BK353.out 5))
                refine bodyPost_ret (results_ct rfl _ _ gb353 25 #[.int .i64 0, .int .i64 0, .int .i64 0, .int .i64 0, .int .i64 0, .int .i64 0] (0, 0) _ rfl (zbp BK353.out) Tryz.underlying25 rfl (by kernel_rfl)) rfl ?_
                exact ⟨by first | rfl | (simp [errW_none, errW_some] <;> rfl) | (simp [*, errW_none, errW_some] <;> rfl), zhB HB.out⟩
             ·replace c24 := Bool.eq_false_iff.mpr c24
              subst c24
              rw [if_neg (show ¬ (false = true) by decide)] at H
              focus
               simp only [Option.some.injEq, Prod.mk.injEq] at H
               obtain ⟨rfl, rfl, rfl, rfl, rfl, rfl, rfl⟩ := H
               have hnb127 := NB354_373.out
               have hnc127 := NB373_354.out
               have hcz128_0 : w41.cell? ⟨gb354, 0, none⟩ = some (.int .i64 0) := (blk_cell BK354.out 0).trans rfl
               have hcz128_1 : w41.cell? ⟨gb354, 1, none⟩ = some (.int .i64 0) := (blk_cell BK354.out 1).trans rfl
               have hcz128_2 : w41.cell? ⟨gb354, 2, none⟩ = some (.int .i64 0) := (blk_cell BK354.out 2).trans rfl
               have hcz128_3 : w41.cell? ⟨gb354, 3, none⟩ = some (.int .i64 0) := (blk_cell BK354.out 3).trans rfl
               have hcz128_4 : w41.cell? ⟨gb354, 4, none⟩ = some (.int .i64 0) := (blk_cell BK354.out 4).trans rfl
               have hcz128_5 : w41.cell? ⟨gb354, 5, none⟩ = some (.int .i64 0) := (blk_cell BK354.out 5).trans rfl
               have hfz128_0 := blk_frozen BK354.out 0
               have hfz128_1 := blk_frozen BK354.out 1
               have hfz128_2 := blk_frozen BK354.out 2
               have hfz128_3 := blk_frozen BK354.out 3
               have hfz128_4 := blk_frozen BK354.out 4
               have hfz128_5 := blk_frozen BK354.out 5
               have hnb129 := NB353_373.out
               have hnc129 := NB373_353.out
               have hcz130_0 : w41.cell? ⟨gb353, 0, none⟩ = some (.int .i64 0) := (blk_cell BK353.out 0).trans rfl
               have hcz130_1 : w41.cell? ⟨gb353, 1, none⟩ = some (.int .i64 0) := (blk_cell BK353.out 1).trans rfl
               have hcz130_2 : w41.cell? ⟨gb353, 2, none⟩ = some (.int .i64 0) := (blk_cell BK353.out 2).trans rfl
               have hcz130_3 : w41.cell? ⟨gb353, 3, none⟩ = some (.int .i64 0) := (blk_cell BK353.out 3).trans rfl
               have hcz130_4 : w41.cell? ⟨gb353, 4, none⟩ = some (.int .i64 0) := (blk_cell BK353.out 4).trans rfl
               have hcz130_5 : w41.cell? ⟨gb353, 5, none⟩ = some (.int .i64 0) := (blk_cell BK353.out 5).trans rfl
               have hfz130_0 := blk_frozen BK353.out 0
               have hfz130_1 := blk_frozen BK353.out 1
               have hfz130_2 := blk_frozen BK353.out 2
               have hfz130_3 := blk_frozen BK353.out 3
               have hfz130_4 := blk_frozen BK353.out 4
               have hfz130_5 := blk_frozen BK353.out 5
               try go_wp2
               refine bodyPost_ret (results_ct rfl _ _ gb353 25 #[.int .i64 0, .int .i64 0, .int .i64 0, .int .i64 0, .int .i64 0, .int .i64 0] (0, 0) _ rfl (zbp BK353.out) Tryz.underlying25 rfl (by kernel_rfl)) rfl ?_
               exact ⟨by first | rfl | (simp [errW_none, errW_some] <;> rfl) | (simp [*, errW_none, errW_some] <;> rfl), zhB HB.out⟩
            ·replace c23 := Bool.eq_false_iff.mpr c23
             subst c23
             rw [if_neg (show ¬ (false = true) by decide)] at H
             focus
              simp only [Option.some.injEq, Prod.mk.injEq] at H
              obtain ⟨rfl, rfl, rfl, rfl, rfl, rfl, rfl⟩ := H
              have hnb150 := NB354_373.out
              have hnc150 := NB373_354.out
              have hcz151_0 : w41.cell? ⟨gb354, 0, none⟩ = some (.int .i64 0) := (blk_cell BK354.out 0).trans rfl
              have hcz151_1 : w41.cell? ⟨gb354, 1, none⟩ = some (.int .i64 0) := (blk_cell BK354.out 1).trans rfl
              have hcz151_2 : w41.cell? ⟨gb354, 2, none⟩ = some (.int .i64 0) := (blk_cell BK354.out 2).trans rfl
              have hcz151_3 : w41.cell? ⟨gb354, 3, none⟩ = some (.int .i64 0) := (blk_cell BK354.out 3).trans rfl
              have hcz151_4 : w41.cell? ⟨gb354, 4, none⟩ = some (.int .i64 0) := (blk_cell BK354.out 4).trans rfl
              have hcz151_5 : w41.cell? ⟨gb354, 5, none⟩ = some (.int .i64 0) := (blk_cell BK354.out 5).trans rfl
              have hfz151_0 := blk_frozen BK354.out 0
              have hfz151_1 := blk_frozen BK354.out 1
              have hfz151_2 := blk_frozen BK354.out 2
              have hfz151_3 := blk_frozen BK354.out 3
              have hfz151_4 := blk_frozen BK354.out 4
              have hfz151_5 := blk_frozen BK354.out 5
              have hnb152 := NB353_373.out
              have hnc152 := NB373_353.out
              have hcz153_0 : w41.cell? ⟨gb353, 0, none⟩ = some (.int .i64 0) := (blk_cell BK353.out 0).trans rfl
              have hcz153_1 : w41.cell? ⟨gb353, 1, none⟩ = some (.int .i64 0) := (blk_cell BK353.out 1).trans rfl
              have hcz153_2 : w41.cell? ⟨gb353, 2, none⟩ = some (.int .i64 0) := (blk_cell BK353.out 2).trans rfl
              have hcz153_3 : w41.cell? ⟨gb353, 3, none⟩ = some (.int .i64 0) := (blk_cell BK353.out 3).trans rfl
              have hcz153_4 : w41.cell? ⟨gb353, 4, none⟩ = some (.int .i64 0) := (blk_cell BK353.out 4).trans rfl
              have hcz153_5 : w41.cell? ⟨gb353, 5, none⟩ = some (.int .i64 0) := (blk_cell BK353.out 5).trans rfl
              have hfz153_0 := blk_frozen BK353.out 0
              have hfz153_1 := blk_frozen BK353.out 1
              have hfz153_2 := blk_frozen BK353.out 2
              have hfz153_3 := blk_frozen BK353.out 3
              have hfz153_4 := blk_frozen BK353.out 4
              have hfz153_5 := blk_frozen BK353.out 5
              try go_wp2
              refine bodyPost_ret (results_ct rfl _ _ gb353 25 #[.int .i64 0, .int .i64 0, .int .i64 0, .int .i64 0, .int .i64 0, .int .i64 0] (0, 0) _ rfl (zbp BK353.out) Tryz.underlying25 rfl (by kernel_rfl)) rfl ?_
              exact ⟨by first | rfl | (simp [errW_none, errW_some] <;> rfl) | (simp [*, errW_none, errW_some] <;> rfl), zhB HB.out⟩
           ·replace c22 := Bool.eq_false_iff.mpr c22
            subst c22
            rw [if_neg (show ¬ (false = true) by decide)] at H
            focus
             simp only [Option.some.injEq, Prod.mk.injEq] at H
             obtain ⟨rfl, rfl, rfl, rfl, rfl, rfl, rfl⟩ := H
             have hnb173 := NB354_373.out
             have hnc173 := NB373_354.out
             have hcz174_0 : w41.cell? ⟨gb354, 0, none⟩ = some (.int .i64 0) := (blk_cell BK354.out 0).trans rfl
             have hcz174_1 : w41.cell? ⟨gb354, 1, none⟩ = some (.int .i64 0) := (blk_cell BK354.out 1).trans rfl
             have hcz174_2 : w41.cell? ⟨gb354, 2, none⟩ = some (.int .i64 0) := (blk_cell BK354.out 2).trans rfl
             have hcz174_3 : w41.cell? ⟨gb354, 3, none⟩ = some (.int .i64 0) := (blk_cell BK354.out 3).trans rfl
             have hcz174_4 : w41.cell? ⟨gb354, 4, none⟩ = some (.int .i64 0) := (blk_cell BK354.out 4).trans rfl
             have hcz174_5 : w41.cell? ⟨gb354, 5, none⟩ = some (.int .i64 0) := (blk_cell BK354.out 5).trans rfl
             have hfz174_0 := blk_frozen BK354.out 0
             have hfz174_1 := blk_frozen BK354.out 1
             have hfz174_2 := blk_frozen BK354.out 2
             have hfz174_3 := blk_frozen BK354.out 3
             have hfz174_4 := blk_frozen BK354.out 4
             have hfz174_5 := blk_frozen BK354.out 5
             have hnb175 := NB353_373.out
             have hnc175 := NB373_353.out
             have hcz176_0 : w41.cell? ⟨gb353, 0, none⟩ = some (.int .i64 0) := (blk_cell BK353.out 0).trans rfl
             have hcz176_1 : w41.cell? ⟨gb353, 1, none⟩ = some (.int .i64 0) := (blk_cell BK353.out 1).trans rfl
             have hcz176_2 : w41.cell? ⟨gb353, 2, none⟩ = some (.int .i64 0) := (blk_cell BK353.out 2).trans rfl
             have hcz176_3 : w41.cell? ⟨gb353, 3, none⟩ = some (.int .i64 0) := (blk_cell BK353.out 3).trans rfl
             have hcz176_4 : w41.cell? ⟨gb353, 4, none⟩ = some (.int .i64 0) := (blk_cell BK353.out 4).trans rfl
             have hcz176_5 : w41.cell? ⟨gb353, 5, none⟩ = some (.int .i64 0) := (blk_cell BK353.out 5).trans rfl
             have hfz176_0 := blk_frozen BK353.out 0
             have hfz176_1 := blk_frozen BK353.out 1
             have hfz176_2 := blk_frozen BK353.out 2
             have hfz176_3 := blk_frozen BK353.out 3
             have hfz176_4 := blk_frozen BK353.out 4
             have hfz176_5 := blk_frozen BK353.out 5
             try go_wp2
             refine bodyPost_ret (results_ct rfl _ _ gb353 25 #[.int .i64 0, .int .i64 0, .int .i64 0, .int .i64 0, .int .i64 0, .int .i64 0] (0, 0) _ rfl (zbp BK353.out) Tryz.underlying25 rfl (by kernel_rfl)) rfl ?_
             exact ⟨by first | rfl | (simp [errW_none, errW_some] <;> rfl) | (simp [*, errW_none, errW_some] <;> rfl), zhB HB.out⟩
          ·replace c21 := Bool.eq_false_iff.mpr c21
           subst c21
           rw [if_neg (show ¬ (false = true) by decide)] at H
           focus
            simp only [Option.some.injEq, Prod.mk.injEq] at H
            obtain ⟨rfl, rfl, rfl, rfl, rfl, rfl, rfl⟩ := H
            have hnb196 := NB354_373.out
            have hnc196 := NB373_354.out
            have hcz197_0 : w41.cell? ⟨gb354, 0, none⟩ = some (.int .i64 0) := (blk_cell BK354.out 0).trans rfl
            have hcz197_1 : w41.cell? ⟨gb354, 1, none⟩ = some (.int .i64 0) := (blk_cell BK354.out 1).trans rfl
            have hcz197_2 : w41.cell? ⟨gb354, 2, none⟩ = some (.int .i64 0) := (blk_cell BK354.out 2).trans rfl
            have hcz197_3 : w41.cell? ⟨gb354, 3, none⟩ = some (.int .i64 0) := (blk_cell BK354.out 3).trans rfl
            have hcz197_4 : w41.cell? ⟨gb354, 4, none⟩ = some (.int .i64 0) := (blk_cell BK354.out 4).trans rfl
            have hcz197_5 : w41.cell? ⟨gb354, 5, none⟩ = some (.int .i64 0) := (blk_cell BK354.out 5).trans rfl
            have hfz197_0 := blk_frozen BK354.out 0
            have hfz197_1 := blk_frozen BK354.out 1
            have hfz197_2 := blk_frozen BK354.out 2
            have hfz197_3 := blk_frozen BK354.out 3
            have hfz197_4 := blk_frozen BK354.out 4
            have hfz197_5 := blk_frozen BK354.out 5
            have hnb198 := NB353_373.out
            have hnc198 := NB373_353.out
            have hcz199_0 : w41.cell? ⟨gb353, 0, none⟩ = some (.int .i64 0) := (blk_cell BK353.out 0).trans rfl
            have hcz199_1 : w41.cell? ⟨gb353, 1, none⟩ = some (.int .i64 0) := (blk_cell BK353.out 1).trans rfl
            have hcz199_2 : w41.cell? ⟨gb353, 2, none⟩ = some (.int .i64 0) := (blk_cell BK353.out 2).trans rfl
            have hcz199_3 : w41.cell? ⟨gb353, 3, none⟩ = some (.int .i64 0) := (blk_cell BK353.out 3).trans rfl
            have hcz199_4 : w41.cell? ⟨gb353, 4, none⟩ = some (.int .i64 0) := (blk_cell BK353.out 4).trans rfl
            have hcz199_5 : w41.cell? ⟨gb353, 5, none⟩ = some (.int .i64 0) := (blk_cell BK353.out 5).trans rfl
            have hfz199_0 := blk_frozen BK353.out 0
            have hfz199_1 := blk_frozen BK353.out 1
            have hfz199_2 := blk_frozen BK353.out 2
            have hfz199_3 := blk_frozen BK353.out 3
            have hfz199_4 := blk_frozen BK353.out 4
            have hfz199_5 := blk_frozen BK353.out 5
            try go_wp2
            refine bodyPost_ret (results_ct rfl _ _ gb353 25 #[.int .i64 0, .int .i64 0, .int .i64 0, .int .i64 0, .int .i64 0, .int .i64 0] (0, 0) _ rfl (zbp BK353.out) Tryz.underlying25 rfl (by kernel_rfl)) rfl ?_
            exact ⟨by first | rfl | (simp [errW_none, errW_some] <;> rfl) | (simp [*, errW_none, errW_some] <;> rfl), zhB HB.out⟩
         ·rw [if_neg c18] at H
          exact absurd H (by simp)
        ·rw [if_neg c15] at H
         exact absurd H (by simp)
       ·rw [if_neg c13] at H
        exact absurd H (by simp)
      ·rw [if_neg c11] at H
       exact absurd H (by simp)
     ·rw [if_neg c9] at H
      exact absurd H (by simp)
    ·rw [if_neg c7] at H
     exact absurd H (by simp)
   ·rw [if_neg c6] at H
    have c6b0 : ((t356.length : Int) == 4) = false := beq_eq_false_iff_ne.mpr c6
    have c6b1 : ((t356.length : Int) != 4) = true := bne_iff_ne.mpr c6
    focus
     simp only [Option.some.injEq, Prod.mk.injEq] at H
     obtain ⟨rfl, rfl, rfl, rfl, rfl, rfl, rfl⟩ := H
     go_enter Tryz.func15, Tryz.ntmps15
     go_wp2_with (first | ((with_reducible refine gate_dst (N := 2) rfl ?_); refine box_event ?hg (N := 2) ?hd (cs := #[.int .i64 0, .int .i64 0, .int .i64 0, .int .i64 0, .int .i64 0, .int .i64 0]) (t := 25) ?hr ?_; (case hd => rfl); (case hg => rfl); (case hr => exact zsx); intro gb353 hg w200 hbox hb; have BK353 := Aside0.mk (hbox); have GW353 := zns hg HB.out; have GE353 := zns hg HB.out; replace HB := Aside0.mk (below_step (zBx HB.out) hb); clear hb hbox hg) | ((with_reducible refine gate_dst (N := 4) rfl ?_); refine box_event ?hg (N := 4) ?hd (cs := #[.int .i64 0, .int .i64 0, .int .i64 0, .int .i64 0, .int .i64 0, .int .i64 0]) (t := 25) ?hr ?_; (case hd => rfl); (case hg => rfl); (case hr => exact zsx); intro gb354 hg w201 hbox hb; have BK354 := Aside0.mk (hbox); have GW354 := zns hg HB.out; have GE354 := zns hg HB.out; replace HB := Aside0.mk (below_step (zBy HB.out GE353.out) hb); have NB353_354 := znl hg BK353.out; have NB354_353 := zng hg BK353.out; replace BK353 := zbl BK353.out hb; clear hb hbox hg; have hnb202 := NB354_353.out; have hnc202 := NB353_354.out; have hcz203_0 : w201.cell? ⟨gb354, 0, none⟩ = some (.int .i64 0) := (blk_cell BK354.out 0).trans rfl; have hcz203_1 : w201.cell? ⟨gb354, 1, none⟩ = some (.int .i64 0) := (blk_cell BK354.out 1).trans rfl; have hcz203_2 : w201.cell? ⟨gb354, 2, none⟩ = some (.int .i64 0) := (blk_cell BK354.out 2).trans rfl; have hcz203_3 : w201.cell? ⟨gb354, 3, none⟩ = some (.int .i64 0) := (blk_cell BK354.out 3).trans rfl; have hcz203_4 : w201.cell? ⟨gb354, 4, none⟩ = some (.int .i64 0) := (blk_cell BK354.out 4).trans rfl; have hcz203_5 : w201.cell? ⟨gb354, 5, none⟩ = some (.int .i64 0) := (blk_cell BK354.out 5).trans rfl; have hfz203_0 := blk_frozen BK354.out 0; have hfz203_1 := blk_frozen BK354.out 1; have hfz203_2 := blk_frozen BK354.out 2; have hfz203_3 := blk_frozen BK354.out 3; have hfz203_4 := blk_frozen BK354.out 4; have hfz203_5 := blk_frozen BK354.out 5) | ((with_reducible refine gate_callee (f := 53) rfl ?_); refine goesL_ (some 18) rfl rfl Tryz.func53 (by kernel_rfl) rfl #[.int .i64 (a0.size : Int), .int .i64 9, .int .i64 20] rfl zlx ?_; (with_reducible refine (spec_l1In.calls (a0.size : Int) 9 20 true _ A2.out).mono ?_); rintro e w' ⟨rfl, ⟨nd, rfl⟩⟩; refine ⟨_, rfl, ?_⟩) | ((with_reducible refine gate_callee (f := 54) rfl ?_); refine goesL_ (some 23) rfl rfl Tryz.func54 (by kernel_rfl) rfl #[.string (a0.extract 2 a0.size), .int .u8 46] rfl zlx ?_; (with_reducible refine (spec_l1Split.calls k (a0.extract 2 a0.size) 46 t356 _ A5.out).mono ?_); rintro e w204 ⟨v357, rfl, ho0, hb⟩; refine ⟨_, rfl, ?_⟩; have HO358 := Aside0.mk (Kd.R_lower ho0 (below_size (zBz HB.out GE353.out GE354.out))); replace BK353 := zbl BK353.out hb; replace BK354 := Aside0.mk (blk_below (g := gb354) (o := .cells #[.int .i64 0, .int .i64 0, .int .i64 0, .int .i64 0, .int .i64 0, .int .i64 0] 25 (0, 0)) (zbp BK354.out) hb); replace HB := Aside0.mk (below_step (zBz HB.out GE353.out GE354.out) hb); (try clear hb); (try clear ho0); obtain ⟨Ao205, co205, eo205⟩ := Kd.R_slice HO358.out; subst eo205; have hcz206_0 : w204.cell? ⟨gb354, 0, none⟩ = some (.int .i64 0) := (blk_cell BK354.out 0).trans rfl; have hcz206_1 : w204.cell? ⟨gb354, 1, none⟩ = some (.int .i64 0) := (blk_cell BK354.out 1).trans rfl; have hcz206_2 : w204.cell? ⟨gb354, 2, none⟩ = some (.int .i64 0) := (blk_cell BK354.out 2).trans rfl; have hcz206_3 : w204.cell? ⟨gb354, 3, none⟩ = some (.int .i64 0) := (blk_cell BK354.out 3).trans rfl; have hcz206_4 : w204.cell? ⟨gb354, 4, none⟩ = some (.int .i64 0) := (blk_cell BK354.out 4).trans rfl; have hcz206_5 : w204.cell? ⟨gb354, 5, none⟩ = some (.int .i64 0) := (blk_cell BK354.out 5).trans rfl; have hfz206_0 := blk_frozen BK354.out 0; have hfz206_1 := blk_frozen BK354.out 1; have hfz206_2 := blk_frozen BK354.out 2; have hfz206_3 := blk_frozen BK354.out 3; have hfz206_4 := blk_frozen BK354.out 4; have hfz206_5 := blk_frozen BK354.out 5; have hcz207_0 : w204.cell? ⟨gb353, 0, none⟩ = some (.int .i64 0) := (blk_cell BK353.out 0).trans rfl; have hcz207_1 : w204.cell? ⟨gb353, 1, none⟩ = some (.int .i64 0) := (blk_cell BK353.out 1).trans rfl; have hcz207_2 : w204.cell? ⟨gb353, 2, none⟩ = some (.int .i64 0) := (blk_cell BK353.out 2).trans rfl; have hcz207_3 : w204.cell? ⟨gb353, 3, none⟩ = some (.int .i64 0) := (blk_cell BK353.out 3).trans rfl; have hcz207_4 : w204.cell? ⟨gb353, 4, none⟩ = some (.int .i64 0) := (blk_cell BK353.out 4).trans rfl; have hcz207_5 : w204.cell? ⟨gb353, 5, none⟩ = some (.int .i64 0) := (blk_cell BK353.out 5).trans rfl; have hfz207_0 := blk_frozen BK353.out 0; have hfz207_1 := blk_frozen BK353.out 1; have hfz207_2 := blk_frozen BK353.out 2; have hfz207_3 := blk_frozen BK353.out 3; have hfz207_4 := blk_frozen BK353.out 4; have hfz207_5 := blk_frozen BK353.out 5))
     refine bodyPost_ret (results_ct rfl _ _ gb353 25 #[.int .i64 0, .int .i64 0, .int .i64 0, .int .i64 0, .int .i64 0, .int .i64 0] (0, 0) _ rfl (zbp BK353.out) Tryz.underlying25 rfl (by kernel_rfl)) rfl ?_
     exact ⟨by first | rfl | (simp [errW_none, errW_some] <;> rfl) | (simp [*, errW_none, errW_some] <;> rfl), by exact zBz HB.out GE353.out GE354.out⟩
  ·rw [if_neg c4] at H
   exact absurd H (by simp)
 ·replace c3 := Bool.eq_false_iff.mpr c3
  subst c3
  rw [if_neg (show ¬ (false = true) by decide)] at H
  focus
   simp only [Option.some.injEq, Prod.mk.injEq] at H
   obtain ⟨rfl, rfl, rfl, rfl, rfl, rfl, rfl⟩ := H
   go_enter Tryz.func15, Tryz.ntmps15
   go_wp2_with (first | ((with_reducible refine gate_dst (N := 2) rfl ?_); refine box_event ?hg (N := 2) ?hd (cs := #[.int .i64 0, .int .i64 0, .int .i64 0, .int .i64 0, .int .i64 0, .int .i64 0]) (t := 25) ?hr ?_; (case hd => rfl); (case hg => rfl); (case hr => exact zsx); intro gb353 hg w208 hbox hb; have BK353 := Aside0.mk (hbox); have GW353 := zns hg HB.out; have GE353 := zns hg HB.out; replace HB := Aside0.mk (below_step (zBx HB.out) hb); clear hb hbox hg) | ((with_reducible refine gate_dst (N := 4) rfl ?_); refine box_event ?hg (N := 4) ?hd (cs := #[.int .i64 0, .int .i64 0, .int .i64 0, .int .i64 0, .int .i64 0, .int .i64 0]) (t := 25) ?hr ?_; (case hd => rfl); (case hg => rfl); (case hr => exact zsx); intro gb354 hg w209 hbox hb; have BK354 := Aside0.mk (hbox); have GW354 := zns hg HB.out; have GE354 := zns hg HB.out; replace HB := Aside0.mk (below_step (zBy HB.out GE353.out) hb); have NB353_354 := znl hg BK353.out; have NB354_353 := zng hg BK353.out; replace BK353 := zbl BK353.out hb; clear hb hbox hg; have hnb210 := NB354_353.out; have hnc210 := NB353_354.out; have hcz211_0 : w209.cell? ⟨gb354, 0, none⟩ = some (.int .i64 0) := (blk_cell BK354.out 0).trans rfl; have hcz211_1 : w209.cell? ⟨gb354, 1, none⟩ = some (.int .i64 0) := (blk_cell BK354.out 1).trans rfl; have hcz211_2 : w209.cell? ⟨gb354, 2, none⟩ = some (.int .i64 0) := (blk_cell BK354.out 2).trans rfl; have hcz211_3 : w209.cell? ⟨gb354, 3, none⟩ = some (.int .i64 0) := (blk_cell BK354.out 3).trans rfl; have hcz211_4 : w209.cell? ⟨gb354, 4, none⟩ = some (.int .i64 0) := (blk_cell BK354.out 4).trans rfl; have hcz211_5 : w209.cell? ⟨gb354, 5, none⟩ = some (.int .i64 0) := (blk_cell BK354.out 5).trans rfl; have hfz211_0 := blk_frozen BK354.out 0; have hfz211_1 := blk_frozen BK354.out 1; have hfz211_2 := blk_frozen BK354.out 2; have hfz211_3 := blk_frozen BK354.out 3; have hfz211_4 := blk_frozen BK354.out 4; have hfz211_5 := blk_frozen BK354.out 5) | ((with_reducible refine gate_callee (f := 53) rfl ?_); refine goesL_ (some 18) rfl rfl Tryz.func53 (by kernel_rfl) rfl #[.int .i64 (a0.size : Int), .int .i64 9, .int .i64 20] rfl zlx ?_; (with_reducible refine (spec_l1In.calls (a0.size : Int) 9 20 false _ A2.out).mono ?_); rintro e w' ⟨rfl, ⟨nd, rfl⟩⟩; refine ⟨_, rfl, ?_⟩; have hcz212_0 : w209.cell? ⟨gb353, 0, none⟩ = some (.int .i64 0) := (blk_cell BK353.out 0).trans rfl; have hcz212_1 : w209.cell? ⟨gb353, 1, none⟩ = some (.int .i64 0) := (blk_cell BK353.out 1).trans rfl; have hcz212_2 : w209.cell? ⟨gb353, 2, none⟩ = some (.int .i64 0) := (blk_cell BK353.out 2).trans rfl; have hcz212_3 : w209.cell? ⟨gb353, 3, none⟩ = some (.int .i64 0) := (blk_cell BK353.out 3).trans rfl; have hcz212_4 : w209.cell? ⟨gb353, 4, none⟩ = some (.int .i64 0) := (blk_cell BK353.out 4).trans rfl; have hcz212_5 : w209.cell? ⟨gb353, 5, none⟩ = some (.int .i64 0) := (blk_cell BK353.out 5).trans rfl; have hfz212_0 := blk_frozen BK353.out 0; have hfz212_1 := blk_frozen BK353.out 1; have hfz212_2 := blk_frozen BK353.out 2; have hfz212_3 := blk_frozen BK353.out 3; have hfz212_4 := blk_frozen BK353.out 4; have hfz212_5 := blk_frozen BK353.out 5))
   refine bodyPost_ret (results_ct rfl _ _ gb353 25 #[.int .i64 0, .int .i64 0, .int .i64 0, .int .i64 0, .int .i64 0, .int .i64 0] (0, 0) _ rfl (zbp BK353.out) Tryz.underlying25 rfl (by kernel_rfl)) rfl ?_
   exact ⟨by first | rfl | (simp [errW_none, errW_some] <;> rfl) | (simp [*, errW_none, errW_some] <;> rfl), by exact zBz HB.out GE353.out GE354.out⟩

end Go.Proofs.YtlfoojgbiafffaaGreatDoor.XFnMessages
