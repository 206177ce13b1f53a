-- written by wip/tools/xprint.py (a program of this project) out of the translation
import Derived.Test.YtlfoojgbiafffaaGreatDoorXFnMessagesx0
import Derived.Test.YtlfoojgbiafffaaGreatDoorStrsE
import Derived.Test.YtlfoojgbiafffaaGreatDoorXFnMessagesx2
import Derived.Test.YtlfoojgbiafffaaGreatDoorXFnMessagesx6
import Derived.Test.YtlfoojgbiafffaaGreatDoorXFnMessagesx7
import Derived.Test.YtlfoojgbiafffaaGreatDoorXFnMessagesx8
namespace Go.Proofs.YtlfoojgbiafffaaGreatDoor.XFnMessages
open Go.RowKit Go.Proofs.YtlfoojgbiafffaaGreatDoorW.PrintWords Go.Proofs.YtlfoojgbiafffaaGreatDoorW.PrintLast Go.Proofs.YtlfoojgbiafffaaGreatDoorW.PrintMore
open Go.Proofs.YtlfoojgbiafffaaGreatDoor.Strs
attribute [local go_sem] max2_int min2_int max_two min_two max_three min_three max_four min_four   -- for this text's walks alone
set_option linter.unusedVariables false
set_option linter.unusedSimpArgs false

/-! ### spec_l17Code: function 52 -/
def spec_l17Code.f (k : Nat) (a0_0 : Int) (a0_1 : Int) (a0_2 : Int) (a0_3 : Int) (a0_4 : Int) (a0_5 : Int) : Option (ByteArray) := if 0 ≤ (wrap64 (a0_2 - 1)) then (if (wrap64 (a0_2 - 1)) ≤ a0_2 then (if a0_2 ≤ 3 then (if 0 ≤ (wrap64 (a0_1 - 1)) then (if (wrap64 (a0_1 - 1)) ≤ a0_1 then (if a0_1 ≤ 5 then (if ((⟨#[89, 79, 82]⟩ : ByteArray).extract ((wrap64 (a0_2 - 1)) : Int).toNat (a0_2 : Int).toNat).size + ((⟨#[87, 82, 83, 72, 84]⟩ : ByteArray).extract ((wrap64 (a0_1 - 1)) : Int).toNat (a0_1 : Int).toNat).size ≤ 9223372036854775807 then ((spec_l1Num.f k a0_3).bind fun t319 => (if (((⟨#[89, 79, 82]⟩ : ByteArray).extract ((wrap64 (a0_2 - 1)) : Int).toNat (a0_2 : Int).toNat) ++ ((⟨#[87, 82, 83, 72, 84]⟩ : ByteArray).extract ((wrap64 (a0_1 - 1)) : Int).toNat (a0_1 : Int).toNat)).size + t319.size ≤ 9223372036854775807 then (if ((((⟨#[89, 79, 82]⟩ : ByteArray).extract ((wrap64 (a0_2 - 1)) : Int).toNat (a0_2 : Int).toNat) ++ ((⟨#[87, 82, 83, 72, 84]⟩ : ByteArray).extract ((wrap64 (a0_1 - 1)) : Int).toNat (a0_1 : Int).toNat)) ++ t319).size + 1 ≤ 9223372036854775807 then ((spec_l1Num.f k a0_4).bind fun t320 => (if (((((⟨#[89, 79, 82]⟩ : ByteArray).extract ((wrap64 (a0_2 - 1)) : Int).toNat (a0_2 : Int).toNat) ++ ((⟨#[87, 82, 83, 72, 84]⟩ : ByteArray).extract ((wrap64 (a0_1 - 1)) : Int).toNat (a0_1 : Int).toNat)) ++ t319) ++ (⟨#[46]⟩ : ByteArray)).size + t320.size ≤ 9223372036854775807 then (if ((((((⟨#[89, 79, 82]⟩ : ByteArray).extract ((wrap64 (a0_2 - 1)) : Int).toNat (a0_2 : Int).toNat) ++ ((⟨#[87, 82, 83, 72, 84]⟩ : ByteArray).extract ((wrap64 (a0_1 - 1)) : Int).toNat (a0_1 : Int).toNat)) ++ t319) ++ (⟨#[46]⟩ : ByteArray)) ++ t320).size + 1 ≤ 9223372036854775807 then ((spec_l1Num.f k a0_5).bind fun t321 => (if (((((((⟨#[89, 79, 82]⟩ : ByteArray).extract ((wrap64 (a0_2 - 1)) : Int).toNat (a0_2 : Int).toNat) ++ ((⟨#[87, 82, 83, 72, 84]⟩ : ByteArray).extract ((wrap64 (a0_1 - 1)) : Int).toNat (a0_1 : Int).toNat)) ++ t319) ++ (⟨#[46]⟩ : ByteArray)) ++ t320) ++ (⟨#[46]⟩ : ByteArray)).size + t321.size ≤ 9223372036854775807 then (if ((((((((⟨#[89, 79, 82]⟩ : ByteArray).extract ((wrap64 (a0_2 - 1)) : Int).toNat (a0_2 : Int).toNat) ++ ((⟨#[87, 82, 83, 72, 84]⟩ : ByteArray).extract ((wrap64 (a0_1 - 1)) : Int).toNat (a0_1 : Int).toNat)) ++ t319) ++ (⟨#[46]⟩ : ByteArray)) ++ t320) ++ (⟨#[46]⟩ : ByteArray)) ++ t321).size + 1 ≤ 9223372036854775807 then ((spec_l1Num.f k a0_0).bind fun t322 => (if (((((((((⟨#[89, 79, 82]⟩ : ByteArray).extract ((wrap64 (a0_2 - 1)) : Int).toNat (a0_2 : Int).toNat) ++ ((⟨#[87, 82, 83, 72, 84]⟩ : ByteArray).extract ((wrap64 (a0_1 - 1)) : Int).toNat (a0_1 : Int).toNat)) ++ t319) ++ (⟨#[46]⟩ : ByteArray)) ++ t320) ++ (⟨#[46]⟩ : ByteArray)) ++ t321) ++ (⟨#[46]⟩ : ByteArray)).size + t322.size ≤ 9223372036854775807 then (some ((((((((((⟨#[89, 79, 82]⟩ : ByteArray).extract ((wrap64 (a0_2 - 1)) : Int).toNat (a0_2 : Int).toNat) ++ ((⟨#[87, 82, 83, 72, 84]⟩ : ByteArray).extract ((wrap64 (a0_1 - 1)) : Int).toNat (a0_1 : Int).toNat)) ++ t319) ++ (⟨#[46]⟩ : ByteArray)) ++ t320) ++ (⟨#[46]⟩ : ByteArray)) ++ t321) ++ (⟨#[46]⟩ : ByteArray)) ++ t322)) else (none))) else (none)) else (none))) else (none)) else (none))) else (none)) else (none))) else (none)) else (none)) else (none)) else (none)) else (none)) else (none)) else (none)
theorem spec_l17Code.mono : ∀ a0 a1 a2 a3 a4 a5 k, LeO (spec_l17Code.f k a0 a1 a2 a3 a4 a5) (spec_l17Code.f (k + 1) a0 a1 a2 a3 a4 a5) := by
 intro a0 a1 a2 a3 a4 a5 k
 unfold spec_l17Code.f
 repeat' first
  | (with_reducible exact spec_l1Num.mono _ _)
  | (with_reducible exact LeO.refl _)
  | (with_reducible exact LeO.none _)
  | (with_reducible refine LeO.ite ?_ ?_)
  | (with_reducible refine LeO.bind ?_ (fun _ => ?_))
  | exact spec_l1Num.mono _ _
  | exact LeO.none _
  | refine LeO.ite ?_ ?_
  | refine LeO.bind ?_ (fun _ => ?_)
def spec_l17Code.T1 : Bool × List (List Nat × List Nat) := (true, [([], []), ([0], [0]), ([1], [1]), ([], []), ([3], [3]), ([2, 4], [2, 4]), ([], []), ([6], [6]), ([7], [7]), ([], []), ([9], [9]), ([8, 10], [8, 10]), ([5, 11], [5, 11]), ([], []), ([13], [13]), ([14], [14]), ([12, 15], [12, 15]), ([16], [16]), ([], []), ([18], [18]), ([19, 15], [19]), ([17, 20], [17, 20]), ([21], [21]), ([], []), ([23], [23]), ([24, 20], [24]), ([22, 25], [22, 25]), ([26], [26]), ([], []), ([28], [28]), ([29, 25], [29]), ([27, 30], [27, 30]), ([31, 30, 0, 1, 2, 3, 4, 5, 6, 7, 8, 9, 10, 11, 12, 13, 14, 15, 16, 17, 18, 19, 20, 21, 22, 23, 24, 25, 26, 27, 28, 29, 30, 31], [31])])
def spec_l17Code.B1 : List Nat := [0, 1, 3, 0, 8, 31, 0, 64, 192, 0, 512, 1984, 4095, 0, 8192, 24576, 65535, 131071, 0, 262144, 843776, 2097151, 4194303, 0, 8388608, 27058176, 67108863, 134217727, 0, 268435456, 865918976, 2147483647, 4294967295]
theorem spec_l17Code.tab1 : rtab .any (opsOf Tryz.f52 1) = spec_l17Code.T1 := by kernel_rfl
theorem spec_l17Code.bits1 : waitsOk spec_l17Code.T1.2 spec_l17Code.B1 = true := by kernel_rfl
set_option maxHeartbeats 8000000 in
set_option maxRecDepth 100000 in
theorem spec_l17Code.calls (k : Nat) (a0_0 : Int) (a0_1 : Int) (a0_2 : Int) (a0_3 : Int) (a0_4 : Int) (a0_5 : Int) (r : ByteArray) (w : World) (h : spec_l17Code.f k a0_0 a0_1 a0_2 a0_3 a0_4 a0_5 = some r) :
 Calls Tryz.prog 52 #[.agg #[.int .i64 a0_0, .int .i64 a0_1, .int .i64 a0_2, .int .i64 a0_3, .int .i64 a0_4, .int .i64 a0_5]] w fun e w' => e = .returned (.string r) ∧ Below w.heap.size w w' := by
 have hu25 := Tryz.underlying25
 have HB := Aside0.mk (Below.refl w.heap.size w)
 have H : (if 0 ≤ (wrap64 (a0_2 - 1)) then (if (wrap64 (a0_2 - 1)) ≤ a0_2 then (if a0_2 ≤ 3 then (if 0 ≤ (wrap64 (a0_1 - 1)) then (if (wrap64 (a0_1 - 1)) ≤ a0_1 then (if a0_1 ≤ 5 then (if ((⟨#[89, 79, 82]⟩ : ByteArray).extract ((wrap64 (a0_2 - 1)) : Int).toNat (a0_2 : Int).toNat).size + ((⟨#[87, 82, 83, 72, 84]⟩ : ByteArray).extract ((wrap64 (a0_1 - 1)) : Int).toNat (a0_1 : Int).toNat).size ≤ 9223372036854775807 then ((spec_l1Num.f k a0_3).bind fun t319 => (if (((⟨#[89, 79, 82]⟩ : ByteArray).extract ((wrap64 (a0_2 - 1)) : Int).toNat (a0_2 : Int).toNat) ++ ((⟨#[87, 82, 83, 72, 84]⟩ : ByteArray).extract ((wrap64 (a0_1 - 1)) : Int).toNat (a0_1 : Int).toNat)).size + t319.size ≤ 9223372036854775807 then (if ((((⟨#[89, 79, 82]⟩ : ByteArray).extract ((wrap64 (a0_2 - 1)) : Int).toNat (a0_2 : Int).toNat) ++ ((⟨#[87, 82, 83, 72, 84]⟩ : ByteArray).extract ((wrap64 (a0_1 - 1)) : Int).toNat (a0_1 : Int).toNat)) ++ t319).size + 1 ≤ 9223372036854775807 then ((spec_l1Num.f k a0_4).bind fun t320 => (if (((((⟨#[89, 79, 82]⟩ : ByteArray).extract ((wrap64 (a0_2 - 1)) : Int).toNat (a0_2 : Int).toNat) ++ ((⟨#[87, 82, 83, 72, 84]⟩ : ByteArray).extract ((wrap64 (a0_1 - 1)) : Int).toNat (a0_1 : Int).toNat)) ++ t319) ++ (⟨#[46]⟩ : ByteArray)).size + t320.size ≤ 9223372036854775807 then (if ((((((⟨#[89, 79, 82]⟩ : ByteArray).extract ((wrap64 (a0_2 - 1)) : Int).toNat (a0_2 : Int).toNat) ++ ((⟨#[87, 82, 83, 72, 84]⟩ : ByteArray).extract ((wrap64 (a0_1 - 1)) : Int).toNat (a0_1 : Int).toNat)) ++ t319) ++ (⟨#[46]⟩ : ByteArray)) ++ t320).size + 1 ≤ 9223372036854775807 then ((spec_l1Num.f k a0_5).bind fun t321 => (if (((((((⟨#[89, 79, 82]⟩ : ByteArray).extract ((wrap64 (a0_2 - 1)) : Int).toNat (a0_2 : Int).toNat) ++ ((⟨#[87, 82, 83, 72, 84]⟩ : ByteArray).extract ((wrap64 (a0_1 - 1)) : Int).toNat (a0_1 : Int).toNat)) ++ t319) ++ (⟨#[46]⟩ : ByteArray)) ++ t320) ++ (⟨#[46]⟩ : ByteArray)).size + t321.size ≤ 9223372036854775807 then (if ((((((((⟨#[89, 79, 82]⟩ : ByteArray).extract ((wrap64 (a0_2 - 1)) : Int).toNat (a0_2 : Int).toNat) ++ ((⟨#[87, 82, 83, 72, 84]⟩ : ByteArray).extract ((wrap64 (a0_1 - 1)) : Int).toNat (a0_1 : Int).toNat)) ++ t319) ++ (⟨#[46]⟩ : ByteArray)) ++ t320) ++ (⟨#[46]⟩ : ByteArray)) ++ t321).size + 1 ≤ 9223372036854775807 then ((spec_l1Num.f k a0_0).bind fun t322 => (if (((((((((⟨#[89, 79, 82]⟩ : ByteArray).extract ((wrap64 (a0_2 - 1)) : Int).toNat (a0_2 : Int).toNat) ++ ((⟨#[87, 82, 83, 72, 84]⟩ : ByteArray).extract ((wrap64 (a0_1 - 1)) : Int).toNat (a0_1 : Int).toNat)) ++ t319) ++ (⟨#[46]⟩ : ByteArray)) ++ t320) ++ (⟨#[46]⟩ : ByteArray)) ++ t321) ++ (⟨#[46]⟩ : ByteArray)).size + t322.size ≤ 9223372036854775807 then (some ((((((((((⟨#[89, 79, 82]⟩ : ByteArray).extract ((wrap64 (a0_2 - 1)) : Int).toNat (a0_2 : Int).toNat) ++ ((⟨#[87, 82, 83, 72, 84]⟩ : ByteArray).extract ((wrap64 (a0_1 - 1)) : Int).toNat (a0_1 : Int).toNat)) ++ t319) ++ (⟨#[46]⟩ : ByteArray)) ++ t320) ++ (⟨#[46]⟩ : ByteArray)) ++ t321) ++ (⟨#[46]⟩ : ByteArray)) ++ t322)) else (none))) else (none)) else (none))) else (none)) else (none))) else (none)) else (none))) else (none)) else (none)) else (none)) else (none)) else (none)) else (none)) else (none)) = some r := h
 clear h
 obtain ⟨ji2, hji2⟩ : ∃ j_ : Int, (wrap64 (a0_2 - 1)) = j_ := ⟨_, rfl⟩
 replace H : (if 0 ≤ (ji2) then (if (ji2) ≤ a0_2 then (if a0_2 ≤ 3 then (if 0 ≤ (wrap64 (a0_1 - 1)) then (if (wrap64 (a0_1 - 1)) ≤ a0_1 then (if a0_1 ≤ 5 then (if ((⟨#[89, 79, 82]⟩ : ByteArray).extract ((ji2) : Int).toNat (a0_2 : Int).toNat).size + ((⟨#[87, 82, 83, 72, 84]⟩ : ByteArray).extract ((wrap64 (a0_1 - 1)) : Int).toNat (a0_1 : Int).toNat).size ≤ 9223372036854775807 then ((spec_l1Num.f k a0_3).bind fun t319 => (if (((⟨#[89, 79, 82]⟩ : ByteArray).extract ((ji2) : Int).toNat (a0_2 : Int).toNat) ++ ((⟨#[87, 82, 83, 72, 84]⟩ : ByteArray).extract ((wrap64 (a0_1 - 1)) : Int).toNat (a0_1 : Int).toNat)).size + t319.size ≤ 9223372036854775807 then (if ((((⟨#[89, 79, 82]⟩ : ByteArray).extract ((ji2) : Int).toNat (a0_2 : Int).toNat) ++ ((⟨#[87, 82, 83, 72, 84]⟩ : ByteArray).extract ((wrap64 (a0_1 - 1)) : Int).toNat (a0_1 : Int).toNat)) ++ t319).size + 1 ≤ 9223372036854775807 then ((spec_l1Num.f k a0_4).bind fun t320 => (if (((((⟨#[89, 79, 82]⟩ : ByteArray).extract ((ji2) : Int).toNat (a0_2 : Int).toNat) ++ ((⟨#[87, 82, 83, 72, 84]⟩ : ByteArray).extract ((wrap64 (a0_1 - 1)) : Int).toNat (a0_1 : Int).toNat)) ++ t319) ++ (⟨#[46]⟩ : ByteArray)).size + t320.size ≤ 9223372036854775807 then (if ((((((⟨#[89, 79, 82]⟩ : ByteArray).extract ((ji2) : Int).toNat (a0_2 : Int).toNat) ++ ((⟨#[87, 82, 83, 72, 84]⟩ : ByteArray).extract ((wrap64 (a0_1 - 1)) : Int).toNat (a0_1 : Int).toNat)) ++ t319) ++ (⟨#[46]⟩ : ByteArray)) ++ t320).size + 1 ≤ 9223372036854775807 then ((spec_l1Num.f k a0_5).bind fun t321 => (if (((((((⟨#[89, 79, 82]⟩ : ByteArray).extract ((ji2) : Int).toNat (a0_2 : Int).toNat) ++ ((⟨#[87, 82, 83, 72, 84]⟩ : ByteArray).extract ((wrap64 (a0_1 - 1)) : Int).toNat (a0_1 : Int).toNat)) ++ t319) ++ (⟨#[46]⟩ : ByteArray)) ++ t320) ++ (⟨#[46]⟩ : ByteArray)).size + t321.size ≤ 9223372036854775807 then (if ((((((((⟨#[89, 79, 82]⟩ : ByteArray).extract ((ji2) : Int).toNat (a0_2 : Int).toNat) ++ ((⟨#[87, 82, 83, 72, 84]⟩ : ByteArray).extract ((wrap64 (a0_1 - 1)) : Int).toNat (a0_1 : Int).toNat)) ++ t319) ++ (⟨#[46]⟩ : ByteArray)) ++ t320) ++ (⟨#[46]⟩ : ByteArray)) ++ t321).size + 1 ≤ 9223372036854775807 then ((spec_l1Num.f k a0_0).bind fun t322 => (if (((((((((⟨#[89, 79, 82]⟩ : ByteArray).extract ((ji2) : Int).toNat (a0_2 : Int).toNat) ++ ((⟨#[87, 82, 83, 72, 84]⟩ : ByteArray).extract ((wrap64 (a0_1 - 1)) : Int).toNat (a0_1 : Int).toNat)) ++ t319) ++ (⟨#[46]⟩ : ByteArray)) ++ t320) ++ (⟨#[46]⟩ : ByteArray)) ++ t321) ++ (⟨#[46]⟩ : ByteArray)).size + t322.size ≤ 9223372036854775807 then (some ((((((((((⟨#[89, 79, 82]⟩ : ByteArray).extract ((ji2) : Int).toNat (a0_2 : Int).toNat) ++ ((⟨#[87, 82, 83, 72, 84]⟩ : ByteArray).extract ((wrap64 (a0_1 - 1)) : Int).toNat (a0_1 : Int).toNat)) ++ t319) ++ (⟨#[46]⟩ : ByteArray)) ++ t320) ++ (⟨#[46]⟩ : ByteArray)) ++ t321) ++ (⟨#[46]⟩ : ByteArray)) ++ t322)) else (none))) else (none)) else (none))) else (none)) else (none))) else (none)) else (none))) else (none)) else (none)) else (none)) else (none)) else (none)) else (none)) else (none)) = some r := by first | (rw [hji2] at H; exact H) | (simp only [hji2] at H ⊢; exact H)
 have hji2w : (IntKind.i64.wrap (a0_2 - 1)) = ji2 := (i64_w _).trans hji2
 by_cases c3 : 0 ≤ (ji2)
 ·rw [if_pos c3] at H
  have c3b0 := eq_true c3
  have c3b1 : decide (0 ≤ (ji2)) = true := decide_eq_true c3
  clear c3
  by_cases c4 : (ji2) ≤ a0_2
  ·rw [if_pos c4] at H
   have c4b0 := eq_true c4
   have c4b1 : decide ((ji2) ≤ a0_2) = true := decide_eq_true c4
   clear c4
   by_cases c5 : a0_2 ≤ 3
   ·rw [if_pos c5] at H
    have c5b0 := eq_true c5
    have c5b1 : decide (a0_2 ≤ 3) = true := decide_eq_true c5
    clear c5
    obtain ⟨ji6, hji6⟩ : ∃ j_ : Int, (wrap64 (a0_1 - 1)) = j_ := ⟨_, rfl⟩
    replace H : (if 0 ≤ (ji6) then (if (ji6) ≤ a0_1 then (if a0_1 ≤ 5 then (if ((⟨#[89, 79, 82]⟩ : ByteArray).extract ((ji2) : Int).toNat (a0_2 : Int).toNat).size + ((⟨#[87, 82, 83, 72, 84]⟩ : ByteArray).extract ((ji6) : Int).toNat (a0_1 : Int).toNat).size ≤ 9223372036854775807 then ((spec_l1Num.f k a0_3).bind fun t319 => (if (((⟨#[89, 79, 82]⟩ : ByteArray).extract ((ji2) : Int).toNat (a0_2 : Int).toNat) ++ ((⟨#[87, 82, 83, 72, 84]⟩ : ByteArray).extract ((ji6) : Int).toNat (a0_1 : Int).toNat)).size + t319.size ≤ 9223372036854775807 then (if ((((⟨#[89, 79, 82]⟩ : ByteArray).extract ((ji2) : Int).toNat (a0_2 : Int).toNat) ++ ((⟨#[87, 82, 83, 72, 84]⟩ : ByteArray).extract ((ji6) : Int).toNat (a0_1 : Int).toNat)) ++ t319).size + 1 ≤ 9223372036854775807 then ((spec_l1Num.f k a0_4).bind fun t320 => (if (((((⟨#[89, 79, 82]⟩ : ByteArray).extract ((ji2) : Int).toNat (a0_2 : Int).toNat) ++ ((⟨#[87, 82, 83, 72, 84]⟩ : ByteArray).extract ((ji6) : Int).toNat (a0_1 : Int).toNat)) ++ t319) ++ (⟨#[46]⟩ : ByteArray)).size + t320.size ≤ 9223372036854775807 then (if ((((((⟨#[89, 79, 82]⟩ : ByteArray).extract ((ji2) : Int).toNat (a0_2 : Int).toNat) ++ ((⟨#[87, 82, 83, 72, 84]⟩ : ByteArray).extract ((ji6) : Int).toNat (a0_1 : Int).toNat)) ++ t319) ++ (⟨#[46]⟩ : ByteArray)) ++ t320).size + 1 ≤ 9223372036854775807 then ((spec_l1Num.f k a0_5).bind fun t321 => (if (((((((⟨#[89, 79, 82]⟩ : ByteArray).extract ((ji2) : Int).toNat (a0_2 : Int).toNat) ++ ((⟨#[87, 82, 83, 72, 84]⟩ : ByteArray).extract ((ji6) : Int).toNat (a0_1 : Int).toNat)) ++ t319) ++ (⟨#[46]⟩ : ByteArray)) ++ t320) ++ (⟨#[46]⟩ : ByteArray)).size + t321.size ≤ 9223372036854775807 then (if ((((((((⟨#[89, 79, 82]⟩ : ByteArray).extract ((ji2) : Int).toNat (a0_2 : Int).toNat) ++ ((⟨#[87, 82, 83, 72, 84]⟩ : ByteArray).extract ((ji6) : Int).toNat (a0_1 : Int).toNat)) ++ t319) ++ (⟨#[46]⟩ : ByteArray)) ++ t320) ++ (⟨#[46]⟩ : ByteArray)) ++ t321).size + 1 ≤ 9223372036854775807 then ((spec_l1Num.f k a0_0).bind fun t322 => (if (((((((((⟨#[89, 79, 82]⟩ : ByteArray).extract ((ji2) : Int).toNat (a0_2 : Int).toNat) ++ ((⟨#[87, 82, 83, 72, 84]⟩ : ByteArray).extract ((ji6) : Int).toNat (a0_1 : Int).toNat)) ++ t319) ++ (⟨#[46]⟩ : ByteArray)) ++ t320) ++ (⟨#[46]⟩ : ByteArray)) ++ t321) ++ (⟨#[46]⟩ : ByteArray)).size + t322.size ≤ 9223372036854775807 then (some ((((((((((⟨#[89, 79, 82]⟩ : ByteArray).extract ((ji2) : Int).toNat (a0_2 : Int).toNat) ++ ((⟨#[87, 82, 83, 72, 84]⟩ : ByteArray).extract ((ji6) : Int).toNat (a0_1 : Int).toNat)) ++ t319) ++ (⟨#[46]⟩ : ByteArray)) ++ t320) ++ (⟨#[46]⟩ : ByteArray)) ++ t321) ++ (⟨#[46]⟩ : ByteArray)) ++ t322)) else (none))) else (none)) else (none))) else (none)) else (none))) else (none)) else (none))) else (none)) else (none)) else (none)) else (none)) = some r := by first | (rw [hji6] at H; exact H) | (simp only [hji6] at H ⊢; exact H)
    have hji6w : (IntKind.i64.wrap (a0_1 - 1)) = ji6 := (i64_w _).trans hji6
    by_cases c7 : 0 ≤ (ji6)
    ·rw [if_pos c7] at H
     have c7b0 := eq_true c7
     have c7b1 : decide (0 ≤ (ji6)) = true := decide_eq_true c7
     clear c7
     by_cases c8 : (ji6) ≤ a0_1
     ·rw [if_pos c8] at H
      have c8b0 := eq_true c8
      have c8b1 : decide ((ji6) ≤ a0_1) = true := decide_eq_true c8
      clear c8
      by_cases c9 : a0_1 ≤ 5
      ·rw [if_pos c9] at H
       have c9b0 := eq_true c9
       have c9b1 : decide (a0_1 ≤ 5) = true := decide_eq_true c9
       clear c9
       by_cases c10 : ((⟨#[89, 79, 82]⟩ : ByteArray).extract ((ji2) : Int).toNat (a0_2 : Int).toNat).size + ((⟨#[87, 82, 83, 72, 84]⟩ : ByteArray).extract ((ji6) : Int).toNat (a0_1 : Int).toNat).size ≤ 9223372036854775807
       ·rw [if_pos c10] at H
        have c10b0 := eq_true c10
        have c10b1 : decide (((⟨#[89, 79, 82]⟩ : ByteArray).extract ((ji2) : Int).toNat (a0_2 : Int).toNat).size + ((⟨#[87, 82, 83, 72, 84]⟩ : ByteArray).extract ((ji6) : Int).toNat (a0_1 : Int).toNat).size ≤ 9223372036854775807) = true := decide_eq_true c10
        try have c10b2 : (9223372036854775807 < ((⟨#[89, 79, 82]⟩ : ByteArray).extract ((ji2) : Int).toNat (a0_2 : Int).toNat).size + ((⟨#[87, 82, 83, 72, 84]⟩ : ByteArray).extract ((ji6) : Int).toNat (a0_1 : Int).toNat).size) = False := eq_false (Nat.not_lt.2 c10)
        have c10b3 : (9223372036854775807 < (a0_2.toNat - ji2.toNat) + (a0_1.toNat - ji6.toNat)) = False := eq_false (Nat.not_lt.2 (by have h_ := c10; simp only [ByteArray.size_append, ByteArray.size_extract] at h_; (try simp only [decide_eq_true_eq, eq_iff_iff, iff_true] at *); have e0_ : (⟨#[87, 82, 83, 72, 84]⟩ : ByteArray).size = 5 := rfl; have e1_ : (⟨#[89, 79, 82]⟩ : ByteArray).size = 3 := rfl; omega))
        replace H := Option.bind_eq_some_iff.mp H
        obtain ⟨t319, A110, H⟩ := H
        replace H : (if (((⟨#[89, 79, 82]⟩ : ByteArray).extract ((ji2) : Int).toNat (a0_2 : Int).toNat) ++ ((⟨#[87, 82, 83, 72, 84]⟩ : ByteArray).extract ((ji6) : Int).toNat (a0_1 : Int).toNat)).size + t319.size ≤ 9223372036854775807 then (if ((((⟨#[89, 79, 82]⟩ : ByteArray).extract ((ji2) : Int).toNat (a0_2 : Int).toNat) ++ ((⟨#[87, 82, 83, 72, 84]⟩ : ByteArray).extract ((ji6) : Int).toNat (a0_1 : Int).toNat)) ++ t319).size + 1 ≤ 9223372036854775807 then ((spec_l1Num.f k a0_4).bind fun t320 => (if (((((⟨#[89, 79, 82]⟩ : ByteArray).extract ((ji2) : Int).toNat (a0_2 : Int).toNat) ++ ((⟨#[87, 82, 83, 72, 84]⟩ : ByteArray).extract ((ji6) : Int).toNat (a0_1 : Int).toNat)) ++ t319) ++ (⟨#[46]⟩ : ByteArray)).size + t320.size ≤ 9223372036854775807 then (if ((((((⟨#[89, 79, 82]⟩ : ByteArray).extract ((ji2) : Int).toNat (a0_2 : Int).toNat) ++ ((⟨#[87, 82, 83, 72, 84]⟩ : ByteArray).extract ((ji6) : Int).toNat (a0_1 : Int).toNat)) ++ t319) ++ (⟨#[46]⟩ : ByteArray)) ++ t320).size + 1 ≤ 9223372036854775807 then ((spec_l1Num.f k a0_5).bind fun t321 => (if (((((((⟨#[89, 79, 82]⟩ : ByteArray).extract ((ji2) : Int).toNat (a0_2 : Int).toNat) ++ ((⟨#[87, 82, 83, 72, 84]⟩ : ByteArray).extract ((ji6) : Int).toNat (a0_1 : Int).toNat)) ++ t319) ++ (⟨#[46]⟩ : ByteArray)) ++ t320) ++ (⟨#[46]⟩ : ByteArray)).size + t321.size ≤ 9223372036854775807 then (if ((((((((⟨#[89, 79, 82]⟩ : ByteArray).extract ((ji2) : Int).toNat (a0_2 : Int).toNat) ++ ((⟨#[87, 82, 83, 72, 84]⟩ : ByteArray).extract ((ji6) : Int).toNat (a0_1 : Int).toNat)) ++ t319) ++ (⟨#[46]⟩ : ByteArray)) ++ t320) ++ (⟨#[46]⟩ : ByteArray)) ++ t321).size + 1 ≤ 9223372036854775807 then ((spec_l1Num.f k a0_0).bind fun t322 => (if (((((((((⟨#[89, 79, 82]⟩ : ByteArray).extract ((ji2) : Int).toNat (a0_2 : Int).toNat) ++ ((⟨#[87, 82, 83, 72, 84]⟩ : ByteArray).extract ((ji6) : Int).toNat (a0_1 : Int).toNat)) ++ t319) ++ (⟨#[46]⟩ : ByteArray)) ++ t320) ++ (⟨#[46]⟩ : ByteArray)) ++ t321) ++ (⟨#[46]⟩ : ByteArray)).size + t322.size ≤ 9223372036854775807 then (some ((((((((((⟨#[89, 79, 82]⟩ : ByteArray).extract ((ji2) : Int).toNat (a0_2 : Int).toNat) ++ ((⟨#[87, 82, 83, 72, 84]⟩ : ByteArray).extract ((ji6) : Int).toNat (a0_1 : Int).toNat)) ++ t319) ++ (⟨#[46]⟩ : ByteArray)) ++ t320) ++ (⟨#[46]⟩ : ByteArray)) ++ t321) ++ (⟨#[46]⟩ : ByteArray)) ++ t322)) else (none))) else (none)) else (none))) else (none)) else (none))) else (none)) else (none)) = some r := H
        have A11 := Aside0.mk A110
        clear A110
        by_cases c12 : (((⟨#[89, 79, 82]⟩ : ByteArray).extract ((ji2) : Int).toNat (a0_2 : Int).toNat) ++ ((⟨#[87, 82, 83, 72, 84]⟩ : ByteArray).extract ((ji6) : Int).toNat (a0_1 : Int).toNat)).size + t319.size ≤ 9223372036854775807
        ·rw [if_pos c12] at H
         have c12b0 := eq_true c12
         have c12b1 : decide ((((⟨#[89, 79, 82]⟩ : ByteArray).extract ((ji2) : Int).toNat (a0_2 : Int).toNat) ++ ((⟨#[87, 82, 83, 72, 84]⟩ : ByteArray).extract ((ji6) : Int).toNat (a0_1 : Int).toNat)).size + t319.size ≤ 9223372036854775807) = true := decide_eq_true c12
         try have c12b2 : (9223372036854775807 < (((⟨#[89, 79, 82]⟩ : ByteArray).extract ((ji2) : Int).toNat (a0_2 : Int).toNat) ++ ((⟨#[87, 82, 83, 72, 84]⟩ : ByteArray).extract ((ji6) : Int).toNat (a0_1 : Int).toNat)).size + t319.size) = False := eq_false (Nat.not_lt.2 c12)
         have c12b3 : (9223372036854775807 < (a0_2.toNat - ji2.toNat) + (a0_1.toNat - ji6.toNat) + t319.size) = False := eq_false (Nat.not_lt.2 (by have h_ := c12; simp only [ByteArray.size_append, ByteArray.size_extract] at h_; (try simp only [decide_eq_true_eq, eq_iff_iff, iff_true] at *); have e0_ : (⟨#[87, 82, 83, 72, 84]⟩ : ByteArray).size = 5 := rfl; have e1_ : (⟨#[89, 79, 82]⟩ : ByteArray).size = 3 := rfl; omega))
         by_cases c13 : ((((⟨#[89, 79, 82]⟩ : ByteArray).extract ((ji2) : Int).toNat (a0_2 : Int).toNat) ++ ((⟨#[87, 82, 83, 72, 84]⟩ : ByteArray).extract ((ji6) : Int).toNat (a0_1 : Int).toNat)) ++ t319).size + 1 ≤ 9223372036854775807
         ·rw [if_pos c13] at H
          have c13b0 := eq_true c13
          have c13b1 : decide (((((⟨#[89, 79, 82]⟩ : ByteArray).extract ((ji2) : Int).toNat (a0_2 : Int).toNat) ++ ((⟨#[87, 82, 83, 72, 84]⟩ : ByteArray).extract ((ji6) : Int).toNat (a0_1 : Int).toNat)) ++ t319).size + 1 ≤ 9223372036854775807) = true := decide_eq_true c13
          try have c13b2 : (9223372036854775807 < ((((⟨#[89, 79, 82]⟩ : ByteArray).extract ((ji2) : Int).toNat (a0_2 : Int).toNat) ++ ((⟨#[87, 82, 83, 72, 84]⟩ : ByteArray).extract ((ji6) : Int).toNat (a0_1 : Int).toNat)) ++ t319).size + 1) = False := eq_false (Nat.not_lt.2 c13)
          have c13b3 : (9223372036854775807 < (a0_2.toNat - ji2.toNat) + (a0_1.toNat - ji6.toNat) + t319.size + 1) = False := eq_false (Nat.not_lt.2 (by have h_ := c13; simp only [ByteArray.size_append, ByteArray.size_extract] at h_; (try simp only [decide_eq_true_eq, eq_iff_iff, iff_true] at *); have e0_ : (⟨#[87, 82, 83, 72, 84]⟩ : ByteArray).size = 5 := rfl; have e1_ : (⟨#[89, 79, 82]⟩ : ByteArray).size = 3 := rfl; omega))
          replace H := Option.bind_eq_some_iff.mp H
          obtain ⟨t320, A140, H⟩ := H
          replace H : (if (((((⟨#[89, 79, 82]⟩ : ByteArray).extract ((ji2) : Int).toNat (a0_2 : Int).toNat) ++ ((⟨#[87, 82, 83, 72, 84]⟩ : ByteArray).extract ((ji6) : Int).toNat (a0_1 : Int).toNat)) ++ t319) ++ (⟨#[46]⟩ : ByteArray)).size + t320.size ≤ 9223372036854775807 then (if ((((((⟨#[89, 79, 82]⟩ : ByteArray).extract ((ji2) : Int).toNat (a0_2 : Int).toNat) ++ ((⟨#[87, 82, 83, 72, 84]⟩ : ByteArray).extract ((ji6) : Int).toNat (a0_1 : Int).toNat)) ++ t319) ++ (⟨#[46]⟩ : ByteArray)) ++ t320).size + 1 ≤ 9223372036854775807 then ((spec_l1Num.f k a0_5).bind fun t321 => (if (((((((⟨#[89, 79, 82]⟩ : ByteArray).extract ((ji2) : Int).toNat (a0_2 : Int).toNat) ++ ((⟨#[87, 82, 83, 72, 84]⟩ : ByteArray).extract ((ji6) : Int).toNat (a0_1 : Int).toNat)) ++ t319) ++ (⟨#[46]⟩ : ByteArray)) ++ t320) ++ (⟨#[46]⟩ : ByteArray)).size + t321.size ≤ 9223372036854775807 then (if ((((((((⟨#[89, 79, 82]⟩ : ByteArray).extract ((ji2) : Int).toNat (a0_2 : Int).toNat) ++ ((⟨#[87, 82, 83, 72, 84]⟩ : ByteArray).extract ((ji6) : Int).toNat (a0_1 : Int).toNat)) ++ t319) ++ (⟨#[46]⟩ : ByteArray)) ++ t320) ++ (⟨#[46]⟩ : ByteArray)) ++ t321).size + 1 ≤ 9223372036854775807 then ((spec_l1Num.f k a0_0).bind fun t322 => (if (((((((((⟨#[89, 79, 82]⟩ : ByteArray).extract ((ji2) : Int).toNat (a0_2 : Int).toNat) ++ ((⟨#[87, 82, 83, 72, 84]⟩ : ByteArray).extract ((ji6) : Int).toNat (a0_1 : Int).toNat)) ++ t319) ++ (⟨#[46]⟩ : ByteArray)) ++ t320) ++ (⟨#[46]⟩ : ByteArray)) ++ t321) ++ (⟨#[46]⟩ : ByteArray)).size + t322.size ≤ 9223372036854775807 then (some ((((((((((⟨#[89, 79, 82]⟩ : ByteArray).extract ((ji2) : Int).toNat (a0_2 : Int).toNat) ++ ((⟨#[87, 82, 83, 72, 84]⟩ : ByteArray).extract ((ji6) : Int).toNat (a0_1 : Int).toNat)) ++ t319) ++ (⟨#[46]⟩ : ByteArray)) ++ t320) ++ (⟨#[46]⟩ : ByteArray)) ++ t321) ++ (⟨#[46]⟩ : ByteArray)) ++ t322)) else (none))) else (none)) else (none))) else (none)) else (none)) = some r := H
          have A14 := Aside0.mk A140
          clear A140
          by_cases c15 : (((((⟨#[89, 79, 82]⟩ : ByteArray).extract ((ji2) : Int).toNat (a0_2 : Int).toNat) ++ ((⟨#[87, 82, 83, 72, 84]⟩ : ByteArray).extract ((ji6) : Int).toNat (a0_1 : Int).toNat)) ++ t319) ++ (⟨#[46]⟩ : ByteArray)).size + t320.size ≤ 9223372036854775807
          ·rw [if_pos c15] at H
           have c15b0 := eq_true c15
           have c15b1 : decide ((((((⟨#[89, 79, 82]⟩ : ByteArray).extract ((ji2) : Int).toNat (a0_2 : Int).toNat) ++ ((⟨#[87, 82, 83, 72, 84]⟩ : ByteArray).extract ((ji6) : Int).toNat (a0_1 : Int).toNat)) ++ t319) ++ (⟨#[46]⟩ : ByteArray)).size + t320.size ≤ 9223372036854775807) = true := decide_eq_true c15
           try have c15b2 : (9223372036854775807 < (((((⟨#[89, 79, 82]⟩ : ByteArray).extract ((ji2) : Int).toNat (a0_2 : Int).toNat) ++ ((⟨#[87, 82, 83, 72, 84]⟩ : ByteArray).extract ((ji6) : Int).toNat (a0_1 : Int).toNat)) ++ t319) ++ (⟨#[46]⟩ : ByteArray)).size + t320.size) = False := eq_false (Nat.not_lt.2 c15)
           have c15b3 : (9223372036854775807 < (a0_2.toNat - ji2.toNat) + (a0_1.toNat - ji6.toNat) + t319.size + 1 + t320.size) = False := eq_false (Nat.not_lt.2 (by have h_ := c15; simp only [ByteArray.size_append, ByteArray.size_extract] at h_; (try simp only [decide_eq_true_eq, eq_iff_iff, iff_true] at *); have e0_ : (⟨#[46]⟩ : ByteArray).size = 1 := rfl; have e1_ : (⟨#[87, 82, 83, 72, 84]⟩ : ByteArray).size = 5 := rfl; have e2_ : (⟨#[89, 79, 82]⟩ : ByteArray).size = 3 := rfl; omega))
           by_cases c16 : ((((((⟨#[89, 79, 82]⟩ : ByteArray).extract ((ji2) : Int).toNat (a0_2 : Int).toNat) ++ ((⟨#[87, 82, 83, 72, 84]⟩ : ByteArray).extract ((ji6) : Int).toNat (a0_1 : Int).toNat)) ++ t319) ++ (⟨#[46]⟩ : ByteArray)) ++ t320).size + 1 ≤ 9223372036854775807
           ·rw [if_pos c16] at H
            have c16b0 := eq_true c16
            have c16b1 : decide (((((((⟨#[89, 79, 82]⟩ : ByteArray).extract ((ji2) : Int).toNat (a0_2 : Int).toNat) ++ ((⟨#[87, 82, 83, 72, 84]⟩ : ByteArray).extract ((ji6) : Int).toNat (a0_1 : Int).toNat)) ++ t319) ++ (⟨#[46]⟩ : ByteArray)) ++ t320).size + 1 ≤ 9223372036854775807) = true := decide_eq_true c16
            try have c16b2 : (9223372036854775807 < ((((((⟨#[89, 79, 82]⟩ : ByteArray).extract ((ji2) : Int).toNat (a0_2 : Int).toNat) ++ ((⟨#[87, 82, 83, 72, 84]⟩ : ByteArray).extract ((ji6) : Int).toNat (a0_1 : Int).toNat)) ++ t319) ++ (⟨#[46]⟩ : ByteArray)) ++ t320).size + 1) = False := eq_false (Nat.not_lt.2 c16)
            have c16b3 : (9223372036854775807 < (a0_2.toNat - ji2.toNat) + (a0_1.toNat - ji6.toNat) + t319.size + 1 + t320.size + 1) = False := eq_false (Nat.not_lt.2 (by have h_ := c16; simp only [ByteArray.size_append, ByteArray.size_extract] at h_; (try simp only [decide_eq_true_eq, eq_iff_iff, iff_true] at *); have e0_ : (⟨#[46]⟩ : ByteArray).size = 1 := rfl; have e1_ : (⟨#[87, 82, 83, 72, 84]⟩ : ByteArray).size = 5 := rfl; have e2_ : (⟨#[89, 79, 82]⟩ : ByteArray).size = 3 := rfl; omega))
            replace H := Option.bind_eq_some_iff.mp H
            obtain ⟨t321, A170, H⟩ := H
            replace H : (if (((((((⟨#[89, 79, 82]⟩ : ByteArray).extract ((ji2) : Int).toNat (a0_2 : Int).toNat) ++ ((⟨#[87, 82, 83, 72, 84]⟩ : ByteArray).extract ((ji6) : Int).toNat (a0_1 : Int).toNat)) ++ t319) ++ (⟨#[46]⟩ : ByteArray)) ++ t320) ++ (⟨#[46]⟩ : ByteArray)).size + t321.size ≤ 9223372036854775807 then (if ((((((((⟨#[89, 79, 82]⟩ : ByteArray).extract ((ji2) : Int).toNat (a0_2 : Int).toNat) ++ ((⟨#[87, 82, 83, 72, 84]⟩ : ByteArray).extract ((ji6) : Int).toNat (a0_1 : Int).toNat)) ++ t319) ++ (⟨#[46]⟩ : ByteArray)) ++ t320) ++ (⟨#[46]⟩ : ByteArray)) ++ t321).size + 1 ≤ 9223372036854775807 then ((spec_l1Num.f k a0_0).bind fun t322 => (if (((((((((⟨#[89, 79, 82]⟩ : ByteArray).extract ((ji2) : Int).toNat (a0_2 : Int).toNat) ++ ((⟨#[87, 82, 83, 72, 84]⟩ : ByteArray).extract ((ji6) : Int).toNat (a0_1 : Int).toNat)) ++ t319) ++ (⟨#[46]⟩ : ByteArray)) ++ t320) ++ (⟨#[46]⟩ : ByteArray)) ++ t321) ++ (⟨#[46]⟩ : ByteArray)).size + t322.size ≤ 9223372036854775807 then (some ((((((((((⟨#[89, 79, 82]⟩ : ByteArray).extract ((ji2) : Int).toNat (a0_2 : Int).toNat) ++ ((⟨#[87, 82, 83, 72, 84]⟩ : ByteArray).extract ((ji6) : Int).toNat (a0_1 : Int).toNat)) ++ t319) ++ (⟨#[46]⟩ : ByteArray)) ++ t320) ++ (⟨#[46]⟩ : ByteArray)) ++ t321) ++ (⟨#[46]⟩ : ByteArray)) ++ t322)) else (none))) else (none)) else (none)) = some r := H
            have A17 := Aside0.mk A170
            clear A170
            by_cases c18 : (((((((⟨#[89, 79, 82]⟩ : ByteArray).extract ((ji2) : Int).toNat (a0_2 : Int).toNat) ++ ((⟨#[87, 82, 83, 72, 84]⟩ : ByteArray).extract ((ji6) : Int).toNat (a0_1 : Int).toNat)) ++ t319) ++ (⟨#[46]⟩ : ByteArray)) ++ t320) ++ (⟨#[46]⟩ : ByteArray)).size + t321.size ≤ 9223372036854775807
            ·rw [if_pos c18] at H
             have c18b0 := eq_true c18
             have c18b1 : decide ((((((((⟨#[89, 79, 82]⟩ : ByteArray).extract ((ji2) : Int).toNat (a0_2 : Int).toNat) ++ ((⟨#[87, 82, 83, 72, 84]⟩ : ByteArray).extract ((ji6) : Int).toNat (a0_1 : Int).toNat)) ++ t319) ++ (⟨#[46]⟩ : ByteArray)) ++ t320) ++ (⟨#[46]⟩ : ByteArray)).size + t321.size ≤ 9223372036854775807) = true := decide_eq_true c18
             try have c18b2 : (9223372036854775807 < (((((((⟨#[89, 79, 82]⟩ : ByteArray).extract ((ji2) : Int).toNat (a0_2 : Int).toNat) ++ ((⟨#[87, 82, 83, 72, 84]⟩ : ByteArray).extract ((ji6) : Int).toNat (a0_1 : Int).toNat)) ++ t319) ++ (⟨#[46]⟩ : ByteArray)) ++ t320) ++ (⟨#[46]⟩ : ByteArray)).size + t321.size) = False := eq_false (Nat.not_lt.2 c18)
             have c18b3 : (9223372036854775807 < (a0_2.toNat - ji2.toNat) + (a0_1.toNat - ji6.toNat) + t319.size + 1 + t320.size + 1 + t321.size) = False := eq_false (Nat.not_lt.2 (by have h_ := c18; simp only [ByteArray.size_append, ByteArray.size_extract] at h_; (try simp only [decide_eq_true_eq, eq_iff_iff, iff_true] at *); have e0_ : (⟨#[46]⟩ : ByteArray).size = 1 := rfl; have e1_ : (⟨#[87, 82, 83, 72, 84]⟩ : ByteArray).size = 5 := rfl; have e2_ : (⟨#[89, 79, 82]⟩ : ByteArray).size = 3 := rfl; omega))
             by_cases c19 : ((((((((⟨#[89, 79, 82]⟩ : ByteArray).extract ((ji2) : Int).toNat (a0_2 : Int).toNat) ++ ((⟨#[87, 82, 83, 72, 84]⟩ : ByteArray).extract ((ji6) : Int).toNat (a0_1 : Int).toNat)) ++ t319) ++ (⟨#[46]⟩ : ByteArray)) ++ t320) ++ (⟨#[46]⟩ : ByteArray)) ++ t321).size + 1 ≤ 9223372036854775807
             ·rw [if_pos c19] at H
              have c19b0 := eq_true c19
              have c19b1 : decide (((((((((⟨#[89, 79, 82]⟩ : ByteArray).extract ((ji2) : Int).toNat (a0_2 : Int).toNat) ++ ((⟨#[87, 82, 83, 72, 84]⟩ : ByteArray).extract ((ji6) : Int).toNat (a0_1 : Int).toNat)) ++ t319) ++ (⟨#[46]⟩ : ByteArray)) ++ t320) ++ (⟨#[46]⟩ : ByteArray)) ++ t321).size + 1 ≤ 9223372036854775807) = true := decide_eq_true c19
              try have c19b2 : (9223372036854775807 < ((((((((⟨#[89, 79, 82]⟩ : ByteArray).extract ((ji2) : Int).toNat (a0_2 : Int).toNat) ++ ((⟨#[87, 82, 83, 72, 84]⟩ : ByteArray).extract ((ji6) : Int).toNat (a0_1 : Int).toNat)) ++ t319) ++ (⟨#[46]⟩ : ByteArray)) ++ t320) ++ (⟨#[46]⟩ : ByteArray)) ++ t321).size + 1) = False := eq_false (Nat.not_lt.2 c19)
              have c19b3 : (9223372036854775807 < (a0_2.toNat - ji2.toNat) + (a0_1.toNat - ji6.toNat) + t319.size + 1 + t320.size + 1 + t321.size + 1) = False := eq_false (Nat.not_lt.2 (by have h_ := c19; simp only [ByteArray.size_append, ByteArray.size_extract] at h_; (try simp only [decide_eq_true_eq, eq_iff_iff, iff_true] at *); have e0_ : (⟨#[46]⟩ : ByteArray).size = 1 := rfl; have e1_ : (⟨#[87, 82, 83, 72, 84]⟩ : ByteArray).size = 5 := rfl; have e2_ : (⟨#[89, 79, 82]⟩ : ByteArray).size = 3 := rfl; omega))
              replace H := Option.bind_eq_some_iff.mp H
              obtain ⟨t322, A200, H⟩ := H
              replace H : (if (((((((((⟨#[89, 79, 82]⟩ : ByteArray).extract ((ji2) : Int).toNat (a0_2 : Int).toNat) ++ ((⟨#[87, 82, 83, 72, 84]⟩ : ByteArray).extract ((ji6) : Int).toNat (a0_1 : Int).toNat)) ++ t319) ++ (⟨#[46]⟩ : ByteArray)) ++ t320) ++ (⟨#[46]⟩ : ByteArray)) ++ t321) ++ (⟨#[46]⟩ : ByteArray)).size + t322.size ≤ 9223372036854775807 then (some ((((((((((⟨#[89, 79, 82]⟩ : ByteArray).extract ((ji2) : Int).toNat (a0_2 : Int).toNat) ++ ((⟨#[87, 82, 83, 72, 84]⟩ : ByteArray).extract ((ji6) : Int).toNat (a0_1 : Int).toNat)) ++ t319) ++ (⟨#[46]⟩ : ByteArray)) ++ t320) ++ (⟨#[46]⟩ : ByteArray)) ++ t321) ++ (⟨#[46]⟩ : ByteArray)) ++ t322)) else (none)) = some r := H
              have A20 := Aside0.mk A200
              clear A200
              by_cases c21 : (((((((((⟨#[89, 79, 82]⟩ : ByteArray).extract ((ji2) : Int).toNat (a0_2 : Int).toNat) ++ ((⟨#[87, 82, 83, 72, 84]⟩ : ByteArray).extract ((ji6) : Int).toNat (a0_1 : Int).toNat)) ++ t319) ++ (⟨#[46]⟩ : ByteArray)) ++ t320) ++ (⟨#[46]⟩ : ByteArray)) ++ t321) ++ (⟨#[46]⟩ : ByteArray)).size + t322.size ≤ 9223372036854775807
              ·rw [if_pos c21] at H
               have c21b0 := eq_true c21
               have c21b1 : decide ((((((((((⟨#[89, 79, 82]⟩ : ByteArray).extract ((ji2) : Int).toNat (a0_2 : Int).toNat) ++ ((⟨#[87, 82, 83, 72, 84]⟩ : ByteArray).extract ((ji6) : Int).toNat (a0_1 : Int).toNat)) ++ t319) ++ (⟨#[46]⟩ : ByteArray)) ++ t320) ++ (⟨#[46]⟩ : ByteArray)) ++ t321) ++ (⟨#[46]⟩ : ByteArray)).size + t322.size ≤ 9223372036854775807) = true := decide_eq_true c21
               try have c21b2 : (9223372036854775807 < (((((((((⟨#[89, 79, 82]⟩ : ByteArray).extract ((ji2) : Int).toNat (a0_2 : Int).toNat) ++ ((⟨#[87, 82, 83, 72, 84]⟩ : ByteArray).extract ((ji6) : Int).toNat (a0_1 : Int).toNat)) ++ t319) ++ (⟨#[46]⟩ : ByteArray)) ++ t320) ++ (⟨#[46]⟩ : ByteArray)) ++ t321) ++ (⟨#[46]⟩ : ByteArray)).size + t322.size) = False := eq_false (Nat.not_lt.2 c21)
               have c21b3 : (9223372036854775807 < (a0_2.toNat - ji2.toNat) + (a0_1.toNat - ji6.toNat) + t319.size + 1 + t320.size + 1 + t321.size + 1 + t322.size) = False := eq_false (Nat.not_lt.2 (by have h_ := c21; simp only [ByteArray.size_append, ByteArray.size_extract] at h_; (try simp only [decide_eq_true_eq, eq_iff_iff, iff_true] at *); have e0_ : (⟨#[46]⟩ : ByteArray).size = 1 := rfl; have e1_ : (⟨#[87, 82, 83, 72, 84]⟩ : ByteArray).size = 5 := rfl; have e2_ : (⟨#[89, 79, 82]⟩ : ByteArray).size = 3 := rfl; omega))
               focus
                obtain rfl := Option.some.inj H
                go_enter Tryz.func52, Tryz.ntmps52
                try go_wp2_with (first | ((with_reducible refine gate_dst (N := 1) rfl ?_); refine box_event ?hg (N := 1) ?hd (cs := #[.int .i64 a0_0, .int .i64 a0_1, .int .i64 a0_2, .int .i64 a0_3, .int .i64 a0_4, .int .i64 a0_5]) (t := 25) ?hr ?_; (case hd => rfl); (case hg => rfl); (case hr => exact zsx); intro gb318 hg w22 hbox hb; have BK318 := Aside0.mk (hbox); have GW318 := zns hg HB.out; have GE318 := zns hg HB.out; replace HB := Aside0.mk (below_step (zBx HB.out) hb); clear hb hbox hg))
                replace BK318 := Aside0.mk (blk_drew BK318.out)
                replace HB := Aside0.mk (below_drew1 HB.out)
                refine start_ (n := 33) (S := fun w' => w'.cell? ⟨gb318, 0, none⟩ = some (.int .i64 a0_0) ∧ w'.cell? ⟨gb318, 1, none⟩ = some (.int .i64 a0_1) ∧ w'.cell? ⟨gb318, 2, none⟩ = some (.int .i64 a0_2) ∧ w'.cell? ⟨gb318, 3, none⟩ = some (.int .i64 a0_3) ∧ w'.cell? ⟨gb318, 4, none⟩ = some (.int .i64 a0_4) ∧ w'.cell? ⟨gb318, 5, none⟩ = some (.int .i64 a0_5)) (ds := []) #[F,F,F,F,F,F,F,F,F,F,F,F,F,F,F,F,F,F,F,F,F,F,F,F,F,F,F,F,F,F,F,F,F] (by kernel_rfl) rfl rfl ⟨(blk_cell BK318.out 0).trans rfl, (blk_cell BK318.out 1).trans rfl, (blk_cell BK318.out 2).trans rfl, (blk_cell BK318.out 3).trans rfl, (blk_cell BK318.out 4).trans rfl, (blk_cell BK318.out 5).trans rfl⟩ (fun hHeld => ?_); refine with_tabW spec_l17Code.tab1 spec_l17Code.bits1 (fun HT_ HW_ => ?_)
                generalize w22.drew = w23 at BK318 HB hHeld ⊢
                refine pure_ (i := 0) (N := some 3) (v := ?_) (a' := ?_) #[T,F,F,F,F,F,F,F,F,F,F,F,F,F,F,F,F,F,F,F,F,F,F,F,F,F,F,F,F,F,F,F,F] rfl rfl (any_of HT_.out (by kernel_rfl)) (fun _ _ _ h => h) (Or.inl ⟨by rfl, ?_⟩) ?_ ?_
                rotate_left
                ·exact zwx
                rotate_left
                ·exact zpx
                refine pure_ (i := 3) (N := some 6) (v := ?_) (a' := ?_) #[T,F,F,T,F,F,F,F,F,F,F,F,F,F,F,F,F,F,F,F,F,F,F,F,F,F,F,F,F,F,F,F,F] rfl rfl (any_of HT_.out (by kernel_rfl)) (fun _ _ _ h => h) (Or.inl ⟨by rfl, ?_⟩) ?_ ?_
                rotate_left
                ·exact zwx
                rotate_left
                ·exact zpx
                refine pure_ (i := 6) (N := some 9) (v := ?_) (a' := ?_) #[T,F,F,T,F,F,T,F,F,F,F,F,F,F,F,F,F,F,F,F,F,F,F,F,F,F,F,F,F,F,F,F,F] rfl rfl (any_of HT_.out (by kernel_rfl)) (fun _ _ _ h => h) (Or.inl ⟨by rfl, ?_⟩) ?_ ?_
                rotate_left
                ·exact zwx
                rotate_left
                ·exact zpx
                refine pure_ (i := 9) (N := some 12) (v := ?_) (a' := ?_) #[T,F,F,T,F,F,T,F,F,T,F,F,F,F,F,F,F,F,F,F,F,F,F,F,F,F,F,F,F,F,F,F,F] rfl rfl (any_of HT_.out (by kernel_rfl)) (fun _ _ _ h => h) (Or.inl ⟨by rfl, ?_⟩) ?_ ?_
                rotate_left
                ·exact zwx
                rotate_left
                ·exact zpx
                refine pure_ (i := 13) (N := some 16) (v := ?_) (a' := ?_) #[T,F,F,T,F,F,T,F,F,T,F,F,F,T,F,F,F,F,F,F,F,F,F,F,F,F,F,F,F,F,F,F,F] rfl rfl (any_of HT_.out (by kernel_rfl)) (fun _ _ _ h => h) (Or.inl ⟨by rfl, ?_⟩) ?_ ?_
                rotate_left
                ·exact zwx
                rotate_left
                ·exact zpx
                refine pure_ (i := 18) (N := some 21) (v := ?_) (a' := ?_) #[T,F,F,T,F,F,T,F,F,T,F,F,F,T,F,F,F,F,T,F,F,F,F,F,F,F,F,F,F,F,F,F,F] rfl rfl (any_of HT_.out (by kernel_rfl)) (fun _ _ _ h => h) (Or.inl ⟨by rfl, ?_⟩) ?_ ?_
                rotate_left
                ·exact zwx
                rotate_left
                ·exact zpx
                refine pure_ (i := 23) (N := some 26) (v := ?_) (a' := ?_) #[T,F,F,T,F,F,T,F,F,T,F,F,F,T,F,F,F,F,T,F,F,F,F,T,F,F,F,F,F,F,F,F,F] rfl rfl (any_of HT_.out (by kernel_rfl)) (fun _ _ _ h => h) (Or.inl ⟨by rfl, ?_⟩) ?_ ?_
                rotate_left
                ·exact zwx
                rotate_left
                ·exact zpx
                refine pure_ (i := 28) (N := some 31) (v := ?_) (a' := ?_) #[T,F,F,T,F,F,T,F,F,T,F,F,F,T,F,F,F,F,T,F,F,F,F,T,F,F,F,F,T,F,F,F,F] rfl rfl (any_of HT_.out (by kernel_rfl)) (fun _ _ _ h => h) (Or.inl ⟨by rfl, ?_⟩) ?_ ?_
                rotate_left
                ·exact zwx
                rotate_left
                ·exact zpx
                refine take_ (i := 1) (N := some 4) (v := ?_) (a' := ?_) #[T,T,F,T,F,F,T,F,F,T,F,F,F,T,F,F,F,F,T,F,F,F,F,T,F,F,F,F,T,F,F,F,F] rfl rfl (take_ofW HT_.out HW_.out (by kernel_rfl)) (fun _ _ _ h => h) (Or.inl ⟨by rfl, ?_⟩) hHeld ?_ ?_
                rotate_left
                ·rintro w' ⟨s0, s1, s2, s3, s4, s5⟩
                 go_simp
                 with_reducible rfl
                rotate_left
                ·exact zpx
                refine pure_ (i := 2) (N := some 5) (v := ?_) (a' := ?_) #[T,T,T,T,F,F,T,F,F,T,F,F,F,T,F,F,F,F,T,F,F,F,F,T,F,F,F,F,T,F,F,F,F] rfl rfl (any_of HT_.out (by kernel_rfl)) (fun _ _ _ h => h) (Or.inl ⟨by rfl, ?_⟩) ?_ ?_
                rotate_left
                ·exact zwx
                rotate_left
                ·exact zpx
                refine take_ (i := 4) (N := some 7) (v := ?_) (a' := ?_) #[T,T,T,T,T,F,T,F,F,T,F,F,F,T,F,F,F,F,T,F,F,F,F,T,F,F,F,F,T,F,F,F,F] rfl rfl (take_ofW HT_.out HW_.out (by kernel_rfl)) (fun _ _ _ h => h) (Or.inl ⟨by rfl, ?_⟩) hHeld ?_ ?_
                rotate_left
                ·rintro w' ⟨s0, s1, s2, s3, s4, s5⟩
                 go_simp
                 with_reducible rfl
                rotate_left
                ·exact zpx
                refine pure_ (i := 5) (N := some 8) (v := ?_) (a' := ?_) #[T,T,T,T,T,T,T,F,F,T,F,F,F,T,F,F,F,F,T,F,F,F,F,T,F,F,F,F,T,F,F,F,F] rfl rfl (any_of HT_.out (by kernel_rfl)) (fun _ _ _ h => h) (Or.inl ⟨by rfl, ?_⟩) ?_ ?_
                rotate_left
                ·exact zwx
                rotate_left
                ·exact zpx
                refine take_ (i := 7) (N := some 10) (v := ?_) (a' := ?_) #[T,T,T,T,T,T,T,T,F,T,F,F,F,T,F,F,F,F,T,F,F,F,F,T,F,F,F,F,T,F,F,F,F] rfl rfl (take_ofW HT_.out HW_.out (by kernel_rfl)) (fun _ _ _ h => h) (Or.inl ⟨by rfl, ?_⟩) hHeld ?_ ?_
                rotate_left
                ·rintro w' ⟨s0, s1, s2, s3, s4, s5⟩
                 go_simp
                 with_reducible rfl
                rotate_left
                ·exact zpx
                refine pure_ (i := 8) (N := some 11) (v := ?_) (a' := ?_) #[T,T,T,T,T,T,T,T,T,T,F,F,F,T,F,F,F,F,T,F,F,F,F,T,F,F,F,F,T,F,F,F,F] rfl rfl (any_of HT_.out (by kernel_rfl)) (fun _ _ _ h => h) (Or.inl ⟨by rfl, ?_⟩) ?_ ?_
                rotate_left
                ·exact zwx
                rotate_left
                ·exact zpx
                refine take_ (i := 10) (N := some 13) (v := ?_) (a' := ?_) #[T,T,T,T,T,T,T,T,T,T,T,F,F,T,F,F,F,F,T,F,F,F,F,T,F,F,F,F,T,F,F,F,F] rfl rfl (take_ofW HT_.out HW_.out (by kernel_rfl)) (fun _ _ _ h => h) (Or.inl ⟨by rfl, ?_⟩) hHeld ?_ ?_
                rotate_left
                ·rintro w' ⟨s0, s1, s2, s3, s4, s5⟩
                 go_simp
                 with_reducible rfl
                rotate_left
                ·exact zpx
                refine pure_ (i := 11) (N := some 14) (v := ?_) (a' := ?_) #[T,T,T,T,T,T,T,T,T,T,T,T,F,T,F,F,F,F,T,F,F,F,F,T,F,F,F,F,T,F,F,F,F] rfl rfl (any_of HT_.out (by kernel_rfl)) (fun _ _ _ h => h) (Or.inl ⟨by rfl, ?_⟩) ?_ ?_
                rotate_left
                ·exact zwx
                rotate_left
                ·exact zpx
                refine pure_ (i := 12) (N := some 15) (v := ?_) (a' := ?_) #[T,T,T,T,T,T,T,T,T,T,T,T,T,T,F,F,F,F,T,F,F,F,F,T,F,F,F,F,T,F,F,F,F] rfl rfl (any_of HT_.out (by kernel_rfl)) (fun _ _ _ h => h) (Or.inl ⟨by rfl, ?_⟩) ?_ ?_
                rotate_left
                ·exact zwx
                rotate_left
                ·exact zpx
                refine take_ (i := 14) (N := some 17) (v := ?_) (a' := ?_) #[T,T,T,T,T,T,T,T,T,T,T,T,T,T,T,F,F,F,T,F,F,F,F,T,F,F,F,F,T,F,F,F,F] rfl rfl (take_ofW HT_.out HW_.out (by kernel_rfl)) (fun _ _ _ h => h) (Or.inl ⟨by rfl, ?_⟩) hHeld ?_ ?_
                rotate_left
                ·rintro w' ⟨s0, s1, s2, s3, s4, s5⟩
                 go_simp
                 with_reducible rfl
                rotate_left
                ·exact zpx
                refine take_ (i := 19) (N := some 22) (v := ?_) (a' := ?_) #[T,T,T,T,T,T,T,T,T,T,T,T,T,T,T,F,F,F,T,T,F,F,F,T,F,F,F,F,T,F,F,F,F] rfl rfl (take_ofW HT_.out HW_.out (by kernel_rfl)) (fun _ _ _ h => h) (Or.inl ⟨by rfl, ?_⟩) hHeld ?_ ?_
                rotate_left
                ·rintro w' ⟨s0, s1, s2, s3, s4, s5⟩
                 go_simp
                 with_reducible rfl
                rotate_left
                ·exact zpx
                refine take_ (i := 24) (N := some 27) (v := ?_) (a' := ?_) #[T,T,T,T,T,T,T,T,T,T,T,T,T,T,T,F,F,F,T,T,F,F,F,T,T,F,F,F,T,F,F,F,F] rfl rfl (take_ofW HT_.out HW_.out (by kernel_rfl)) (fun _ _ _ h => h) (Or.inl ⟨by rfl, ?_⟩) hHeld ?_ ?_
                rotate_left
                ·rintro w' ⟨s0, s1, s2, s3, s4, s5⟩
                 go_simp
                 with_reducible rfl
                rotate_left
                ·exact zpx
                refine take_ (i := 29) (N := some 32) (v := ?_) (a' := ?_) #[T,T,T,T,T,T,T,T,T,T,T,T,T,T,T,F,F,F,T,T,F,F,F,T,T,F,F,F,T,T,F,F,F] rfl rfl (take_ofW HT_.out HW_.out (by kernel_rfl)) (fun _ _ _ h => h) (Or.inl ⟨by rfl, ?_⟩) hHeld ?_ ?_
                rotate_left
                ·rintro w' ⟨s0, s1, s2, s3, s4, s5⟩
                 go_simp
                 with_reducible rfl
                rotate_left
                ·exact zpx
                refine one_ (i := 15) (N := some 18) #[T,T,T,T,T,T,T,T,T,T,T,T,T,T,T,T,F,F,T,T,F,F,F,T,T,F,F,F,T,T,F,F,F] rfl rfl (one_of HT_.out (by kernel_rfl)) (by decide) (fun K hK => ?_)
                refine goes_ Tryz.func93 (by kernel_rfl) rfl #[.int .i64 a0_3] (by rfl) rfl rfl zlx ?_
                with_reducible refine (spec_l1Num.calls k a0_3 t319 _ A11.out).mono ?_
                rintro e w24 ⟨rfl, hb⟩
                refine ⟨_, rfl, ?_⟩
                replace BK318 := zbl BK318.out hb
                replace HB := Aside0.mk (below_step (zBy HB.out GE318.out) hb)
                (try clear hb)
                (try clear hb2)
                (try clear hk)
                (try clear hi)
                refine hK.out _ _ ⟨(blk_cell BK318.out 0).trans rfl, (blk_cell BK318.out 1).trans rfl, (blk_cell BK318.out 2).trans rfl, (blk_cell BK318.out 3).trans rfl, (blk_cell BK318.out 4).trans rfl, (blk_cell BK318.out 5).trans rfl⟩ (fun hHeld => ?_)
                clear hK K
                refine norm_ (a' := ?_) ?_ ?_
                rotate_left
                ·show Act.put _ (some 18) _ = _
                 simp only [Act.put, List.setIfInBounds_toArray, List.set_cons_zero, List.set_cons_succ, i64_w, i32_w]
                 rfl
                refine pure_ (i := 16) (N := some 19) (v := ?_) (a' := ?_) #[T,T,T,T,T,T,T,T,T,T,T,T,T,T,T,T,T,F,T,T,F,F,F,T,T,F,F,F,T,T,F,F,F] rfl rfl (any_of HT_.out (by kernel_rfl)) (fun _ _ _ h => h) (Or.inl ⟨by rfl, ?_⟩) ?_ ?_
                rotate_left
                ·exact zwx
                rotate_left
                ·exact zpx
                refine pure_ (i := 17) (N := some 20) (v := ?_) (a' := ?_) #[T,T,T,T,T,T,T,T,T,T,T,T,T,T,T,T,T,T,T,T,F,F,F,T,T,F,F,F,T,T,F,F,F] rfl rfl (any_of HT_.out (by kernel_rfl)) (fun _ _ _ h => h) (Or.inl ⟨by rfl, ?_⟩) ?_ ?_
                rotate_left
                ·exact zwx
                rotate_left
                ·exact zpx
                refine one_ (i := 20) (N := some 23) #[T,T,T,T,T,T,T,T,T,T,T,T,T,T,T,T,T,T,T,T,T,F,F,T,T,F,F,F,T,T,F,F,F] rfl rfl (one_of HT_.out (by kernel_rfl)) (by decide) (fun K hK => ?_)
                refine goes_ Tryz.func93 (by kernel_rfl) rfl #[.int .i64 a0_4] (by rfl) rfl rfl zlx ?_
                with_reducible refine (spec_l1Num.calls k a0_4 t320 _ A14.out).mono ?_
                rintro e w25 ⟨rfl, hb⟩
                refine ⟨_, rfl, ?_⟩
                replace BK318 := zbl BK318.out hb
                replace HB := Aside0.mk (below_step (zBy HB.out GE318.out) hb)
                (try clear hb)
                (try clear hb2)
                (try clear hk)
                (try clear hi)
                refine hK.out _ _ ⟨(blk_cell BK318.out 0).trans rfl, (blk_cell BK318.out 1).trans rfl, (blk_cell BK318.out 2).trans rfl, (blk_cell BK318.out 3).trans rfl, (blk_cell BK318.out 4).trans rfl, (blk_cell BK318.out 5).trans rfl⟩ (fun hHeld => ?_)
                clear hK K
                refine norm_ (a' := ?_) ?_ ?_
                rotate_left
                ·show Act.put _ (some 23) _ = _
                 simp only [Act.put, List.setIfInBounds_toArray, List.set_cons_zero, List.set_cons_succ, i64_w, i32_w]
                 rfl
                refine pure_ (i := 21) (N := some 24) (v := ?_) (a' := ?_) #[T,T,T,T,T,T,T,T,T,T,T,T,T,T,T,T,T,T,T,T,T,T,F,T,T,F,F,F,T,T,F,F,F] rfl rfl (any_of HT_.out (by kernel_rfl)) (fun _ _ _ h => h) (Or.inl ⟨by rfl, ?_⟩) ?_ ?_
                rotate_left
                ·exact zwx
                rotate_left
                ·exact zpx
                refine pure_ (i := 22) (N := some 25) (v := ?_) (a' := ?_) #[T,T,T,T,T,T,T,T,T,T,T,T,T,T,T,T,T,T,T,T,T,T,T,T,T,F,F,F,T,T,F,F,F] rfl rfl (any_of HT_.out (by kernel_rfl)) (fun _ _ _ h => h) (Or.inl ⟨by rfl, ?_⟩) ?_ ?_
                rotate_left
                ·exact zwx
                rotate_left
                ·exact zpx
                refine one_ (i := 25) (N := some 28) #[T,T,T,T,T,T,T,T,T,T,T,T,T,T,T,T,T,T,T,T,T,T,T,T,T,T,F,F,T,T,F,F,F] rfl rfl (one_of HT_.out (by kernel_rfl)) (by decide) (fun K hK => ?_)
                refine goes_ Tryz.func93 (by kernel_rfl) rfl #[.int .i64 a0_5] (by rfl) rfl rfl zlx ?_
                with_reducible refine (spec_l1Num.calls k a0_5 t321 _ A17.out).mono ?_
                rintro e w26 ⟨rfl, hb⟩
                refine ⟨_, rfl, ?_⟩
                replace BK318 := zbl BK318.out hb
                replace HB := Aside0.mk (below_step (zBy HB.out GE318.out) hb)
                (try clear hb)
                (try clear hb2)
                (try clear hk)
                (try clear hi)
                refine hK.out _ _ ⟨(blk_cell BK318.out 0).trans rfl, (blk_cell BK318.out 1).trans rfl, (blk_cell BK318.out 2).trans rfl, (blk_cell BK318.out 3).trans rfl, (blk_cell BK318.out 4).trans rfl, (blk_cell BK318.out 5).trans rfl⟩ (fun hHeld => ?_)
                clear hK K
                refine norm_ (a' := ?_) ?_ ?_
                rotate_left
                ·show Act.put _ (some 28) _ = _
                 simp only [Act.put, List.setIfInBounds_toArray, List.set_cons_zero, List.set_cons_succ, i64_w, i32_w]
                 rfl
                refine pure_ (i := 26) (N := some 29) (v := ?_) (a' := ?_) #[T,T,T,T,T,T,T,T,T,T,T,T,T,T,T,T,T,T,T,T,T,T,T,T,T,T,T,F,T,T,F,F,F] rfl rfl (any_of HT_.out (by kernel_rfl)) (fun _ _ _ h => h) (Or.inl ⟨by rfl, ?_⟩) ?_ ?_
                rotate_left
                ·exact zwx
                rotate_left
                ·exact zpx
                refine pure_ (i := 27) (N := some 30) (v := ?_) (a' := ?_) #[T,T,T,T,T,T,T,T,T,T,T,T,T,T,T,T,T,T,T,T,T,T,T,T,T,T,T,T,T,T,F,F,F] rfl rfl (any_of HT_.out (by kernel_rfl)) (fun _ _ _ h => h) (Or.inl ⟨by rfl, ?_⟩) ?_ ?_
                rotate_left
                ·exact zwx
                rotate_left
                ·exact zpx
                refine one_ (i := 30) (N := some 33) #[T,T,T,T,T,T,T,T,T,T,T,T,T,T,T,T,T,T,T,T,T,T,T,T,T,T,T,T,T,T,T,F,F] rfl rfl (one_of HT_.out (by kernel_rfl)) (by decide) (fun K hK => ?_)
                refine goes_ Tryz.func93 (by kernel_rfl) rfl #[.int .i64 a0_0] (by rfl) rfl rfl zlx ?_
                with_reducible refine (spec_l1Num.calls k a0_0 t322 _ A20.out).mono ?_
                rintro e w27 ⟨rfl, hb⟩
                refine ⟨_, rfl, ?_⟩
                replace BK318 := zbl BK318.out hb
                replace HB := Aside0.mk (below_step (zBy HB.out GE318.out) hb)
                (try clear hb)
                (try clear hb2)
                (try clear hk)
                (try clear hi)
                refine hK.out _ _ ⟨(blk_cell BK318.out 0).trans rfl, (blk_cell BK318.out 1).trans rfl, (blk_cell BK318.out 2).trans rfl, (blk_cell BK318.out 3).trans rfl, (blk_cell BK318.out 4).trans rfl, (blk_cell BK318.out 5).trans rfl⟩ (fun hHeld => ?_)
                clear hK K
                refine norm_ (a' := ?_) ?_ ?_
                rotate_left
                ·show Act.put _ (some 33) _ = _
                 simp only [Act.put, List.setIfInBounds_toArray, List.set_cons_zero, List.set_cons_succ, i64_w, i32_w]
                 rfl
                refine pure_ (i := 31) (N := some 34) (v := ?_) (a' := ?_) #[T,T,T,T,T,T,T,T,T,T,T,T,T,T,T,T,T,T,T,T,T,T,T,T,T,T,T,T,T,T,T,T,F] rfl rfl (any_of HT_.out (by kernel_rfl)) (fun _ _ _ h => h) (Or.inl ⟨by rfl, ?_⟩) ?_ ?_
                rotate_left
                ·exact zwx
                rotate_left
                ·exact zpx
                refine pure_ (i := 32) (N := some 2) (v := ?_) (a' := ?_) #[T,T,T,T,T,T,T,T,T,T,T,T,T,T,T,T,T,T,T,T,T,T,T,T,T,T,T,T,T,T,T,T,T] rfl rfl (any_of HT_.out (by kernel_rfl)) (fun _ _ _ h => h) (Or.inl ⟨by rfl, ?_⟩) ?_ ?_
                rotate_left
                ·exact zwx
                rotate_left
                ·exact zpx
                refine done_ (done_of HT_.out (by kernel_rfl)) ?_
                try go_wp2
                go_ret
                exact ⟨by first | rfl | (simp [errW_none, errW_some] <;> rfl) | (simp only [← hji2, ← hji6]; first | rfl | (simp [errW_none, errW_some] <;> rfl)) | (simp [*, errW_none, errW_some] <;> rfl), by exact zBy HB.out GE318.out⟩
              ·rw [if_neg c21] at H
               exact absurd H (by simp)
             ·rw [if_neg c19] at H
              exact absurd H (by simp)
            ·rw [if_neg c18] at H
             exact absurd H (by simp)
           ·rw [if_neg c16] at H
            exact absurd H (by simp)
          ·rw [if_neg c15] at H
           exact absurd H (by simp)
         ·rw [if_neg c13] at H
          exact absurd H (by simp)
        ·rw [if_neg c12] at H
         exact absurd H (by simp)
       ·rw [if_neg c10] at H
        exact absurd H (by simp)
      ·rw [if_neg c9] at H
       exact absurd H (by simp)
     ·rw [if_neg c8] at H
      exact absurd H (by simp)
    ·rw [if_neg c7] at H
     exact absurd H (by simp)
   ·rw [if_neg c5] at H
    exact absurd H (by simp)
  ·rw [if_neg c4] at H
   exact absurd H (by simp)
 ·rw [if_neg c3] at H
  exact absurd H (by simp)

/-! ### spec_DrawParseCode: function 14 -/
def spec_DrawParseCode.j0 : Nat → List Int → Int → Int → Int → Int → Int → Int → Int → Int → Option (ByteArray)
 | 0, _, _, _, _, _, _, _, _, _ => none
 | k + 1, x324000, x324001, x324002, x333000, x333001, x333002, x333003, x333004, x333005 => (spec_l17Code.f k x333000 x333001 x333002 x333003 x333004 x333005).bind fun t334 => ((spec_l1Cur_one.f x324000 x324001 x324002 4).bind fun bt335 => (if bt335.1 = true then ((spec_l1Cur_spoilt.f x324000 bt335.2.1 bt335.2.2 t334 (⟨#[49, 46, 82, 87]⟩ : ByteArray)).bind fun bt338 => (some bt338.1)) else (some t334)))
def spec_DrawParseCode.f (k : Nat) (l0 : List Int) : Option (ByteArray) := (spec_l1Cur_warning.f l0 0 0).bind fun bt324 => ((spec_l14Good.f bt324.1 bt324.2.1 bt324.2.2.1 bt324.2.2.2.1 bt324.2.2.2.2.1 bt324.2.2.2.2.2.1).bind fun t333 => (if t333 = true then (spec_DrawParseCode.j0 k l0 bt324.2.2.2.2.2.2.1 bt324.2.2.2.2.2.2.2 bt324.1 bt324.2.1 bt324.2.2.1 bt324.2.2.2.1 bt324.2.2.2.2.1 bt324.2.2.2.2.2.1) else (spec_DrawParseCode.j0 k l0 bt324.2.2.2.2.2.2.1 bt324.2.2.2.2.2.2.2 1 5 3 9 0 240)))
theorem spec_DrawParseCode.mono_l : ∀ k, (∀ y0 y1 y2 y3 y4 y5 y6 y7 y8, LeO (spec_DrawParseCode.j0 k y0 y1 y2 y3 y4 y5 y6 y7 y8) (spec_DrawParseCode.j0 (k + 1) y0 y1 y2 y3 y4 y5 y6 y7 y8))
 | 0 => fun _ _ _ _ _ _ _ _ _ r h => by simp [spec_DrawParseCode.j0] at h
 | k + 1 => by
  have ih0 := spec_DrawParseCode.mono_l k
  ·intro y0 y1 y2 y3 y4 y5 y6 y7 y8
   unfold spec_DrawParseCode.j0
   repeat' first
   | (with_reducible exact ih0 _ _ _ _ _ _ _ _ _)
   | (with_reducible exact spec_l17Code.mono _ _ _ _ _ _ _)
   | (with_reducible exact LeO.refl _)
   | (with_reducible exact LeO.none _)
   | (with_reducible refine LeO.ite ?_ ?_)
   | (with_reducible refine LeO.bind ?_ (fun _ => ?_))
   | exact ih0 _ _ _ _ _ _ _ _ _
   | exact spec_l17Code.mono _ _ _ _ _ _ _
   | exact LeO.none _
   | refine LeO.ite ?_ ?_
   | refine LeO.bind ?_ (fun _ => ?_)
theorem spec_DrawParseCode.mono : ∀ a0 k, LeO (spec_DrawParseCode.f k a0) (spec_DrawParseCode.f (k + 1) a0) := by
 intro a0 k
 have ih0 := spec_DrawParseCode.mono_l k
 unfold spec_DrawParseCode.f
 repeat' first
  | (with_reducible exact ih0 _ _ _ _ _ _ _ _ _)
  | (with_reducible exact spec_l17Code.mono _ _ _ _ _ _ _)
  | (with_reducible exact LeO.refl _)
  | (with_reducible exact LeO.none _)
  | (with_reducible refine LeO.ite ?_ ?_)
  | (with_reducible refine LeO.bind ?_ (fun _ => ?_))
  | exact ih0 _ _ _ _ _ _ _ _ _
  | exact spec_l17Code.mono _ _ _ _ _ _ _
  | exact LeO.none _
  | refine LeO.ite ?_ ?_
  | refine LeO.bind ?_ (fun _ => ?_)
set_option maxHeartbeats 8000000 in
set_option maxRecDepth 100000 in
theorem spec_DrawParseCode.calls (k : Nat) (A0 : Option Addr) (c0 : Nat) (l0 : List Int) (r : ByteArray) (w : World) (hr0 : Kd.C (Kd.int .u8) w A0 l0.length l0) (hc0 : l0.length ≤ c0) (h : spec_DrawParseCode.f k l0 = some r) :
 Calls Tryz.prog 14 #[.slice A0 l0.length c0] w fun e w' => e = .returned (.string r) ∧ Below w.heap.size w w' := by
 have hu71 := Tryz.underlying71
 have hu25 := Tryz.underlying25
 have HR0 := Aside0.mk hr0
 have HC0 := Aside0.mk hc0
 clear hr0 hc0
 have HB := Aside0.mk (Below.refl w.heap.size w)
 have H : ((spec_l1Cur_warning.f l0 0 0).bind fun bt324 => ((spec_l14Good.f bt324.1 bt324.2.1 bt324.2.2.1 bt324.2.2.2.1 bt324.2.2.2.2.1 bt324.2.2.2.2.2.1).bind fun t333 => (if t333 = true then (spec_DrawParseCode.j0 k l0 bt324.2.2.2.2.2.2.1 bt324.2.2.2.2.2.2.2 bt324.1 bt324.2.1 bt324.2.2.1 bt324.2.2.2.1 bt324.2.2.2.2.1 bt324.2.2.2.2.2.1) else (spec_DrawParseCode.j0 k l0 bt324.2.2.2.2.2.2.1 bt324.2.2.2.2.2.2.2 1 5 3 9 0 240)))) = some r := h
 clear h
 replace H := Option.bind_eq_some_iff.mp H
 obtain ⟨⟨t324, t325, t326, t327, t328, t329, t330, t331⟩, A20, H⟩ := H
 replace H : ((spec_l14Good.f t324 t325 t326 t327 t328 t329).bind fun t333 => (if t333 = true then (spec_DrawParseCode.j0 k l0 t330 t331 t324 t325 t326 t327 t328 t329) else (spec_DrawParseCode.j0 k l0 t330 t331 1 5 3 9 0 240))) = some r := H
 have A2 := Aside0.mk A20
 clear A20
 replace H := Option.bind_eq_some_iff.mp H
 obtain ⟨t333, A30, H⟩ := H
 replace H : (if t333 = true then (spec_DrawParseCode.j0 k l0 t330 t331 t324 t325 t326 t327 t328 t329) else (spec_DrawParseCode.j0 k l0 t330 t331 1 5 3 9 0 240)) = some r := H
 have A3 := Aside0.mk A30
 clear A30
 have HC4 := Aside0.mk H
 clear H
 go_enter Tryz.func14, Tryz.ntmps14
 go_upto_if 13 with (first | ((with_reducible refine gate_dst (N := 8) rfl ?_); refine box_event ?hg (N := 8) ?hd (cs := #[.slice A0 l0.length c0, .int .i64 0, .int .u64 0]) (t := 71) ?hr ?_; (case hd => rfl); (case hg => rfl); (case hr => exact zsx); intro gb323 hg w5 hbox hb; have BK323 := Aside0.mk (hbox); have GW323 := zns hg HB.out; have GE323 := zns hg HB.out; replace HB := Aside0.mk (below_step (zBx HB.out) hb); clear hb hbox hg) | ((with_reducible refine gate_callee (f := 49) rfl ?_); refine goesL_ (some 10) rfl rfl Tryz.func49 (by kernel_rfl) rfl #[.pointer (some ⟨gb323, 0, none⟩)] rfl zlx ?_; (with_reducible refine (spec_l1Cur_warning.calls gb323 l0 0 0 t324 t325 t326 t327 t328 t329 t330 t331 w _ ?side1 ?side2 A2.out).mono ?_); (case side1 => first | exact ⟨_, _, (zbx BK323.out), GE323.out, HR0.out⟩); (case side2 => first | exact zBy HB.out (IsS71.ge HI323.out) | exact zBx HB.out); rintro e w6 ⟨rfl, hi, hb, hk⟩; refine ⟨_, rfl, ?_⟩; replace HB := Aside0.mk (hb); have HI323 := Aside0.mk (hi); (try clear hb); (try clear hk); (try clear hi)) | ((with_reducible refine gate_dst (N := 4) rfl ?_); refine box_event ?hg (N := 4) ?hd (cs := #[.int .i64 0, .int .i64 0, .int .i64 0, .int .i64 0, .int .i64 0, .int .i64 0]) (t := 25) ?hr ?_; (case hd => rfl); (case hg => rfl); (case hr => exact zsx); intro gb332 hg w7 hbox hb; have BK332 := Aside0.mk (hbox); have GW332 := Aside0.mk ((by rw [hg]; exact (below_size (by first | exact zBy HB.out (IsS71.ge HI323.out) | exact zBx HB.out)) : w.heap.size ≤ gb332)); have GE332 := Aside0.mk ((by rw [hg]; exact (below_size (by first | exact zBy HB.out (IsS71.ge HI323.out) | exact zBx HB.out)) : w.heap.size ≤ gb332)); replace HB := Aside0.mk (below_step (by first | exact zBy HB.out (IsS71.ge HI323.out) | exact zBx HB.out) hb); have NB323_332 := Aside0.mk ((by rw [hg]; exact Nat.ne_of_lt (IsS71.lt (show IsS71 w _ gb323 l0 t330 t331 from IsS71.zI HI323.out)) : gb323 ≠ gb332)); have NB332_323 := Aside0.mk ((by rw [hg]; exact Nat.ne_of_gt (IsS71.lt (show IsS71 w _ gb323 l0 t330 t331 from IsS71.zI HI323.out)) : gb332 ≠ gb323)); replace HI323 := Aside0.mk (IsS71.below (IsS71.zI HI323.out) hb); clear hb hbox hg; have hnb8 := NB332_323.out; have hnc8 := NB323_332.out; have hcz9_0 : w7.cell? ⟨gb332, 0, none⟩ = some (.int .i64 0) := (blk_cell BK332.out 0).trans rfl; have hcz9_1 : w7.cell? ⟨gb332, 1, none⟩ = some (.int .i64 0) := (blk_cell BK332.out 1).trans rfl; have hcz9_2 : w7.cell? ⟨gb332, 2, none⟩ = some (.int .i64 0) := (blk_cell BK332.out 2).trans rfl; have hcz9_3 : w7.cell? ⟨gb332, 3, none⟩ = some (.int .i64 0) := (blk_cell BK332.out 3).trans rfl; have hcz9_4 : w7.cell? ⟨gb332, 4, none⟩ = some (.int .i64 0) := (blk_cell BK332.out 4).trans rfl; have hcz9_5 : w7.cell? ⟨gb332, 5, none⟩ = some (.int .i64 0) := (blk_cell BK332.out 5).trans rfl; have hfz9_0 := blk_frozen BK332.out 0; have hfz9_1 := blk_frozen BK332.out 1; have hfz9_2 := blk_frozen BK332.out 2; have hfz9_3 := blk_frozen BK332.out 3; have hfz9_4 := blk_frozen BK332.out 4; have hfz9_5 := blk_frozen BK332.out 5) | ((with_reducible refine gate_callee (f := 47) rfl ?_); refine goesL_ (some 12) rfl rfl Tryz.func47 (by kernel_rfl) rfl #[.agg #[.int .i64 t324, .int .i64 t325, .int .i64 t326, .int .i64 t327, .int .i64 t328, .int .i64 t329]] rfl zlx ?_; (with_reducible refine (spec_l14Good.calls t324 t325 t326 t327 t328 t329 t333 _ A3.out).mono ?_); rintro e w10 ⟨rfl, hb⟩; refine ⟨_, rfl, ?_⟩; replace BK332 := Aside0.mk (blk_below (g := gb332) (o := .cells #[.int .i64 t324, .int .i64 t325, .int .i64 t326, .int .i64 t327, .int .i64 t328, .int .i64 t329] 25 (0, 0)) (zbp BK332.out) hb); replace HB := Aside0.mk (below_step (by first | exact zBz HB.out (IsS71.ge HI323.out) GE332.out | exact zBy HB.out GE332.out) hb); replace HI323 := Aside0.mk (IsS71.below (show IsS71 w ((((((w7.setCell ⟨gb332, 0, none⟩ (.int .i64 t324)).setCell ⟨gb332, 1, none⟩ (.int .i64 t325)).setCell ⟨gb332, 2, none⟩ (.int .i64 t326)).setCell ⟨gb332, 3, none⟩ (.int .i64 t327)).setCell ⟨gb332, 4, none⟩ (.int .i64 t328)).setCell ⟨gb332, 5, none⟩ (.int .i64 t329)) gb323 l0 t330 t331 from IsS71.zJ HI323.out NB323_332.out) hb); (try clear hb)))
 (try simp only [Act.put, List.setIfInBounds_toArray, List.set_cons_zero, List.set_cons_succ])
 go_cut [] (fun wc => ∃ (kq : Nat) (x333000_3 : Int) (x333001_3 : Int) (x333002_3 : Int) (x333003_3 : Int) (x333004_3 : Int) (x333005_3 : Int), Aside0 (spec_DrawParseCode.j0 kq l0 t330 t331 x333000_3 x333001_3 x333002_3 x333003_3 x333004_3 x333005_3 = some r) ∧ Aside0 (kq ≤ k) ∧ Aside0 (wc.heap[gb332]? = some (.cells #[.int .i64 x333000_3, .int .i64 x333001_3, .int .i64 x333002_3, .int .i64 x333003_3, .int .i64 x333004_3, .int .i64 x333005_3] 25 (0, 0))) ∧ Aside0 (IsS71 w wc gb323 l0 t330 t331) ∧ Aside0 (Below w.heap.size w wc))
 case first =>
  have H := HC4.out
  clear HC4
  by_cases c11 : t333 = true
  ·subst c11
   rw [if_pos rfl] at H
   focus
    have H' := Aside0.mk H
    clear H
    go_wp2
    go_meet
    case rel => exact ⟨_, (t324), (t325), (t326), (t327), (t328), (t329), H', ⟨by first | omega | exact Nat.le_refl _⟩, ⟨by refine zbx ?_; exact BK332.out⟩, ⟨by exact IsS71.zJ HI323.out NB323_332.out⟩, ⟨by exact zBz HB.out (IsS71.ge HI323.out) GE332.out⟩⟩
  ·replace c11 := Bool.eq_false_iff.mpr c11
   subst c11
   rw [if_neg (show ¬ (false = true) by decide)] at H
   focus
    have H' := Aside0.mk H
    clear H
    have hnb12 := NB332_323.out
    have hnc12 := NB323_332.out
    have hcz13_0 : w10.cell? ⟨gb332, 0, none⟩ = some (.int .i64 t324) := (blk_cell BK332.out 0).trans rfl
    have hcz13_1 : w10.cell? ⟨gb332, 1, none⟩ = some (.int .i64 t325) := (blk_cell BK332.out 1).trans rfl
    have hcz13_2 : w10.cell? ⟨gb332, 2, none⟩ = some (.int .i64 t326) := (blk_cell BK332.out 2).trans rfl
    have hcz13_3 : w10.cell? ⟨gb332, 3, none⟩ = some (.int .i64 t327) := (blk_cell BK332.out 3).trans rfl
    have hcz13_4 : w10.cell? ⟨gb332, 4, none⟩ = some (.int .i64 t328) := (blk_cell BK332.out 4).trans rfl
    have hcz13_5 : w10.cell? ⟨gb332, 5, none⟩ = some (.int .i64 t329) := (blk_cell BK332.out 5).trans rfl
    have hfz13_0 := blk_frozen BK332.out 0
    have hfz13_1 := blk_frozen BK332.out 1
    have hfz13_2 := blk_frozen BK332.out 2
    have hfz13_3 := blk_frozen BK332.out 3
    have hfz13_4 := blk_frozen BK332.out 4
    have hfz13_5 := blk_frozen BK332.out 5
    go_wp2
    go_meet
    case rel => exact ⟨_, (1), (5), (3), (9), (0), (240), H', ⟨by first | omega | exact Nat.le_refl _⟩, ⟨zbp BK332.out⟩, ⟨by exact IsS71.zJ HI323.out NB323_332.out⟩, ⟨by exact zBz HB.out (IsS71.ge HI323.out) GE332.out⟩⟩
 case rest =>
  clear HC4
  try clear c1
  try clear p2
  try clear c4
  try clear c8
  try clear c11
  try clear c12
  try clear hcz13_0
  try clear hcz13_1
  try clear hcz13_2
  try clear hcz13_3
  try clear hcz13_4
  try clear hcz13_5
  try clear hcz9_0
  try clear hcz9_1
  try clear hcz9_2
  try clear hcz9_3
  try clear hcz9_4
  try clear hcz9_5
  try clear hfz13_0
  try clear hfz13_1
  try clear hfz13_2
  try clear hfz13_3
  try clear hfz13_4
  try clear hfz13_5
  try clear hfz9_0
  try clear hfz9_1
  try clear hfz9_2
  try clear hfz9_3
  try clear hfz9_4
  try clear hfz9_5
  obtain ⟨kq, x333000_3, x333001_3, x333002_3, x333003_3, x333004_3, x333005_3, HA, HJ3, BK332, HI323, HB⟩ := hcut
  cases kq with
  | zero => exact absurd HA.out (by simp [spec_DrawParseCode.j0])
  | succ kj3 =>
   have H := HA.out
   clear HA
   simp only [spec_DrawParseCode.j0] at H
   replace H := Option.bind_eq_some_iff.mp H
   obtain ⟨t334, A140, H⟩ := H
   replace H : ((spec_l1Cur_one.f l0 t330 t331 4).bind fun bt335 => (if bt335.1 = true then ((spec_l1Cur_spoilt.f l0 bt335.2.1 bt335.2.2 t334 (⟨#[49, 46, 82, 87]⟩ : ByteArray)).bind fun bt338 => (some bt338.1)) else (some t334))) = some r := H
   have A14 := Aside0.mk A140
   clear A140
   replace H := Option.bind_eq_some_iff.mp H
   obtain ⟨⟨t335, t336, t337⟩, A150, H⟩ := H
   replace H : (if t335 = true then ((spec_l1Cur_spoilt.f l0 t336 t337 t334 (⟨#[49, 46, 82, 87]⟩ : ByteArray)).bind fun bt338 => (some bt338.1)) else (some t334)) = some r := H
   have A15 := Aside0.mk A150
   clear A150
   by_cases c16 : t335 = true
   ·subst c16
    rw [if_pos rfl] at H
    replace H := Option.bind_eq_some_iff.mp H
    obtain ⟨⟨t338, t339, t340⟩, A170, H⟩ := H
    replace H : (some t338) = some r := H
    have A17 := Aside0.mk A170
    clear A170
    focus
     obtain rfl := Option.some.inj H
     have hnb18 := NB332_323.out
     have hnc18 := NB323_332.out
     have hcz19_0 : wc.cell? ⟨gb332, 0, none⟩ = some (.int .i64 x333000_3) := (blk_cell BK332.out 0).trans rfl
     have hcz19_1 : wc.cell? ⟨gb332, 1, none⟩ = some (.int .i64 x333001_3) := (blk_cell BK332.out 1).trans rfl
     have hcz19_2 : wc.cell? ⟨gb332, 2, none⟩ = some (.int .i64 x333002_3) := (blk_cell BK332.out 2).trans rfl
     have hcz19_3 : wc.cell? ⟨gb332, 3, none⟩ = some (.int .i64 x333003_3) := (blk_cell BK332.out 3).trans rfl
     have hcz19_4 : wc.cell? ⟨gb332, 4, none⟩ = some (.int .i64 x333004_3) := (blk_cell BK332.out 4).trans rfl
     have hcz19_5 : wc.cell? ⟨gb332, 5, none⟩ = some (.int .i64 x333005_3) := (blk_cell BK332.out 5).trans rfl
     have hfz19_0 := blk_frozen BK332.out 0
     have hfz19_1 := blk_frozen BK332.out 1
     have hfz19_2 := blk_frozen BK332.out 2
     have hfz19_3 := blk_frozen BK332.out 3
     have hfz19_4 := blk_frozen BK332.out 4
     have hfz19_5 := blk_frozen BK332.out 5
     go_wp2_with (first | ((with_reducible refine gate_callee (f := 52) rfl ?_); refine goesL_ (some 16) rfl rfl Tryz.func52 (by kernel_rfl) rfl #[.agg #[.int .i64 x333000_3, .int .i64 x333001_3, .int .i64 x333002_3, .int .i64 x333003_3, .int .i64 x333004_3, .int .i64 x333005_3]] rfl zlx ?_; (with_reducible refine (spec_l17Code.calls kj3 x333000_3 x333001_3 x333002_3 x333003_3 x333004_3 x333005_3 t334 _ A14.out).mono ?_); rintro e w20 ⟨rfl, hb⟩; refine ⟨_, rfl, ?_⟩; replace BK332 := zbl BK332.out hb; replace HB := Aside0.mk (below_step (by first | exact zBz HB.out (IsS71.ge HI323.out) GE332.out | exact zBy HB.out GE332.out) hb); replace HI323 := Aside0.mk (IsS71.below (IsS71.zF HI323.out NB323_332.out) hb); (try clear hb)) | ((with_reducible refine gate_callee (f := 50) rfl ?_); refine goesL_ (some 18) rfl rfl Tryz.func50 (by kernel_rfl) rfl #[.pointer (some ⟨gb323, 0, none⟩), .int .i64 4] rfl zlx ?_; (with_reducible refine (spec_l1Cur_one.calls gb323 l0 t330 t331 4 true t336 t337 w _ ?side1 ?side2 A15.out).mono ?_); (case side1 => exact IsS71.zJ HI323.out NB323_332.out); (case side2 => first | exact zBz HB.out (IsS71.ge HI323.out) GE332.out | exact zBy HB.out GE332.out); rintro e w21 ⟨rfl, hi, hb, hk⟩; refine ⟨_, rfl, ?_⟩; replace BK332 := Aside0.mk (KeepBut.blk hk (g' := gb332) (o := .cells #[.int .i64 x333000_3, .int .i64 x333001_3, .int .i64 x333002_3, .int .i64 x333003_3, .int .i64 x333004_3, .int .i64 x333005_3] 25 (0, 0)) (zbx BK332.out) NB332_323.out (by simp)); replace HB := Aside0.mk (hb); replace HI323 := Aside0.mk (hi); (try clear hb); (try clear hk); (try clear hi)) | ((with_reducible refine gate_callee (f := 51) rfl ?_); refine goesL_ (some 21) rfl rfl Tryz.func51 (by kernel_rfl) rfl #[.pointer (some ⟨gb323, 0, none⟩), .string t334, .string (⟨#[49, 46, 82, 87]⟩ : ByteArray)] rfl zlx ?_; (with_reducible refine (spec_l1Cur_spoilt.calls gb323 l0 t336 t337 t334 (⟨#[49, 46, 82, 87]⟩ : ByteArray) t338 t339 t340 w _ ?side1 ?side2 A17.out).mono ?_); (case side1 => exact IsS71.zJ HI323.out NB323_332.out); (case side2 => first | exact zBz HB.out (IsS71.ge HI323.out) GE332.out | exact zBy HB.out GE332.out); rintro e w22 ⟨rfl, hi, hb, hk⟩; refine ⟨_, rfl, ?_⟩; replace BK332 := Aside0.mk (KeepBut.blk hk (g' := gb332) (o := .cells #[.int .i64 x333000_3, .int .i64 x333001_3, .int .i64 x333002_3, .int .i64 x333003_3, .int .i64 x333004_3, .int .i64 x333005_3] 25 (0, 0)) (zbx BK332.out) NB332_323.out (by simp)); replace HB := Aside0.mk (hb); replace HI323 := Aside0.mk (hi); (try clear hb); (try clear hk); (try clear hi)))
     go_ret
     exact ⟨by first | rfl | (simp [errW_none, errW_some] <;> rfl) | (simp [*, errW_none, errW_some] <;> rfl), by exact zBz HB.out (IsS71.ge HI323.out) GE332.out⟩
   ·replace c16 := Bool.eq_false_iff.mpr c16
    subst c16
    rw [if_neg (show ¬ (false = true) by decide)] at H
    focus
     obtain rfl := Option.some.inj H
     have hnb23 := NB332_323.out
     have hnc23 := NB323_332.out
     have hcz24_0 : wc.cell? ⟨gb332, 0, none⟩ = some (.int .i64 x333000_3) := (blk_cell BK332.out 0).trans rfl
     have hcz24_1 : wc.cell? ⟨gb332, 1, none⟩ = some (.int .i64 x333001_3) := (blk_cell BK332.out 1).trans rfl
     have hcz24_2 : wc.cell? ⟨gb332, 2, none⟩ = some (.int .i64 x333002_3) := (blk_cell BK332.out 2).trans rfl
     have hcz24_3 : wc.cell? ⟨gb332, 3, none⟩ = some (.int .i64 x333003_3) := (blk_cell BK332.out 3).trans rfl
     have hcz24_4 : wc.cell? ⟨gb332, 4, none⟩ = some (.int .i64 x333004_3) := (blk_cell BK332.out 4).trans rfl
     have hcz24_5 : wc.cell? ⟨gb332, 5, none⟩ = some (.int .i64 x333005_3) := (blk_cell BK332.out 5).trans rfl
     have hfz24_0 := blk_frozen BK332.out 0
     have hfz24_1 := blk_frozen BK332.out 1
     have hfz24_2 := blk_frozen BK332.out 2
     have hfz24_3 := blk_frozen BK332.out 3
     have hfz24_4 := blk_frozen BK332.out 4
     have hfz24_5 := blk_frozen BK332.out 5
     go_wp2_with (first | ((with_reducible refine gate_callee (f := 52) rfl ?_); refine goesL_ (some 16) rfl rfl Tryz.func52 (by kernel_rfl) rfl #[.agg #[.int .i64 x333000_3, .int .i64 x333001_3, .int .i64 x333002_3, .int .i64 x333003_3, .int .i64 x333004_3, .int .i64 x333005_3]] rfl zlx ?_; (with_reducible refine (spec_l17Code.calls kj3 x333000_3 x333001_3 x333002_3 x333003_3 x333004_3 x333005_3 t334 _ A14.out).mono ?_); rintro e w25 ⟨rfl, hb⟩; refine ⟨_, rfl, ?_⟩; replace BK332 := zbl BK332.out hb; replace HB := Aside0.mk (below_step (by first | exact zBz HB.out (IsS71.ge HI323.out) GE332.out | exact zBy HB.out GE332.out) hb); replace HI323 := Aside0.mk (IsS71.below (IsS71.zF HI323.out NB323_332.out) hb); (try clear hb)) | ((with_reducible refine gate_callee (f := 50) rfl ?_); refine goesL_ (some 18) rfl rfl Tryz.func50 (by kernel_rfl) rfl #[.pointer (some ⟨gb323, 0, none⟩), .int .i64 4] rfl zlx ?_; (with_reducible refine (spec_l1Cur_one.calls gb323 l0 t330 t331 4 false t336 t337 w _ ?side1 ?side2 A15.out).mono ?_); (case side1 => exact IsS71.zJ HI323.out NB323_332.out); (case side2 => first | exact zBz HB.out (IsS71.ge HI323.out) GE332.out | exact zBy HB.out GE332.out); rintro e w26 ⟨rfl, hi, hb, hk⟩; refine ⟨_, rfl, ?_⟩; replace BK332 := Aside0.mk (KeepBut.blk hk (g' := gb332) (o := .cells #[.int .i64 x333000_3, .int .i64 x333001_3, .int .i64 x333002_3, .int .i64 x333003_3, .int .i64 x333004_3, .int .i64 x333005_3] 25 (0, 0)) (zbx BK332.out) NB332_323.out (by simp)); replace HB := Aside0.mk (hb); replace HI323 := Aside0.mk (hi); (try clear hb); (try clear hk); (try clear hi)))
     go_ret
     exact ⟨by first | rfl | (simp [errW_none, errW_some] <;> rfl) | (simp [*, errW_none, errW_some] <;> rfl), by exact zBz HB.out (IsS71.ge HI323.out) GE332.out⟩

/-! ### spec_l1Split: function 54 -/
def spec_l1Split.l0 : Nat → ByteArray → Int → List ByteArray → Int → Int → Option (List ByteArray)
 | 0, _, _, _, _, _ => none
 | k + 1, x0, x1, x5, x6, x7 => if x7 < (x0.size : Int) then (if 0 ≤ x7 then (if (bt x0 x7) = x1 then (if 0 ≤ x6 then (if x6 ≤ x7 then (if x7 ≤ (x0.size : Int) then (if x5.length < 8796093022208 then (spec_l1Split.l0 k x0 x1 (x5 ++ [x0.extract (x6 : Int).toNat (x7 : Int).toNat]) (wrap64 (x7 + 1)) (wrap64 (x7 + 1))) else (none)) else (none)) else (none)) else (none)) else (spec_l1Split.l0 k x0 x1 x5 x6 (wrap64 (x7 + 1)))) else (none)) else (if 0 ≤ x6 then (if x6 ≤ (x0.size : Int) then (if x5.length < 8796093022208 then (some (x5 ++ [x0.extract (x6 : Int).toNat x0.size])) else (none)) else (none)) else (none))
def spec_l1Split.f (k : Nat) (a0 : ByteArray) (a1 : Int) : Option (List ByteArray) := spec_l1Split.l0 k a0 a1 (([] : List ByteArray)) 0 0
theorem spec_l1Split.mono_l : ∀ k, (∀ y0 y1 y2 y3 y4, LeO (spec_l1Split.l0 k y0 y1 y2 y3 y4) (spec_l1Split.l0 (k + 1) y0 y1 y2 y3 y4))
 | 0 => fun _ _ _ _ _ r h => by simp [spec_l1Split.l0] at h
 | k + 1 => by
  have ih0 := spec_l1Split.mono_l k
  ·intro y0 y1 y2 y3 y4
   unfold spec_l1Split.l0
   repeat' first
   | (with_reducible exact ih0 _ _ _ _ _)
   | (with_reducible exact LeO.refl _)
   | (with_reducible exact LeO.none _)
   | (with_reducible refine LeO.ite ?_ ?_)
   | (with_reducible refine LeO.bind ?_ (fun _ => ?_))
   | exact ih0 _ _ _ _ _
   | exact LeO.none _
   | refine LeO.ite ?_ ?_
   | refine LeO.bind ?_ (fun _ => ?_)
theorem spec_l1Split.mono : ∀ a0 a1 k, LeO (spec_l1Split.f k a0 a1) (spec_l1Split.f (k + 1) a0 a1) := by
 intro a0 a1 k
 have ih0 := spec_l1Split.mono_l k
 unfold spec_l1Split.f
 repeat' first
  | (with_reducible exact ih0 _ _ _ _ _)
  | (with_reducible exact LeO.refl _)
  | (with_reducible exact LeO.none _)
  | (with_reducible refine LeO.ite ?_ ?_)
  | (with_reducible refine LeO.bind ?_ (fun _ => ?_))
  | exact ih0 _ _ _ _ _
  | exact LeO.none _
  | refine LeO.ite ?_ ?_
  | refine LeO.bind ?_ (fun _ => ?_)
set_option maxHeartbeats 8000000 in
set_option maxRecDepth 100000 in
theorem spec_l1Split.calls (k : Nat) (a0 : ByteArray) (a1 : Int) (r : List ByteArray) (w : World) (h : spec_l1Split.f k a0 a1 = some r) :
 Calls Tryz.prog 54 #[.string a0, .int .u8 a1] w fun e w' => ∃ v0_ : Value, e = .returned (v0_) ∧ Kd.R Kd.string 9 w' w.heap.size (fun _ => True) v0_ r ∧ Below w.heap.size w w' := by
 have HB := Aside0.mk (Below.refl w.heap.size w)
 have H : (spec_l1Split.l0 k a0 a1 (([] : List ByteArray)) 0 0) = some r := h
 clear h
 obtain ⟨y341, hy341⟩ : ∃ y_ : List ByteArray, y_ = (([] : List ByteArray)) := ⟨_, rfl⟩
 replace H : (spec_l1Split.l0 k a0 a1 y341 0 0) = some r := by first | (rw [hy341]; with_reducible exact H) | (have H2_ := (Option.bind_some _ _).symm.trans H; rw [hy341]; with_reducible exact H2_) | (have H2_ := (Option.bind_some _ _).symm.trans H; with_reducible exact H2_) | with_reducible exact H | (rw [hy341]; exact H) | exact H
 have Ny341 := Aside0.mk hy341
 clear hy341
 have H' := Aside0.mk H
 clear H
 go_enter Tryz.func54, Tryz.ntmps54
 go_wp2_with (first | ((with_reducible refine gate_dst (N := 8) rfl ?_); refine Kd.R_lit Kd.string _ 9 ?hg (N := 8) ?hd (xs := ([] : List ByteArray)) (inner := []) (ok := fun _ => True) (okp := fun _ => True) ?hr ?hp (fun _ hk => hk) trivial (Below.refl _ _) (Nat.le_refl _) (by simp) ?_; (case hd => rfl); (case hg => rfl); (case hr => exact zsx); (case hp => exact (Reps.none _ _)); intro v342 w3 ho4 hb hg_ hnew_; clear hg_ hnew_; (first | rw [← Ny341.out] at ho4 | (simp only [Int.reduceToNat] at ho4; rw [← Ny341.out] at ho4)); have HO343 := Aside0.mk (Kd.R_lower ho4 (below_size (zBx HB.out))); replace HB := Aside0.mk (below_step (zBx HB.out) hb); clear hb ho4))
 go_loopg [5, 6, 7] k (fun kq v5 v6 v7 w' => ∃ (x5_1 : List ByteArray) (x6_1 : Int) (x7_1 : Int), v6 = .int .i64 x6_1 ∧ v7 = .int .i64 x7_1 ∧ Aside0 (spec_l1Split.l0 kq a0 a1 x5_1 x6_1 x7_1 = some r) ∧ Aside0 (kq ≤ k) ∧ Aside0 (Kd.R Kd.string 9 w' w.heap.size (fun _ => True) v5 x5_1) ∧ Aside0 (Below w.heap.size w w'))
 case atStart => exact ⟨(y341), (0), (0), zrx, zrx, H', ⟨Nat.le_refl _⟩, ⟨by refine zDR ?_; exact HO343.out⟩, ⟨by exact zBx HB.out⟩⟩
 case round =>
  clear H'
  try clear p2
  obtain ⟨x5_1, x6_1, x7_1, rfl, rfl, HA, HK1, HO_5, HB⟩ := hrel
  cases gk with
  | zero => exact absurd HA.out (by simp [spec_l1Split.l0])
  | succ k1 =>
   have H := HA.out
   clear HA
   simp only [spec_l1Split.l0] at H
   by_cases c5 : x7_1 < (a0.size : Int)
   ·rw [if_pos c5] at H
    have c5b0 : decide (x7_1 < (a0.size : Int)) = true := decide_eq_true c5
    clear c5
    by_cases c6 : 0 ≤ x7_1
    ·rw [if_pos c6] at H
     have c6b0 : decide (0 ≤ x7_1) = true := decide_eq_true c6
     clear c6
     by_cases c8 : (bt a0 x7_1) = a1
     ·rw [if_pos c8] at H
      have c8b0 : ((bt a0 x7_1) == a1) = true := beq_iff_eq.mpr c8
      have c8b1 : ((bt a0 x7_1) != a1) = false := bne_eq_false_iff_eq.mpr c8
      clear c8
      by_cases c9 : 0 ≤ x6_1
      ·rw [if_pos c9] at H
       have c9b0 := eq_true c9
       have c9b1 : decide (0 ≤ x6_1) = true := decide_eq_true c9
       clear c9
       by_cases c10 : x6_1 ≤ x7_1
       ·rw [if_pos c10] at H
        have c10b0 := eq_true c10
        have c10b1 : decide (x6_1 ≤ x7_1) = true := decide_eq_true c10
        clear c10
        by_cases c11 : x7_1 ≤ (a0.size : Int)
        ·rw [if_pos c11] at H
         have c11b0 := eq_true c11
         have c11b1 : decide (x7_1 ≤ (a0.size : Int)) = true := decide_eq_true c11
         clear c11
         by_cases c12 : x5_1.length < 8796093022208
         ·rw [if_pos c12] at H
          have LMc12 := Aside0.mk c12
          clear c12
          obtain ⟨y344, hy344⟩ : ∃ y_ : List ByteArray, y_ = (x5_1 ++ [a0.extract (x6_1 : Int).toNat (x7_1 : Int).toNat]) := ⟨_, rfl⟩
          replace H : (spec_l1Split.l0 k1 a0 a1 y344 (wrap64 (x7_1 + 1)) (wrap64 (x7_1 + 1))) = some r := by first | (rw [hy344]; with_reducible exact H) | (have H2_ := (Option.bind_some _ _).symm.trans H; rw [hy344]; with_reducible exact H2_) | (have H2_ := (Option.bind_some _ _).symm.trans H; with_reducible exact H2_) | with_reducible exact H | (rw [hy344]; exact H) | exact H
          have Ny344 := Aside0.mk hy344
          clear hy344
          focus
           have H' := Aside0.mk H
           clear H
           have p7 : 0 ≤ (x7_1 : Int) := of_decide_eq_true zax
           have q7 : x7_1 < (a0.size : Int) := of_decide_eq_true zax
           have hx7 := bt_at a0 x7_1
           replace p7 := eq_true p7
           replace q7 := eq_true q7
           go_wp2_with (first | ((with_reducible refine gate_builtin (b := .append) (xs := #[.tmp 20, .tmp 25]) rfl ?_); at_builtin; refine Kd.R_append Kd.string (w0 := w) w.heap.size rfl (.tmp 20) (.tmp 25) 60 9 (.string ⟨#[]⟩) 16 rfl Tryz.underlying60 info9 rfl (by decide) (by omega) u5 x5_1 (a0.extract (x6_1 : Int).toNat (x7_1 : Int).toNat) [.string (a0.extract (x6_1 : Int).toNat (x7_1 : Int).toNat)] (fun _ => True) (fun _ => False) rfl rfl ?aP (fun _ hk => hk.elim) ?aF ?aO ?aB ?aS ?aL ?_; (case aP => exact rfl); (case aB => exact (zBx HB.out)); (case aF => exact (fun _ _ => trivial)); (case aO => exact (zRx HO_5.out)); (case aS => exact (below_size (zBx HB.out))); (case aL => have := LMc12.out; omega); intro v345 w13 ho hb hg hat; rw [← Ny344.out] at ho; replace HB := Aside0.mk (hb); have HO346 := Aside0.mk (ho); clear HO_5; clear ho hb hg hat))
           go_roundg k1
           case measure => have := HK1.out; omega
           case rel => exact ⟨(y344), (wrap64 (x7_1 + 1)), (wrap64 (x7_1 + 1)), zrx, zrx, H', ⟨by have := HK1.out; omega⟩, ⟨by refine zDR ?_; exact HO346.out⟩, ⟨by exact zBx HB.out⟩⟩
         ·rw [if_neg c12] at H
          exact absurd H (by simp)
        ·rw [if_neg c11] at H
         exact absurd H (by simp)
       ·rw [if_neg c10] at H
        exact absurd H (by simp)
      ·rw [if_neg c9] at H
       exact absurd H (by simp)
     ·rw [if_neg c8] at H
      have c8b0 : ((bt a0 x7_1) == a1) = false := beq_eq_false_iff_ne.mpr c8
      have c8b1 : ((bt a0 x7_1) != a1) = true := bne_iff_ne.mpr c8
      focus
       have H' := Aside0.mk H
       clear H
       have p7 : 0 ≤ (x7_1 : Int) := of_decide_eq_true zax
       have q7 : x7_1 < (a0.size : Int) := of_decide_eq_true zax
       have hx7 := bt_at a0 x7_1
       replace p7 := eq_true p7
       replace q7 := eq_true q7
       go_wp2
       go_roundg k1
       case measure => have := HK1.out; omega
       case rel => exact ⟨(x5_1), (x6_1), (wrap64 (x7_1 + 1)), zrx, zrx, H', ⟨by have := HK1.out; omega⟩, ⟨by refine zDR ?_; exact HO_5.out⟩, ⟨by exact zBx HB.out⟩⟩
    ·rw [if_neg c6] at H
     exact absurd H (by simp)
   ·rw [if_neg c5] at H
    have c5b0 : decide (x7_1 < (a0.size : Int)) = false := decide_eq_false c5
    clear c5
    by_cases c14 : 0 ≤ x6_1
    ·rw [if_pos c14] at H
     have c14b0 := eq_true c14
     have c14b1 : decide (0 ≤ x6_1) = true := decide_eq_true c14
     clear c14
     by_cases c15 : x6_1 ≤ (a0.size : Int)
     ·rw [if_pos c15] at H
      have c15b0 := eq_true c15
      have c15b1 : decide (x6_1 ≤ (a0.size : Int)) = true := decide_eq_true c15
      clear c15
      by_cases c16 : x5_1.length < 8796093022208
      ·rw [if_pos c16] at H
       have LMc16 := Aside0.mk c16
       clear c16
       obtain ⟨y347, hy347⟩ : ∃ y_ : List ByteArray, y_ = (x5_1 ++ [a0.extract (x6_1 : Int).toNat a0.size]) := ⟨_, rfl⟩
       replace H : (some y347) = some r := by first | (rw [hy347]; with_reducible exact H) | (have H2_ := (Option.bind_some _ _).symm.trans H; rw [hy347]; with_reducible exact H2_) | (have H2_ := (Option.bind_some _ _).symm.trans H; with_reducible exact H2_) | with_reducible exact H | (rw [hy347]; exact H) | exact H
       have Ny347 := Aside0.mk hy347
       clear hy347
       focus
        obtain rfl := Option.some.inj H
        go_wp2_with (first | ((with_reducible refine gate_builtin (b := .append) (xs := #[.tmp 29, .tmp 33]) rfl ?_); at_builtin; refine Kd.R_append Kd.string (w0 := w) w.heap.size rfl (.tmp 29) (.tmp 33) 60 9 (.string ⟨#[]⟩) 16 rfl Tryz.underlying60 info9 rfl (by decide) (by omega) u5 x5_1 (a0.extract (x6_1 : Int).toNat a0.size) [.string (a0.extract (x6_1 : Int).toNat a0.size)] (fun _ => True) (fun _ => False) rfl rfl ?aP (fun _ hk => hk.elim) ?aF ?aO ?aB ?aS ?aL ?_; (case aP => exact rfl); (case aB => exact (zBx HB.out)); (case aF => exact (fun _ _ => trivial)); (case aO => exact (zRx HO_5.out)); (case aS => exact (below_size (zBx HB.out))); (case aL => have := LMc16.out; omega); intro v348 w17 ho hb hg hat; rw [← Ny347.out] at ho; replace HB := Aside0.mk (hb); have HO349 := Aside0.mk (ho); clear HO_5; clear ho hb hg hat))
        go_ret
        exact ⟨_, by first | rfl | (simp [errW_none, errW_some] <;> rfl) | (simp [*, errW_none, errW_some] <;> rfl), by refine zDR ?_; exact HO349.out, by exact zBx HB.out⟩
      ·rw [if_neg c16] at H
       exact absurd H (by simp)
     ·rw [if_neg c15] at H
      exact absurd H (by simp)
    ·rw [if_neg c14] at H
     exact absurd H (by simp)

end Go.Proofs.YtlfoojgbiafffaaGreatDoor.XFnMessages
