-- written by wip/tools/xprint.py (a program of this project) out of the translation
import Derived.Test.YtlfoojgbiafffaaGreatDoorXFnMessagesx0
import Derived.Test.YtlfoojgbiafffaaGreatDoorStrsE
import Derived.Test.YtlfoojgbiafffaaGreatDoorXFnMessagesx2
import Derived.Test.YtlfoojgbiafffaaGreatDoorXFnMessagesx6
namespace Go.Proofs.YtlfoojgbiafffaaGreatDoor.XFnMessages
open Go.RowKit Go.Proofs.YtlfoojgbiafffaaGreatDoorW.PrintWords Go.Proofs.YtlfoojgbiafffaaGreatDoorW.PrintLast Go.Proofs.YtlfoojgbiafffaaGreatDoorW.PrintMore
open Go.Proofs.YtlfoojgbiafffaaGreatDoor.Strs
attribute [local go_sem] max2_int min2_int max_two min_two max_three min_three max_four min_four   -- for this text's walks alone
set_option linter.unusedVariables false
set_option linter.unusedSimpArgs false

theorem more_ {P : Program} {md : Region.Mode} {ops : Array Oper} {Q : Exit → Act → World → Prop} {S S' : World → Prop} (hS : ∀ w, S' w → S w) : ∀ (fuel : Nat) (l : Array Bool) (a : Act) (w : World),
    S' w → wpAnyLast P md ops Q S' [] fuel l a w → wpAnyLast P md ops Q S [] fuel l a w
  | 0, _, _, _, _, h => h
  | fuel + 1, l, a, w, hw, h => ⟨h.1, fun i hi => wpOp_mono (fun a' w' h' => ⟨fun _ _ => hS _ (h'.1 (by simp) hw), more_ hS fuel _ a' w' (h'.1 (by simp) hw) h'.2⟩) (h.2 i hi)⟩
/-! ### spec_l17Line: function 48 -/
def spec_l17Line.f (k : Nat) (a0_0 : Int) (a0_1 : Int) (a0_2 : Int) (a0_3 : Int) (a0_4 : Int) (a0_5 : Int) : Option (ByteArray) := (spec_l1Num.f k a0_0).bind fun t273 => (if t273.size + 2 ≤ 9223372036854775807 then ((spec_l17Levels.f).bind fun t274 => (if 0 ≤ a0_2 then (if a0_2 < (t274.length : Int) then (if (t273 ++ (⟨#[58, 32]⟩ : ByteArray)).size + (rdOf ByteArray.empty t274 a0_2).size ≤ 9223372036854775807 then (if ((t273 ++ (⟨#[58, 32]⟩ : ByteArray)) ++ (rdOf ByteArray.empty t274 a0_2)).size + 1 ≤ 9223372036854775807 then ((spec_l17Topics.f).bind fun t278 => (if 0 ≤ a0_1 then (if a0_1 < (t278.length : Int) then (if (((t273 ++ (⟨#[58, 32]⟩ : ByteArray)) ++ (rdOf ByteArray.empty t274 a0_2)) ++ (⟨#[32]⟩ : ByteArray)).size + (rdOf ByteArray.empty t278 a0_1).size ≤ 9223372036854775807 then (if ((((t273 ++ (⟨#[58, 32]⟩ : ByteArray)) ++ (rdOf ByteArray.empty t274 a0_2)) ++ (⟨#[32]⟩ : ByteArray)) ++ (rdOf ByteArray.empty t278 a0_1)).size + 7 ≤ 9223372036854775807 then ((spec_l1Num.f k a0_3).bind fun t282 => (if (((((t273 ++ (⟨#[58, 32]⟩ : ByteArray)) ++ (rdOf ByteArray.empty t274 a0_2)) ++ (⟨#[32]⟩ : ByteArray)) ++ (rdOf ByteArray.empty t278 a0_1)) ++ (⟨#[44, 32, 97, 114, 101, 97, 32]⟩ : ByteArray)).size + t282.size ≤ 9223372036854775807 then (if ((((((t273 ++ (⟨#[58, 32]⟩ : ByteArray)) ++ (rdOf ByteArray.empty t274 a0_2)) ++ (⟨#[32]⟩ : ByteArray)) ++ (rdOf ByteArray.empty t278 a0_1)) ++ (⟨#[44, 32, 97, 114, 101, 97, 32]⟩ : ByteArray)) ++ t282).size + 8 ≤ 9223372036854775807 then ((spec_l1Num.f k a0_4).bind fun t283 => (if (((((((t273 ++ (⟨#[58, 32]⟩ : ByteArray)) ++ (rdOf ByteArray.empty t274 a0_2)) ++ (⟨#[32]⟩ : ByteArray)) ++ (rdOf ByteArray.empty t278 a0_1)) ++ (⟨#[44, 32, 97, 114, 101, 97, 32]⟩ : ByteArray)) ++ t282) ++ (⟨#[44, 32, 104, 111, 117, 114, 115, 32]⟩ : ByteArray)).size + t283.size ≤ 9223372036854775807 then (if ((((((((t273 ++ (⟨#[58, 32]⟩ : ByteArray)) ++ (rdOf ByteArray.empty t274 a0_2)) ++ (⟨#[32]⟩ : ByteArray)) ++ (rdOf ByteArray.empty t278 a0_1)) ++ (⟨#[44, 32, 97, 114, 101, 97, 32]⟩ : ByteArray)) ++ t282) ++ (⟨#[44, 32, 104, 111, 117, 114, 115, 32]⟩ : ByteArray)) ++ t283).size + 1 ≤ 9223372036854775807 then ((spec_l1Num.f k a0_5).bind fun t284 => (if (((((((((t273 ++ (⟨#[58, 32]⟩ : ByteArray)) ++ (rdOf ByteArray.empty t274 a0_2)) ++ (⟨#[32]⟩ : ByteArray)) ++ (rdOf ByteArray.empty t278 a0_1)) ++ (⟨#[44, 32, 97, 114, 101, 97, 32]⟩ : ByteArray)) ++ t282) ++ (⟨#[44, 32, 104, 111, 117, 114, 115, 32]⟩ : ByteArray)) ++ t283) ++ (⟨#[45]⟩ : ByteArray)).size + t284.size ≤ 9223372036854775807 then (some ((((((((((t273 ++ (⟨#[58, 32]⟩ : ByteArray)) ++ (rdOf ByteArray.empty t274 a0_2)) ++ (⟨#[32]⟩ : ByteArray)) ++ (rdOf ByteArray.empty t278 a0_1)) ++ (⟨#[44, 32, 97, 114, 101, 97, 32]⟩ : ByteArray)) ++ t282) ++ (⟨#[44, 32, 104, 111, 117, 114, 115, 32]⟩ : ByteArray)) ++ t283) ++ (⟨#[45]⟩ : ByteArray)) ++ t284)) else (none))) else (none)) else (none))) else (none)) else (none))) else (none)) else (none)) else (none)) else (none))) else (none)) else (none)) else (none)) else (none))) else (none))
theorem spec_l17Line.mono : ∀ a0 a1 a2 a3 a4 a5 k, LeO (spec_l17Line.f k a0 a1 a2 a3 a4 a5) (spec_l17Line.f (k + 1) a0 a1 a2 a3 a4 a5) := by
 intro a0 a1 a2 a3 a4 a5 k
 unfold spec_l17Line.f
 repeat' first
  | (with_reducible exact spec_l1Num.mono _ _)
  | (with_reducible exact LeO.refl _)
  | (with_reducible exact LeO.none _)
  | (with_reducible refine LeO.ite ?_ ?_)
  | (with_reducible refine LeO.bind ?_ (fun _ => ?_))
  | exact spec_l1Num.mono _ _
  | exact LeO.none _
  | refine LeO.ite ?_ ?_
  | refine LeO.bind ?_ (fun _ => ?_)
def spec_l17Line.T1 : Bool × List (List Nat × List Nat) := (true, [([], []), ([0], [0]), ([1], [1]), ([2], [2]), ([2], []), ([], []), ([5], [5]), ([4, 6], [4, 6]), ([7], [7]), ([3, 8], [3, 8]), ([9], [9]), ([4], []), ([], []), ([12], [12]), ([11, 13], [11, 13]), ([14], [14]), ([10, 15], [10, 15]), ([16], [16]), ([], []), ([18], [18]), ([19, 11], [19]), ([17, 20], [17, 20]), ([21], [21]), ([], []), ([23], [23]), ([24, 20], [24]), ([22, 25], [22, 25]), ([26], [26]), ([], []), ([28], [28]), ([29, 25], [29]), ([27, 30], [27, 30]), ([31, 30, 0, 1, 2, 3, 4, 5, 6, 7, 8, 9, 10, 11, 12, 13, 14, 15, 16, 17, 18, 19, 20, 21, 22, 23, 24, 25, 26, 27, 28, 29, 30, 31], [31])])
def spec_l17Line.B1 : List Nat := [0, 1, 3, 7, 7, 0, 32, 119, 247, 511, 1023, 23, 0, 4096, 14359, 30743, 65535, 131071, 0, 262144, 788503, 2097151, 4194303, 0, 8388608, 27002903, 67108863, 134217727, 0, 268435456, 865863703, 2147483647, 4294967295]
theorem spec_l17Line.tab1 : rtab .any (opsOf Tryz.f48 1) = spec_l17Line.T1 := by kernel_rfl
theorem spec_l17Line.bits1 : waitsOk spec_l17Line.T1.2 spec_l17Line.B1 = true := by kernel_rfl
set_option maxHeartbeats 8000000 in
set_option maxRecDepth 100000 in
theorem spec_l17Line.calls (k : Nat) (a0_0 : Int) (a0_1 : Int) (a0_2 : Int) (a0_3 : Int) (a0_4 : Int) (a0_5 : Int) (r : ByteArray) (w : World) (h : spec_l17Line.f k a0_0 a0_1 a0_2 a0_3 a0_4 a0_5 = some r) :
 Calls Tryz.prog 48 #[.agg #[.int .i64 a0_0, .int .i64 a0_1, .int .i64 a0_2, .int .i64 a0_3, .int .i64 a0_4, .int .i64 a0_5]] w fun e w' => e = .returned (.string r) ∧ Below w.heap.size w w' := by
 have hu25 := Tryz.underlying25
 have HB := Aside0.mk (Below.refl w.heap.size w)
 have H : ((spec_l1Num.f k a0_0).bind fun t273 => (if t273.size + 2 ≤ 9223372036854775807 then ((spec_l17Levels.f).bind fun t274 => (if 0 ≤ a0_2 then (if a0_2 < (t274.length : Int) then (if (t273 ++ (⟨#[58, 32]⟩ : ByteArray)).size + (rdOf ByteArray.empty t274 a0_2).size ≤ 9223372036854775807 then (if ((t273 ++ (⟨#[58, 32]⟩ : ByteArray)) ++ (rdOf ByteArray.empty t274 a0_2)).size + 1 ≤ 9223372036854775807 then ((spec_l17Topics.f).bind fun t278 => (if 0 ≤ a0_1 then (if a0_1 < (t278.length : Int) then (if (((t273 ++ (⟨#[58, 32]⟩ : ByteArray)) ++ (rdOf ByteArray.empty t274 a0_2)) ++ (⟨#[32]⟩ : ByteArray)).size + (rdOf ByteArray.empty t278 a0_1).size ≤ 9223372036854775807 then (if ((((t273 ++ (⟨#[58, 32]⟩ : ByteArray)) ++ (rdOf ByteArray.empty t274 a0_2)) ++ (⟨#[32]⟩ : ByteArray)) ++ (rdOf ByteArray.empty t278 a0_1)).size + 7 ≤ 9223372036854775807 then ((spec_l1Num.f k a0_3).bind fun t282 => (if (((((t273 ++ (⟨#[58, 32]⟩ : ByteArray)) ++ (rdOf ByteArray.empty t274 a0_2)) ++ (⟨#[32]⟩ : ByteArray)) ++ (rdOf ByteArray.empty t278 a0_1)) ++ (⟨#[44, 32, 97, 114, 101, 97, 32]⟩ : ByteArray)).size + t282.size ≤ 9223372036854775807 then (if ((((((t273 ++ (⟨#[58, 32]⟩ : ByteArray)) ++ (rdOf ByteArray.empty t274 a0_2)) ++ (⟨#[32]⟩ : ByteArray)) ++ (rdOf ByteArray.empty t278 a0_1)) ++ (⟨#[44, 32, 97, 114, 101, 97, 32]⟩ : ByteArray)) ++ t282).size + 8 ≤ 9223372036854775807 then ((spec_l1Num.f k a0_4).bind fun t283 => (if (((((((t273 ++ (⟨#[58, 32]⟩ : ByteArray)) ++ (rdOf ByteArray.empty t274 a0_2)) ++ (⟨#[32]⟩ : ByteArray)) ++ (rdOf ByteArray.empty t278 a0_1)) ++ (⟨#[44, 32, 97, 114, 101, 97, 32]⟩ : ByteArray)) ++ t282) ++ (⟨#[44, 32, 104, 111, 117, 114, 115, 32]⟩ : ByteArray)).size + t283.size ≤ 9223372036854775807 then (if ((((((((t273 ++ (⟨#[58, 32]⟩ : ByteArray)) ++ (rdOf ByteArray.empty t274 a0_2)) ++ (⟨#[32]⟩ : ByteArray)) ++ (rdOf ByteArray.empty t278 a0_1)) ++ (⟨#[44, 32, 97, 114, 101, 97, 32]⟩ : ByteArray)) ++ t282) ++ (⟨#[44, 32, 104, 111, 117, 114, 115, 32]⟩ : ByteArray)) ++ t283).size + 1 ≤ 9223372036854775807 then ((spec_l1Num.f k a0_5).bind fun t284 => (if (((((((((t273 ++ (⟨#[58, 32]⟩ : ByteArray)) ++ (rdOf ByteArray.empty t274 a0_2)) ++ (⟨#[32]⟩ : ByteArray)) ++ (rdOf ByteArray.empty t278 a0_1)) ++ (⟨#[44, 32, 97, 114, 101, 97, 32]⟩ : ByteArray)) ++ t282) ++ (⟨#[44, 32, 104, 111, 117, 114, 115, 32]⟩ : ByteArray)) ++ t283) ++ (⟨#[45]⟩ : ByteArray)).size + t284.size ≤ 9223372036854775807 then (some ((((((((((t273 ++ (⟨#[58, 32]⟩ : ByteArray)) ++ (rdOf ByteArray.empty t274 a0_2)) ++ (⟨#[32]⟩ : ByteArray)) ++ (rdOf ByteArray.empty t278 a0_1)) ++ (⟨#[44, 32, 97, 114, 101, 97, 32]⟩ : ByteArray)) ++ t282) ++ (⟨#[44, 32, 104, 111, 117, 114, 115, 32]⟩ : ByteArray)) ++ t283) ++ (⟨#[45]⟩ : ByteArray)) ++ t284)) else (none))) else (none)) else (none))) else (none)) else (none))) else (none)) else (none)) else (none)) else (none))) else (none)) else (none)) else (none)) else (none))) else (none))) = some r := h
 clear h
 replace H := Option.bind_eq_some_iff.mp H
 obtain ⟨t273, A20, H⟩ := H
 replace H : (if t273.size + 2 ≤ 9223372036854775807 then ((spec_l17Levels.f).bind fun t274 => (if 0 ≤ a0_2 then (if a0_2 < (t274.length : Int) then (if (t273 ++ (⟨#[58, 32]⟩ : ByteArray)).size + (rdOf ByteArray.empty t274 a0_2).size ≤ 9223372036854775807 then (if ((t273 ++ (⟨#[58, 32]⟩ : ByteArray)) ++ (rdOf ByteArray.empty t274 a0_2)).size + 1 ≤ 9223372036854775807 then ((spec_l17Topics.f).bind fun t278 => (if 0 ≤ a0_1 then (if a0_1 < (t278.length : Int) then (if (((t273 ++ (⟨#[58, 32]⟩ : ByteArray)) ++ (rdOf ByteArray.empty t274 a0_2)) ++ (⟨#[32]⟩ : ByteArray)).size + (rdOf ByteArray.empty t278 a0_1).size ≤ 9223372036854775807 then (if ((((t273 ++ (⟨#[58, 32]⟩ : ByteArray)) ++ (rdOf ByteArray.empty t274 a0_2)) ++ (⟨#[32]⟩ : ByteArray)) ++ (rdOf ByteArray.empty t278 a0_1)).size + 7 ≤ 9223372036854775807 then ((spec_l1Num.f k a0_3).bind fun t282 => (if (((((t273 ++ (⟨#[58, 32]⟩ : ByteArray)) ++ (rdOf ByteArray.empty t274 a0_2)) ++ (⟨#[32]⟩ : ByteArray)) ++ (rdOf ByteArray.empty t278 a0_1)) ++ (⟨#[44, 32, 97, 114, 101, 97, 32]⟩ : ByteArray)).size + t282.size ≤ 9223372036854775807 then (if ((((((t273 ++ (⟨#[58, 32]⟩ : ByteArray)) ++ (rdOf ByteArray.empty t274 a0_2)) ++ (⟨#[32]⟩ : ByteArray)) ++ (rdOf ByteArray.empty t278 a0_1)) ++ (⟨#[44, 32, 97, 114, 101, 97, 32]⟩ : ByteArray)) ++ t282).size + 8 ≤ 9223372036854775807 then ((spec_l1Num.f k a0_4).bind fun t283 => (if (((((((t273 ++ (⟨#[58, 32]⟩ : ByteArray)) ++ (rdOf ByteArray.empty t274 a0_2)) ++ (⟨#[32]⟩ : ByteArray)) ++ (rdOf ByteArray.empty t278 a0_1)) ++ (⟨#[44, 32, 97, 114, 101, 97, 32]⟩ : ByteArray)) ++ t282) ++ (⟨#[44, 32, 104, 111, 117, 114, 115, 32]⟩ : ByteArray)).size + t283.size ≤ 9223372036854775807 then (if ((((((((t273 ++ (⟨#[58, 32]⟩ : ByteArray)) ++ (rdOf ByteArray.empty t274 a0_2)) ++ (⟨#[32]⟩ : ByteArray)) ++ (rdOf ByteArray.empty t278 a0_1)) ++ (⟨#[44, 32, 97, 114, 101, 97, 32]⟩ : ByteArray)) ++ t282) ++ (⟨#[44, 32, 104, 111, 117, 114, 115, 32]⟩ : ByteArray)) ++ t283).size + 1 ≤ 9223372036854775807 then ((spec_l1Num.f k a0_5).bind fun t284 => (if (((((((((t273 ++ (⟨#[58, 32]⟩ : ByteArray)) ++ (rdOf ByteArray.empty t274 a0_2)) ++ (⟨#[32]⟩ : ByteArray)) ++ (rdOf ByteArray.empty t278 a0_1)) ++ (⟨#[44, 32, 97, 114, 101, 97, 32]⟩ : ByteArray)) ++ t282) ++ (⟨#[44, 32, 104, 111, 117, 114, 115, 32]⟩ : ByteArray)) ++ t283) ++ (⟨#[45]⟩ : ByteArray)).size + t284.size ≤ 9223372036854775807 then (some ((((((((((t273 ++ (⟨#[58, 32]⟩ : ByteArray)) ++ (rdOf ByteArray.empty t274 a0_2)) ++ (⟨#[32]⟩ : ByteArray)) ++ (rdOf ByteArray.empty t278 a0_1)) ++ (⟨#[44, 32, 97, 114, 101, 97, 32]⟩ : ByteArray)) ++ t282) ++ (⟨#[44, 32, 104, 111, 117, 114, 115, 32]⟩ : ByteArray)) ++ t283) ++ (⟨#[45]⟩ : ByteArray)) ++ t284)) else (none))) else (none)) else (none))) else (none)) else (none))) else (none)) else (none)) else (none)) else (none))) else (none)) else (none)) else (none)) else (none))) else (none)) = some r := H
 have A2 := Aside0.mk A20
 clear A20
 by_cases c3 : t273.size + 2 ≤ 9223372036854775807
 ·rw [if_pos c3] at H
  have c3b0 := eq_true c3
  have c3b1 : decide (t273.size + 2 ≤ 9223372036854775807) = true := decide_eq_true c3
  try have c3b2 : (9223372036854775807 < t273.size + 2) = False := eq_false (Nat.not_lt.2 c3)
  replace H := Option.bind_eq_some_iff.mp H
  obtain ⟨t274, A40, H⟩ := H
  replace H : (if 0 ≤ a0_2 then (if a0_2 < (t274.length : Int) then (if (t273 ++ (⟨#[58, 32]⟩ : ByteArray)).size + (rdOf ByteArray.empty t274 a0_2).size ≤ 9223372036854775807 then (if ((t273 ++ (⟨#[58, 32]⟩ : ByteArray)) ++ (rdOf ByteArray.empty t274 a0_2)).size + 1 ≤ 9223372036854775807 then ((spec_l17Topics.f).bind fun t278 => (if 0 ≤ a0_1 then (if a0_1 < (t278.length : Int) then (if (((t273 ++ (⟨#[58, 32]⟩ : ByteArray)) ++ (rdOf ByteArray.empty t274 a0_2)) ++ (⟨#[32]⟩ : ByteArray)).size + (rdOf ByteArray.empty t278 a0_1).size ≤ 9223372036854775807 then (if ((((t273 ++ (⟨#[58, 32]⟩ : ByteArray)) ++ (rdOf ByteArray.empty t274 a0_2)) ++ (⟨#[32]⟩ : ByteArray)) ++ (rdOf ByteArray.empty t278 a0_1)).size + 7 ≤ 9223372036854775807 then ((spec_l1Num.f k a0_3).bind fun t282 => (if (((((t273 ++ (⟨#[58, 32]⟩ : ByteArray)) ++ (rdOf ByteArray.empty t274 a0_2)) ++ (⟨#[32]⟩ : ByteArray)) ++ (rdOf ByteArray.empty t278 a0_1)) ++ (⟨#[44, 32, 97, 114, 101, 97, 32]⟩ : ByteArray)).size + t282.size ≤ 9223372036854775807 then (if ((((((t273 ++ (⟨#[58, 32]⟩ : ByteArray)) ++ (rdOf ByteArray.empty t274 a0_2)) ++ (⟨#[32]⟩ : ByteArray)) ++ (rdOf ByteArray.empty t278 a0_1)) ++ (⟨#[44, 32, 97, 114, 101, 97, 32]⟩ : ByteArray)) ++ t282).size + 8 ≤ 9223372036854775807 then ((spec_l1Num.f k a0_4).bind fun t283 => (if (((((((t273 ++ (⟨#[58, 32]⟩ : ByteArray)) ++ (rdOf ByteArray.empty t274 a0_2)) ++ (⟨#[32]⟩ : ByteArray)) ++ (rdOf ByteArray.empty t278 a0_1)) ++ (⟨#[44, 32, 97, 114, 101, 97, 32]⟩ : ByteArray)) ++ t282) ++ (⟨#[44, 32, 104, 111, 117, 114, 115, 32]⟩ : ByteArray)).size + t283.size ≤ 9223372036854775807 then (if ((((((((t273 ++ (⟨#[58, 32]⟩ : ByteArray)) ++ (rdOf ByteArray.empty t274 a0_2)) ++ (⟨#[32]⟩ : ByteArray)) ++ (rdOf ByteArray.empty t278 a0_1)) ++ (⟨#[44, 32, 97, 114, 101, 97, 32]⟩ : ByteArray)) ++ t282) ++ (⟨#[44, 32, 104, 111, 117, 114, 115, 32]⟩ : ByteArray)) ++ t283).size + 1 ≤ 9223372036854775807 then ((spec_l1Num.f k a0_5).bind fun t284 => (if (((((((((t273 ++ (⟨#[58, 32]⟩ : ByteArray)) ++ (rdOf ByteArray.empty t274 a0_2)) ++ (⟨#[32]⟩ : ByteArray)) ++ (rdOf ByteArray.empty t278 a0_1)) ++ (⟨#[44, 32, 97, 114, 101, 97, 32]⟩ : ByteArray)) ++ t282) ++ (⟨#[44, 32, 104, 111, 117, 114, 115, 32]⟩ : ByteArray)) ++ t283) ++ (⟨#[45]⟩ : ByteArray)).size + t284.size ≤ 9223372036854775807 then (some ((((((((((t273 ++ (⟨#[58, 32]⟩ : ByteArray)) ++ (rdOf ByteArray.empty t274 a0_2)) ++ (⟨#[32]⟩ : ByteArray)) ++ (rdOf ByteArray.empty t278 a0_1)) ++ (⟨#[44, 32, 97, 114, 101, 97, 32]⟩ : ByteArray)) ++ t282) ++ (⟨#[44, 32, 104, 111, 117, 114, 115, 32]⟩ : ByteArray)) ++ t283) ++ (⟨#[45]⟩ : ByteArray)) ++ t284)) else (none))) else (none)) else (none))) else (none)) else (none))) else (none)) else (none)) else (none)) else (none))) else (none)) else (none)) else (none)) else (none)) = some r := H
  have A4 := Aside0.mk A40
  clear A40
  by_cases c5 : 0 ≤ a0_2
  ·rw [if_pos c5] at H
   have c5b0 : decide (0 ≤ a0_2) = true := decide_eq_true c5
   clear c5
   by_cases c6 : a0_2 < (t274.length : Int)
   ·rw [if_pos c6] at H
    have c6b0 : decide (a0_2 < (t274.length : Int)) = true := decide_eq_true c6
    clear c6
    by_cases c7 : (t273 ++ (⟨#[58, 32]⟩ : ByteArray)).size + (rdOf ByteArray.empty t274 a0_2).size ≤ 9223372036854775807
    ·rw [if_pos c7] at H
     have c7b0 := eq_true c7
     have c7b1 : decide ((t273 ++ (⟨#[58, 32]⟩ : ByteArray)).size + (rdOf ByteArray.empty t274 a0_2).size ≤ 9223372036854775807) = true := decide_eq_true c7
     try have c7b2 : (9223372036854775807 < (t273 ++ (⟨#[58, 32]⟩ : ByteArray)).size + (rdOf ByteArray.empty t274 a0_2).size) = False := eq_false (Nat.not_lt.2 c7)
     have c7b3 : (9223372036854775807 < t273.size + 2 + (rdOf ByteArray.empty t274 a0_2).size) = False := eq_false (Nat.not_lt.2 (by have h_ := c7; simp only [ByteArray.size_append] at h_; exact h_))
     by_cases c8 : ((t273 ++ (⟨#[58, 32]⟩ : ByteArray)) ++ (rdOf ByteArray.empty t274 a0_2)).size + 1 ≤ 9223372036854775807
     ·rw [if_pos c8] at H
      have c8b0 := eq_true c8
      have c8b1 : decide (((t273 ++ (⟨#[58, 32]⟩ : ByteArray)) ++ (rdOf ByteArray.empty t274 a0_2)).size + 1 ≤ 9223372036854775807) = true := decide_eq_true c8
      try have c8b2 : (9223372036854775807 < ((t273 ++ (⟨#[58, 32]⟩ : ByteArray)) ++ (rdOf ByteArray.empty t274 a0_2)).size + 1) = False := eq_false (Nat.not_lt.2 c8)
      have c8b3 : (9223372036854775807 < t273.size + 2 + (rdOf ByteArray.empty t274 a0_2).size + 1) = False := eq_false (Nat.not_lt.2 (by have h_ := c8; simp only [ByteArray.size_append] at h_; exact h_))
      replace H := Option.bind_eq_some_iff.mp H
      obtain ⟨t278, A90, H⟩ := H
      replace H : (if 0 ≤ a0_1 then (if a0_1 < (t278.length : Int) then (if (((t273 ++ (⟨#[58, 32]⟩ : ByteArray)) ++ (rdOf ByteArray.empty t274 a0_2)) ++ (⟨#[32]⟩ : ByteArray)).size + (rdOf ByteArray.empty t278 a0_1).size ≤ 9223372036854775807 then (if ((((t273 ++ (⟨#[58, 32]⟩ : ByteArray)) ++ (rdOf ByteArray.empty t274 a0_2)) ++ (⟨#[32]⟩ : ByteArray)) ++ (rdOf ByteArray.empty t278 a0_1)).size + 7 ≤ 9223372036854775807 then ((spec_l1Num.f k a0_3).bind fun t282 => (if (((((t273 ++ (⟨#[58, 32]⟩ : ByteArray)) ++ (rdOf ByteArray.empty t274 a0_2)) ++ (⟨#[32]⟩ : ByteArray)) ++ (rdOf ByteArray.empty t278 a0_1)) ++ (⟨#[44, 32, 97, 114, 101, 97, 32]⟩ : ByteArray)).size + t282.size ≤ 9223372036854775807 then (if ((((((t273 ++ (⟨#[58, 32]⟩ : ByteArray)) ++ (rdOf ByteArray.empty t274 a0_2)) ++ (⟨#[32]⟩ : ByteArray)) ++ (rdOf ByteArray.empty t278 a0_1)) ++ (⟨#[44, 32, 97, 114, 101, 97, 32]⟩ : ByteArray)) ++ t282).size + 8 ≤ 9223372036854775807 then ((spec_l1Num.f k a0_4).bind fun t283 => (if (((((((t273 ++ (⟨#[58, 32]⟩ : ByteArray)) ++ (rdOf ByteArray.empty t274 a0_2)) ++ (⟨#[32]⟩ : ByteArray)) ++ (rdOf ByteArray.empty t278 a0_1)) ++ (⟨#[44, 32, 97, 114, 101, 97, 32]⟩ : ByteArray)) ++ t282) ++ (⟨#[44, 32, 104, 111, 117, 114, 115, 32]⟩ : ByteArray)).size + t283.size ≤ 9223372036854775807 then (if ((((((((t273 ++ (⟨#[58, 32]⟩ : ByteArray)) ++ (rdOf ByteArray.empty t274 a0_2)) ++ (⟨#[32]⟩ : ByteArray)) ++ (rdOf ByteArray.empty t278 a0_1)) ++ (⟨#[44, 32, 97, 114, 101, 97, 32]⟩ : ByteArray)) ++ t282) ++ (⟨#[44, 32, 104, 111, 117, 114, 115, 32]⟩ : ByteArray)) ++ t283).size + 1 ≤ 9223372036854775807 then ((spec_l1Num.f k a0_5).bind fun t284 => (if (((((((((t273 ++ (⟨#[58, 32]⟩ : ByteArray)) ++ (rdOf ByteArray.empty t274 a0_2)) ++ (⟨#[32]⟩ : ByteArray)) ++ (rdOf ByteArray.empty t278 a0_1)) ++ (⟨#[44, 32, 97, 114, 101, 97, 32]⟩ : ByteArray)) ++ t282) ++ (⟨#[44, 32, 104, 111, 117, 114, 115, 32]⟩ : ByteArray)) ++ t283) ++ (⟨#[45]⟩ : ByteArray)).size + t284.size ≤ 9223372036854775807 then (some ((((((((((t273 ++ (⟨#[58, 32]⟩ : ByteArray)) ++ (rdOf ByteArray.empty t274 a0_2)) ++ (⟨#[32]⟩ : ByteArray)) ++ (rdOf ByteArray.empty t278 a0_1)) ++ (⟨#[44, 32, 97, 114, 101, 97, 32]⟩ : ByteArray)) ++ t282) ++ (⟨#[44, 32, 104, 111, 117, 114, 115, 32]⟩ : ByteArray)) ++ t283) ++ (⟨#[45]⟩ : ByteArray)) ++ t284)) else (none))) else (none)) else (none))) else (none)) else (none))) else (none)) else (none)) else (none)) else (none)) = some r := H
      have A9 := Aside0.mk A90
      clear A90
      by_cases c10 : 0 ≤ a0_1
      ·rw [if_pos c10] at H
       have c10b0 : decide (0 ≤ a0_1) = true := decide_eq_true c10
       clear c10
       by_cases c11 : a0_1 < (t278.length : Int)
       ·rw [if_pos c11] at H
        have c11b0 : decide (a0_1 < (t278.length : Int)) = true := decide_eq_true c11
        clear c11
        by_cases c12 : (((t273 ++ (⟨#[58, 32]⟩ : ByteArray)) ++ (rdOf ByteArray.empty t274 a0_2)) ++ (⟨#[32]⟩ : ByteArray)).size + (rdOf ByteArray.empty t278 a0_1).size ≤ 9223372036854775807
        ·rw [if_pos c12] at H
         have c12b0 := eq_true c12
         have c12b1 : decide ((((t273 ++ (⟨#[58, 32]⟩ : ByteArray)) ++ (rdOf ByteArray.empty t274 a0_2)) ++ (⟨#[32]⟩ : ByteArray)).size + (rdOf ByteArray.empty t278 a0_1).size ≤ 9223372036854775807) = true := decide_eq_true c12
         try have c12b2 : (9223372036854775807 < (((t273 ++ (⟨#[58, 32]⟩ : ByteArray)) ++ (rdOf ByteArray.empty t274 a0_2)) ++ (⟨#[32]⟩ : ByteArray)).size + (rdOf ByteArray.empty t278 a0_1).size) = False := eq_false (Nat.not_lt.2 c12)
         have c12b3 : (9223372036854775807 < t273.size + 2 + (rdOf ByteArray.empty t274 a0_2).size + 1 + (rdOf ByteArray.empty t278 a0_1).size) = False := eq_false (Nat.not_lt.2 (by have h_ := c12; simp only [ByteArray.size_append] at h_; exact h_))
         by_cases c13 : ((((t273 ++ (⟨#[58, 32]⟩ : ByteArray)) ++ (rdOf ByteArray.empty t274 a0_2)) ++ (⟨#[32]⟩ : ByteArray)) ++ (rdOf ByteArray.empty t278 a0_1)).size + 7 ≤ 9223372036854775807
         ·rw [if_pos c13] at H
          have c13b0 := eq_true c13
          have c13b1 : decide (((((t273 ++ (⟨#[58, 32]⟩ : ByteArray)) ++ (rdOf ByteArray.empty t274 a0_2)) ++ (⟨#[32]⟩ : ByteArray)) ++ (rdOf ByteArray.empty t278 a0_1)).size + 7 ≤ 9223372036854775807) = true := decide_eq_true c13
          try have c13b2 : (9223372036854775807 < ((((t273 ++ (⟨#[58, 32]⟩ : ByteArray)) ++ (rdOf ByteArray.empty t274 a0_2)) ++ (⟨#[32]⟩ : ByteArray)) ++ (rdOf ByteArray.empty t278 a0_1)).size + 7) = False := eq_false (Nat.not_lt.2 c13)
          have c13b3 : (9223372036854775807 < t273.size + 2 + (rdOf ByteArray.empty t274 a0_2).size + 1 + (rdOf ByteArray.empty t278 a0_1).size + 7) = False := eq_false (Nat.not_lt.2 (by have h_ := c13; simp only [ByteArray.size_append] at h_; exact h_))
          replace H := Option.bind_eq_some_iff.mp H
          obtain ⟨t282, A140, H⟩ := H
          replace H : (if (((((t273 ++ (⟨#[58, 32]⟩ : ByteArray)) ++ (rdOf ByteArray.empty t274 a0_2)) ++ (⟨#[32]⟩ : ByteArray)) ++ (rdOf ByteArray.empty t278 a0_1)) ++ (⟨#[44, 32, 97, 114, 101, 97, 32]⟩ : ByteArray)).size + t282.size ≤ 9223372036854775807 then (if ((((((t273 ++ (⟨#[58, 32]⟩ : ByteArray)) ++ (rdOf ByteArray.empty t274 a0_2)) ++ (⟨#[32]⟩ : ByteArray)) ++ (rdOf ByteArray.empty t278 a0_1)) ++ (⟨#[44, 32, 97, 114, 101, 97, 32]⟩ : ByteArray)) ++ t282).size + 8 ≤ 9223372036854775807 then ((spec_l1Num.f k a0_4).bind fun t283 => (if (((((((t273 ++ (⟨#[58, 32]⟩ : ByteArray)) ++ (rdOf ByteArray.empty t274 a0_2)) ++ (⟨#[32]⟩ : ByteArray)) ++ (rdOf ByteArray.empty t278 a0_1)) ++ (⟨#[44, 32, 97, 114, 101, 97, 32]⟩ : ByteArray)) ++ t282) ++ (⟨#[44, 32, 104, 111, 117, 114, 115, 32]⟩ : ByteArray)).size + t283.size ≤ 9223372036854775807 then (if ((((((((t273 ++ (⟨#[58, 32]⟩ : ByteArray)) ++ (rdOf ByteArray.empty t274 a0_2)) ++ (⟨#[32]⟩ : ByteArray)) ++ (rdOf ByteArray.empty t278 a0_1)) ++ (⟨#[44, 32, 97, 114, 101, 97, 32]⟩ : ByteArray)) ++ t282) ++ (⟨#[44, 32, 104, 111, 117, 114, 115, 32]⟩ : ByteArray)) ++ t283).size + 1 ≤ 9223372036854775807 then ((spec_l1Num.f k a0_5).bind fun t284 => (if (((((((((t273 ++ (⟨#[58, 32]⟩ : ByteArray)) ++ (rdOf ByteArray.empty t274 a0_2)) ++ (⟨#[32]⟩ : ByteArray)) ++ (rdOf ByteArray.empty t278 a0_1)) ++ (⟨#[44, 32, 97, 114, 101, 97, 32]⟩ : ByteArray)) ++ t282) ++ (⟨#[44, 32, 104, 111, 117, 114, 115, 32]⟩ : ByteArray)) ++ t283) ++ (⟨#[45]⟩ : ByteArray)).size + t284.size ≤ 9223372036854775807 then (some ((((((((((t273 ++ (⟨#[58, 32]⟩ : ByteArray)) ++ (rdOf ByteArray.empty t274 a0_2)) ++ (⟨#[32]⟩ : ByteArray)) ++ (rdOf ByteArray.empty t278 a0_1)) ++ (⟨#[44, 32, 97, 114, 101, 97, 32]⟩ : ByteArray)) ++ t282) ++ (⟨#[44, 32, 104, 111, 117, 114, 115, 32]⟩ : ByteArray)) ++ t283) ++ (⟨#[45]⟩ : ByteArray)) ++ t284)) else (none))) else (none)) else (none))) else (none)) else (none)) = some r := H
          have A14 := Aside0.mk A140
          clear A140
          by_cases c15 : (((((t273 ++ (⟨#[58, 32]⟩ : ByteArray)) ++ (rdOf ByteArray.empty t274 a0_2)) ++ (⟨#[32]⟩ : ByteArray)) ++ (rdOf ByteArray.empty t278 a0_1)) ++ (⟨#[44, 32, 97, 114, 101, 97, 32]⟩ : ByteArray)).size + t282.size ≤ 9223372036854775807
          ·rw [if_pos c15] at H
           have c15b0 := eq_true c15
           have c15b1 : decide ((((((t273 ++ (⟨#[58, 32]⟩ : ByteArray)) ++ (rdOf ByteArray.empty t274 a0_2)) ++ (⟨#[32]⟩ : ByteArray)) ++ (rdOf ByteArray.empty t278 a0_1)) ++ (⟨#[44, 32, 97, 114, 101, 97, 32]⟩ : ByteArray)).size + t282.size ≤ 9223372036854775807) = true := decide_eq_true c15
           try have c15b2 : (9223372036854775807 < (((((t273 ++ (⟨#[58, 32]⟩ : ByteArray)) ++ (rdOf ByteArray.empty t274 a0_2)) ++ (⟨#[32]⟩ : ByteArray)) ++ (rdOf ByteArray.empty t278 a0_1)) ++ (⟨#[44, 32, 97, 114, 101, 97, 32]⟩ : ByteArray)).size + t282.size) = False := eq_false (Nat.not_lt.2 c15)
           have c15b3 : (9223372036854775807 < t273.size + 2 + (rdOf ByteArray.empty t274 a0_2).size + 1 + (rdOf ByteArray.empty t278 a0_1).size + 7 + t282.size) = False := eq_false (Nat.not_lt.2 (by have h_ := c15; simp only [ByteArray.size_append] at h_; exact h_))
           by_cases c16 : ((((((t273 ++ (⟨#[58, 32]⟩ : ByteArray)) ++ (rdOf ByteArray.empty t274 a0_2)) ++ (⟨#[32]⟩ : ByteArray)) ++ (rdOf ByteArray.empty t278 a0_1)) ++ (⟨#[44, 32, 97, 114, 101, 97, 32]⟩ : ByteArray)) ++ t282).size + 8 ≤ 9223372036854775807
           ·rw [if_pos c16] at H
            have c16b0 := eq_true c16
            have c16b1 : decide (((((((t273 ++ (⟨#[58, 32]⟩ : ByteArray)) ++ (rdOf ByteArray.empty t274 a0_2)) ++ (⟨#[32]⟩ : ByteArray)) ++ (rdOf ByteArray.empty t278 a0_1)) ++ (⟨#[44, 32, 97, 114, 101, 97, 32]⟩ : ByteArray)) ++ t282).size + 8 ≤ 9223372036854775807) = true := decide_eq_true c16
            try have c16b2 : (9223372036854775807 < ((((((t273 ++ (⟨#[58, 32]⟩ : ByteArray)) ++ (rdOf ByteArray.empty t274 a0_2)) ++ (⟨#[32]⟩ : ByteArray)) ++ (rdOf ByteArray.empty t278 a0_1)) ++ (⟨#[44, 32, 97, 114, 101, 97, 32]⟩ : ByteArray)) ++ t282).size + 8) = False := eq_false (Nat.not_lt.2 c16)
            have c16b3 : (9223372036854775807 < t273.size + 2 + (rdOf ByteArray.empty t274 a0_2).size + 1 + (rdOf ByteArray.empty t278 a0_1).size + 7 + t282.size + 8) = False := eq_false (Nat.not_lt.2 (by have h_ := c16; simp only [ByteArray.size_append] at h_; exact h_))
            replace H := Option.bind_eq_some_iff.mp H
            obtain ⟨t283, A170, H⟩ := H
            replace H : (if (((((((t273 ++ (⟨#[58, 32]⟩ : ByteArray)) ++ (rdOf ByteArray.empty t274 a0_2)) ++ (⟨#[32]⟩ : ByteArray)) ++ (rdOf ByteArray.empty t278 a0_1)) ++ (⟨#[44, 32, 97, 114, 101, 97, 32]⟩ : ByteArray)) ++ t282) ++ (⟨#[44, 32, 104, 111, 117, 114, 115, 32]⟩ : ByteArray)).size + t283.size ≤ 9223372036854775807 then (if ((((((((t273 ++ (⟨#[58, 32]⟩ : ByteArray)) ++ (rdOf ByteArray.empty t274 a0_2)) ++ (⟨#[32]⟩ : ByteArray)) ++ (rdOf ByteArray.empty t278 a0_1)) ++ (⟨#[44, 32, 97, 114, 101, 97, 32]⟩ : ByteArray)) ++ t282) ++ (⟨#[44, 32, 104, 111, 117, 114, 115, 32]⟩ : ByteArray)) ++ t283).size + 1 ≤ 9223372036854775807 then ((spec_l1Num.f k a0_5).bind fun t284 => (if (((((((((t273 ++ (⟨#[58, 32]⟩ : ByteArray)) ++ (rdOf ByteArray.empty t274 a0_2)) ++ (⟨#[32]⟩ : ByteArray)) ++ (rdOf ByteArray.empty t278 a0_1)) ++ (⟨#[44, 32, 97, 114, 101, 97, 32]⟩ : ByteArray)) ++ t282) ++ (⟨#[44, 32, 104, 111, 117, 114, 115, 32]⟩ : ByteArray)) ++ t283) ++ (⟨#[45]⟩ : ByteArray)).size + t284.size ≤ 9223372036854775807 then (some ((((((((((t273 ++ (⟨#[58, 32]⟩ : ByteArray)) ++ (rdOf ByteArray.empty t274 a0_2)) ++ (⟨#[32]⟩ : ByteArray)) ++ (rdOf ByteArray.empty t278 a0_1)) ++ (⟨#[44, 32, 97, 114, 101, 97, 32]⟩ : ByteArray)) ++ t282) ++ (⟨#[44, 32, 104, 111, 117, 114, 115, 32]⟩ : ByteArray)) ++ t283) ++ (⟨#[45]⟩ : ByteArray)) ++ t284)) else (none))) else (none)) else (none)) = some r := H
            have A17 := Aside0.mk A170
            clear A170
            by_cases c18 : (((((((t273 ++ (⟨#[58, 32]⟩ : ByteArray)) ++ (rdOf ByteArray.empty t274 a0_2)) ++ (⟨#[32]⟩ : ByteArray)) ++ (rdOf ByteArray.empty t278 a0_1)) ++ (⟨#[44, 32, 97, 114, 101, 97, 32]⟩ : ByteArray)) ++ t282) ++ (⟨#[44, 32, 104, 111, 117, 114, 115, 32]⟩ : ByteArray)).size + t283.size ≤ 9223372036854775807
            ·rw [if_pos c18] at H
             have c18b0 := eq_true c18
             have c18b1 : decide ((((((((t273 ++ (⟨#[58, 32]⟩ : ByteArray)) ++ (rdOf ByteArray.empty t274 a0_2)) ++ (⟨#[32]⟩ : ByteArray)) ++ (rdOf ByteArray.empty t278 a0_1)) ++ (⟨#[44, 32, 97, 114, 101, 97, 32]⟩ : ByteArray)) ++ t282) ++ (⟨#[44, 32, 104, 111, 117, 114, 115, 32]⟩ : ByteArray)).size + t283.size ≤ 9223372036854775807) = true := decide_eq_true c18
             try have c18b2 : (9223372036854775807 < (((((((t273 ++ (⟨#[58, 32]⟩ : ByteArray)) ++ (rdOf ByteArray.empty t274 a0_2)) ++ (⟨#[32]⟩ : ByteArray)) ++ (rdOf ByteArray.empty t278 a0_1)) ++ (⟨#[44, 32, 97, 114, 101, 97, 32]⟩ : ByteArray)) ++ t282) ++ (⟨#[44, 32, 104, 111, 117, 114, 115, 32]⟩ : ByteArray)).size + t283.size) = False := eq_false (Nat.not_lt.2 c18)
             have c18b3 : (9223372036854775807 < t273.size + 2 + (rdOf ByteArray.empty t274 a0_2).size + 1 + (rdOf ByteArray.empty t278 a0_1).size + 7 + t282.size + 8 + t283.size) = False := eq_false (Nat.not_lt.2 (by have h_ := c18; simp only [ByteArray.size_append] at h_; exact h_))
             by_cases c19 : ((((((((t273 ++ (⟨#[58, 32]⟩ : ByteArray)) ++ (rdOf ByteArray.empty t274 a0_2)) ++ (⟨#[32]⟩ : ByteArray)) ++ (rdOf ByteArray.empty t278 a0_1)) ++ (⟨#[44, 32, 97, 114, 101, 97, 32]⟩ : ByteArray)) ++ t282) ++ (⟨#[44, 32, 104, 111, 117, 114, 115, 32]⟩ : ByteArray)) ++ t283).size + 1 ≤ 9223372036854775807
             ·rw [if_pos c19] at H
              have c19b0 := eq_true c19
              have c19b1 : decide (((((((((t273 ++ (⟨#[58, 32]⟩ : ByteArray)) ++ (rdOf ByteArray.empty t274 a0_2)) ++ (⟨#[32]⟩ : ByteArray)) ++ (rdOf ByteArray.empty t278 a0_1)) ++ (⟨#[44, 32, 97, 114, 101, 97, 32]⟩ : ByteArray)) ++ t282) ++ (⟨#[44, 32, 104, 111, 117, 114, 115, 32]⟩ : ByteArray)) ++ t283).size + 1 ≤ 9223372036854775807) = true := decide_eq_true c19
              try have c19b2 : (9223372036854775807 < ((((((((t273 ++ (⟨#[58, 32]⟩ : ByteArray)) ++ (rdOf ByteArray.empty t274 a0_2)) ++ (⟨#[32]⟩ : ByteArray)) ++ (rdOf ByteArray.empty t278 a0_1)) ++ (⟨#[44, 32, 97, 114, 101, 97, 32]⟩ : ByteArray)) ++ t282) ++ (⟨#[44, 32, 104, 111, 117, 114, 115, 32]⟩ : ByteArray)) ++ t283).size + 1) = False := eq_false (Nat.not_lt.2 c19)
              have c19b3 : (9223372036854775807 < t273.size + 2 + (rdOf ByteArray.empty t274 a0_2).size + 1 + (rdOf ByteArray.empty t278 a0_1).size + 7 + t282.size + 8 + t283.size + 1) = False := eq_false (Nat.not_lt.2 (by have h_ := c19; simp only [ByteArray.size_append] at h_; exact h_))
              replace H := Option.bind_eq_some_iff.mp H
              obtain ⟨t284, A200, H⟩ := H
              replace H : (if (((((((((t273 ++ (⟨#[58, 32]⟩ : ByteArray)) ++ (rdOf ByteArray.empty t274 a0_2)) ++ (⟨#[32]⟩ : ByteArray)) ++ (rdOf ByteArray.empty t278 a0_1)) ++ (⟨#[44, 32, 97, 114, 101, 97, 32]⟩ : ByteArray)) ++ t282) ++ (⟨#[44, 32, 104, 111, 117, 114, 115, 32]⟩ : ByteArray)) ++ t283) ++ (⟨#[45]⟩ : ByteArray)).size + t284.size ≤ 9223372036854775807 then (some ((((((((((t273 ++ (⟨#[58, 32]⟩ : ByteArray)) ++ (rdOf ByteArray.empty t274 a0_2)) ++ (⟨#[32]⟩ : ByteArray)) ++ (rdOf ByteArray.empty t278 a0_1)) ++ (⟨#[44, 32, 97, 114, 101, 97, 32]⟩ : ByteArray)) ++ t282) ++ (⟨#[44, 32, 104, 111, 117, 114, 115, 32]⟩ : ByteArray)) ++ t283) ++ (⟨#[45]⟩ : ByteArray)) ++ t284)) else (none)) = some r := H
              have A20 := Aside0.mk A200
              clear A200
              by_cases c21 : (((((((((t273 ++ (⟨#[58, 32]⟩ : ByteArray)) ++ (rdOf ByteArray.empty t274 a0_2)) ++ (⟨#[32]⟩ : ByteArray)) ++ (rdOf ByteArray.empty t278 a0_1)) ++ (⟨#[44, 32, 97, 114, 101, 97, 32]⟩ : ByteArray)) ++ t282) ++ (⟨#[44, 32, 104, 111, 117, 114, 115, 32]⟩ : ByteArray)) ++ t283) ++ (⟨#[45]⟩ : ByteArray)).size + t284.size ≤ 9223372036854775807
              ·rw [if_pos c21] at H
               have c21b0 := eq_true c21
               have c21b1 : decide ((((((((((t273 ++ (⟨#[58, 32]⟩ : ByteArray)) ++ (rdOf ByteArray.empty t274 a0_2)) ++ (⟨#[32]⟩ : ByteArray)) ++ (rdOf ByteArray.empty t278 a0_1)) ++ (⟨#[44, 32, 97, 114, 101, 97, 32]⟩ : ByteArray)) ++ t282) ++ (⟨#[44, 32, 104, 111, 117, 114, 115, 32]⟩ : ByteArray)) ++ t283) ++ (⟨#[45]⟩ : ByteArray)).size + t284.size ≤ 9223372036854775807) = true := decide_eq_true c21
               try have c21b2 : (9223372036854775807 < (((((((((t273 ++ (⟨#[58, 32]⟩ : ByteArray)) ++ (rdOf ByteArray.empty t274 a0_2)) ++ (⟨#[32]⟩ : ByteArray)) ++ (rdOf ByteArray.empty t278 a0_1)) ++ (⟨#[44, 32, 97, 114, 101, 97, 32]⟩ : ByteArray)) ++ t282) ++ (⟨#[44, 32, 104, 111, 117, 114, 115, 32]⟩ : ByteArray)) ++ t283) ++ (⟨#[45]⟩ : ByteArray)).size + t284.size) = False := eq_false (Nat.not_lt.2 c21)
               have c21b3 : (9223372036854775807 < t273.size + 2 + (rdOf ByteArray.empty t274 a0_2).size + 1 + (rdOf ByteArray.empty t278 a0_1).size + 7 + t282.size + 8 + t283.size + 1 + t284.size) = False := eq_false (Nat.not_lt.2 (by have h_ := c21; simp only [ByteArray.size_append] at h_; exact h_))
               focus
                obtain rfl := Option.some.inj H
                go_enter Tryz.func48, Tryz.ntmps48
                try go_wp2_with (first | ((with_reducible refine gate_dst (N := 1) rfl ?_); refine box_event ?hg (N := 1) ?hd (cs := #[.int .i64 a0_0, .int .i64 a0_1, .int .i64 a0_2, .int .i64 a0_3, .int .i64 a0_4, .int .i64 a0_5]) (t := 25) ?hr ?_; (case hd => rfl); (case hg => rfl); (case hr => exact zsx); intro gb272 hg w22 hbox hb; have BK272 := Aside0.mk (hbox); have GW272 := zns hg HB.out; have GE272 := zns hg HB.out; replace HB := Aside0.mk (below_step (zBx HB.out) hb); clear hb hbox hg))
                replace BK272 := Aside0.mk (blk_drew BK272.out)
                replace HB := Aside0.mk (below_drew1 HB.out)
                refine start_ (n := 33) (S := fun w' => w'.cell? ⟨gb272, 0, none⟩ = some (.int .i64 a0_0) ∧ w'.cell? ⟨gb272, 1, none⟩ = some (.int .i64 a0_1) ∧ w'.cell? ⟨gb272, 2, none⟩ = some (.int .i64 a0_2) ∧ w'.cell? ⟨gb272, 3, none⟩ = some (.int .i64 a0_3) ∧ w'.cell? ⟨gb272, 4, none⟩ = some (.int .i64 a0_4) ∧ w'.cell? ⟨gb272, 5, none⟩ = some (.int .i64 a0_5)) (ds := []) #[F,F,F,F,F,F,F,F,F,F,F,F,F,F,F,F,F,F,F,F,F,F,F,F,F,F,F,F,F,F,F,F,F] (by kernel_rfl) rfl rfl ⟨(blk_cell BK272.out 0).trans rfl, (blk_cell BK272.out 1).trans rfl, (blk_cell BK272.out 2).trans rfl, (blk_cell BK272.out 3).trans rfl, (blk_cell BK272.out 4).trans rfl, (blk_cell BK272.out 5).trans rfl⟩ (fun hHeld => ?_); refine with_tabW spec_l17Line.tab1 spec_l17Line.bits1 (fun HT_ HW_ => ?_)
                generalize w22.drew = w23 at BK272 HB hHeld ⊢
                refine pure_ (i := 0) (N := some 3) (v := ?_) (a' := ?_) #[T,F,F,F,F,F,F,F,F,F,F,F,F,F,F,F,F,F,F,F,F,F,F,F,F,F,F,F,F,F,F,F,F] rfl rfl (any_of HT_.out (by kernel_rfl)) (fun _ _ _ h => h) (Or.inl ⟨by rfl, ?_⟩) ?_ ?_
                rotate_left
                ·exact zwx
                rotate_left
                ·exact zpx
                refine pure_ (i := 5) (N := some 8) (v := ?_) (a' := ?_) #[T,F,F,F,F,T,F,F,F,F,F,F,F,F,F,F,F,F,F,F,F,F,F,F,F,F,F,F,F,F,F,F,F] rfl rfl (any_of HT_.out (by kernel_rfl)) (fun _ _ _ h => h) (Or.inl ⟨by rfl, ?_⟩) ?_ ?_
                rotate_left
                ·exact zwx
                rotate_left
                ·exact zpx
                refine pure_ (i := 12) (N := some 15) (v := ?_) (a' := ?_) #[T,F,F,F,F,T,F,F,F,F,F,F,T,F,F,F,F,F,F,F,F,F,F,F,F,F,F,F,F,F,F,F,F] rfl rfl (any_of HT_.out (by kernel_rfl)) (fun _ _ _ h => h) (Or.inl ⟨by rfl, ?_⟩) ?_ ?_
                rotate_left
                ·exact zwx
                rotate_left
                ·exact zpx
                refine pure_ (i := 18) (N := some 21) (v := ?_) (a' := ?_) #[T,F,F,F,F,T,F,F,F,F,F,F,T,F,F,F,F,F,T,F,F,F,F,F,F,F,F,F,F,F,F,F,F] rfl rfl (any_of HT_.out (by kernel_rfl)) (fun _ _ _ h => h) (Or.inl ⟨by rfl, ?_⟩) ?_ ?_
                rotate_left
                ·exact zwx
                rotate_left
                ·exact zpx
                refine pure_ (i := 23) (N := some 26) (v := ?_) (a' := ?_) #[T,F,F,F,F,T,F,F,F,F,F,F,T,F,F,F,F,F,T,F,F,F,F,T,F,F,F,F,F,F,F,F,F] rfl rfl (any_of HT_.out (by kernel_rfl)) (fun _ _ _ h => h) (Or.inl ⟨by rfl, ?_⟩) ?_ ?_
                rotate_left
                ·exact zwx
                rotate_left
                ·exact zpx
                refine pure_ (i := 28) (N := some 31) (v := ?_) (a' := ?_) #[T,F,F,F,F,T,F,F,F,F,F,F,T,F,F,F,F,F,T,F,F,F,F,T,F,F,F,F,T,F,F,F,F] rfl rfl (any_of HT_.out (by kernel_rfl)) (fun _ _ _ h => h) (Or.inl ⟨by rfl, ?_⟩) ?_ ?_
                rotate_left
                ·exact zwx
                rotate_left
                ·exact zpx
                refine take_ (i := 1) (N := some 4) (v := ?_) (a' := ?_) #[T,T,F,F,F,T,F,F,F,F,F,F,T,F,F,F,F,F,T,F,F,F,F,T,F,F,F,F,T,F,F,F,F] rfl rfl (take_ofW HT_.out HW_.out (by kernel_rfl)) (fun _ _ _ h => h) (Or.inl ⟨by rfl, ?_⟩) hHeld ?_ ?_
                rotate_left
                ·rintro w' ⟨s0, s1, s2, s3, s4, s5⟩
                 go_simp
                 with_reducible rfl
                rotate_left
                ·exact zpx
                refine take_ (i := 6) (N := some 9) (v := ?_) (a' := ?_) #[T,T,F,F,F,T,T,F,F,F,F,F,T,F,F,F,F,F,T,F,F,F,F,T,F,F,F,F,T,F,F,F,F] rfl rfl (take_ofW HT_.out HW_.out (by kernel_rfl)) (fun _ _ _ h => h) (Or.inl ⟨by rfl, ?_⟩) hHeld ?_ ?_
                rotate_left
                ·rintro w' ⟨s0, s1, s2, s3, s4, s5⟩
                 go_simp
                 with_reducible rfl
                rotate_left
                ·exact zpx
                refine take_ (i := 13) (N := some 16) (v := ?_) (a' := ?_) #[T,T,F,F,F,T,T,F,F,F,F,F,T,T,F,F,F,F,T,F,F,F,F,T,F,F,F,F,T,F,F,F,F] rfl rfl (take_ofW HT_.out HW_.out (by kernel_rfl)) (fun _ _ _ h => h) (Or.inl ⟨by rfl, ?_⟩) hHeld ?_ ?_
                rotate_left
                ·rintro w' ⟨s0, s1, s2, s3, s4, s5⟩
                 go_simp
                 with_reducible rfl
                rotate_left
                ·exact zpx
                refine take_ (i := 19) (N := some 22) (v := ?_) (a' := ?_) #[T,T,F,F,F,T,T,F,F,F,F,F,T,T,F,F,F,F,T,T,F,F,F,T,F,F,F,F,T,F,F,F,F] rfl rfl (take_ofW HT_.out HW_.out (by kernel_rfl)) (fun _ _ _ h => h) (Or.inl ⟨by rfl, ?_⟩) hHeld ?_ ?_
                rotate_left
                ·rintro w' ⟨s0, s1, s2, s3, s4, s5⟩
                 go_simp
                 with_reducible rfl
                rotate_left
                ·exact zpx
                refine take_ (i := 24) (N := some 27) (v := ?_) (a' := ?_) #[T,T,F,F,F,T,T,F,F,F,F,F,T,T,F,F,F,F,T,T,F,F,F,T,T,F,F,F,T,F,F,F,F] rfl rfl (take_ofW HT_.out HW_.out (by kernel_rfl)) (fun _ _ _ h => h) (Or.inl ⟨by rfl, ?_⟩) hHeld ?_ ?_
                rotate_left
                ·rintro w' ⟨s0, s1, s2, s3, s4, s5⟩
                 go_simp
                 with_reducible rfl
                rotate_left
                ·exact zpx
                refine take_ (i := 29) (N := some 32) (v := ?_) (a' := ?_) #[T,T,F,F,F,T,T,F,F,F,F,F,T,T,F,F,F,F,T,T,F,F,F,T,T,F,F,F,T,T,F,F,F] rfl rfl (take_ofW HT_.out HW_.out (by kernel_rfl)) (fun _ _ _ h => h) (Or.inl ⟨by rfl, ?_⟩) hHeld ?_ ?_
                rotate_left
                ·rintro w' ⟨s0, s1, s2, s3, s4, s5⟩
                 go_simp
                 with_reducible rfl
                rotate_left
                ·exact zpx
                refine one_ (i := 2) (N := some 5) #[T,T,T,F,F,T,T,F,F,F,F,F,T,T,F,F,F,F,T,T,F,F,F,T,T,F,F,F,T,T,F,F,F] rfl rfl (one_of HT_.out (by kernel_rfl)) (by decide) (fun K hK => ?_)
                refine goes_ Tryz.func93 (by kernel_rfl) rfl #[.int .i64 a0_0] (by rfl) rfl rfl zlx ?_
                with_reducible refine (spec_l1Num.calls k a0_0 t273 _ A2.out).mono ?_
                rintro e w24 ⟨rfl, hb⟩
                refine ⟨_, rfl, ?_⟩
                replace BK272 := zbl BK272.out hb
                replace HB := Aside0.mk (below_step (zBy HB.out GE272.out) hb)
                (try clear hb)
                (try clear hb2)
                (try clear hk)
                (try clear hi)
                refine hK.out _ _ ⟨(blk_cell BK272.out 0).trans rfl, (blk_cell BK272.out 1).trans rfl, (blk_cell BK272.out 2).trans rfl, (blk_cell BK272.out 3).trans rfl, (blk_cell BK272.out 4).trans rfl, (blk_cell BK272.out 5).trans rfl⟩ (fun hHeld => ?_)
                clear hK K
                refine norm_ (a' := ?_) ?_ ?_
                rotate_left
                ·show Act.put _ (some 5) _ = _
                 simp only [Act.put, List.setIfInBounds_toArray, List.set_cons_zero, List.set_cons_succ, i64_w, i32_w]
                 rfl
                refine pure_ (i := 3) (N := some 6) (v := ?_) (a' := ?_) #[T,T,T,T,F,T,T,F,F,F,F,F,T,T,F,F,F,F,T,T,F,F,F,T,T,F,F,F,T,T,F,F,F] rfl rfl (any_of HT_.out (by kernel_rfl)) (fun _ _ _ h => h) (Or.inl ⟨by rfl, ?_⟩) ?_ ?_
                rotate_left
                ·exact zwx
                rotate_left
                ·exact zpx
                refine one_ (i := 4) (N := some 7) #[T,T,T,T,T,T,T,F,F,F,F,F,T,T,F,F,F,F,T,T,F,F,F,T,T,F,F,F,T,T,F,F,F] rfl rfl (one_of HT_.out (by kernel_rfl)) (by decide) (fun K hK => ?_)
                refine goes_ Tryz.func94 (by kernel_rfl) rfl #[] (by rfl) rfl rfl zlx ?_
                with_reducible refine (spec_l17Levels.calls  t274 _ A4.out).mono ?_
                rintro e w25 ⟨v275, rfl, ho0, hb⟩
                refine ⟨_, rfl, ?_⟩
                have HO276 := Aside0.mk (Kd.R_lower ho0 (below_size (zBy HB.out GE272.out)))
                replace BK272 := zbl BK272.out hb
                replace HB := Aside0.mk (below_step (zBy HB.out GE272.out) hb)
                (try clear hb)
                (try clear hb2)
                (try clear hk)
                (try clear hi)
                (try clear ho0)
                obtain ⟨Ao26, co26, eo26⟩ := Kd.R_slice HO276.out
                (first | subst eo26 | (injection eo26 with f1_ f2_ f3_; have f4_ := f1_.symm; have f5_ := f3_.symm; clear f1_ f2_ f3_; subst f4_; subst f5_))
                have p277 : 0 ≤ (a0_2 : Int) := of_decide_eq_true zax
                have q277 : a0_2 < (t274.length : Int) := of_decide_eq_true zax
                obtain ⟨ad277, e277, hx277_0⟩ := Kd.at_string (Kd.R_reads' HO276.out).2.2 a0_2 p277 q277
                cases e277
                replace p277 := eq_true p277
                replace q277 := eq_true q277
                refine hK.out _ _ ⟨(blk_cell BK272.out 0).trans rfl, (blk_cell BK272.out 1).trans rfl, (blk_cell BK272.out 2).trans rfl, (blk_cell BK272.out 3).trans rfl, (blk_cell BK272.out 4).trans rfl, (blk_cell BK272.out 5).trans rfl⟩ (fun hHeld => ?_)
                replace hHeld := (And.intro (hHeld.1) (And.intro (hHeld.2.1) (And.intro (hHeld.2.2.1) (And.intro (hHeld.2.2.2.1) (And.intro (hHeld.2.2.2.2.1) (And.intro (hHeld.2.2.2.2.2) (hx277_0)))))))
                refine more_ (S' := fun (w' : World) => w'.cell? ⟨gb272, 0, none⟩ = some (.int .i64 a0_0) ∧ w'.cell? ⟨gb272, 1, none⟩ = some (.int .i64 a0_1) ∧ w'.cell? ⟨gb272, 2, none⟩ = some (.int .i64 a0_2) ∧ w'.cell? ⟨gb272, 3, none⟩ = some (.int .i64 a0_3) ∧ w'.cell? ⟨gb272, 4, none⟩ = some (.int .i64 a0_4) ∧ w'.cell? ⟨gb272, 5, none⟩ = some (.int .i64 a0_5) ∧ w'.cell? (ad277.add (a0_2).toNat) = some (.string (rdOf ByteArray.empty t274 a0_2))) (fun w' h_ => ⟨h_.1, h_.2.1, h_.2.2.1, h_.2.2.2.1, h_.2.2.2.2.1, h_.2.2.2.2.2.1⟩) _ _ _ _ hHeld ?_
                clear hK K
                refine norm_ (a' := ?_) ?_ ?_
                rotate_left
                ·show Act.put _ (some 7) _ = _
                 simp only [Act.put, List.setIfInBounds_toArray, List.set_cons_zero, List.set_cons_succ, i64_w, i32_w]
                 rfl
                refine pure_ (i := 7) (N := some 10) (v := ?_) (a' := ?_) #[T,T,T,T,T,T,T,T,F,F,F,F,T,T,F,F,F,F,T,T,F,F,F,T,T,F,F,F,T,T,F,F,F] rfl rfl (any_of HT_.out (by kernel_rfl)) (fun _ _ _ h => h) (Or.inl ⟨by rfl, ?_⟩) ?_ ?_
                rotate_left
                ·exact zwx
                rotate_left
                ·exact zpx
                refine take_ (i := 8) (N := some 11) (v := ?_) (a' := ?_) #[T,T,T,T,T,T,T,T,T,F,F,F,T,T,F,F,F,F,T,T,F,F,F,T,T,F,F,F,T,T,F,F,F] rfl rfl (take_ofW HT_.out HW_.out (by kernel_rfl)) (fun _ _ _ h => h) (Or.inl ⟨by rfl, ?_⟩) hHeld ?_ ?_
                rotate_left
                ·rintro w' ⟨s0, s1, s2, s3, s4, s5, s6⟩
                 go_simp
                 with_reducible rfl
                rotate_left
                ·exact zpx
                refine pure_ (i := 9) (N := some 12) (v := ?_) (a' := ?_) #[T,T,T,T,T,T,T,T,T,T,F,F,T,T,F,F,F,F,T,T,F,F,F,T,T,F,F,F,T,T,F,F,F] rfl rfl (any_of HT_.out (by kernel_rfl)) (fun _ _ _ h => h) (Or.inl ⟨by rfl, ?_⟩) ?_ ?_
                rotate_left
                ·exact zwx
                rotate_left
                ·exact zpx
                refine pure_ (i := 10) (N := some 13) (v := ?_) (a' := ?_) #[T,T,T,T,T,T,T,T,T,T,T,F,T,T,F,F,F,F,T,T,F,F,F,T,T,F,F,F,T,T,F,F,F] rfl rfl (any_of HT_.out (by kernel_rfl)) (fun _ _ _ h => h) (Or.inl ⟨by rfl, ?_⟩) ?_ ?_
                rotate_left
                ·exact zwx
                rotate_left
                ·exact zpx
                refine one_ (i := 11) (N := some 14) #[T,T,T,T,T,T,T,T,T,T,T,T,T,T,F,F,F,F,T,T,F,F,F,T,T,F,F,F,T,T,F,F,F] rfl rfl (one_of HT_.out (by kernel_rfl)) (by decide) (fun K hK => ?_)
                refine goes_ Tryz.func95 (by kernel_rfl) rfl #[] (by rfl) rfl rfl zlx ?_
                with_reducible refine (spec_l17Topics.calls  t278 _ A9.out).mono ?_
                rintro e w27 ⟨v279, rfl, ho0, hb⟩
                have HS6_ := (hb.cell (World.block_lt_of_cell? _ _ (hHeld.2.2.2.2.2.2))).trans (hHeld.2.2.2.2.2.2)
                refine ⟨_, rfl, ?_⟩
                have HO280 := Aside0.mk (Kd.R_lower (Kd.R_new' ho0 (Kd.R_lt (zRx HO276.out))) (below_size (zBy HB.out GE272.out)))
                replace HO276 := Aside0.mk (Kd.R_elder' (zRx HO276.out) (Kd.R_base ho0) hb)
                replace BK272 := zbl BK272.out hb
                replace HB := Aside0.mk (below_step (zBy HB.out GE272.out) hb)
                (try clear hb)
                (try clear hb2)
                (try clear hk)
                (try clear hi)
                (try clear ho0)
                obtain ⟨Ao28, co28, eo28⟩ := Kd.R_slice HO280.out
                (first | subst eo28 | (injection eo28 with f1_ f2_ f3_; have f4_ := f1_.symm; have f5_ := f3_.symm; clear f1_ f2_ f3_; subst f4_; subst f5_))
                have p281 : 0 ≤ (a0_1 : Int) := of_decide_eq_true zax
                have q281 : a0_1 < (t278.length : Int) := of_decide_eq_true zax
                obtain ⟨ad281, e281, hx281_0⟩ := Kd.at_string (Kd.R_reads' HO280.out).2.2 a0_1 p281 q281
                cases e281
                replace p281 := eq_true p281
                replace q281 := eq_true q281
                refine hK.out _ _ ⟨(blk_cell BK272.out 0).trans rfl, (blk_cell BK272.out 1).trans rfl, (blk_cell BK272.out 2).trans rfl, (blk_cell BK272.out 3).trans rfl, (blk_cell BK272.out 4).trans rfl, (blk_cell BK272.out 5).trans rfl, HS6_⟩ (fun hHeld => ?_)
                replace hHeld := (And.intro (hHeld.1) (And.intro (hHeld.2.1) (And.intro (hHeld.2.2.1) (And.intro (hHeld.2.2.2.1) (And.intro (hHeld.2.2.2.2.1) (And.intro (hHeld.2.2.2.2.2.1) (And.intro (hHeld.2.2.2.2.2.2) (hx281_0))))))))
                refine more_ (S' := fun (w' : World) => w'.cell? ⟨gb272, 0, none⟩ = some (.int .i64 a0_0) ∧ w'.cell? ⟨gb272, 1, none⟩ = some (.int .i64 a0_1) ∧ w'.cell? ⟨gb272, 2, none⟩ = some (.int .i64 a0_2) ∧ w'.cell? ⟨gb272, 3, none⟩ = some (.int .i64 a0_3) ∧ w'.cell? ⟨gb272, 4, none⟩ = some (.int .i64 a0_4) ∧ w'.cell? ⟨gb272, 5, none⟩ = some (.int .i64 a0_5) ∧ w'.cell? (ad277.add (a0_2).toNat) = some (.string (rdOf ByteArray.empty t274 a0_2)) ∧ w'.cell? (ad281.add (a0_1).toNat) = some (.string (rdOf ByteArray.empty t278 a0_1))) (fun w' h_ => ⟨h_.1, h_.2.1, h_.2.2.1, h_.2.2.2.1, h_.2.2.2.2.1, h_.2.2.2.2.2.1, h_.2.2.2.2.2.2.1⟩) _ _ _ _ hHeld ?_
                clear hK K
                refine norm_ (a' := ?_) ?_ ?_
                rotate_left
                ·show Act.put _ (some 14) _ = _
                 simp only [Act.put, List.setIfInBounds_toArray, List.set_cons_zero, List.set_cons_succ, i64_w, i32_w]
                 rfl
                refine pure_ (i := 14) (N := some 17) (v := ?_) (a' := ?_) #[T,T,T,T,T,T,T,T,T,T,T,T,T,T,T,F,F,F,T,T,F,F,F,T,T,F,F,F,T,T,F,F,F] rfl rfl (any_of HT_.out (by kernel_rfl)) (fun _ _ _ h => h) (Or.inl ⟨by rfl, ?_⟩) ?_ ?_
                rotate_left
                ·exact zwx
                rotate_left
                ·exact zpx
                refine take_ (i := 15) (N := some 18) (v := ?_) (a' := ?_) #[T,T,T,T,T,T,T,T,T,T,T,T,T,T,T,T,F,F,T,T,F,F,F,T,T,F,F,F,T,T,F,F,F] rfl rfl (take_ofW HT_.out HW_.out (by kernel_rfl)) (fun _ _ _ h => h) (Or.inl ⟨by rfl, ?_⟩) hHeld ?_ ?_
                rotate_left
                ·rintro w' ⟨s0, s1, s2, s3, s4, s5, s6, s7⟩
                 go_simp
                 with_reducible rfl
                rotate_left
                ·exact zpx
                refine pure_ (i := 16) (N := some 19) (v := ?_) (a' := ?_) #[T,T,T,T,T,T,T,T,T,T,T,T,T,T,T,T,T,F,T,T,F,F,F,T,T,F,F,F,T,T,F,F,F] rfl rfl (any_of HT_.out (by kernel_rfl)) (fun _ _ _ h => h) (Or.inl ⟨by rfl, ?_⟩) ?_ ?_
                rotate_left
                ·exact zwx
                rotate_left
                ·exact zpx
                refine pure_ (i := 17) (N := some 20) (v := ?_) (a' := ?_) #[T,T,T,T,T,T,T,T,T,T,T,T,T,T,T,T,T,T,T,T,F,F,F,T,T,F,F,F,T,T,F,F,F] rfl rfl (any_of HT_.out (by kernel_rfl)) (fun _ _ _ h => h) (Or.inl ⟨by rfl, ?_⟩) ?_ ?_
                rotate_left
                ·exact zwx
                rotate_left
                ·exact zpx
                refine one_ (i := 20) (N := some 23) #[T,T,T,T,T,T,T,T,T,T,T,T,T,T,T,T,T,T,T,T,T,F,F,T,T,F,F,F,T,T,F,F,F] rfl rfl (one_of HT_.out (by kernel_rfl)) (by decide) (fun K hK => ?_)
                refine goes_ Tryz.func93 (by kernel_rfl) rfl #[.int .i64 a0_3] (by rfl) rfl rfl zlx ?_
                with_reducible refine (spec_l1Num.calls k a0_3 t282 _ A14.out).mono ?_
                rintro e w29 ⟨rfl, hb⟩
                have HS6_ := (hb.cell (World.block_lt_of_cell? _ _ (hHeld.2.2.2.2.2.2.1))).trans (hHeld.2.2.2.2.2.2.1)
                have HS7_ := (hb.cell (World.block_lt_of_cell? _ _ (hHeld.2.2.2.2.2.2.2))).trans (hHeld.2.2.2.2.2.2.2)
                refine ⟨_, rfl, ?_⟩
                replace HO276 := Aside0.mk (Kd.R_below (zRx HO276.out) hb)
                replace HO280 := Aside0.mk (Kd.R_below (zRx HO280.out) hb)
                replace BK272 := zbl BK272.out hb
                replace HB := Aside0.mk (below_step (zBy HB.out GE272.out) hb)
                (try clear hb)
                (try clear hb2)
                (try clear hk)
                (try clear hi)
                refine hK.out _ _ ⟨(blk_cell BK272.out 0).trans rfl, (blk_cell BK272.out 1).trans rfl, (blk_cell BK272.out 2).trans rfl, (blk_cell BK272.out 3).trans rfl, (blk_cell BK272.out 4).trans rfl, (blk_cell BK272.out 5).trans rfl, HS6_, HS7_⟩ (fun hHeld => ?_)
                clear hK K
                refine norm_ (a' := ?_) ?_ ?_
                rotate_left
                ·show Act.put _ (some 23) _ = _
                 simp only [Act.put, List.setIfInBounds_toArray, List.set_cons_zero, List.set_cons_succ, i64_w, i32_w]
                 rfl
                refine pure_ (i := 21) (N := some 24) (v := ?_) (a' := ?_) #[T,T,T,T,T,T,T,T,T,T,T,T,T,T,T,T,T,T,T,T,T,T,F,T,T,F,F,F,T,T,F,F,F] rfl rfl (any_of HT_.out (by kernel_rfl)) (fun _ _ _ h => h) (Or.inl ⟨by rfl, ?_⟩) ?_ ?_
                rotate_left
                ·exact zwx
                rotate_left
                ·exact zpx
                refine pure_ (i := 22) (N := some 25) (v := ?_) (a' := ?_) #[T,T,T,T,T,T,T,T,T,T,T,T,T,T,T,T,T,T,T,T,T,T,T,T,T,F,F,F,T,T,F,F,F] rfl rfl (any_of HT_.out (by kernel_rfl)) (fun _ _ _ h => h) (Or.inl ⟨by rfl, ?_⟩) ?_ ?_
                rotate_left
                ·exact zwx
                rotate_left
                ·exact zpx
                refine one_ (i := 25) (N := some 28) #[T,T,T,T,T,T,T,T,T,T,T,T,T,T,T,T,T,T,T,T,T,T,T,T,T,T,F,F,T,T,F,F,F] rfl rfl (one_of HT_.out (by kernel_rfl)) (by decide) (fun K hK => ?_)
                refine goes_ Tryz.func93 (by kernel_rfl) rfl #[.int .i64 a0_4] (by rfl) rfl rfl zlx ?_
                with_reducible refine (spec_l1Num.calls k a0_4 t283 _ A17.out).mono ?_
                rintro e w30 ⟨rfl, hb⟩
                have HS6_ := (hb.cell (World.block_lt_of_cell? _ _ (hHeld.2.2.2.2.2.2.1))).trans (hHeld.2.2.2.2.2.2.1)
                have HS7_ := (hb.cell (World.block_lt_of_cell? _ _ (hHeld.2.2.2.2.2.2.2))).trans (hHeld.2.2.2.2.2.2.2)
                refine ⟨_, rfl, ?_⟩
                replace HO276 := Aside0.mk (Kd.R_below (zRx HO276.out) hb)
                replace HO280 := Aside0.mk (Kd.R_below (zRx HO280.out) hb)
                replace BK272 := zbl BK272.out hb
                replace HB := Aside0.mk (below_step (zBy HB.out GE272.out) hb)
                (try clear hb)
                (try clear hb2)
                (try clear hk)
                (try clear hi)
                refine hK.out _ _ ⟨(blk_cell BK272.out 0).trans rfl, (blk_cell BK272.out 1).trans rfl, (blk_cell BK272.out 2).trans rfl, (blk_cell BK272.out 3).trans rfl, (blk_cell BK272.out 4).trans rfl, (blk_cell BK272.out 5).trans rfl, HS6_, HS7_⟩ (fun hHeld => ?_)
                clear hK K
                refine norm_ (a' := ?_) ?_ ?_
                rotate_left
                ·show Act.put _ (some 28) _ = _
                 simp only [Act.put, List.setIfInBounds_toArray, List.set_cons_zero, List.set_cons_succ, i64_w, i32_w]
                 rfl
                refine pure_ (i := 26) (N := some 29) (v := ?_) (a' := ?_) #[T,T,T,T,T,T,T,T,T,T,T,T,T,T,T,T,T,T,T,T,T,T,T,T,T,T,T,F,T,T,F,F,F] rfl rfl (any_of HT_.out (by kernel_rfl)) (fun _ _ _ h => h) (Or.inl ⟨by rfl, ?_⟩) ?_ ?_
                rotate_left
                ·exact zwx
                rotate_left
                ·exact zpx
                refine pure_ (i := 27) (N := some 30) (v := ?_) (a' := ?_) #[T,T,T,T,T,T,T,T,T,T,T,T,T,T,T,T,T,T,T,T,T,T,T,T,T,T,T,T,T,T,F,F,F] rfl rfl (any_of HT_.out (by kernel_rfl)) (fun _ _ _ h => h) (Or.inl ⟨by rfl, ?_⟩) ?_ ?_
                rotate_left
                ·exact zwx
                rotate_left
                ·exact zpx
                refine one_ (i := 30) (N := some 33) #[T,T,T,T,T,T,T,T,T,T,T,T,T,T,T,T,T,T,T,T,T,T,T,T,T,T,T,T,T,T,T,F,F] rfl rfl (one_of HT_.out (by kernel_rfl)) (by decide) (fun K hK => ?_)
                refine goes_ Tryz.func93 (by kernel_rfl) rfl #[.int .i64 a0_5] (by rfl) rfl rfl zlx ?_
                with_reducible refine (spec_l1Num.calls k a0_5 t284 _ A20.out).mono ?_
                rintro e w31 ⟨rfl, hb⟩
                have HS6_ := (hb.cell (World.block_lt_of_cell? _ _ (hHeld.2.2.2.2.2.2.1))).trans (hHeld.2.2.2.2.2.2.1)
                have HS7_ := (hb.cell (World.block_lt_of_cell? _ _ (hHeld.2.2.2.2.2.2.2))).trans (hHeld.2.2.2.2.2.2.2)
                refine ⟨_, rfl, ?_⟩
                replace HO276 := Aside0.mk (Kd.R_below (zRx HO276.out) hb)
                replace HO280 := Aside0.mk (Kd.R_below (zRx HO280.out) hb)
                replace BK272 := zbl BK272.out hb
                replace HB := Aside0.mk (below_step (zBy HB.out GE272.out) hb)
                (try clear hb)
                (try clear hb2)
                (try clear hk)
                (try clear hi)
                refine hK.out _ _ ⟨(blk_cell BK272.out 0).trans rfl, (blk_cell BK272.out 1).trans rfl, (blk_cell BK272.out 2).trans rfl, (blk_cell BK272.out 3).trans rfl, (blk_cell BK272.out 4).trans rfl, (blk_cell BK272.out 5).trans rfl, HS6_, HS7_⟩ (fun hHeld => ?_)
                clear hK K
                refine norm_ (a' := ?_) ?_ ?_
                rotate_left
                ·show Act.put _ (some 33) _ = _
                 simp only [Act.put, List.setIfInBounds_toArray, List.set_cons_zero, List.set_cons_succ, i64_w, i32_w]
                 rfl
                refine pure_ (i := 31) (N := some 34) (v := ?_) (a' := ?_) #[T,T,T,T,T,T,T,T,T,T,T,T,T,T,T,T,T,T,T,T,T,T,T,T,T,T,T,T,T,T,T,T,F] rfl rfl (any_of HT_.out (by kernel_rfl)) (fun _ _ _ h => h) (Or.inl ⟨by rfl, ?_⟩) ?_ ?_
                rotate_left
                ·exact zwx
                rotate_left
                ·exact zpx
                refine pure_ (i := 32) (N := some 2) (v := ?_) (a' := ?_) #[T,T,T,T,T,T,T,T,T,T,T,T,T,T,T,T,T,T,T,T,T,T,T,T,T,T,T,T,T,T,T,T,T] rfl rfl (any_of HT_.out (by kernel_rfl)) (fun _ _ _ h => h) (Or.inl ⟨by rfl, ?_⟩) ?_ ?_
                rotate_left
                ·exact zwx
                rotate_left
                ·exact zpx
                refine done_ (done_of HT_.out (by kernel_rfl)) ?_
                try go_wp2
                go_ret
                exact ⟨by first | rfl | (simp [errW_none, errW_some] <;> rfl) | (simp [*, errW_none, errW_some] <;> rfl), by exact zBy HB.out GE272.out⟩
              ·rw [if_neg c21] at H
               exact absurd H (by simp)
             ·rw [if_neg c19] at H
              exact absurd H (by simp)
            ·rw [if_neg c18] at H
             exact absurd H (by simp)
           ·rw [if_neg c16] at H
            exact absurd H (by simp)
          ·rw [if_neg c15] at H
           exact absurd H (by simp)
         ·rw [if_neg c13] at H
          exact absurd H (by simp)
        ·rw [if_neg c12] at H
         exact absurd H (by simp)
       ·rw [if_neg c11] at H
        exact absurd H (by simp)
      ·rw [if_neg c10] at H
       exact absurd H (by simp)
     ·rw [if_neg c8] at H
      exact absurd H (by simp)
    ·rw [if_neg c7] at H
     exact absurd H (by simp)
   ·rw [if_neg c6] at H
    exact absurd H (by simp)
  ·rw [if_neg c5] at H
   exact absurd H (by simp)
 ·rw [if_neg c3] at H
  exact absurd H (by simp)

/-! ### spec_WarningLine: function 12 -/
def spec_WarningLine.f (k : Nat) (a0_0 : Int) (a0_1 : Int) (a0_2 : Int) (a0_3 : Int) (a0_4 : Int) (a0_5 : Int) : Option (ByteArray × Bool) := (spec_l14Good.f a0_0 a0_1 a0_2 a0_3 a0_4 a0_5).bind fun t286 => (if t286 = true then ((spec_l17Line.f k a0_0 a0_1 a0_2 a0_3 a0_4 a0_5).bind fun t287 => (some (t287, true))) else (some ((⟨#[]⟩ : ByteArray), false)))
theorem spec_WarningLine.mono : ∀ a0 a1 a2 a3 a4 a5 k, LeO (spec_WarningLine.f k a0 a1 a2 a3 a4 a5) (spec_WarningLine.f (k + 1) a0 a1 a2 a3 a4 a5) := by
 intro a0 a1 a2 a3 a4 a5 k
 unfold spec_WarningLine.f
 repeat' first
  | (with_reducible exact spec_l17Line.mono _ _ _ _ _ _ _)
  | (with_reducible exact LeO.refl _)
  | (with_reducible exact LeO.none _)
  | (with_reducible refine LeO.ite ?_ ?_)
  | (with_reducible refine LeO.bind ?_ (fun _ => ?_))
  | exact spec_l17Line.mono _ _ _ _ _ _ _
  | exact LeO.none _
  | refine LeO.ite ?_ ?_
  | refine LeO.bind ?_ (fun _ => ?_)
set_option maxHeartbeats 8000000 in
set_option maxRecDepth 100000 in
theorem spec_WarningLine.calls (k : Nat) (a0_0 : Int) (a0_1 : Int) (a0_2 : Int) (a0_3 : Int) (a0_4 : Int) (a0_5 : Int) (r1 : ByteArray) (r2 : Bool) (w : World) (h : spec_WarningLine.f k a0_0 a0_1 a0_2 a0_3 a0_4 a0_5 = some (r1, r2)) :
 Calls Tryz.prog 12 #[.agg #[.int .i64 a0_0, .int .i64 a0_1, .int .i64 a0_2, .int .i64 a0_3, .int .i64 a0_4, .int .i64 a0_5]] w fun e w' => e = .returned (.tuple #[.string r1, .bool r2]) ∧ Below w.heap.size w w' := by
 have hu25 := Tryz.underlying25
 have HB := Aside0.mk (Below.refl w.heap.size w)
 have H : ((spec_l14Good.f a0_0 a0_1 a0_2 a0_3 a0_4 a0_5).bind fun t286 => (if t286 = true then ((spec_l17Line.f k a0_0 a0_1 a0_2 a0_3 a0_4 a0_5).bind fun t287 => (some (t287, true))) else (some ((⟨#[]⟩ : ByteArray), false)))) = some (r1, r2) := h
 clear h
 replace H := Option.bind_eq_some_iff.mp H
 obtain ⟨t286, A20, H⟩ := H
 replace H : (if t286 = true then ((spec_l17Line.f k a0_0 a0_1 a0_2 a0_3 a0_4 a0_5).bind fun t287 => (some (t287, true))) else (some ((⟨#[]⟩ : ByteArray), false))) = some (r1, r2) := H
 have A2 := Aside0.mk A20
 clear A20
 by_cases c3 : t286 = true
 ·subst c3
  rw [if_pos rfl] at H
  replace H := Option.bind_eq_some_iff.mp H
  obtain ⟨t287, A40, H⟩ := H
  replace H : (some (t287, true)) = some (r1, r2) := H
  have A4 := Aside0.mk A40
  clear A40
  focus
   simp only [Option.some.injEq, Prod.mk.injEq] at H
   obtain ⟨rfl, rfl⟩ := H
   go_enter Tryz.func12, Tryz.ntmps12
   go_wp2_with (first | ((with_reducible refine gate_dst (N := 1) rfl ?_); refine box_event ?hg (N := 1) ?hd (cs := #[.int .i64 a0_0, .int .i64 a0_1, .int .i64 a0_2, .int .i64 a0_3, .int .i64 a0_4, .int .i64 a0_5]) (t := 25) ?hr ?_; (case hd => rfl); (case hg => rfl); (case hr => exact zsx); intro gb285 hg w5 hbox hb; have BK285 := Aside0.mk (hbox); have GW285 := zns hg HB.out; have GE285 := zns hg HB.out; replace HB := Aside0.mk (below_step (zBx HB.out) hb); clear hb hbox hg; have hcz6_0 : w5.cell? ⟨gb285, 0, none⟩ = some (.int .i64 a0_0) := (blk_cell BK285.out 0).trans rfl; have hcz6_1 : w5.cell? ⟨gb285, 1, none⟩ = some (.int .i64 a0_1) := (blk_cell BK285.out 1).trans rfl; have hcz6_2 : w5.cell? ⟨gb285, 2, none⟩ = some (.int .i64 a0_2) := (blk_cell BK285.out 2).trans rfl; have hcz6_3 : w5.cell? ⟨gb285, 3, none⟩ = some (.int .i64 a0_3) := (blk_cell BK285.out 3).trans rfl; have hcz6_4 : w5.cell? ⟨gb285, 4, none⟩ = some (.int .i64 a0_4) := (blk_cell BK285.out 4).trans rfl; have hcz6_5 : w5.cell? ⟨gb285, 5, none⟩ = some (.int .i64 a0_5) := (blk_cell BK285.out 5).trans rfl; have hfz6_0 := blk_frozen BK285.out 0; have hfz6_1 := blk_frozen BK285.out 1; have hfz6_2 := blk_frozen BK285.out 2; have hfz6_3 := blk_frozen BK285.out 3; have hfz6_4 := blk_frozen BK285.out 4; have hfz6_5 := blk_frozen BK285.out 5) | ((with_reducible refine gate_callee (f := 47) rfl ?_); refine goesL_ (some 5) rfl rfl Tryz.func47 (by kernel_rfl) rfl #[.agg #[.int .i64 a0_0, .int .i64 a0_1, .int .i64 a0_2, .int .i64 a0_3, .int .i64 a0_4, .int .i64 a0_5]] rfl zlx ?_; (with_reducible refine (spec_l14Good.calls a0_0 a0_1 a0_2 a0_3 a0_4 a0_5 true _ A2.out).mono ?_); rintro e w7 ⟨rfl, hb⟩; refine ⟨_, rfl, ?_⟩; replace BK285 := zbl BK285.out hb; replace HB := Aside0.mk (below_step (zBy HB.out GE285.out) hb); (try clear hb); have hcz8_0 : w7.cell? ⟨gb285, 0, none⟩ = some (.int .i64 a0_0) := (blk_cell BK285.out 0).trans rfl; have hcz8_1 : w7.cell? ⟨gb285, 1, none⟩ = some (.int .i64 a0_1) := (blk_cell BK285.out 1).trans rfl; have hcz8_2 : w7.cell? ⟨gb285, 2, none⟩ = some (.int .i64 a0_2) := (blk_cell BK285.out 2).trans rfl; have hcz8_3 : w7.cell? ⟨gb285, 3, none⟩ = some (.int .i64 a0_3) := (blk_cell BK285.out 3).trans rfl; have hcz8_4 : w7.cell? ⟨gb285, 4, none⟩ = some (.int .i64 a0_4) := (blk_cell BK285.out 4).trans rfl; have hcz8_5 : w7.cell? ⟨gb285, 5, none⟩ = some (.int .i64 a0_5) := (blk_cell BK285.out 5).trans rfl; have hfz8_0 := blk_frozen BK285.out 0; have hfz8_1 := blk_frozen BK285.out 1; have hfz8_2 := blk_frozen BK285.out 2; have hfz8_3 := blk_frozen BK285.out 3; have hfz8_4 := blk_frozen BK285.out 4; have hfz8_5 := blk_frozen BK285.out 5) | ((with_reducible refine gate_callee (f := 48) rfl ?_); refine goesL_ (some 8) rfl rfl Tryz.func48 (by kernel_rfl) rfl #[.agg #[.int .i64 a0_0, .int .i64 a0_1, .int .i64 a0_2, .int .i64 a0_3, .int .i64 a0_4, .int .i64 a0_5]] rfl zlx ?_; (with_reducible refine (spec_l17Line.calls k a0_0 a0_1 a0_2 a0_3 a0_4 a0_5 t287 _ A4.out).mono ?_); rintro e w9 ⟨rfl, hb⟩; refine ⟨_, rfl, ?_⟩; replace BK285 := zbl BK285.out hb; replace HB := Aside0.mk (below_step (zBy HB.out GE285.out) hb); (try clear hb)))
   go_ret2
   exact ⟨by first | rfl | (simp [errW_none, errW_some] <;> rfl) | (simp [*, errW_none, errW_some] <;> rfl), by exact zBy HB.out GE285.out⟩
 ·replace c3 := Bool.eq_false_iff.mpr c3
  subst c3
  rw [if_neg (show ¬ (false = true) by decide)] at H
  focus
   simp only [Option.some.injEq, Prod.mk.injEq] at H
   obtain ⟨rfl, rfl⟩ := H
   go_enter Tryz.func12, Tryz.ntmps12
   go_wp2_with (first | ((with_reducible refine gate_dst (N := 1) rfl ?_); refine box_event ?hg (N := 1) ?hd (cs := #[.int .i64 a0_0, .int .i64 a0_1, .int .i64 a0_2, .int .i64 a0_3, .int .i64 a0_4, .int .i64 a0_5]) (t := 25) ?hr ?_; (case hd => rfl); (case hg => rfl); (case hr => exact zsx); intro gb285 hg w10 hbox hb; have BK285 := Aside0.mk (hbox); have GW285 := zns hg HB.out; have GE285 := zns hg HB.out; replace HB := Aside0.mk (below_step (zBx HB.out) hb); clear hb hbox hg; have hcz11_0 : w10.cell? ⟨gb285, 0, none⟩ = some (.int .i64 a0_0) := (blk_cell BK285.out 0).trans rfl; have hcz11_1 : w10.cell? ⟨gb285, 1, none⟩ = some (.int .i64 a0_1) := (blk_cell BK285.out 1).trans rfl; have hcz11_2 : w10.cell? ⟨gb285, 2, none⟩ = some (.int .i64 a0_2) := (blk_cell BK285.out 2).trans rfl; have hcz11_3 : w10.cell? ⟨gb285, 3, none⟩ = some (.int .i64 a0_3) := (blk_cell BK285.out 3).trans rfl; have hcz11_4 : w10.cell? ⟨gb285, 4, none⟩ = some (.int .i64 a0_4) := (blk_cell BK285.out 4).trans rfl; have hcz11_5 : w10.cell? ⟨gb285, 5, none⟩ = some (.int .i64 a0_5) := (blk_cell BK285.out 5).trans rfl; have hfz11_0 := blk_frozen BK285.out 0; have hfz11_1 := blk_frozen BK285.out 1; have hfz11_2 := blk_frozen BK285.out 2; have hfz11_3 := blk_frozen BK285.out 3; have hfz11_4 := blk_frozen BK285.out 4; have hfz11_5 := blk_frozen BK285.out 5) | ((with_reducible refine gate_callee (f := 47) rfl ?_); refine goesL_ (some 5) rfl rfl Tryz.func47 (by kernel_rfl) rfl #[.agg #[.int .i64 a0_0, .int .i64 a0_1, .int .i64 a0_2, .int .i64 a0_3, .int .i64 a0_4, .int .i64 a0_5]] rfl zlx ?_; (with_reducible refine (spec_l14Good.calls a0_0 a0_1 a0_2 a0_3 a0_4 a0_5 false _ A2.out).mono ?_); rintro e w12 ⟨rfl, hb⟩; refine ⟨_, rfl, ?_⟩; replace BK285 := zbl BK285.out hb; replace HB := Aside0.mk (below_step (zBy HB.out GE285.out) hb); (try clear hb)))
   go_ret2
   exact ⟨by first | rfl | (simp [errW_none, errW_some] <;> rfl) | (simp [*, errW_none, errW_some] <;> rfl), by exact zBy HB.out GE285.out⟩

/-! ### spec_l1Cur_one: function 50 -/
def spec_l1Cur_one.f (s0_0 : List Int) (s0_1 : Int) (s0_2 : Int) (a1 : Int) : Option (Bool × Int × Int) := (spec_l1Cur_pick.f s0_0 s0_1 s0_2 a1).bind fun bt288 => (some ((bt288.1 == 0), bt288.2.1, bt288.2.2))
set_option maxHeartbeats 8000000 in
set_option maxRecDepth 100000 in
theorem spec_l1Cur_one.calls (g : Nat) (s0_0 : List Int) (s0_1 : Int) (s0_2 : Int) (a1 : Int) (r1 : Bool) (r2 : Int) (r3 : Int) (w0 w : World) (hI : IsS71 w0 w g s0_0 s0_1 s0_2) (hB : Below w0.heap.size w0 w) (h : spec_l1Cur_one.f s0_0 s0_1 s0_2 a1 = some (r1, r2, r3)) :
 Calls Tryz.prog 50 #[.pointer (some ⟨g, 0, none⟩), .int .i64 a1] w fun e w' => e = .returned (.bool r1) ∧ IsS71 w0 w' g s0_0 r2 r3 ∧ Below w0.heap.size w0 w' ∧ KeepBut w w' g none := by
 have HI0 := Aside0.mk hI
 have HK := Aside0.mk (KeepBut.refl w g none)
 have HL := Aside0.mk hB.size
 clear hI
 have HW0 := Aside0.mk hB.size
 have HB := Aside0.mk hB
 clear hB
 have H : ((spec_l1Cur_pick.f s0_0 s0_1 s0_2 a1).bind fun bt288 => (some ((bt288.1 == 0), bt288.2.1, bt288.2.2))) = some (r1, r2, r3) := h
 clear h
 replace H := Option.bind_eq_some_iff.mp H
 obtain ⟨⟨t288, t289, t290⟩, A30, H⟩ := H
 replace H : (some ((t288 == 0), t289, t290)) = some (r1, r2, r3) := H
 have A3 := Aside0.mk A30
 clear A30
 focus
  simp only [Option.some.injEq, Prod.mk.injEq] at H
  obtain ⟨rfl, rfl, rfl⟩ := H
  go_enter Tryz.func50, Tryz.ntmps50
  go_wp2_with (first | ((with_reducible refine gate_callee (f := 75) rfl ?_); refine goesL_ (some 7) rfl rfl Tryz.func75 (by kernel_rfl) rfl #[.pointer (some ⟨g, 0, none⟩), .int .i64 a1] rfl zlx ?_; (with_reducible refine (spec_l1Cur_pick.calls g s0_0 s0_1 s0_2 a1 t288 t289 t290 w0 _ ?side1 ?side2 A3.out).mono ?_); (case side1 => exact IsS71.zI HI0.out); (case side2 => first | exact zBy HB.out (IsS71.ge HI0.out) | exact zBx HB.out); rintro e w4 ⟨rfl, hi, hb, hk⟩; refine ⟨_, rfl, ?_⟩; replace HK := Aside0.mk (KeepBut.trans (zKx HK.out) hk (.inl rfl)); replace HB := Aside0.mk (hb); replace HI0 := Aside0.mk (hi); (try clear hb); (try clear hk); (try clear hi)))
  go_ret
  exact ⟨by first | rfl | (simp [errW_none, errW_some] <;> rfl) | (simp [*, errW_none, errW_some] <;> rfl), by exact IsS71.zI HI0.out, by first | exact zBy HB.out (IsS71.ge HI0.out) | exact zBx HB.out, by exact zKx HK.out⟩

end Go.Proofs.YtlfoojgbiafffaaGreatDoor.XFnMessages
