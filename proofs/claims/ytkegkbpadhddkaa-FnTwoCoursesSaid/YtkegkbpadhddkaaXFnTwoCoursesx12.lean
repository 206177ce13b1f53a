-- written by wip/tools/xprint.py (a program of this project) out of the translation
import Derived.Test.YtkegkbpadhddkaaXFnTwoCoursesx0
import Derived.Test.YtkegkbpadhddkaaXFnTwoCoursesx2
import Derived.Test.YtkegkbpadhddkaaXFnTwoCoursesx4
import Derived.Test.YtkegkbpadhddkaaXFnTwoCoursesx5
import Derived.Test.YtkegkbpadhddkaaXFnTwoCoursesx6
import Derived.Test.YtkegkbpadhddkaaXFnTwoCoursesx8
import Derived.Test.YtkegkbpadhddkaaXFnTwoCoursesx9
import Derived.Test.YtkegkbpadhddkaaXFnTwoCoursesx10
import Derived.Test.YtkegkbpadhddkaaXFnTwoCoursesx11
namespace Go.Proofs.Ytkegkbpadhddkaa.XFnTwoCourses
open Go.RowKit Go.Proofs.YtkegkbpadhddkaaW.PrintWords Go.Proofs.YtkegkbpadhddkaaW.PrintLast Go.Proofs.YtkegkbpadhddkaaW.PrintMore
attribute [local go_sem] max2_int min2_int max_two min_two max_three min_three max_four min_four   -- for this text's walks alone
set_option linter.unusedVariables false
set_option linter.unusedSimpArgs false

/-! ### laws_FnTwoCourses: function 3 -/
mutual
def laws_FnTwoCourses.j0 : Nat → List Int → List (S41) → List (S41) → List (S41) → Bool → List (S41) → Bool → Bool → Option (Bool)
 | 0, _, _, _, _, _, _, _, _ => none
 | k + 1, x0, x3, x4, x5, x6, x7, x8, x74 => if x74 = true then (some false) else ((spec_CommonCourse.f k x3 x4).bind fun bt469 => (if (x8 != bt469.2) = true then (laws_FnTwoCourses.j1 k x0 x3 x4 x5 x6 x7 x8 true) else ((laws_rCourses.f k x7 bt469.1).bind fun t473 => (laws_FnTwoCourses.j1 k x0 x3 x4 x5 x6 x7 x8 (!t473)))))
def laws_FnTwoCourses.j1 : Nat → List Int → List (S41) → List (S41) → List (S41) → Bool → List (S41) → Bool → Bool → Option (Bool)
 | 0, _, _, _, _, _, _, _, _ => none
 | k + 1, x0, x3, x4, x5, x6, x7, x8, x89 => if x89 = true then (some false) else (laws_FnTwoCourses.l0 k x0 x3 x4 x5 x6 x7 x8 0)
def laws_FnTwoCourses.l0 : Nat → List Int → List (S41) → List (S41) → List (S41) → Bool → List (S41) → Bool → Int → Option (Bool)
 | 0, _, _, _, _, _, _, _, _ => none
 | k + 1, x0, x3, x4, x5, x6, x7, x8, x13 => if x13 < 240 then (if x6 = true then (laws_FnTwoCourses.j3 k x0 x3 x4 x5 x6 x7 x8 x13 true) else (laws_FnTwoCourses.j3 k x0 x3 x4 x5 x6 x7 x8 x13 x8)) else (laws_FnTwoCourses.j3 k x0 x3 x4 x5 x6 x7 x8 x13 false)
def laws_FnTwoCourses.j3 : Nat → List Int → List (S41) → List (S41) → List (S41) → Bool → List (S41) → Bool → Int → Bool → Option (Bool)
 | 0, _, _, _, _, _, _, _, _, _ => none
 | k + 1, x0, x3, x4, x5, x6, x7, x8, x13, x97 => if x97 = true then ((impl_CourseLevel.f k x3 x13).bind fun bt474 => ((impl_CourseLevel.f k x4 x13).bind fun bt476 => (if bt476.1 > bt474.1 then (laws_FnTwoCourses.j4 k x0 x3 x4 x5 x6 x7 x8 x13 bt474.1 bt474.2 bt476.1 bt476.2 bt476.1) else (laws_FnTwoCourses.j4 k x0 x3 x4 x5 x6 x7 x8 x13 bt474.1 bt474.2 bt476.1 bt476.2 bt474.1)))) else ((spec_DrawShiftCourse.f k x0).bind fun bt482 => ((impl_ShiftCourse.f k bt482.1 bt482.2).bind fun bt486 => ((spec_ShiftCourse.f k bt482.1 bt482.2).bind fun bt490 => (if (bt486.2 != bt490.2) = true then (laws_FnTwoCourses.j7 k x0 bt482.1 bt482.2 bt486.1 bt486.2 true) else ((laws_rCourses.f k bt486.1 bt490.1).bind fun t494 => (laws_FnTwoCourses.j7 k x0 bt482.1 bt482.2 bt486.1 bt486.2 (!t494)))))))
def laws_FnTwoCourses.j4 : Nat → List Int → List (S41) → List (S41) → List (S41) → Bool → List (S41) → Bool → Int → Int → Bool → Int → Bool → Int → Option (Bool)
 | 0, _, _, _, _, _, _, _, _, _, _, _, _, _ => none
 | k + 1, x0, x3, x4, x5, x6, x7, x8, x13, x14, x15, x16, x17, x18 => if x15 = true then (laws_FnTwoCourses.j5 k x0 x3 x4 x5 x6 x7 x8 x13 x14 x16 x18 (!x17)) else (laws_FnTwoCourses.j5 k x0 x3 x4 x5 x6 x7 x8 x13 x14 x16 x18 true)
def laws_FnTwoCourses.j5 : Nat → List Int → List (S41) → List (S41) → List (S41) → Bool → List (S41) → Bool → Int → Int → Int → Int → Bool → Option (Bool)
 | 0, _, _, _, _, _, _, _, _, _, _, _, _ => none
 | k + 1, x0, x3, x4, x5, x6, x7, x8, x13, x14, x16, x18, x122 => if x122 = true then (some false) else ((impl_CourseLevel.f k x5 x13).bind fun bt478 => (if x6 = true then (if bt478.2 = true then (laws_FnTwoCourses.j6 k x0 x3 x4 x5 x6 x7 x8 x13 x14 x16 (bt478.1 != x18)) else (laws_FnTwoCourses.j6 k x0 x3 x4 x5 x6 x7 x8 x13 x14 x16 true)) else (laws_FnTwoCourses.j6 k x0 x3 x4 x5 x6 x7 x8 x13 x14 x16 false)))
def laws_FnTwoCourses.j6 : Nat → List Int → List (S41) → List (S41) → List (S41) → Bool → List (S41) → Bool → Int → Int → Int → Bool → Option (Bool)
 | 0, _, _, _, _, _, _, _, _, _, _, _ => none
 | k + 1, x0, x3, x4, x5, x6, x7, x8, x13, x14, x16, x138 => if x138 = true then (some false) else ((impl_CourseLevel.f k x7 x13).bind fun bt480 => (if x8 = true then (if bt480.2 = true then (if x14 = x16 then (if bt480.1 = x14 then (laws_FnTwoCourses.l0 k x0 x3 x4 x5 x6 x7 x8 (wrap64 (x13 + 1))) else (some false)) else (if bt480.1 = 0 then (laws_FnTwoCourses.l0 k x0 x3 x4 x5 x6 x7 x8 (wrap64 (x13 + 1))) else (some false))) else (some false)) else (laws_FnTwoCourses.l0 k x0 x3 x4 x5 x6 x7 x8 (wrap64 (x13 + 1)))))
def laws_FnTwoCourses.j7 : Nat → List Int → List (S41) → Int → List (S41) → Bool → Bool → Option (Bool)
 | 0, _, _, _, _, _, _ => none
 | k + 1, x0, x23, x24, x25, x26, x194 => if x194 = true then (some false) else (if x26 = true then ((impl_ShiftCourse.f k x25 (wrap64 (-x24))).bind fun bt495 => (if bt495.2 = true then ((laws_rCourses.f k bt495.1 x23).bind fun t499 => (if t499 = true then (laws_FnTwoCourses.j8 k x0) else (some false))) else (some false))) else (laws_FnTwoCourses.j8 k x0))
def laws_FnTwoCourses.j8 : Nat → List Int → Option (Bool)
 | 0, _ => none
 | k + 1, x0 => (spec_DrawChangesOf.f k x0).bind fun t500 => ((impl_ChangesOf.f k t500).bind fun bt503 => ((spec_ChangesOf.f k t500).bind fun bt507 => (if (bt503.2 != bt507.2) = true then (laws_FnTwoCourses.j9 k t500 bt503.1 true) else ((laws_rInts.f k bt503.1 bt507.1).bind fun t511 => (laws_FnTwoCourses.j9 k t500 bt503.1 (!t511))))))
def laws_FnTwoCourses.j9 : Nat → List (S41) → List Int → Bool → Option (Bool)
 | 0, _, _, _ => none
 | k + 1, x31, x32, x231 => if x231 = true then (some false) else (laws_FnTwoCourses.l1 k x31 x32 0)
def laws_FnTwoCourses.l1 : Nat → List (S41) → List Int → Int → Option (Bool)
 | 0, _, _, _ => none
 | k + 1, x31, x32, x36 => if x36 < (x32.length : Int) then (if 0 ≤ x36 then ((impl_CourseLevel.f k x31 (rd x32 x36)).bind fun bt513 => ((impl_CourseLevel.f k x31 (wrap64 ((rd x32 x36) - 1))).bind fun bt516 => (if bt513.2 = true then (if bt516.2 = true then (if bt513.1 = bt516.1 then (some false) else (laws_FnTwoCourses.l1 k x31 x32 (wrap64 (x36 + 1)))) else (some false)) else (some false)))) else (none)) else (some true)
end
def laws_FnTwoCourses.f (k : Nat) (l0 : List Int) : Option (Bool) := (laws_rBig.f l0).bind fun t449 => (if t449 = true then (some true) else ((spec_DrawHigherCourse.f k l0).bind fun bt450 => ((impl_HigherCourse.f k bt450.1 bt450.2).bind fun bt456 => ((impl_CommonCourse.f k bt450.1 bt450.2).bind fun bt460 => ((spec_HigherCourse.f k bt450.1 bt450.2).bind fun bt464 => (if (bt456.2 != bt464.2) = true then (laws_FnTwoCourses.j0 k l0 bt450.1 bt450.2 bt456.1 bt456.2 bt460.1 bt460.2 true) else ((laws_rCourses.f k bt456.1 bt464.1).bind fun t468 => (laws_FnTwoCourses.j0 k l0 bt450.1 bt450.2 bt456.1 bt456.2 bt460.1 bt460.2 (!t468)))))))))
theorem laws_FnTwoCourses.mono_l : ∀ k, (∀ y0 y1 y2 y3 y4 y5 y6 y7, LeO (laws_FnTwoCourses.j0 k y0 y1 y2 y3 y4 y5 y6 y7) (laws_FnTwoCourses.j0 (k + 1) y0 y1 y2 y3 y4 y5 y6 y7)) ∧ (∀ y0 y1 y2 y3 y4 y5 y6 y7, LeO (laws_FnTwoCourses.j1 k y0 y1 y2 y3 y4 y5 y6 y7) (laws_FnTwoCourses.j1 (k + 1) y0 y1 y2 y3 y4 y5 y6 y7)) ∧ (∀ y0 y1 y2 y3 y4 y5 y6 y7, LeO (laws_FnTwoCourses.l0 k y0 y1 y2 y3 y4 y5 y6 y7) (laws_FnTwoCourses.l0 (k + 1) y0 y1 y2 y3 y4 y5 y6 y7)) ∧ (∀ y0 y1 y2 y3 y4 y5 y6 y7 y8, LeO (laws_FnTwoCourses.j3 k y0 y1 y2 y3 y4 y5 y6 y7 y8) (laws_FnTwoCourses.j3 (k + 1) y0 y1 y2 y3 y4 y5 y6 y7 y8)) ∧ (∀ y0 y1 y2 y3 y4 y5 y6 y7 y8 y9 y10 y11 y12, LeO (laws_FnTwoCourses.j4 k y0 y1 y2 y3 y4 y5 y6 y7 y8 y9 y10 y11 y12) (laws_FnTwoCourses.j4 (k + 1) y0 y1 y2 y3 y4 y5 y6 y7 y8 y9 y10 y11 y12)) ∧ (∀ y0 y1 y2 y3 y4 y5 y6 y7 y8 y9 y10 y11, LeO (laws_FnTwoCourses.j5 k y0 y1 y2 y3 y4 y5 y6 y7 y8 y9 y10 y11) (laws_FnTwoCourses.j5 (k + 1) y0 y1 y2 y3 y4 y5 y6 y7 y8 y9 y10 y11)) ∧ (∀ y0 y1 y2 y3 y4 y5 y6 y7 y8 y9 y10, LeO (laws_FnTwoCourses.j6 k y0 y1 y2 y3 y4 y5 y6 y7 y8 y9 y10) (laws_FnTwoCourses.j6 (k + 1) y0 y1 y2 y3 y4 y5 y6 y7 y8 y9 y10)) ∧ (∀ y0 y1 y2 y3 y4 y5, LeO (laws_FnTwoCourses.j7 k y0 y1 y2 y3 y4 y5) (laws_FnTwoCourses.j7 (k + 1) y0 y1 y2 y3 y4 y5)) ∧ (∀ y0, LeO (laws_FnTwoCourses.j8 k y0) (laws_FnTwoCourses.j8 (k + 1) y0)) ∧ (∀ y0 y1 y2, LeO (laws_FnTwoCourses.j9 k y0 y1 y2) (laws_FnTwoCourses.j9 (k + 1) y0 y1 y2)) ∧ (∀ y0 y1 y2, LeO (laws_FnTwoCourses.l1 k y0 y1 y2) (laws_FnTwoCourses.l1 (k + 1) y0 y1 y2))
 | 0 => ⟨fun _ _ _ _ _ _ _ _ r h => by simp [laws_FnTwoCourses.j0] at h, fun _ _ _ _ _ _ _ _ r h => by simp [laws_FnTwoCourses.j1] at h, fun _ _ _ _ _ _ _ _ r h => by simp [laws_FnTwoCourses.l0] at h, fun _ _ _ _ _ _ _ _ _ r h => by simp [laws_FnTwoCourses.j3] at h, fun _ _ _ _ _ _ _ _ _ _ _ _ _ r h => by simp [laws_FnTwoCourses.j4] at h, fun _ _ _ _ _ _ _ _ _ _ _ _ r h => by simp [laws_FnTwoCourses.j5] at h, fun _ _ _ _ _ _ _ _ _ _ _ r h => by simp [laws_FnTwoCourses.j6] at h, fun _ _ _ _ _ _ r h => by simp [laws_FnTwoCourses.j7] at h, fun _ r h => by simp [laws_FnTwoCourses.j8] at h, fun _ _ _ r h => by simp [laws_FnTwoCourses.j9] at h, fun _ _ _ r h => by simp [laws_FnTwoCourses.l1] at h⟩
 | k + 1 => by
  obtain ⟨ih0, ih1, ih2, ih3, ih4, ih5, ih6, ih7, ih8, ih9, ih10⟩ := laws_FnTwoCourses.mono_l k
  refine ⟨?_, ?_, ?_, ?_, ?_, ?_, ?_, ?_, ?_, ?_, ?_⟩
  ·intro y0 y1 y2 y3 y4 y5 y6 y7
   unfold laws_FnTwoCourses.j0
   repeat' first
   | (with_reducible exact ih0 _ _ _ _ _ _ _ _)
   | (with_reducible exact ih1 _ _ _ _ _ _ _ _)
   | (with_reducible exact ih2 _ _ _ _ _ _ _ _)
   | (with_reducible exact ih3 _ _ _ _ _ _ _ _ _)
   | (with_reducible exact ih4 _ _ _ _ _ _ _ _ _ _ _ _ _)
   | (with_reducible exact ih5 _ _ _ _ _ _ _ _ _ _ _ _)
   | (with_reducible exact ih6 _ _ _ _ _ _ _ _ _ _ _)
   | (with_reducible exact ih7 _ _ _ _ _ _)
   | (with_reducible exact ih8 _)
   | (with_reducible exact ih9 _ _ _)
   | (with_reducible exact ih10 _ _ _)
   | (with_reducible exact impl_ChangesOf.mono _ _)
   | (with_reducible exact impl_CommonCourse.mono _ _ _)
   | (with_reducible exact impl_CourseLevel.mono _ _ _)
   | (with_reducible exact impl_HigherCourse.mono _ _ _)
   | (with_reducible exact impl_ShiftCourse.mono _ _ _)
   | (with_reducible exact laws_rCourses.mono _ _ _)
   | (with_reducible exact laws_rInts.mono _ _ _)
   | (with_reducible exact spec_ChangesOf.mono _ _)
   | (with_reducible exact spec_CommonCourse.mono _ _ _)
   | (with_reducible exact spec_DrawChangesOf.mono _ _)
   | (with_reducible exact spec_DrawHigherCourse.mono _ _)
   | (with_reducible exact spec_DrawShiftCourse.mono _ _)
   | (with_reducible exact spec_HigherCourse.mono _ _ _)
   | (with_reducible exact spec_ShiftCourse.mono _ _ _)
   | (with_reducible exact LeO.refl _)
   | (with_reducible exact LeO.none _)
   | (with_reducible refine LeO.ite ?_ ?_)
   | (with_reducible refine LeO.bind ?_ (fun _ => ?_))
   | exact ih0 _ _ _ _ _ _ _ _
   | exact ih1 _ _ _ _ _ _ _ _
   | exact ih2 _ _ _ _ _ _ _ _
   | exact ih3 _ _ _ _ _ _ _ _ _
   | exact ih4 _ _ _ _ _ _ _ _ _ _ _ _ _
   | exact ih5 _ _ _ _ _ _ _ _ _ _ _ _
   | exact ih6 _ _ _ _ _ _ _ _ _ _ _
   | exact ih7 _ _ _ _ _ _
   | exact ih8 _
   | exact ih9 _ _ _
   | exact ih10 _ _ _
   | exact impl_ChangesOf.mono _ _
   | exact impl_CommonCourse.mono _ _ _
   | exact impl_CourseLevel.mono _ _ _
   | exact impl_HigherCourse.mono _ _ _
   | exact impl_ShiftCourse.mono _ _ _
   | exact laws_rCourses.mono _ _ _
   | exact laws_rInts.mono _ _ _
   | exact spec_ChangesOf.mono _ _
   | exact spec_CommonCourse.mono _ _ _
   | exact spec_DrawChangesOf.mono _ _
   | exact spec_DrawHigherCourse.mono _ _
   | exact spec_DrawShiftCourse.mono _ _
   | exact spec_HigherCourse.mono _ _ _
   | exact spec_ShiftCourse.mono _ _ _
   | exact LeO.none _
   | refine LeO.ite ?_ ?_
   | refine LeO.bind ?_ (fun _ => ?_)
  ·intro y0 y1 y2 y3 y4 y5 y6 y7
   unfold laws_FnTwoCourses.j1
   repeat' first
   | (with_reducible exact ih0 _ _ _ _ _ _ _ _)
   | (with_reducible exact ih1 _ _ _ _ _ _ _ _)
   | (with_reducible exact ih2 _ _ _ _ _ _ _ _)
   | (with_reducible exact ih3 _ _ _ _ _ _ _ _ _)
   | (with_reducible exact ih4 _ _ _ _ _ _ _ _ _ _ _ _ _)
   | (with_reducible exact ih5 _ _ _ _ _ _ _ _ _ _ _ _)
   | (with_reducible exact ih6 _ _ _ _ _ _ _ _ _ _ _)
   | (with_reducible exact ih7 _ _ _ _ _ _)
   | (with_reducible exact ih8 _)
   | (with_reducible exact ih9 _ _ _)
   | (with_reducible exact ih10 _ _ _)
   | (with_reducible exact impl_ChangesOf.mono _ _)
   | (with_reducible exact impl_CommonCourse.mono _ _ _)
   | (with_reducible exact impl_CourseLevel.mono _ _ _)
   | (with_reducible exact impl_HigherCourse.mono _ _ _)
   | (with_reducible exact impl_ShiftCourse.mono _ _ _)
   | (with_reducible exact laws_rCourses.mono _ _ _)
   | (with_reducible exact laws_rInts.mono _ _ _)
   | (with_reducible exact spec_ChangesOf.mono _ _)
   | (with_reducible exact spec_CommonCourse.mono _ _ _)
   | (with_reducible exact spec_DrawChangesOf.mono _ _)
   | (with_reducible exact spec_DrawHigherCourse.mono _ _)
   | (with_reducible exact spec_DrawShiftCourse.mono _ _)
   | (with_reducible exact spec_HigherCourse.mono _ _ _)
   | (with_reducible exact spec_ShiftCourse.mono _ _ _)
   | (with_reducible exact LeO.refl _)
   | (with_reducible exact LeO.none _)
   | (with_reducible refine LeO.ite ?_ ?_)
   | (with_reducible refine LeO.bind ?_ (fun _ => ?_))
   | exact ih0 _ _ _ _ _ _ _ _
   | exact ih1 _ _ _ _ _ _ _ _
   | exact ih2 _ _ _ _ _ _ _ _
   | exact ih3 _ _ _ _ _ _ _ _ _
   | exact ih4 _ _ _ _ _ _ _ _ _ _ _ _ _
   | exact ih5 _ _ _ _ _ _ _ _ _ _ _ _
   | exact ih6 _ _ _ _ _ _ _ _ _ _ _
   | exact ih7 _ _ _ _ _ _
   | exact ih8 _
   | exact ih9 _ _ _
   | exact ih10 _ _ _
   | exact impl_ChangesOf.mono _ _
   | exact impl_CommonCourse.mono _ _ _
   | exact impl_CourseLevel.mono _ _ _
   | exact impl_HigherCourse.mono _ _ _
   | exact impl_ShiftCourse.mono _ _ _
   | exact laws_rCourses.mono _ _ _
   | exact laws_rInts.mono _ _ _
   | exact spec_ChangesOf.mono _ _
   | exact spec_CommonCourse.mono _ _ _
   | exact spec_DrawChangesOf.mono _ _
   | exact spec_DrawHigherCourse.mono _ _
   | exact spec_DrawShiftCourse.mono _ _
   | exact spec_HigherCourse.mono _ _ _
   | exact spec_ShiftCourse.mono _ _ _
   | exact LeO.none _
   | refine LeO.ite ?_ ?_
   | refine LeO.bind ?_ (fun _ => ?_)
  ·intro y0 y1 y2 y3 y4 y5 y6 y7
   unfold laws_FnTwoCourses.l0
   repeat' first
   | (with_reducible exact ih0 _ _ _ _ _ _ _ _)
   | (with_reducible exact ih1 _ _ _ _ _ _ _ _)
   | (with_reducible exact ih2 _ _ _ _ _ _ _ _)
   | (with_reducible exact ih3 _ _ _ _ _ _ _ _ _)
   | (with_reducible exact ih4 _ _ _ _ _ _ _ _ _ _ _ _ _)
   | (with_reducible exact ih5 _ _ _ _ _ _ _ _ _ _ _ _)
   | (with_reducible exact ih6 _ _ _ _ _ _ _ _ _ _ _)
   | (with_reducible exact ih7 _ _ _ _ _ _)
   | (with_reducible exact ih8 _)
   | (with_reducible exact ih9 _ _ _)
   | (with_reducible exact ih10 _ _ _)
   | (with_reducible exact impl_ChangesOf.mono _ _)
   | (with_reducible exact impl_CommonCourse.mono _ _ _)
   | (with_reducible exact impl_CourseLevel.mono _ _ _)
   | (with_reducible exact impl_HigherCourse.mono _ _ _)
   | (with_reducible exact impl_ShiftCourse.mono _ _ _)
   | (with_reducible exact laws_rCourses.mono _ _ _)
   | (with_reducible exact laws_rInts.mono _ _ _)
   | (with_reducible exact spec_ChangesOf.mono _ _)
   | (with_reducible exact spec_CommonCourse.mono _ _ _)
   | (with_reducible exact spec_DrawChangesOf.mono _ _)
   | (with_reducible exact spec_DrawHigherCourse.mono _ _)
   | (with_reducible exact spec_DrawShiftCourse.mono _ _)
   | (with_reducible exact spec_HigherCourse.mono _ _ _)
   | (with_reducible exact spec_ShiftCourse.mono _ _ _)
   | (with_reducible exact LeO.refl _)
   | (with_reducible exact LeO.none _)
   | (with_reducible refine LeO.ite ?_ ?_)
   | (with_reducible refine LeO.bind ?_ (fun _ => ?_))
   | exact ih0 _ _ _ _ _ _ _ _
   | exact ih1 _ _ _ _ _ _ _ _
   | exact ih2 _ _ _ _ _ _ _ _
   | exact ih3 _ _ _ _ _ _ _ _ _
   | exact ih4 _ _ _ _ _ _ _ _ _ _ _ _ _
   | exact ih5 _ _ _ _ _ _ _ _ _ _ _ _
   | exact ih6 _ _ _ _ _ _ _ _ _ _ _
   | exact ih7 _ _ _ _ _ _
   | exact ih8 _
   | exact ih9 _ _ _
   | exact ih10 _ _ _
   | exact impl_ChangesOf.mono _ _
   | exact impl_CommonCourse.mono _ _ _
   | exact impl_CourseLevel.mono _ _ _
   | exact impl_HigherCourse.mono _ _ _
   | exact impl_ShiftCourse.mono _ _ _
   | exact laws_rCourses.mono _ _ _
   | exact laws_rInts.mono _ _ _
   | exact spec_ChangesOf.mono _ _
   | exact spec_CommonCourse.mono _ _ _
   | exact spec_DrawChangesOf.mono _ _
   | exact spec_DrawHigherCourse.mono _ _
   | exact spec_DrawShiftCourse.mono _ _
   | exact spec_HigherCourse.mono _ _ _
   | exact spec_ShiftCourse.mono _ _ _
   | exact LeO.none _
   | refine LeO.ite ?_ ?_
   | refine LeO.bind ?_ (fun _ => ?_)
  ·intro y0 y1 y2 y3 y4 y5 y6 y7 y8
   unfold laws_FnTwoCourses.j3
   repeat' first
   | (with_reducible exact ih0 _ _ _ _ _ _ _ _)
   | (with_reducible exact ih1 _ _ _ _ _ _ _ _)
   | (with_reducible exact ih2 _ _ _ _ _ _ _ _)
   | (with_reducible exact ih3 _ _ _ _ _ _ _ _ _)
   | (with_reducible exact ih4 _ _ _ _ _ _ _ _ _ _ _ _ _)
   | (with_reducible exact ih5 _ _ _ _ _ _ _ _ _ _ _ _)
   | (with_reducible exact ih6 _ _ _ _ _ _ _ _ _ _ _)
   | (with_reducible exact ih7 _ _ _ _ _ _)
   | (with_reducible exact ih8 _)
   | (with_reducible exact ih9 _ _ _)
   | (with_reducible exact ih10 _ _ _)
   | (with_reducible exact impl_ChangesOf.mono _ _)
   | (with_reducible exact impl_CommonCourse.mono _ _ _)
   | (with_reducible exact impl_CourseLevel.mono _ _ _)
   | (with_reducible exact impl_HigherCourse.mono _ _ _)
   | (with_reducible exact impl_ShiftCourse.mono _ _ _)
   | (with_reducible exact laws_rCourses.mono _ _ _)
   | (with_reducible exact laws_rInts.mono _ _ _)
   | (with_reducible exact spec_ChangesOf.mono _ _)
   | (with_reducible exact spec_CommonCourse.mono _ _ _)
   | (with_reducible exact spec_DrawChangesOf.mono _ _)
   | (with_reducible exact spec_DrawHigherCourse.mono _ _)
   | (with_reducible exact spec_DrawShiftCourse.mono _ _)
   | (with_reducible exact spec_HigherCourse.mono _ _ _)
   | (with_reducible exact spec_ShiftCourse.mono _ _ _)
   | (with_reducible exact LeO.refl _)
   | (with_reducible exact LeO.none _)
   | (with_reducible refine LeO.ite ?_ ?_)
   | (with_reducible refine LeO.bind ?_ (fun _ => ?_))
   | exact ih0 _ _ _ _ _ _ _ _
   | exact ih1 _ _ _ _ _ _ _ _
   | exact ih2 _ _ _ _ _ _ _ _
   | exact ih3 _ _ _ _ _ _ _ _ _
   | exact ih4 _ _ _ _ _ _ _ _ _ _ _ _ _
   | exact ih5 _ _ _ _ _ _ _ _ _ _ _ _
   | exact ih6 _ _ _ _ _ _ _ _ _ _ _
   | exact ih7 _ _ _ _ _ _
   | exact ih8 _
   | exact ih9 _ _ _
   | exact ih10 _ _ _
   | exact impl_ChangesOf.mono _ _
   | exact impl_CommonCourse.mono _ _ _
   | exact impl_CourseLevel.mono _ _ _
   | exact impl_HigherCourse.mono _ _ _
   | exact impl_ShiftCourse.mono _ _ _
   | exact laws_rCourses.mono _ _ _
   | exact laws_rInts.mono _ _ _
   | exact spec_ChangesOf.mono _ _
   | exact spec_CommonCourse.mono _ _ _
   | exact spec_DrawChangesOf.mono _ _
   | exact spec_DrawHigherCourse.mono _ _
   | exact spec_DrawShiftCourse.mono _ _
   | exact spec_HigherCourse.mono _ _ _
   | exact spec_ShiftCourse.mono _ _ _
   | exact LeO.none _
   | refine LeO.ite ?_ ?_
   | refine LeO.bind ?_ (fun _ => ?_)
  ·intro y0 y1 y2 y3 y4 y5 y6 y7 y8 y9 y10 y11 y12
   unfold laws_FnTwoCourses.j4
   repeat' first
   | (with_reducible exact ih0 _ _ _ _ _ _ _ _)
   | (with_reducible exact ih1 _ _ _ _ _ _ _ _)
   | (with_reducible exact ih2 _ _ _ _ _ _ _ _)
   | (with_reducible exact ih3 _ _ _ _ _ _ _ _ _)
   | (with_reducible exact ih4 _ _ _ _ _ _ _ _ _ _ _ _ _)
   | (with_reducible exact ih5 _ _ _ _ _ _ _ _ _ _ _ _)
   | (with_reducible exact ih6 _ _ _ _ _ _ _ _ _ _ _)
   | (with_reducible exact ih7 _ _ _ _ _ _)
   | (with_reducible exact ih8 _)
   | (with_reducible exact ih9 _ _ _)
   | (with_reducible exact ih10 _ _ _)
   | (with_reducible exact impl_ChangesOf.mono _ _)
   | (with_reducible exact impl_CommonCourse.mono _ _ _)
   | (with_reducible exact impl_CourseLevel.mono _ _ _)
   | (with_reducible exact impl_HigherCourse.mono _ _ _)
   | (with_reducible exact impl_ShiftCourse.mono _ _ _)
   | (with_reducible exact laws_rCourses.mono _ _ _)
   | (with_reducible exact laws_rInts.mono _ _ _)
   | (with_reducible exact spec_ChangesOf.mono _ _)
   | (with_reducible exact spec_CommonCourse.mono _ _ _)
   | (with_reducible exact spec_DrawChangesOf.mono _ _)
   | (with_reducible exact spec_DrawHigherCourse.mono _ _)
   | (with_reducible exact spec_DrawShiftCourse.mono _ _)
   | (with_reducible exact spec_HigherCourse.mono _ _ _)
   | (with_reducible exact spec_ShiftCourse.mono _ _ _)
   | (with_reducible exact LeO.refl _)
   | (with_reducible exact LeO.none _)
   | (with_reducible refine LeO.ite ?_ ?_)
   | (with_reducible refine LeO.bind ?_ (fun _ => ?_))
   | exact ih0 _ _ _ _ _ _ _ _
   | exact ih1 _ _ _ _ _ _ _ _
   | exact ih2 _ _ _ _ _ _ _ _
   | exact ih3 _ _ _ _ _ _ _ _ _
   | exact ih4 _ _ _ _ _ _ _ _ _ _ _ _ _
   | exact ih5 _ _ _ _ _ _ _ _ _ _ _ _
   | exact ih6 _ _ _ _ _ _ _ _ _ _ _
   | exact ih7 _ _ _ _ _ _
   | exact ih8 _
   | exact ih9 _ _ _
   | exact ih10 _ _ _
   | exact impl_ChangesOf.mono _ _
   | exact impl_CommonCourse.mono _ _ _
   | exact impl_CourseLevel.mono _ _ _
   | exact impl_HigherCourse.mono _ _ _
   | exact impl_ShiftCourse.mono _ _ _
   | exact laws_rCourses.mono _ _ _
   | exact laws_rInts.mono _ _ _
   | exact spec_ChangesOf.mono _ _
   | exact spec_CommonCourse.mono _ _ _
   | exact spec_DrawChangesOf.mono _ _
   | exact spec_DrawHigherCourse.mono _ _
   | exact spec_DrawShiftCourse.mono _ _
   | exact spec_HigherCourse.mono _ _ _
   | exact spec_ShiftCourse.mono _ _ _
   | exact LeO.none _
   | refine LeO.ite ?_ ?_
   | refine LeO.bind ?_ (fun _ => ?_)
  ·intro y0 y1 y2 y3 y4 y5 y6 y7 y8 y9 y10 y11
   unfold laws_FnTwoCourses.j5
   repeat' first
   | (with_reducible exact ih0 _ _ _ _ _ _ _ _)
   | (with_reducible exact ih1 _ _ _ _ _ _ _ _)
   | (with_reducible exact ih2 _ _ _ _ _ _ _ _)
   | (with_reducible exact ih3 _ _ _ _ _ _ _ _ _)
   | (with_reducible exact ih4 _ _ _ _ _ _ _ _ _ _ _ _ _)
   | (with_reducible exact ih5 _ _ _ _ _ _ _ _ _ _ _ _)
   | (with_reducible exact ih6 _ _ _ _ _ _ _ _ _ _ _)
   | (with_reducible exact ih7 _ _ _ _ _ _)
   | (with_reducible exact ih8 _)
   | (with_reducible exact ih9 _ _ _)
   | (with_reducible exact ih10 _ _ _)
   | (with_reducible exact impl_ChangesOf.mono _ _)
   | (with_reducible exact impl_CommonCourse.mono _ _ _)
   | (with_reducible exact impl_CourseLevel.mono _ _ _)
   | (with_reducible exact impl_HigherCourse.mono _ _ _)
   | (with_reducible exact impl_ShiftCourse.mono _ _ _)
   | (with_reducible exact laws_rCourses.mono _ _ _)
   | (with_reducible exact laws_rInts.mono _ _ _)
   | (with_reducible exact spec_ChangesOf.mono _ _)
   | (with_reducible exact spec_CommonCourse.mono _ _ _)
   | (with_reducible exact spec_DrawChangesOf.mono _ _)
   | (with_reducible exact spec_DrawHigherCourse.mono _ _)
   | (with_reducible exact spec_DrawShiftCourse.mono _ _)
   | (with_reducible exact spec_HigherCourse.mono _ _ _)
   | (with_reducible exact spec_ShiftCourse.mono _ _ _)
   | (with_reducible exact LeO.refl _)
   | (with_reducible exact LeO.none _)
   | (with_reducible refine LeO.ite ?_ ?_)
   | (with_reducible refine LeO.bind ?_ (fun _ => ?_))
   | exact ih0 _ _ _ _ _ _ _ _
   | exact ih1 _ _ _ _ _ _ _ _
   | exact ih2 _ _ _ _ _ _ _ _
   | exact ih3 _ _ _ _ _ _ _ _ _
   | exact ih4 _ _ _ _ _ _ _ _ _ _ _ _ _
   | exact ih5 _ _ _ _ _ _ _ _ _ _ _ _
   | exact ih6 _ _ _ _ _ _ _ _ _ _ _
   | exact ih7 _ _ _ _ _ _
   | exact ih8 _
   | exact ih9 _ _ _
   | exact ih10 _ _ _
   | exact impl_ChangesOf.mono _ _
   | exact impl_CommonCourse.mono _ _ _
   | exact impl_CourseLevel.mono _ _ _
   | exact impl_HigherCourse.mono _ _ _
   | exact impl_ShiftCourse.mono _ _ _
   | exact laws_rCourses.mono _ _ _
   | exact laws_rInts.mono _ _ _
   | exact spec_ChangesOf.mono _ _
   | exact spec_CommonCourse.mono _ _ _
   | exact spec_DrawChangesOf.mono _ _
   | exact spec_DrawHigherCourse.mono _ _
   | exact spec_DrawShiftCourse.mono _ _
   | exact spec_HigherCourse.mono _ _ _
   | exact spec_ShiftCourse.mono _ _ _
   | exact LeO.none _
   | refine LeO.ite ?_ ?_
   | refine LeO.bind ?_ (fun _ => ?_)
  ·intro y0 y1 y2 y3 y4 y5 y6 y7 y8 y9 y10
   unfold laws_FnTwoCourses.j6
   repeat' first
   | (with_reducible exact ih0 _ _ _ _ _ _ _ _)
   | (with_reducible exact ih1 _ _ _ _ _ _ _ _)
   | (with_reducible exact ih2 _ _ _ _ _ _ _ _)
   | (with_reducible exact ih3 _ _ _ _ _ _ _ _ _)
   | (with_reducible exact ih4 _ _ _ _ _ _ _ _ _ _ _ _ _)
   | (with_reducible exact ih5 _ _ _ _ _ _ _ _ _ _ _ _)
   | (with_reducible exact ih6 _ _ _ _ _ _ _ _ _ _ _)
   | (with_reducible exact ih7 _ _ _ _ _ _)
   | (with_reducible exact ih8 _)
   | (with_reducible exact ih9 _ _ _)
   | (with_reducible exact ih10 _ _ _)
   | (with_reducible exact impl_ChangesOf.mono _ _)
   | (with_reducible exact impl_CommonCourse.mono _ _ _)
   | (with_reducible exact impl_CourseLevel.mono _ _ _)
   | (with_reducible exact impl_HigherCourse.mono _ _ _)
   | (with_reducible exact impl_ShiftCourse.mono _ _ _)
   | (with_reducible exact laws_rCourses.mono _ _ _)
   | (with_reducible exact laws_rInts.mono _ _ _)
   | (with_reducible exact spec_ChangesOf.mono _ _)
   | (with_reducible exact spec_CommonCourse.mono _ _ _)
   | (with_reducible exact spec_DrawChangesOf.mono _ _)
   | (with_reducible exact spec_DrawHigherCourse.mono _ _)
   | (with_reducible exact spec_DrawShiftCourse.mono _ _)
   | (with_reducible exact spec_HigherCourse.mono _ _ _)
   | (with_reducible exact spec_ShiftCourse.mono _ _ _)
   | (with_reducible exact LeO.refl _)
   | (with_reducible exact LeO.none _)
   | (with_reducible refine LeO.ite ?_ ?_)
   | (with_reducible refine LeO.bind ?_ (fun _ => ?_))
   | exact ih0 _ _ _ _ _ _ _ _
   | exact ih1 _ _ _ _ _ _ _ _
   | exact ih2 _ _ _ _ _ _ _ _
   | exact ih3 _ _ _ _ _ _ _ _ _
   | exact ih4 _ _ _ _ _ _ _ _ _ _ _ _ _
   | exact ih5 _ _ _ _ _ _ _ _ _ _ _ _
   | exact ih6 _ _ _ _ _ _ _ _ _ _ _
   | exact ih7 _ _ _ _ _ _
   | exact ih8 _
   | exact ih9 _ _ _
   | exact ih10 _ _ _
   | exact impl_ChangesOf.mono _ _
   | exact impl_CommonCourse.mono _ _ _
   | exact impl_CourseLevel.mono _ _ _
   | exact impl_HigherCourse.mono _ _ _
   | exact impl_ShiftCourse.mono _ _ _
   | exact laws_rCourses.mono _ _ _
   | exact laws_rInts.mono _ _ _
   | exact spec_ChangesOf.mono _ _
   | exact spec_CommonCourse.mono _ _ _
   | exact spec_DrawChangesOf.mono _ _
   | exact spec_DrawHigherCourse.mono _ _
   | exact spec_DrawShiftCourse.mono _ _
   | exact spec_HigherCourse.mono _ _ _
   | exact spec_ShiftCourse.mono _ _ _
   | exact LeO.none _
   | refine LeO.ite ?_ ?_
   | refine LeO.bind ?_ (fun _ => ?_)
  ·intro y0 y1 y2 y3 y4 y5
   unfold laws_FnTwoCourses.j7
   repeat' first
   | (with_reducible exact ih0 _ _ _ _ _ _ _ _)
   | (with_reducible exact ih1 _ _ _ _ _ _ _ _)
   | (with_reducible exact ih2 _ _ _ _ _ _ _ _)
   | (with_reducible exact ih3 _ _ _ _ _ _ _ _ _)
   | (with_reducible exact ih4 _ _ _ _ _ _ _ _ _ _ _ _ _)
   | (with_reducible exact ih5 _ _ _ _ _ _ _ _ _ _ _ _)
   | (with_reducible exact ih6 _ _ _ _ _ _ _ _ _ _ _)
   | (with_reducible exact ih7 _ _ _ _ _ _)
   | (with_reducible exact ih8 _)
   | (with_reducible exact ih9 _ _ _)
   | (with_reducible exact ih10 _ _ _)
   | (with_reducible exact impl_ChangesOf.mono _ _)
   | (with_reducible exact impl_CommonCourse.mono _ _ _)
   | (with_reducible exact impl_CourseLevel.mono _ _ _)
   | (with_reducible exact impl_HigherCourse.mono _ _ _)
   | (with_reducible exact impl_ShiftCourse.mono _ _ _)
   | (with_reducible exact laws_rCourses.mono _ _ _)
   | (with_reducible exact laws_rInts.mono _ _ _)
   | (with_reducible exact spec_ChangesOf.mono _ _)
   | (with_reducible exact spec_CommonCourse.mono _ _ _)
   | (with_reducible exact spec_DrawChangesOf.mono _ _)
   | (with_reducible exact spec_DrawHigherCourse.mono _ _)
   | (with_reducible exact spec_DrawShiftCourse.mono _ _)
   | (with_reducible exact spec_HigherCourse.mono _ _ _)
   | (with_reducible exact spec_ShiftCourse.mono _ _ _)
   | (with_reducible exact LeO.refl _)
   | (with_reducible exact LeO.none _)
   | (with_reducible refine LeO.ite ?_ ?_)
   | (with_reducible refine LeO.bind ?_ (fun _ => ?_))
   | exact ih0 _ _ _ _ _ _ _ _
   | exact ih1 _ _ _ _ _ _ _ _
   | exact ih2 _ _ _ _ _ _ _ _
   | exact ih3 _ _ _ _ _ _ _ _ _
   | exact ih4 _ _ _ _ _ _ _ _ _ _ _ _ _
   | exact ih5 _ _ _ _ _ _ _ _ _ _ _ _
   | exact ih6 _ _ _ _ _ _ _ _ _ _ _
   | exact ih7 _ _ _ _ _ _
   | exact ih8 _
   | exact ih9 _ _ _
   | exact ih10 _ _ _
   | exact impl_ChangesOf.mono _ _
   | exact impl_CommonCourse.mono _ _ _
   | exact impl_CourseLevel.mono _ _ _
   | exact impl_HigherCourse.mono _ _ _
   | exact impl_ShiftCourse.mono _ _ _
   | exact laws_rCourses.mono _ _ _
   | exact laws_rInts.mono _ _ _
   | exact spec_ChangesOf.mono _ _
   | exact spec_CommonCourse.mono _ _ _
   | exact spec_DrawChangesOf.mono _ _
   | exact spec_DrawHigherCourse.mono _ _
   | exact spec_DrawShiftCourse.mono _ _
   | exact spec_HigherCourse.mono _ _ _
   | exact spec_ShiftCourse.mono _ _ _
   | exact LeO.none _
   | refine LeO.ite ?_ ?_
   | refine LeO.bind ?_ (fun _ => ?_)
  ·intro y0
   unfold laws_FnTwoCourses.j8
   repeat' first
   | (with_reducible exact ih0 _ _ _ _ _ _ _ _)
   | (with_reducible exact ih1 _ _ _ _ _ _ _ _)
   | (with_reducible exact ih2 _ _ _ _ _ _ _ _)
   | (with_reducible exact ih3 _ _ _ _ _ _ _ _ _)
   | (with_reducible exact ih4 _ _ _ _ _ _ _ _ _ _ _ _ _)
   | (with_reducible exact ih5 _ _ _ _ _ _ _ _ _ _ _ _)
   | (with_reducible exact ih6 _ _ _ _ _ _ _ _ _ _ _)
   | (with_reducible exact ih7 _ _ _ _ _ _)
   | (with_reducible exact ih8 _)
   | (with_reducible exact ih9 _ _ _)
   | (with_reducible exact ih10 _ _ _)
   | (with_reducible exact impl_ChangesOf.mono _ _)
   | (with_reducible exact impl_CommonCourse.mono _ _ _)
   | (with_reducible exact impl_CourseLevel.mono _ _ _)
   | (with_reducible exact impl_HigherCourse.mono _ _ _)
   | (with_reducible exact impl_ShiftCourse.mono _ _ _)
   | (with_reducible exact laws_rCourses.mono _ _ _)
   | (with_reducible exact laws_rInts.mono _ _ _)
   | (with_reducible exact spec_ChangesOf.mono _ _)
   | (with_reducible exact spec_CommonCourse.mono _ _ _)
   | (with_reducible exact spec_DrawChangesOf.mono _ _)
   | (with_reducible exact spec_DrawHigherCourse.mono _ _)
   | (with_reducible exact spec_DrawShiftCourse.mono _ _)
   | (with_reducible exact spec_HigherCourse.mono _ _ _)
   | (with_reducible exact spec_ShiftCourse.mono _ _ _)
   | (with_reducible exact LeO.refl _)
   | (with_reducible exact LeO.none _)
   | (with_reducible refine LeO.ite ?_ ?_)
   | (with_reducible refine LeO.bind ?_ (fun _ => ?_))
   | exact ih0 _ _ _ _ _ _ _ _
   | exact ih1 _ _ _ _ _ _ _ _
   | exact ih2 _ _ _ _ _ _ _ _
   | exact ih3 _ _ _ _ _ _ _ _ _
   | exact ih4 _ _ _ _ _ _ _ _ _ _ _ _ _
   | exact ih5 _ _ _ _ _ _ _ _ _ _ _ _
   | exact ih6 _ _ _ _ _ _ _ _ _ _ _
   | exact ih7 _ _ _ _ _ _
   | exact ih8 _
   | exact ih9 _ _ _
   | exact ih10 _ _ _
   | exact impl_ChangesOf.mono _ _
   | exact impl_CommonCourse.mono _ _ _
   | exact impl_CourseLevel.mono _ _ _
   | exact impl_HigherCourse.mono _ _ _
   | exact impl_ShiftCourse.mono _ _ _
   | exact laws_rCourses.mono _ _ _
   | exact laws_rInts.mono _ _ _
   | exact spec_ChangesOf.mono _ _
   | exact spec_CommonCourse.mono _ _ _
   | exact spec_DrawChangesOf.mono _ _
   | exact spec_DrawHigherCourse.mono _ _
   | exact spec_DrawShiftCourse.mono _ _
   | exact spec_HigherCourse.mono _ _ _
   | exact spec_ShiftCourse.mono _ _ _
   | exact LeO.none _
   | refine LeO.ite ?_ ?_
   | refine LeO.bind ?_ (fun _ => ?_)
  ·intro y0 y1 y2
   unfold laws_FnTwoCourses.j9
   repeat' first
   | (with_reducible exact ih0 _ _ _ _ _ _ _ _)
   | (with_reducible exact ih1 _ _ _ _ _ _ _ _)
   | (with_reducible exact ih2 _ _ _ _ _ _ _ _)
   | (with_reducible exact ih3 _ _ _ _ _ _ _ _ _)
   | (with_reducible exact ih4 _ _ _ _ _ _ _ _ _ _ _ _ _)
   | (with_reducible exact ih5 _ _ _ _ _ _ _ _ _ _ _ _)
   | (with_reducible exact ih6 _ _ _ _ _ _ _ _ _ _ _)
   | (with_reducible exact ih7 _ _ _ _ _ _)
   | (with_reducible exact ih8 _)
   | (with_reducible exact ih9 _ _ _)
   | (with_reducible exact ih10 _ _ _)
   | (with_reducible exact impl_ChangesOf.mono _ _)
   | (with_reducible exact impl_CommonCourse.mono _ _ _)
   | (with_reducible exact impl_CourseLevel.mono _ _ _)
   | (with_reducible exact impl_HigherCourse.mono _ _ _)
   | (with_reducible exact impl_ShiftCourse.mono _ _ _)
   | (with_reducible exact laws_rCourses.mono _ _ _)
   | (with_reducible exact laws_rInts.mono _ _ _)
   | (with_reducible exact spec_ChangesOf.mono _ _)
   | (with_reducible exact spec_CommonCourse.mono _ _ _)
   | (with_reducible exact spec_DrawChangesOf.mono _ _)
   | (with_reducible exact spec_DrawHigherCourse.mono _ _)
   | (with_reducible exact spec_DrawShiftCourse.mono _ _)
   | (with_reducible exact spec_HigherCourse.mono _ _ _)
   | (with_reducible exact spec_ShiftCourse.mono _ _ _)
   | (with_reducible exact LeO.refl _)
   | (with_reducible exact LeO.none _)
   | (with_reducible refine LeO.ite ?_ ?_)
   | (with_reducible refine LeO.bind ?_ (fun _ => ?_))
   | exact ih0 _ _ _ _ _ _ _ _
   | exact ih1 _ _ _ _ _ _ _ _
   | exact ih2 _ _ _ _ _ _ _ _
   | exact ih3 _ _ _ _ _ _ _ _ _
   | exact ih4 _ _ _ _ _ _ _ _ _ _ _ _ _
   | exact ih5 _ _ _ _ _ _ _ _ _ _ _ _
   | exact ih6 _ _ _ _ _ _ _ _ _ _ _
   | exact ih7 _ _ _ _ _ _
   | exact ih8 _
   | exact ih9 _ _ _
   | exact ih10 _ _ _
   | exact impl_ChangesOf.mono _ _
   | exact impl_CommonCourse.mono _ _ _
   | exact impl_CourseLevel.mono _ _ _
   | exact impl_HigherCourse.mono _ _ _
   | exact impl_ShiftCourse.mono _ _ _
   | exact laws_rCourses.mono _ _ _
   | exact laws_rInts.mono _ _ _
   | exact spec_ChangesOf.mono _ _
   | exact spec_CommonCourse.mono _ _ _
   | exact spec_DrawChangesOf.mono _ _
   | exact spec_DrawHigherCourse.mono _ _
   | exact spec_DrawShiftCourse.mono _ _
   | exact spec_HigherCourse.mono _ _ _
   | exact spec_ShiftCourse.mono _ _ _
   | exact LeO.none _
   | refine LeO.ite ?_ ?_
   | refine LeO.bind ?_ (fun _ => ?_)
  ·intro y0 y1 y2
   unfold laws_FnTwoCourses.l1
   repeat' first
   | (with_reducible exact ih0 _ _ _ _ _ _ _ _)
   | (with_reducible exact ih1 _ _ _ _ _ _ _ _)
   | (with_reducible exact ih2 _ _ _ _ _ _ _ _)
   | (with_reducible exact ih3 _ _ _ _ _ _ _ _ _)
   | (with_reducible exact ih4 _ _ _ _ _ _ _ _ _ _ _ _ _)
   | (with_reducible exact ih5 _ _ _ _ _ _ _ _ _ _ _ _)
   | (with_reducible exact ih6 _ _ _ _ _ _ _ _ _ _ _)
   | (with_reducible exact ih7 _ _ _ _ _ _)
   | (with_reducible exact ih8 _)
   | (with_reducible exact ih9 _ _ _)
   | (with_reducible exact ih10 _ _ _)
   | (with_reducible exact impl_ChangesOf.mono _ _)
   | (with_reducible exact impl_CommonCourse.mono _ _ _)
   | (with_reducible exact impl_CourseLevel.mono _ _ _)
   | (with_reducible exact impl_HigherCourse.mono _ _ _)
   | (with_reducible exact impl_ShiftCourse.mono _ _ _)
   | (with_reducible exact laws_rCourses.mono _ _ _)
   | (with_reducible exact laws_rInts.mono _ _ _)
   | (with_reducible exact spec_ChangesOf.mono _ _)
   | (with_reducible exact spec_CommonCourse.mono _ _ _)
   | (with_reducible exact spec_DrawChangesOf.mono _ _)
   | (with_reducible exact spec_DrawHigherCourse.mono _ _)
   | (with_reducible exact spec_DrawShiftCourse.mono _ _)
   | (with_reducible exact spec_HigherCourse.mono _ _ _)
   | (with_reducible exact spec_ShiftCourse.mono _ _ _)
   | (with_reducible exact LeO.refl _)
   | (with_reducible exact LeO.none _)
   | (with_reducible refine LeO.ite ?_ ?_)
   | (with_reducible refine LeO.bind ?_ (fun _ => ?_))
   | exact ih0 _ _ _ _ _ _ _ _
   | exact ih1 _ _ _ _ _ _ _ _
   | exact ih2 _ _ _ _ _ _ _ _
   | exact ih3 _ _ _ _ _ _ _ _ _
   | exact ih4 _ _ _ _ _ _ _ _ _ _ _ _ _
   | exact ih5 _ _ _ _ _ _ _ _ _ _ _ _
   | exact ih6 _ _ _ _ _ _ _ _ _ _ _
   | exact ih7 _ _ _ _ _ _
   | exact ih8 _
   | exact ih9 _ _ _
   | exact ih10 _ _ _
   | exact impl_ChangesOf.mono _ _
   | exact impl_CommonCourse.mono _ _ _
   | exact impl_CourseLevel.mono _ _ _
   | exact impl_HigherCourse.mono _ _ _
   | exact impl_ShiftCourse.mono _ _ _
   | exact laws_rCourses.mono _ _ _
   | exact laws_rInts.mono _ _ _
   | exact spec_ChangesOf.mono _ _
   | exact spec_CommonCourse.mono _ _ _
   | exact spec_DrawChangesOf.mono _ _
   | exact spec_DrawHigherCourse.mono _ _
   | exact spec_DrawShiftCourse.mono _ _
   | exact spec_HigherCourse.mono _ _ _
   | exact spec_ShiftCourse.mono _ _ _
   | exact LeO.none _
   | refine LeO.ite ?_ ?_
   | refine LeO.bind ?_ (fun _ => ?_)
theorem laws_FnTwoCourses.mono : ∀ a0 k, LeO (laws_FnTwoCourses.f k a0) (laws_FnTwoCourses.f (k + 1) a0) := by
 intro a0 k
 obtain ⟨ih0, ih1, ih2, ih3, ih4, ih5, ih6, ih7, ih8, ih9, ih10⟩ := laws_FnTwoCourses.mono_l k
 unfold laws_FnTwoCourses.f
 repeat' first
  | (with_reducible exact ih0 _ _ _ _ _ _ _ _)
  | (with_reducible exact ih1 _ _ _ _ _ _ _ _)
  | (with_reducible exact ih2 _ _ _ _ _ _ _ _)
  | (with_reducible exact ih3 _ _ _ _ _ _ _ _ _)
  | (with_reducible exact ih4 _ _ _ _ _ _ _ _ _ _ _ _ _)
  | (with_reducible exact ih5 _ _ _ _ _ _ _ _ _ _ _ _)
  | (with_reducible exact ih6 _ _ _ _ _ _ _ _ _ _ _)
  | (with_reducible exact ih7 _ _ _ _ _ _)
  | (with_reducible exact ih8 _)
  | (with_reducible exact ih9 _ _ _)
  | (with_reducible exact ih10 _ _ _)
  | (with_reducible exact impl_ChangesOf.mono _ _)
  | (with_reducible exact impl_CommonCourse.mono _ _ _)
  | (with_reducible exact impl_CourseLevel.mono _ _ _)
  | (with_reducible exact impl_HigherCourse.mono _ _ _)
  | (with_reducible exact impl_ShiftCourse.mono _ _ _)
  | (with_reducible exact laws_rCourses.mono _ _ _)
  | (with_reducible exact laws_rInts.mono _ _ _)
  | (with_reducible exact spec_ChangesOf.mono _ _)
  | (with_reducible exact spec_CommonCourse.mono _ _ _)
  | (with_reducible exact spec_DrawChangesOf.mono _ _)
  | (with_reducible exact spec_DrawHigherCourse.mono _ _)
  | (with_reducible exact spec_DrawShiftCourse.mono _ _)
  | (with_reducible exact spec_HigherCourse.mono _ _ _)
  | (with_reducible exact spec_ShiftCourse.mono _ _ _)
  | (with_reducible exact LeO.refl _)
  | (with_reducible exact LeO.none _)
  | (with_reducible refine LeO.ite ?_ ?_)
  | (with_reducible refine LeO.bind ?_ (fun _ => ?_))
  | exact ih0 _ _ _ _ _ _ _ _
  | exact ih1 _ _ _ _ _ _ _ _
  | exact ih2 _ _ _ _ _ _ _ _
  | exact ih3 _ _ _ _ _ _ _ _ _
  | exact ih4 _ _ _ _ _ _ _ _ _ _ _ _ _
  | exact ih5 _ _ _ _ _ _ _ _ _ _ _ _
  | exact ih6 _ _ _ _ _ _ _ _ _ _ _
  | exact ih7 _ _ _ _ _ _
  | exact ih8 _
  | exact ih9 _ _ _
  | exact ih10 _ _ _
  | exact impl_ChangesOf.mono _ _
  | exact impl_CommonCourse.mono _ _ _
  | exact impl_CourseLevel.mono _ _ _
  | exact impl_HigherCourse.mono _ _ _
  | exact impl_ShiftCourse.mono _ _ _
  | exact laws_rCourses.mono _ _ _
  | exact laws_rInts.mono _ _ _
  | exact spec_ChangesOf.mono _ _
  | exact spec_CommonCourse.mono _ _ _
  | exact spec_DrawChangesOf.mono _ _
  | exact spec_DrawHigherCourse.mono _ _
  | exact spec_DrawShiftCourse.mono _ _
  | exact spec_HigherCourse.mono _ _ _
  | exact spec_ShiftCourse.mono _ _ _
  | exact LeO.none _
  | refine LeO.ite ?_ ?_
  | refine LeO.bind ?_ (fun _ => ?_)
set_option maxHeartbeats 8000000 in
set_option maxRecDepth 100000 in
theorem laws_FnTwoCourses.calls (k : Nat) (A0 : Option Addr) (c0 : Nat) (l0 : List Int) (r : Bool) (w : World) (hr0 : Kd.C (Kd.int .u8) w A0 l0.length l0) (hc0 : l0.length ≤ c0) (h : laws_FnTwoCourses.f k l0 = some r) (hr_ : r = true) :
 Calls Try.prog 3 #[.slice A0 l0.length c0] w fun e w' => e = .returned (.bool r) ∧ Below w.heap.size w w' := by
 have HR0 := Aside0.mk hr0
 have HC0 := Aside0.mk hc0
 clear hr0 hc0
 have HB := Aside0.mk (Below.refl w.heap.size w)
 have H : ((laws_rBig.f l0).bind fun t449 => (if t449 = true then (some true) else ((spec_DrawHigherCourse.f k l0).bind fun bt450 => ((impl_HigherCourse.f k bt450.1 bt450.2).bind fun bt456 => ((impl_CommonCourse.f k bt450.1 bt450.2).bind fun bt460 => ((spec_HigherCourse.f k bt450.1 bt450.2).bind fun bt464 => (if (bt456.2 != bt464.2) = true then (laws_FnTwoCourses.j0 k l0 bt450.1 bt450.2 bt456.1 bt456.2 bt460.1 bt460.2 true) else ((laws_rCourses.f k bt456.1 bt464.1).bind fun t468 => (laws_FnTwoCourses.j0 k l0 bt450.1 bt450.2 bt456.1 bt456.2 bt460.1 bt460.2 (!t468)))))))))) = some r := h
 clear h
 replace H := Option.bind_eq_some_iff.mp H
 obtain ⟨t449, A20, H⟩ := H
 replace H : (if t449 = true then (some true) else ((spec_DrawHigherCourse.f k l0).bind fun bt450 => ((impl_HigherCourse.f k bt450.1 bt450.2).bind fun bt456 => ((impl_CommonCourse.f k bt450.1 bt450.2).bind fun bt460 => ((spec_HigherCourse.f k bt450.1 bt450.2).bind fun bt464 => (if (bt456.2 != bt464.2) = true then (laws_FnTwoCourses.j0 k l0 bt450.1 bt450.2 bt456.1 bt456.2 bt460.1 bt460.2 true) else ((laws_rCourses.f k bt456.1 bt464.1).bind fun t468 => (laws_FnTwoCourses.j0 k l0 bt450.1 bt450.2 bt456.1 bt456.2 bt460.1 bt460.2 (!t468))))))))) = some r := H
 have A2 := Aside0.mk A20
 clear A20
 by_cases c3 : t449 = true
 ·subst c3
  have H1 : (some true) = some r := by rw [if_pos rfl] at H; exact H
  clear H
  have H := H1
  clear H1
  as_aux_lemma =>
   obtain rfl := Option.some.inj H
   go_enter Try.func3, Try.ntmps3
   go_wp2_with (first | ((with_reducible refine gate_callee (f := 7) rfl ?_); refine goesL_ (some 42) rfl rfl Try.func7 (by kernel_rfl) rfl #[.slice A0 l0.length c0] rfl zlx ?_; (with_reducible refine (laws_rBig.calls _ _ l0 true _ ?side1 ?side2 A2.out).mono ?_); (case side1 => exact zCx HR0.out); (case side2 => exact HC0.out); rintro e w' ⟨rfl, ⟨nd, rfl⟩⟩; refine ⟨_, rfl, ?_⟩))
   go_ret
   exact ⟨by first | rfl | (simp [errW_none, errW_some] <;> rfl) | (simp [*, errW_none, errW_some] <;> rfl), by exact zBx HB.out⟩
 ·replace c3 := Bool.eq_false_iff.mpr c3
  subst c3
  have H1 : ((spec_DrawHigherCourse.f k l0).bind fun bt450 => ((impl_HigherCourse.f k bt450.1 bt450.2).bind fun bt456 => ((impl_CommonCourse.f k bt450.1 bt450.2).bind fun bt460 => ((spec_HigherCourse.f k bt450.1 bt450.2).bind fun bt464 => (if (bt456.2 != bt464.2) = true then (laws_FnTwoCourses.j0 k l0 bt450.1 bt450.2 bt456.1 bt456.2 bt460.1 bt460.2 true) else ((laws_rCourses.f k bt456.1 bt464.1).bind fun t468 => (laws_FnTwoCourses.j0 k l0 bt450.1 bt450.2 bt456.1 bt456.2 bt460.1 bt460.2 (!t468)))))))) = some r := by rw [if_neg (show ¬ (false = true) by decide)] at H; exact H
  clear H
  have H := H1
  clear H1
  replace H := Option.bind_eq_some_iff.mp H
  obtain ⟨⟨t450, t451⟩, A40, H⟩ := H
  replace H : ((impl_HigherCourse.f k t450 t451).bind fun bt456 => ((impl_CommonCourse.f k t450 t451).bind fun bt460 => ((spec_HigherCourse.f k t450 t451).bind fun bt464 => (if (bt456.2 != bt464.2) = true then (laws_FnTwoCourses.j0 k l0 t450 t451 bt456.1 bt456.2 bt460.1 bt460.2 true) else ((laws_rCourses.f k bt456.1 bt464.1).bind fun t468 => (laws_FnTwoCourses.j0 k l0 t450 t451 bt456.1 bt456.2 bt460.1 bt460.2 (!t468))))))) = some r := H
  have A4 := Aside0.mk A40
  clear A40
  replace H := Option.bind_eq_some_iff.mp H
  obtain ⟨⟨t456, t457⟩, A50, H⟩ := H
  replace H : ((impl_CommonCourse.f k t450 t451).bind fun bt460 => ((spec_HigherCourse.f k t450 t451).bind fun bt464 => (if (t457 != bt464.2) = true then (laws_FnTwoCourses.j0 k l0 t450 t451 t456 t457 bt460.1 bt460.2 true) else ((laws_rCourses.f k t456 bt464.1).bind fun t468 => (laws_FnTwoCourses.j0 k l0 t450 t451 t456 t457 bt460.1 bt460.2 (!t468)))))) = some r := H
  have A5 := Aside0.mk A50
  clear A50
  replace H := Option.bind_eq_some_iff.mp H
  obtain ⟨⟨t460, t461⟩, A60, H⟩ := H
  replace H : ((spec_HigherCourse.f k t450 t451).bind fun bt464 => (if (t457 != bt464.2) = true then (laws_FnTwoCourses.j0 k l0 t450 t451 t456 t457 t460 t461 true) else ((laws_rCourses.f k t456 bt464.1).bind fun t468 => (laws_FnTwoCourses.j0 k l0 t450 t451 t456 t457 t460 t461 (!t468))))) = some r := H
  have A6 := Aside0.mk A60
  clear A60
  replace H := Option.bind_eq_some_iff.mp H
  obtain ⟨⟨t464, t465⟩, A70, H⟩ := H
  replace H : (if (t457 != t465) = true then (laws_FnTwoCourses.j0 k l0 t450 t451 t456 t457 t460 t461 true) else ((laws_rCourses.f k t456 t464).bind fun t468 => (laws_FnTwoCourses.j0 k l0 t450 t451 t456 t457 t460 t461 (!t468)))) = some r := H
  have A7 := Aside0.mk A70
  clear A70
  have HC8 := Aside0.mk H
  clear H
  go_enter Try.func3, Try.ntmps3
  go_upto_region 7 with (first | ((with_reducible refine gate_callee (f := 7) rfl ?_); refine goesL_ (some 42) rfl rfl Try.func7 (by kernel_rfl) rfl #[.slice A0 l0.length c0] rfl zlx ?_; (with_reducible refine (laws_rBig.calls _ _ l0 false _ ?side1 ?side2 A2.out).mono ?_); (case side1 => exact zCx HR0.out); (case side2 => exact HC0.out); rintro e w' ⟨rfl, ⟨nd, rfl⟩⟩; refine ⟨_, rfl, ?_⟩) | ((with_reducible refine gate_callee (f := 8) rfl ?_); refine goesL_ (some 45) rfl rfl Try.func8 (by kernel_rfl) rfl #[.slice A0 l0.length c0] rfl zlx ?_; (with_reducible refine (spec_DrawHigherCourse.calls k _ _ l0 t450 t451 _ ?side1 ?side2 A4.out).mono ?_); (case side1 => exact zCx HR0.out); (case side2 => exact HC0.out); rintro e w9 ⟨v452, v454, rfl, ho0, ho1, hb⟩; refine ⟨_, rfl, ?_⟩; have n0_ := Aside0.mk (Kd.R_lower ho0 (below_size (zBx HB.out))); have n1_ := Aside0.mk (Kd.R_lower ho1 (below_size (zBx HB.out))); have n2_ := Aside0.mk (below_step (zBx HB.out) hb); clear HB; have HO453 := n0_; have HO455 := n1_; have HB := n2_; clear n0_ n1_ n2_; (try clear hb); (try clear hb2); (try clear hk); (try clear hi); (try clear ho0); (try clear ho1); obtain ⟨Ao10, co10, eo10⟩ := Kd.R_slice HO453.out; subst eo10; obtain ⟨Ao11, co11, eo11⟩ := Kd.R_slice HO455.out; subst eo11) | ((with_reducible refine gate_callee (f := 9) rfl ?_); refine goesL_ (some 51) rfl rfl Try.func9 (by kernel_rfl) rfl #[.slice Ao10 t450.length co10, .slice Ao11 t451.length co11] rfl zlx ?_; (with_reducible refine (impl_HigherCourse.calls k _ _ t450 _ _ t451 t456 t457 _ ?side1 ?side2 ?side3 ?side4 A5.out).mono ?_); (case side1 => repeat (first | exact (Kd.R_reads' HO453.out).2.2 | (with_reducible refine Kd.C_alloc ?_ _) | (with_reducible refine Kd.C_drewN ?_ _) | (with_reducible refine Kd.C_drew ?_))); (case side2 => exact (Kd.R_reads' HO453.out).2.1); (case side3 => repeat (first | exact (Kd.R_reads' HO455.out).2.2 | (with_reducible refine Kd.C_alloc ?_ _) | (with_reducible refine Kd.C_drewN ?_ _) | (with_reducible refine Kd.C_drew ?_))); (case side4 => exact (Kd.R_reads' HO455.out).2.1); rintro e w12 ⟨v458, rfl, ho0, hb⟩; refine ⟨_, rfl, ?_⟩; have n0_ := Aside0.mk (Kd.R_elder' (zRx HO453.out) (Kd.R_base ho0) hb); have n1_ := Aside0.mk (Kd.R_elder' (zRx HO455.out) (Kd.R_base ho0) hb); have n2_ := Aside0.mk (Kd.R_lower (Kd.R_new' (Kd.R_new' ho0 (Kd.R_lt (zRx HO453.out))) (Kd.R_lt (zRx HO455.out))) (below_size (zBx HB.out))); have n3_ := Aside0.mk (below_step (zBx HB.out) hb); clear HO453; clear HO455; clear HB; have HO453 := n0_; have HO455 := n1_; have HO459 := n2_; have HB := n3_; clear n0_ n1_ n2_ n3_; (try clear hb); (try clear hb2); (try clear hk); (try clear hi); (try clear ho0)) | ((with_reducible refine gate_callee (f := 10) rfl ?_); refine goesL_ (some 57) rfl rfl Try.func10 (by kernel_rfl) rfl #[.slice Ao10 t450.length co10, .slice Ao11 t451.length co11] rfl zlx ?_; (with_reducible refine (impl_CommonCourse.calls k _ _ t450 _ _ t451 t460 t461 _ ?side1 ?side2 ?side3 ?side4 A6.out).mono ?_); (case side1 => repeat (first | exact (Kd.R_reads' HO453.out).2.2 | (with_reducible refine Kd.C_alloc ?_ _) | (with_reducible refine Kd.C_drewN ?_ _) | (with_reducible refine Kd.C_drew ?_))); (case side2 => exact (Kd.R_reads' HO453.out).2.1); (case side3 => repeat (first | exact (Kd.R_reads' HO455.out).2.2 | (with_reducible refine Kd.C_alloc ?_ _) | (with_reducible refine Kd.C_drewN ?_ _) | (with_reducible refine Kd.C_drew ?_))); (case side4 => exact (Kd.R_reads' HO455.out).2.1); rintro e w13 ⟨v462, rfl, ho0, hb⟩; refine ⟨_, rfl, ?_⟩; have n0_ := Aside0.mk (Kd.R_elder' (zRx HO453.out) (Kd.R_base ho0) hb); have n1_ := Aside0.mk (Kd.R_elder' (zRx HO455.out) (Kd.R_base ho0) hb); have n2_ := Aside0.mk (Kd.R_elder' (zRx HO459.out) (Kd.R_base ho0) hb); have n3_ := Aside0.mk (Kd.R_lower (Kd.R_new' (Kd.R_new' (Kd.R_new' ho0 (Kd.R_lt (zRx HO453.out))) (Kd.R_lt (zRx HO455.out))) (Kd.R_lt (zRx HO459.out))) (below_size (zBx HB.out))); have n4_ := Aside0.mk (below_step (zBx HB.out) hb); clear HO453; clear HO455; clear HO459; clear HB; have HO453 := n0_; have HO455 := n1_; have HO459 := n2_; have HO463 := n3_; have HB := n4_; clear n0_ n1_ n2_ n3_ n4_; (try clear hb); (try clear hb2); (try clear hk); (try clear hi); (try clear ho0)) | ((with_reducible refine gate_callee (f := 11) rfl ?_); refine goesL_ (some 63) rfl rfl Try.func11 (by kernel_rfl) rfl #[.slice Ao10 t450.length co10, .slice Ao11 t451.length co11] rfl zlx ?_; (with_reducible refine (spec_HigherCourse.calls k _ _ t450 _ _ t451 t464 t465 _ ?side1 ?side2 ?side3 ?side4 A7.out).mono ?_); (case side1 => repeat (first | exact (Kd.R_reads' HO453.out).2.2 | (with_reducible refine Kd.C_alloc ?_ _) | (with_reducible refine Kd.C_drewN ?_ _) | (with_reducible refine Kd.C_drew ?_))); (case side2 => exact (Kd.R_reads' HO453.out).2.1); (case side3 => repeat (first | exact (Kd.R_reads' HO455.out).2.2 | (with_reducible refine Kd.C_alloc ?_ _) | (with_reducible refine Kd.C_drewN ?_ _) | (with_reducible refine Kd.C_drew ?_))); (case side4 => exact (Kd.R_reads' HO455.out).2.1); rintro e w14 ⟨v466, rfl, ho0, hb⟩; refine ⟨_, rfl, ?_⟩; have n0_ := Aside0.mk (Kd.R_elder' (zRx HO453.out) (Kd.R_base ho0) hb); have n1_ := Aside0.mk (Kd.R_elder' (zRx HO455.out) (Kd.R_base ho0) hb); have n2_ := Aside0.mk (Kd.R_elder' (zRx HO459.out) (Kd.R_base ho0) hb); have n3_ := Aside0.mk (Kd.R_elder' (zRx HO463.out) (Kd.R_base ho0) hb); have n4_ := Aside0.mk (Kd.R_lower (Kd.R_new' (Kd.R_new' (Kd.R_new' (Kd.R_new' ho0 (Kd.R_lt (zRx HO453.out))) (Kd.R_lt (zRx HO455.out))) (Kd.R_lt (zRx HO459.out))) (Kd.R_lt (zRx HO463.out))) (below_size (zBx HB.out))); have n5_ := Aside0.mk (below_step (zBx HB.out) hb); clear HO453; clear HO455; clear HO459; clear HO463; clear HB; have HO453 := n0_; have HO455 := n1_; have HO459 := n2_; have HO463 := n3_; have HO467 := n4_; have HB := n5_; clear n0_ n1_ n2_ n3_ n4_ n5_; (try clear hb); (try clear hb2); (try clear hk); (try clear hi); (try clear ho0)))
  (try simp only [Act.put, List.setIfInBounds_toArray, List.set_cons_zero, List.set_cons_succ])
  go_cut [74] (fun v74 wc => ∃ (kq : Nat) (x74_7 : Bool), v74 = .bool x74_7 ∧ Aside0 (laws_FnTwoCourses.j0 kq l0 t450 t451 t456 t457 t460 t461 x74_7 = some r) ∧ Aside0 (kq ≤ k) ∧ Aside0 (Kd.R k41 41 wc w.heap.size (fun k_ => some k_ ≠ ((.slice Ao11 t451.length co11) : Value).ownBlock ∧ some k_ ≠ (v458 : Value).ownBlock ∧ some k_ ≠ (v462 : Value).ownBlock) (.slice Ao10 t450.length co10) t450) ∧ Aside0 (Kd.R k41 41 wc w.heap.size (fun k_ => some k_ ≠ ((.slice Ao10 t450.length co10) : Value).ownBlock ∧ some k_ ≠ (v458 : Value).ownBlock ∧ some k_ ≠ (v462 : Value).ownBlock) (.slice Ao11 t451.length co11) t451) ∧ Aside0 (Kd.R k41 41 wc w.heap.size (fun k_ => some k_ ≠ ((.slice Ao10 t450.length co10) : Value).ownBlock ∧ some k_ ≠ ((.slice Ao11 t451.length co11) : Value).ownBlock ∧ some k_ ≠ (v462 : Value).ownBlock) v458 t456) ∧ Aside0 (Kd.R k41 41 wc w.heap.size (fun k_ => some k_ ≠ ((.slice Ao10 t450.length co10) : Value).ownBlock ∧ some k_ ≠ ((.slice Ao11 t451.length co11) : Value).ownBlock ∧ some k_ ≠ (v458 : Value).ownBlock) v462 t460) ∧ Aside0 (Below w.heap.size w wc))
  case first =>
   as_aux_lemma =>
   have H := HC8.out
   clear HC8
   by_cases c15 : (t457 != t465) = true
   ·rw [if_pos c15] at H
    have c15b0 : (t457 != t465) = true := c15
    (try (have c15b1 : decide (t457 = t465) = false := by simpa using c15))
    (try (have c15b2 : (t457 == t465) = false := by simpa using c15))
    (try (have c15b3 : ¬ (t457 = t465) := by simpa using c15))
    clear c15
    (first | rw [c15b0] | (simp only [i64_w, i32_w]; rw [c15b0]) | skip)
    as_aux_lemma =>
     have H' := Aside0.mk H
     clear H
     go_wp2
     go_meet
     case rel => exact ⟨_, (true), zrx, H', ⟨by first | omega | exact Nat.le_refl _⟩, ⟨by (with_reducible repeat (first | apply Kd.R_alloc | apply Kd.R_drewN | apply Kd.R_drew)); exact Kd.R_mono HO453.out (fun _ hk => ⟨hk.1.1.1, ⟨hk.1.1.2, hk.1.2⟩⟩)⟩, ⟨by (with_reducible repeat (first | apply Kd.R_alloc | apply Kd.R_drewN | apply Kd.R_drew)); exact Kd.R_mono HO455.out (fun _ hk => ⟨hk.1.1.1, ⟨hk.1.1.2, hk.1.2⟩⟩)⟩, ⟨by (with_reducible repeat (first | apply Kd.R_alloc | apply Kd.R_drewN | apply Kd.R_drew)); exact Kd.R_mono HO459.out (fun _ hk => ⟨hk.1.1.1.2, ⟨hk.1.1.2, hk.1.2⟩⟩)⟩, ⟨by (with_reducible repeat (first | apply Kd.R_alloc | apply Kd.R_drewN | apply Kd.R_drew)); exact Kd.R_mono HO463.out (fun _ hk => ⟨hk.1.1.1.2, ⟨hk.1.1.2, hk.1.2⟩⟩)⟩, ⟨by exact zBx HB.out⟩⟩
   ·rw [if_neg c15] at H
    have c15b0 : (t457 != t465) = false := by simpa using c15
    (try (have c15b1 : decide (t457 = t465) = true := by simpa using c15))
    (try (have c15b2 : (t457 == t465) = true := by simpa using c15))
    clear c15
    (first | rw [c15b0] | (simp only [i64_w, i32_w]; rw [c15b0]) | skip)
    replace H := Option.bind_eq_some_iff.mp H
    obtain ⟨t468, A160, H⟩ := H
    replace H : (laws_FnTwoCourses.j0 k l0 t450 t451 t456 t457 t460 t461 (!t468)) = some r := H
    have A16 := Aside0.mk A160
    clear A160
    as_aux_lemma =>
     have H' := Aside0.mk H
     clear H
     obtain ⟨Ao17, co17, eo17⟩ := Kd.R_slice HO459.out
     subst eo17
     obtain ⟨Ao18, co18, eo18⟩ := Kd.R_slice HO467.out
     subst eo18
     go_wp2_with (first | (go_at_call 12; (with_reducible refine (laws_rCourses.calls k _ _ t456 _ _ t464 t468 _ ?side1 ?side2 ?side3 ?side4 A16.out).mono ?_); (case side1 => repeat (first | exact (Kd.R_reads' HO459.out).2.2 | (with_reducible refine Kd.C_alloc ?_ _) | (with_reducible refine Kd.C_drewN ?_ _) | (with_reducible refine Kd.C_drew ?_))); (case side2 => exact (Kd.R_reads' HO459.out).2.1); (case side3 => repeat (first | exact (Kd.R_reads' HO467.out).2.2 | (with_reducible refine Kd.C_alloc ?_ _) | (with_reducible refine Kd.C_drewN ?_ _) | (with_reducible refine Kd.C_drew ?_))); (case side4 => exact (Kd.R_reads' HO467.out).2.1); rintro e w' ⟨rfl, ⟨nd, rfl⟩⟩))
     go_meet
     case rel => exact ⟨_, (!t468), zrx, H', ⟨by first | omega | exact Nat.le_refl _⟩, ⟨by (with_reducible repeat (first | apply Kd.R_alloc | apply Kd.R_drewN | apply Kd.R_drew)); exact Kd.R_mono HO453.out (fun _ hk => ⟨hk.1.1.1, ⟨hk.1.1.2, hk.1.2⟩⟩)⟩, ⟨by (with_reducible repeat (first | apply Kd.R_alloc | apply Kd.R_drewN | apply Kd.R_drew)); exact Kd.R_mono HO455.out (fun _ hk => ⟨hk.1.1.1, ⟨hk.1.1.2, hk.1.2⟩⟩)⟩, ⟨by (with_reducible repeat (first | apply Kd.R_alloc | apply Kd.R_drewN | apply Kd.R_drew)); exact Kd.R_mono HO459.out (fun _ hk => ⟨hk.1.1.1.2, ⟨hk.1.1.2, hk.1.2⟩⟩)⟩, ⟨by (with_reducible repeat (first | apply Kd.R_alloc | apply Kd.R_drewN | apply Kd.R_drew)); exact Kd.R_mono HO463.out (fun _ hk => ⟨hk.1.1.1.2, ⟨hk.1.1.2, hk.1.2⟩⟩)⟩, ⟨by exact zBx HB.out⟩⟩
  case rest =>
   as_aux_lemma =>
   clear HC8
   try clear c1
   try clear p2
   try clear c3
   try clear c7
   try clear c8
   try clear c9
   try clear c10
   try clear c11
   try clear c15
   try clear c15b0
   try clear c15b1
   try clear c15b2
   obtain ⟨kq, x74_7, rfl, HA, HJ7, HO_3, HO_4, HO_5, HO_7, HB⟩ := hcut
   cases kq with
   | zero => exact absurd HA.out (by simp [laws_FnTwoCourses.j0])
   | succ kj7 =>
    have H := HA.out
    clear HA
    simp only [laws_FnTwoCourses.j0] at H
    by_cases c19 : x74_7 = true
    ·subst c19
     have H1 : (some false) = some r := by rw [if_pos rfl] at H; exact H
     clear H
     have H := H1
     clear H1
     as_aux_lemma =>
      exact absurd (Option.some.inj H) (by rw [hr_]; decide)
    ·replace c19 := Bool.eq_false_iff.mpr c19
     subst c19
     have H1 : ((spec_CommonCourse.f kj7 t450 t451).bind fun bt469 => (if (t461 != bt469.2) = true then (laws_FnTwoCourses.j1 kj7 l0 t450 t451 t456 t457 t460 t461 true) else ((laws_rCourses.f kj7 t460 bt469.1).bind fun t473 => (laws_FnTwoCourses.j1 kj7 l0 t450 t451 t456 t457 t460 t461 (!t473))))) = some r := by rw [if_neg (show ¬ (false = true) by decide)] at H; exact H
     clear H
     have H := H1
     clear H1
     replace H := Option.bind_eq_some_iff.mp H
     obtain ⟨⟨t469, t470⟩, A200, H⟩ := H
     replace H : (if (t461 != t470) = true then (laws_FnTwoCourses.j1 kj7 l0 t450 t451 t456 t457 t460 t461 true) else ((laws_rCourses.f kj7 t460 t469).bind fun t473 => (laws_FnTwoCourses.j1 kj7 l0 t450 t451 t456 t457 t460 t461 (!t473)))) = some r := H
     have A20 := Aside0.mk A200
     clear A200
     have HC21 := Aside0.mk H
     clear H
     go_upto_region 10 with (first | ((with_reducible refine gate_callee (f := 13) rfl ?_); refine goesL_ (some 78) rfl rfl Try.func13 (by kernel_rfl) rfl #[.slice Ao10 t450.length co10, .slice Ao11 t451.length co11] rfl zlx ?_; (with_reducible refine (spec_CommonCourse.calls kj7 _ _ t450 _ _ t451 t469 t470 _ ?side1 ?side2 ?side3 ?side4 A20.out).mono ?_); (case side1 => repeat (first | exact (Kd.R_reads' HO_3.out).2.2 | (with_reducible refine Kd.C_alloc ?_ _) | (with_reducible refine Kd.C_drewN ?_ _) | (with_reducible refine Kd.C_drew ?_))); (case side2 => exact (Kd.R_reads' HO_3.out).2.1); (case side3 => repeat (first | exact (Kd.R_reads' HO_4.out).2.2 | (with_reducible refine Kd.C_alloc ?_ _) | (with_reducible refine Kd.C_drewN ?_ _) | (with_reducible refine Kd.C_drew ?_))); (case side4 => exact (Kd.R_reads' HO_4.out).2.1); rintro e w22 ⟨v471, rfl, ho0, hb⟩; refine ⟨_, rfl, ?_⟩; have n0_ := Aside0.mk (Kd.R_elder' (zRx HO_3.out) (Kd.R_base ho0) hb); have n1_ := Aside0.mk (Kd.R_elder' (zRx HO_4.out) (Kd.R_base ho0) hb); have n2_ := Aside0.mk (Kd.R_elder' (zRx HO_5.out) (Kd.R_base ho0) hb); have n3_ := Aside0.mk (Kd.R_elder' (zRx HO_7.out) (Kd.R_base ho0) hb); have n4_ := Aside0.mk (Kd.R_lower (Kd.R_new' (Kd.R_new' (Kd.R_new' (Kd.R_new' ho0 (Kd.R_lt (zRx HO_3.out))) (Kd.R_lt (zRx HO_4.out))) (Kd.R_lt (zRx HO_5.out))) (Kd.R_lt (zRx HO_7.out))) (below_size (zBx HB.out))); have n5_ := Aside0.mk (below_step (zBx HB.out) hb); clear HO_3; clear HO_4; clear HO_5; clear HO_7; clear HB; have HO_3 := n0_; have HO_4 := n1_; have HO_5 := n2_; have HO_7 := n3_; have HO472 := n4_; have HB := n5_; clear n0_ n1_ n2_ n3_ n4_ n5_; (try clear hb); (try clear hb2); (try clear hk); (try clear hi); (try clear ho0)))
     (try simp only [Act.put, List.setIfInBounds_toArray, List.set_cons_zero, List.set_cons_succ])
     go_cut [89] (fun v89 wc => ∃ (kq : Nat) (x89_20 : Bool), v89 = .bool x89_20 ∧ Aside0 (laws_FnTwoCourses.j1 kq l0 t450 t451 t456 t457 t460 t461 x89_20 = some r) ∧ Aside0 (kq ≤ kj7) ∧ Aside0 (Kd.R k41 41 wc w.heap.size (fun k_ => some k_ ≠ ((.slice Ao11 t451.length co11) : Value).ownBlock ∧ some k_ ≠ (v458 : Value).ownBlock ∧ some k_ ≠ (v462 : Value).ownBlock) (.slice Ao10 t450.length co10) t450) ∧ Aside0 (Kd.R k41 41 wc w.heap.size (fun k_ => some k_ ≠ ((.slice Ao10 t450.length co10) : Value).ownBlock ∧ some k_ ≠ (v458 : Value).ownBlock ∧ some k_ ≠ (v462 : Value).ownBlock) (.slice Ao11 t451.length co11) t451) ∧ Aside0 (Kd.R k41 41 wc w.heap.size (fun k_ => some k_ ≠ ((.slice Ao10 t450.length co10) : Value).ownBlock ∧ some k_ ≠ ((.slice Ao11 t451.length co11) : Value).ownBlock ∧ some k_ ≠ (v462 : Value).ownBlock) v458 t456) ∧ Aside0 (Kd.R k41 41 wc w.heap.size (fun k_ => some k_ ≠ ((.slice Ao10 t450.length co10) : Value).ownBlock ∧ some k_ ≠ ((.slice Ao11 t451.length co11) : Value).ownBlock ∧ some k_ ≠ (v458 : Value).ownBlock) v462 t460) ∧ Aside0 (Below w.heap.size w wc))
     case first =>
      as_aux_lemma =>
      have H := HC21.out
      clear HC21
      by_cases c23 : (t461 != t470) = true
      ·rw [if_pos c23] at H
       have c23b0 : (t461 != t470) = true := c23
       (try (have c23b1 : decide (t461 = t470) = false := by simpa using c23))
       (try (have c23b2 : (t461 == t470) = false := by simpa using c23))
       (try (have c23b3 : ¬ (t461 = t470) := by simpa using c23))
       clear c23
       (first | rw [c23b0] | (simp only [i64_w, i32_w]; rw [c23b0]) | skip)
       as_aux_lemma =>
        have H' := Aside0.mk H
        clear H
        go_wp2
        go_meet
        case rel => exact ⟨_, (true), zrx, H', ⟨by have := HJ7.out; first | omega | exact Nat.le_refl _⟩, ⟨by (with_reducible repeat (first | apply Kd.R_alloc | apply Kd.R_drewN | apply Kd.R_drew)); exact Kd.R_mono HO_3.out (fun _ hk => ⟨hk.1.1, ⟨hk.1.2.1, hk.1.2.2⟩⟩)⟩, ⟨by (with_reducible repeat (first | apply Kd.R_alloc | apply Kd.R_drewN | apply Kd.R_drew)); exact Kd.R_mono HO_4.out (fun _ hk => ⟨hk.1.1, ⟨hk.1.2.1, hk.1.2.2⟩⟩)⟩, ⟨by (with_reducible repeat (first | apply Kd.R_alloc | apply Kd.R_drewN | apply Kd.R_drew)); exact Kd.R_mono HO_5.out (fun _ hk => ⟨hk.1.1, ⟨hk.1.2.1, hk.1.2.2⟩⟩)⟩, ⟨by (with_reducible repeat (first | apply Kd.R_alloc | apply Kd.R_drewN | apply Kd.R_drew)); exact Kd.R_mono HO_7.out (fun _ hk => ⟨hk.1.1, ⟨hk.1.2.1, hk.1.2.2⟩⟩)⟩, ⟨by exact zBx HB.out⟩⟩
      ·rw [if_neg c23] at H
       have c23b0 : (t461 != t470) = false := by simpa using c23
       (try (have c23b1 : decide (t461 = t470) = true := by simpa using c23))
       (try (have c23b2 : (t461 == t470) = true := by simpa using c23))
       clear c23
       (first | rw [c23b0] | (simp only [i64_w, i32_w]; rw [c23b0]) | skip)
       replace H := Option.bind_eq_some_iff.mp H
       obtain ⟨t473, A240, H⟩ := H
       replace H : (laws_FnTwoCourses.j1 kj7 l0 t450 t451 t456 t457 t460 t461 (!t473)) = some r := H
       have A24 := Aside0.mk A240
       clear A240
       as_aux_lemma =>
        have H' := Aside0.mk H
        clear H
        obtain ⟨Ao25, co25, eo25⟩ := Kd.R_slice HO_7.out
        subst eo25
        obtain ⟨Ao26, co26, eo26⟩ := Kd.R_slice HO472.out
        subst eo26
        go_wp2_with (first | (go_at_call 12; (with_reducible refine (laws_rCourses.calls kj7 _ _ t460 _ _ t469 t473 _ ?side1 ?side2 ?side3 ?side4 A24.out).mono ?_); (case side1 => repeat (first | exact (Kd.R_reads' HO_7.out).2.2 | (with_reducible refine Kd.C_alloc ?_ _) | (with_reducible refine Kd.C_drewN ?_ _) | (with_reducible refine Kd.C_drew ?_))); (case side2 => exact (Kd.R_reads' HO_7.out).2.1); (case side3 => repeat (first | exact (Kd.R_reads' HO472.out).2.2 | (with_reducible refine Kd.C_alloc ?_ _) | (with_reducible refine Kd.C_drewN ?_ _) | (with_reducible refine Kd.C_drew ?_))); (case side4 => exact (Kd.R_reads' HO472.out).2.1); rintro e w' ⟨rfl, ⟨nd, rfl⟩⟩))
        go_meet
        case rel => exact ⟨_, (!t473), zrx, H', ⟨by have := HJ7.out; first | omega | exact Nat.le_refl _⟩, ⟨by (with_reducible repeat (first | apply Kd.R_alloc | apply Kd.R_drewN | apply Kd.R_drew)); exact Kd.R_mono HO_3.out (fun _ hk => ⟨hk.1.1, ⟨hk.1.2.1, hk.1.2.2⟩⟩)⟩, ⟨by (with_reducible repeat (first | apply Kd.R_alloc | apply Kd.R_drewN | apply Kd.R_drew)); exact Kd.R_mono HO_4.out (fun _ hk => ⟨hk.1.1, ⟨hk.1.2.1, hk.1.2.2⟩⟩)⟩, ⟨by (with_reducible repeat (first | apply Kd.R_alloc | apply Kd.R_drewN | apply Kd.R_drew)); exact Kd.R_mono HO_5.out (fun _ hk => ⟨hk.1.1, ⟨hk.1.2.1, hk.1.2.2⟩⟩)⟩, ⟨by (with_reducible repeat (first | apply Kd.R_alloc | apply Kd.R_drewN | apply Kd.R_drew)); exact Kd.R_mono HO_7.out (fun _ hk => ⟨hk.1.1, ⟨hk.1.2.1, hk.1.2.2⟩⟩)⟩, ⟨by exact zBx HB.out⟩⟩
     case rest =>
      as_aux_lemma =>
      clear HC21
      try clear c1
      try clear c2
      try clear p2
      try clear c3
      try clear c7
      try clear c8
      try clear c9
      try clear c10
      try clear c11
      try clear c13
      try clear c15
      try clear c15b0
      try clear c15b1
      try clear c15b2
      try clear c19
      try clear c23
      try clear c23b0
      try clear c23b1
      try clear c23b2
      try clear p2
      obtain ⟨kq, x89_20, rfl, HA, HJ20, HO_3, HO_4, HO_5, HO_7, HB⟩ := hcut
      cases kq with
      | zero => exact absurd HA.out (by simp [laws_FnTwoCourses.j1])
      | succ kj20 =>
       have H := HA.out
       clear HA
       simp only [laws_FnTwoCourses.j1] at H
       by_cases c27 : x89_20 = true
       ·subst c27
        have H1 : (some false) = some r := by rw [if_pos rfl] at H; exact H
        clear H
        have H := H1
        clear H1
        as_aux_lemma =>
         exact absurd (Option.some.inj H) (by rw [hr_]; decide)
       ·replace c27 := Bool.eq_false_iff.mpr c27
        subst c27
        have H1 : (laws_FnTwoCourses.l0 kj20 l0 t450 t451 t456 t457 t460 t461 0) = some r := by rw [if_neg (show ¬ (false = true) by decide)] at H; exact H
        clear H
        have H := H1
        clear H1
        have H' := Aside0.mk H
        clear H
        go_wp2
        go_loopg [13] kj20 (fun kq v13 w' => ∃ (x13_3 : Int), v13 = .int .i64 x13_3 ∧ Aside0 (laws_FnTwoCourses.l0 kq l0 t450 t451 t456 t457 t460 t461 x13_3 = some r) ∧ Aside0 (kq ≤ kj20) ∧ Aside0 (Kd.R k41 41 w' w.heap.size (fun k_ => some k_ ≠ ((.slice Ao11 t451.length co11) : Value).ownBlock ∧ some k_ ≠ (v458 : Value).ownBlock ∧ some k_ ≠ (v462 : Value).ownBlock) (.slice Ao10 t450.length co10) t450) ∧ Aside0 (Kd.R k41 41 w' w.heap.size (fun k_ => some k_ ≠ ((.slice Ao10 t450.length co10) : Value).ownBlock ∧ some k_ ≠ (v458 : Value).ownBlock ∧ some k_ ≠ (v462 : Value).ownBlock) (.slice Ao11 t451.length co11) t451) ∧ Aside0 (Kd.R k41 41 w' w.heap.size (fun k_ => some k_ ≠ ((.slice Ao10 t450.length co10) : Value).ownBlock ∧ some k_ ≠ ((.slice Ao11 t451.length co11) : Value).ownBlock ∧ some k_ ≠ (v462 : Value).ownBlock) v458 t456) ∧ Aside0 (Kd.R k41 41 w' w.heap.size (fun k_ => some k_ ≠ ((.slice Ao10 t450.length co10) : Value).ownBlock ∧ some k_ ≠ ((.slice Ao11 t451.length co11) : Value).ownBlock ∧ some k_ ≠ (v458 : Value).ownBlock) v462 t460) ∧ Aside0 (Below w.heap.size w w'))
        case atStart => exact ⟨(0), zrx, H', ⟨Nat.le_refl _⟩, ⟨by (with_reducible repeat (first | apply Kd.R_alloc | apply Kd.R_drewN | apply Kd.R_drew)); exact HO_3.out⟩, ⟨by (with_reducible repeat (first | apply Kd.R_alloc | apply Kd.R_drewN | apply Kd.R_drew)); exact HO_4.out⟩, ⟨by (with_reducible repeat (first | apply Kd.R_alloc | apply Kd.R_drewN | apply Kd.R_drew)); exact HO_5.out⟩, ⟨by (with_reducible repeat (first | apply Kd.R_alloc | apply Kd.R_drewN | apply Kd.R_drew)); exact HO_7.out⟩, ⟨by exact zBx HB.out⟩⟩
        case round =>
         clear H'
         try clear c1
         try clear c2
         try clear p2
         try clear c3
         try clear c7
         try clear c8
         try clear c9
         try clear c10
         try clear c11
         try clear c13
         try clear c15
         try clear c15b0
         try clear c15b1
         try clear c15b2
         try clear c19
         try clear c23
         try clear c23b0
         try clear c23b1
         try clear c23b2
         try clear c27
         try clear p2
         obtain ⟨x13_3, rfl, HA, HK3, HO_3, HO_4, HO_5, HO_7, HB⟩ := hrel
         cases gk with
         | zero => exact absurd HA.out (by simp [laws_FnTwoCourses.l0])
         | succ k3 =>
          have H := HA.out
          clear HA
          simp only [laws_FnTwoCourses.l0] at H
          have HC28 := Aside0.mk H
          clear H
          go_upto_region 13 with (fail)
          go_cut [97] (fun v97 wc => ∃ (kq : Nat) (x97_27 : Bool), v97 = .bool x97_27 ∧ Aside0 (laws_FnTwoCourses.j3 kq l0 t450 t451 t456 t457 t460 t461 x13_3 x97_27 = some r) ∧ Aside0 (kq ≤ k3) ∧ Aside0 (Kd.R k41 41 wc w.heap.size (fun k_ => some k_ ≠ ((.slice Ao11 t451.length co11) : Value).ownBlock ∧ some k_ ≠ (v458 : Value).ownBlock ∧ some k_ ≠ (v462 : Value).ownBlock) (.slice Ao10 t450.length co10) t450) ∧ Aside0 (Kd.R k41 41 wc w.heap.size (fun k_ => some k_ ≠ ((.slice Ao10 t450.length co10) : Value).ownBlock ∧ some k_ ≠ (v458 : Value).ownBlock ∧ some k_ ≠ (v462 : Value).ownBlock) (.slice Ao11 t451.length co11) t451) ∧ Aside0 (Kd.R k41 41 wc w.heap.size (fun k_ => some k_ ≠ ((.slice Ao10 t450.length co10) : Value).ownBlock ∧ some k_ ≠ ((.slice Ao11 t451.length co11) : Value).ownBlock ∧ some k_ ≠ (v462 : Value).ownBlock) v458 t456) ∧ Aside0 (Kd.R k41 41 wc w.heap.size (fun k_ => some k_ ≠ ((.slice Ao10 t450.length co10) : Value).ownBlock ∧ some k_ ≠ ((.slice Ao11 t451.length co11) : Value).ownBlock ∧ some k_ ≠ (v458 : Value).ownBlock) v462 t460) ∧ Aside0 (Below w.heap.size w wc))
          case first =>
           as_aux_lemma =>
           have H := HC28.out
           clear HC28
           by_cases c29 : x13_3 < 240
           ·rw [if_pos c29] at H
            have c29b0 : decide (x13_3 < 240) = true := decide_eq_true c29
            clear c29
            (first | rw [c29b0] | (simp only [i64_w, i32_w]; rw [c29b0]) | skip)
            by_cases c30 : t457 = true
            ·subst c30
             have H1 : (laws_FnTwoCourses.j3 k3 l0 t450 t451 t456 true t460 t461 x13_3 true) = some r := by rw [if_pos rfl] at H; exact H
             clear H
             have H := H1
             clear H1
             as_aux_lemma =>
              have H' := Aside0.mk H
              clear H
              go_wp2
              go_meet
              case rel => exact ⟨_, (true), zrx, H', ⟨by have := HJ7.out; have := HJ20.out; have := HK3.out; first | omega | exact Nat.le_refl _⟩, ⟨by (with_reducible repeat (first | apply Kd.R_alloc | apply Kd.R_drewN | apply Kd.R_drew)); exact HO_3.out⟩, ⟨by (with_reducible repeat (first | apply Kd.R_alloc | apply Kd.R_drewN | apply Kd.R_drew)); exact HO_4.out⟩, ⟨by (with_reducible repeat (first | apply Kd.R_alloc | apply Kd.R_drewN | apply Kd.R_drew)); exact HO_5.out⟩, ⟨by (with_reducible repeat (first | apply Kd.R_alloc | apply Kd.R_drewN | apply Kd.R_drew)); exact HO_7.out⟩, ⟨by exact zBx HB.out⟩⟩
            ·replace c30 := Bool.eq_false_iff.mpr c30
             subst c30
             have H1 : (laws_FnTwoCourses.j3 k3 l0 t450 t451 t456 false t460 t461 x13_3 t461) = some r := by rw [if_neg (show ¬ (false = true) by decide)] at H; exact H
             clear H
             have H := H1
             clear H1
             as_aux_lemma =>
              have H' := Aside0.mk H
              clear H
              go_wp2
              go_meet
              case rel => exact ⟨_, (t461), zrx, H', ⟨by have := HJ7.out; have := HJ20.out; have := HK3.out; first | omega | exact Nat.le_refl _⟩, ⟨by (with_reducible repeat (first | apply Kd.R_alloc | apply Kd.R_drewN | apply Kd.R_drew)); exact HO_3.out⟩, ⟨by (with_reducible repeat (first | apply Kd.R_alloc | apply Kd.R_drewN | apply Kd.R_drew)); exact HO_4.out⟩, ⟨by (with_reducible repeat (first | apply Kd.R_alloc | apply Kd.R_drewN | apply Kd.R_drew)); exact HO_5.out⟩, ⟨by (with_reducible repeat (first | apply Kd.R_alloc | apply Kd.R_drewN | apply Kd.R_drew)); exact HO_7.out⟩, ⟨by exact zBx HB.out⟩⟩
           ·rw [if_neg c29] at H
            have c29b0 : decide (x13_3 < 240) = false := decide_eq_false c29
            clear c29
            (first | rw [c29b0] | (simp only [i64_w, i32_w]; rw [c29b0]) | skip)
            as_aux_lemma =>
             have H' := Aside0.mk H
             clear H
             go_wp2
             go_meet
             case rel => exact ⟨_, (false), zrx, H', ⟨by have := HJ7.out; have := HJ20.out; have := HK3.out; first | omega | exact Nat.le_refl _⟩, ⟨by (with_reducible repeat (first | apply Kd.R_alloc | apply Kd.R_drewN | apply Kd.R_drew)); exact HO_3.out⟩, ⟨by (with_reducible repeat (first | apply Kd.R_alloc | apply Kd.R_drewN | apply Kd.R_drew)); exact HO_4.out⟩, ⟨by (with_reducible repeat (first | apply Kd.R_alloc | apply Kd.R_drewN | apply Kd.R_drew)); exact HO_5.out⟩, ⟨by (with_reducible repeat (first | apply Kd.R_alloc | apply Kd.R_drewN | apply Kd.R_drew)); exact HO_7.out⟩, ⟨by exact zBx HB.out⟩⟩
          case rest =>
           as_aux_lemma =>
           clear HC28
           try clear c1
           try clear c2
           try clear p2
           try clear c3
           try clear c7
           try clear c8
           try clear c9
           try clear c10
           try clear c11
           try clear c13
           try clear c15
           try clear c15b0
           try clear c15b1
           try clear c15b2
           try clear c19
           try clear c23
           try clear c23b0
           try clear c23b1
           try clear c23b2
           try clear c27
           try clear c29
           try clear c29b0
           try clear c30
           try clear p2
           obtain ⟨kq, x97_27, rfl, HA, HJ27, HO_3, HO_4, HO_5, HO_7, HB⟩ := hcut
           cases kq with
           | zero => exact absurd HA.out (by simp [laws_FnTwoCourses.j3])
           | succ kj27 =>
            have H := HA.out
            clear HA
            simp only [laws_FnTwoCourses.j3] at H
            by_cases c31 : x97_27 = true
            ·subst c31
             have H1 : ((impl_CourseLevel.f kj27 t450 x13_3).bind fun bt474 => ((impl_CourseLevel.f kj27 t451 x13_3).bind fun bt476 => (if bt476.1 > bt474.1 then (laws_FnTwoCourses.j4 kj27 l0 t450 t451 t456 t457 t460 t461 x13_3 bt474.1 bt474.2 bt476.1 bt476.2 bt476.1) else (laws_FnTwoCourses.j4 kj27 l0 t450 t451 t456 t457 t460 t461 x13_3 bt474.1 bt474.2 bt476.1 bt476.2 bt474.1)))) = some r := by rw [if_pos rfl] at H; exact H
             clear H
             have H := H1
             clear H1
             replace H := Option.bind_eq_some_iff.mp H
             obtain ⟨⟨t474, t475⟩, A320, H⟩ := H
             replace H : ((impl_CourseLevel.f kj27 t451 x13_3).bind fun bt476 => (if bt476.1 > t474 then (laws_FnTwoCourses.j4 kj27 l0 t450 t451 t456 t457 t460 t461 x13_3 t474 t475 bt476.1 bt476.2 bt476.1) else (laws_FnTwoCourses.j4 kj27 l0 t450 t451 t456 t457 t460 t461 x13_3 t474 t475 bt476.1 bt476.2 t474))) = some r := H
             have A32 := Aside0.mk A320
             clear A320
             replace H := Option.bind_eq_some_iff.mp H
             obtain ⟨⟨t476, t477⟩, A330, H⟩ := H
             replace H : (if t476 > t474 then (laws_FnTwoCourses.j4 kj27 l0 t450 t451 t456 t457 t460 t461 x13_3 t474 t475 t476 t477 t476) else (laws_FnTwoCourses.j4 kj27 l0 t450 t451 t456 t457 t460 t461 x13_3 t474 t475 t476 t477 t474)) = some r := H
             have A33 := Aside0.mk A330
             clear A330
             have HC34 := Aside0.mk H
             clear H
             go_upto_if 115 with (first | ((with_reducible refine gate_callee (f := 14) rfl ?_); refine goesL_ (some 103) rfl rfl Try.func14 (by kernel_rfl) rfl #[.slice Ao10 t450.length co10, .int .i64 x13_3] rfl zlx ?_; (with_reducible refine (impl_CourseLevel.calls kj27 _ _ t450 x13_3 t474 t475 _ ?side1 ?side2 A32.out).mono ?_); (case side1 => repeat (first | exact (Kd.R_reads' HO_3.out).2.2 | (with_reducible refine Kd.C_alloc ?_ _) | (with_reducible refine Kd.C_drewN ?_ _) | (with_reducible refine Kd.C_drew ?_))); (case side2 => exact (Kd.R_reads' HO_3.out).2.1); rintro e w35 ⟨rfl, hb⟩; refine ⟨_, rfl, ?_⟩; have n0_ := Aside0.mk (Kd.R_below (zRx HO_3.out) hb); have n1_ := Aside0.mk (Kd.R_below (zRx HO_4.out) hb); have n2_ := Aside0.mk (Kd.R_below (zRx HO_5.out) hb); have n3_ := Aside0.mk (Kd.R_below (zRx HO_7.out) hb); have n4_ := Aside0.mk (below_step (zBx HB.out) hb); clear HO_3; clear HO_4; clear HO_5; clear HO_7; clear HB; have HO_3 := n0_; have HO_4 := n1_; have HO_5 := n2_; have HO_7 := n3_; have HB := n4_; clear n0_ n1_ n2_ n3_ n4_; (try clear hb); (try clear hb2); (try clear hk); (try clear hi)) | ((with_reducible refine gate_callee (f := 14) rfl ?_); refine goesL_ (some 109) rfl rfl Try.func14 (by kernel_rfl) rfl #[.slice Ao11 t451.length co11, .int .i64 x13_3] rfl zlx ?_; (with_reducible refine (impl_CourseLevel.calls kj27 _ _ t451 x13_3 t476 t477 _ ?side1 ?side2 A33.out).mono ?_); (case side1 => repeat (first | exact (Kd.R_reads' HO_4.out).2.2 | (with_reducible refine Kd.C_alloc ?_ _) | (with_reducible refine Kd.C_drewN ?_ _) | (with_reducible refine Kd.C_drew ?_))); (case side2 => exact (Kd.R_reads' HO_4.out).2.1); rintro e w36 ⟨rfl, hb⟩; refine ⟨_, rfl, ?_⟩; have n0_ := Aside0.mk (Kd.R_below (zRx HO_3.out) hb); have n1_ := Aside0.mk (Kd.R_below (zRx HO_4.out) hb); have n2_ := Aside0.mk (Kd.R_below (zRx HO_5.out) hb); have n3_ := Aside0.mk (Kd.R_below (zRx HO_7.out) hb); have n4_ := Aside0.mk (below_step (zBx HB.out) hb); clear HO_3; clear HO_4; clear HO_5; clear HO_7; clear HB; have HO_3 := n0_; have HO_4 := n1_; have HO_5 := n2_; have HO_7 := n3_; have HB := n4_; clear n0_ n1_ n2_ n3_ n4_; (try clear hb); (try clear hb2); (try clear hk); (try clear hi)))
             (try simp only [Act.put, List.setIfInBounds_toArray, List.set_cons_zero, List.set_cons_succ])
             go_cut [18] (fun v18 wc => ∃ (kq : Nat) (x18_33 : Int), v18 = .int .i64 x18_33 ∧ Aside0 (laws_FnTwoCourses.j4 kq l0 t450 t451 t456 t457 t460 t461 x13_3 t474 t475 t476 t477 x18_33 = some r) ∧ Aside0 (kq ≤ kj27) ∧ Aside0 (Kd.R k41 41 wc w.heap.size (fun k_ => some k_ ≠ ((.slice Ao11 t451.length co11) : Value).ownBlock ∧ some k_ ≠ (v458 : Value).ownBlock ∧ some k_ ≠ (v462 : Value).ownBlock) (.slice Ao10 t450.length co10) t450) ∧ Aside0 (Kd.R k41 41 wc w.heap.size (fun k_ => some k_ ≠ ((.slice Ao10 t450.length co10) : Value).ownBlock ∧ some k_ ≠ (v458 : Value).ownBlock ∧ some k_ ≠ (v462 : Value).ownBlock) (.slice Ao11 t451.length co11) t451) ∧ Aside0 (Kd.R k41 41 wc w.heap.size (fun k_ => some k_ ≠ ((.slice Ao10 t450.length co10) : Value).ownBlock ∧ some k_ ≠ ((.slice Ao11 t451.length co11) : Value).ownBlock ∧ some k_ ≠ (v462 : Value).ownBlock) v458 t456) ∧ Aside0 (Kd.R k41 41 wc w.heap.size (fun k_ => some k_ ≠ ((.slice Ao10 t450.length co10) : Value).ownBlock ∧ some k_ ≠ ((.slice Ao11 t451.length co11) : Value).ownBlock ∧ some k_ ≠ (v458 : Value).ownBlock) v462 t460) ∧ Aside0 (Below w.heap.size w wc))
             case first =>
              as_aux_lemma =>
              have H := HC34.out
              clear HC34
              by_cases c37 : t476 > t474
              ·rw [if_pos c37] at H
               have c37b0 : decide (t474 < t476) = true := decide_eq_true c37
               clear c37
               (first | rw [c37b0] | (simp only [i64_w, i32_w]; rw [c37b0]) | skip)
               as_aux_lemma =>
                have H' := Aside0.mk H
                clear H
                go_wp2
                go_meet
                case rel => exact ⟨_, (t476), zrx, H', ⟨by have := HJ7.out; have := HJ20.out; have := HK3.out; have := HJ27.out; first | omega | exact Nat.le_refl _⟩, ⟨by (with_reducible repeat (first | apply Kd.R_alloc | apply Kd.R_drewN | apply Kd.R_drew)); exact HO_3.out⟩, ⟨by (with_reducible repeat (first | apply Kd.R_alloc | apply Kd.R_drewN | apply Kd.R_drew)); exact HO_4.out⟩, ⟨by (with_reducible repeat (first | apply Kd.R_alloc | apply Kd.R_drewN | apply Kd.R_drew)); exact HO_5.out⟩, ⟨by (with_reducible repeat (first | apply Kd.R_alloc | apply Kd.R_drewN | apply Kd.R_drew)); exact HO_7.out⟩, ⟨by exact zBx HB.out⟩⟩
              ·rw [if_neg c37] at H
               have c37b0 : decide (t474 < t476) = false := decide_eq_false c37
               clear c37
               (first | rw [c37b0] | (simp only [i64_w, i32_w]; rw [c37b0]) | skip)
               as_aux_lemma =>
                have H' := Aside0.mk H
                clear H
                go_wp2
                go_meet
                case rel => exact ⟨_, (t474), zrx, H', ⟨by have := HJ7.out; have := HJ20.out; have := HK3.out; have := HJ27.out; first | omega | exact Nat.le_refl _⟩, ⟨by (with_reducible repeat (first | apply Kd.R_alloc | apply Kd.R_drewN | apply Kd.R_drew)); exact HO_3.out⟩, ⟨by (with_reducible repeat (first | apply Kd.R_alloc | apply Kd.R_drewN | apply Kd.R_drew)); exact HO_4.out⟩, ⟨by (with_reducible repeat (first | apply Kd.R_alloc | apply Kd.R_drewN | apply Kd.R_drew)); exact HO_5.out⟩, ⟨by (with_reducible repeat (first | apply Kd.R_alloc | apply Kd.R_drewN | apply Kd.R_drew)); exact HO_7.out⟩, ⟨by exact zBx HB.out⟩⟩
             case rest =>
              as_aux_lemma =>
              clear HC34
              try clear c1
              try clear c2
              try clear p2
              try clear c3
              try clear c7
              try clear c8
              try clear c9
              try clear c10
              try clear c11
              try clear c13
              try clear c14
              try clear c15
              try clear c15b0
              try clear c15b1
              try clear c15b2
              try clear c19
              try clear c23
              try clear c23b0
              try clear c23b1
              try clear c23b2
              try clear c27
              try clear c29
              try clear c29b0
              try clear c30
              try clear c31
              try clear c37
              try clear c37b0
              try clear p2
              obtain ⟨kq, x18_33, rfl, HA, HJ33, HO_3, HO_4, HO_5, HO_7, HB⟩ := hcut
              cases kq with
              | zero => exact absurd HA.out (by simp [laws_FnTwoCourses.j4])
              | succ kj33 =>
               have H := HA.out
               clear HA
               simp only [laws_FnTwoCourses.j4] at H
               have HC38 := Aside0.mk H
               clear H
               go_upto_region 20 with (fail)
               go_cut [122] (fun v122 wc => ∃ (kq : Nat) (x122_37 : Bool), v122 = .bool x122_37 ∧ Aside0 (laws_FnTwoCourses.j5 kq l0 t450 t451 t456 t457 t460 t461 x13_3 t474 t476 x18_33 x122_37 = some r) ∧ Aside0 (kq ≤ kj33) ∧ Aside0 (Kd.R k41 41 wc w.heap.size (fun k_ => some k_ ≠ ((.slice Ao11 t451.length co11) : Value).ownBlock ∧ some k_ ≠ (v458 : Value).ownBlock ∧ some k_ ≠ (v462 : Value).ownBlock) (.slice Ao10 t450.length co10) t450) ∧ Aside0 (Kd.R k41 41 wc w.heap.size (fun k_ => some k_ ≠ ((.slice Ao10 t450.length co10) : Value).ownBlock ∧ some k_ ≠ (v458 : Value).ownBlock ∧ some k_ ≠ (v462 : Value).ownBlock) (.slice Ao11 t451.length co11) t451) ∧ Aside0 (Kd.R k41 41 wc w.heap.size (fun k_ => some k_ ≠ ((.slice Ao10 t450.length co10) : Value).ownBlock ∧ some k_ ≠ ((.slice Ao11 t451.length co11) : Value).ownBlock ∧ some k_ ≠ (v462 : Value).ownBlock) v458 t456) ∧ Aside0 (Kd.R k41 41 wc w.heap.size (fun k_ => some k_ ≠ ((.slice Ao10 t450.length co10) : Value).ownBlock ∧ some k_ ≠ ((.slice Ao11 t451.length co11) : Value).ownBlock ∧ some k_ ≠ (v458 : Value).ownBlock) v462 t460) ∧ Aside0 (Below w.heap.size w wc))
               case first =>
                as_aux_lemma =>
                have H := HC38.out
                clear HC38
                by_cases c39 : t475 = true
                ·subst c39
                 have H1 : (laws_FnTwoCourses.j5 kj33 l0 t450 t451 t456 t457 t460 t461 x13_3 t474 t476 x18_33 (!t477)) = some r := by rw [if_pos rfl] at H; exact H
                 clear H
                 have H := H1
                 clear H1
                 as_aux_lemma =>
                  have H' := Aside0.mk H
                  clear H
                  go_wp2
                  go_meet
                  case rel => exact ⟨_, (!t477), zrx, H', ⟨by have := HJ7.out; have := HJ20.out; have := HK3.out; have := HJ27.out; have := HJ33.out; first | omega | exact Nat.le_refl _⟩, ⟨by (with_reducible repeat (first | apply Kd.R_alloc | apply Kd.R_drewN | apply Kd.R_drew)); exact HO_3.out⟩, ⟨by (with_reducible repeat (first | apply Kd.R_alloc | apply Kd.R_drewN | apply Kd.R_drew)); exact HO_4.out⟩, ⟨by (with_reducible repeat (first | apply Kd.R_alloc | apply Kd.R_drewN | apply Kd.R_drew)); exact HO_5.out⟩, ⟨by (with_reducible repeat (first | apply Kd.R_alloc | apply Kd.R_drewN | apply Kd.R_drew)); exact HO_7.out⟩, ⟨by exact zBx HB.out⟩⟩
                ·replace c39 := Bool.eq_false_iff.mpr c39
                 subst c39
                 have H1 : (laws_FnTwoCourses.j5 kj33 l0 t450 t451 t456 t457 t460 t461 x13_3 t474 t476 x18_33 true) = some r := by rw [if_neg (show ¬ (false = true) by decide)] at H; exact H
                 clear H
                 have H := H1
                 clear H1
                 as_aux_lemma =>
                  have H' := Aside0.mk H
                  clear H
                  go_wp2
                  go_meet
                  case rel => exact ⟨_, (true), zrx, H', ⟨by have := HJ7.out; have := HJ20.out; have := HK3.out; have := HJ27.out; have := HJ33.out; first | omega | exact Nat.le_refl _⟩, ⟨by (with_reducible repeat (first | apply Kd.R_alloc | apply Kd.R_drewN | apply Kd.R_drew)); exact HO_3.out⟩, ⟨by (with_reducible repeat (first | apply Kd.R_alloc | apply Kd.R_drewN | apply Kd.R_drew)); exact HO_4.out⟩, ⟨by (with_reducible repeat (first | apply Kd.R_alloc | apply Kd.R_drewN | apply Kd.R_drew)); exact HO_5.out⟩, ⟨by (with_reducible repeat (first | apply Kd.R_alloc | apply Kd.R_drewN | apply Kd.R_drew)); exact HO_7.out⟩, ⟨by exact zBx HB.out⟩⟩
               case rest =>
                as_aux_lemma =>
                clear HC38
                try clear c1
                try clear c2
                try clear p2
                try clear c3
                try clear c7
                try clear c8
                try clear c9
                try clear c10
                try clear c11
                try clear c13
                try clear c14
                try clear c15
                try clear c15b0
                try clear c15b1
                try clear c15b2
                try clear c19
                try clear c23
                try clear c23b0
                try clear c23b1
                try clear c23b2
                try clear c27
                try clear c29
                try clear c29b0
                try clear c30
                try clear c31
                try clear c37
                try clear c37b0
                try clear c39
                try clear p2
                obtain ⟨kq, x122_37, rfl, HA, HJ37, HO_3, HO_4, HO_5, HO_7, HB⟩ := hcut
                cases kq with
                | zero => exact absurd HA.out (by simp [laws_FnTwoCourses.j5])
                | succ kj37 =>
                 have H := HA.out
                 clear HA
                 simp only [laws_FnTwoCourses.j5] at H
                 by_cases c40 : x122_37 = true
                 ·subst c40
                  have H1 : (some false) = some r := by rw [if_pos rfl] at H; exact H
                  clear H
                  have H := H1
                  clear H1
                  as_aux_lemma =>
                   exact absurd (Option.some.inj H) (by rw [hr_]; decide)
                 ·replace c40 := Bool.eq_false_iff.mpr c40
                  subst c40
                  have H1 : ((impl_CourseLevel.f kj37 t456 x13_3).bind fun bt478 => (if t457 = true then (if bt478.2 = true then (laws_FnTwoCourses.j6 kj37 l0 t450 t451 t456 t457 t460 t461 x13_3 t474 t476 (bt478.1 != x18_33)) else (laws_FnTwoCourses.j6 kj37 l0 t450 t451 t456 t457 t460 t461 x13_3 t474 t476 true)) else (laws_FnTwoCourses.j6 kj37 l0 t450 t451 t456 t457 t460 t461 x13_3 t474 t476 false))) = some r := by rw [if_neg (show ¬ (false = true) by decide)] at H; exact H
                  clear H
                  have H := H1
                  clear H1
                  replace H := Option.bind_eq_some_iff.mp H
                  obtain ⟨⟨t478, t479⟩, A410, H⟩ := H
                  replace H : (if t457 = true then (if t479 = true then (laws_FnTwoCourses.j6 kj37 l0 t450 t451 t456 t457 t460 t461 x13_3 t474 t476 (t478 != x18_33)) else (laws_FnTwoCourses.j6 kj37 l0 t450 t451 t456 t457 t460 t461 x13_3 t474 t476 true)) else (laws_FnTwoCourses.j6 kj37 l0 t450 t451 t456 t457 t460 t461 x13_3 t474 t476 false)) = some r := H
                  have A41 := Aside0.mk A410
                  clear A410
                  have HC42 := Aside0.mk H
                  clear H
                  obtain ⟨Ao43, co43, eo43⟩ := Kd.R_slice HO_5.out
                  subst eo43
                  go_upto_region 23 with (first | ((with_reducible refine gate_callee (f := 14) rfl ?_); refine goesL_ (some 126) rfl rfl Try.func14 (by kernel_rfl) rfl #[.slice Ao43 t456.length co43, .int .i64 x13_3] rfl zlx ?_; (with_reducible refine (impl_CourseLevel.calls kj37 _ _ t456 x13_3 t478 t479 _ ?side1 ?side2 A41.out).mono ?_); (case side1 => repeat (first | exact (Kd.R_reads' HO_5.out).2.2 | (with_reducible refine Kd.C_alloc ?_ _) | (with_reducible refine Kd.C_drewN ?_ _) | (with_reducible refine Kd.C_drew ?_))); (case side2 => exact (Kd.R_reads' HO_5.out).2.1); rintro e w44 ⟨rfl, hb⟩; refine ⟨_, rfl, ?_⟩; have n0_ := Aside0.mk (Kd.R_below (zRx HO_3.out) hb); have n1_ := Aside0.mk (Kd.R_below (zRx HO_4.out) hb); have n2_ := Aside0.mk (Kd.R_below (zRx HO_5.out) hb); have n3_ := Aside0.mk (Kd.R_below (zRx HO_7.out) hb); have n4_ := Aside0.mk (below_step (zBx HB.out) hb); clear HO_3; clear HO_4; clear HO_5; clear HO_7; clear HB; have HO_3 := n0_; have HO_4 := n1_; have HO_5 := n2_; have HO_7 := n3_; have HB := n4_; clear n0_ n1_ n2_ n3_ n4_; (try clear hb); (try clear hb2); (try clear hk); (try clear hi)))
                  (try simp only [Act.put, List.setIfInBounds_toArray, List.set_cons_zero, List.set_cons_succ])
                  go_cut [138] (fun v138 wc => ∃ (kq : Nat) (x138_41 : Bool), v138 = .bool x138_41 ∧ Aside0 (laws_FnTwoCourses.j6 kq l0 t450 t451 t456 t457 t460 t461 x13_3 t474 t476 x138_41 = some r) ∧ Aside0 (kq ≤ kj37) ∧ Aside0 (Kd.R k41 41 wc w.heap.size (fun k_ => some k_ ≠ ((.slice Ao11 t451.length co11) : Value).ownBlock ∧ some k_ ≠ ((.slice Ao43 t456.length co43) : Value).ownBlock ∧ some k_ ≠ (v462 : Value).ownBlock) (.slice Ao10 t450.length co10) t450) ∧ Aside0 (Kd.R k41 41 wc w.heap.size (fun k_ => some k_ ≠ ((.slice Ao10 t450.length co10) : Value).ownBlock ∧ some k_ ≠ ((.slice Ao43 t456.length co43) : Value).ownBlock ∧ some k_ ≠ (v462 : Value).ownBlock) (.slice Ao11 t451.length co11) t451) ∧ Aside0 (Kd.R k41 41 wc w.heap.size (fun k_ => some k_ ≠ ((.slice Ao10 t450.length co10) : Value).ownBlock ∧ some k_ ≠ ((.slice Ao11 t451.length co11) : Value).ownBlock ∧ some k_ ≠ (v462 : Value).ownBlock) (.slice Ao43 t456.length co43) t456) ∧ Aside0 (Kd.R k41 41 wc w.heap.size (fun k_ => some k_ ≠ ((.slice Ao10 t450.length co10) : Value).ownBlock ∧ some k_ ≠ ((.slice Ao11 t451.length co11) : Value).ownBlock ∧ some k_ ≠ ((.slice Ao43 t456.length co43) : Value).ownBlock) v462 t460) ∧ Aside0 (Below w.heap.size w wc))
                  case first =>
                   as_aux_lemma =>
                   have H := HC42.out
                   clear HC42
                   by_cases c45 : t457 = true
                   ·subst c45
                    have H1 : (if t479 = true then (laws_FnTwoCourses.j6 kj37 l0 t450 t451 t456 true t460 t461 x13_3 t474 t476 (t478 != x18_33)) else (laws_FnTwoCourses.j6 kj37 l0 t450 t451 t456 true t460 t461 x13_3 t474 t476 true)) = some r := by rw [if_pos rfl] at H; exact H
                    clear H
                    have H := H1
                    clear H1
                    by_cases c46 : t479 = true
                    ·subst c46
                     have H1 : (laws_FnTwoCourses.j6 kj37 l0 t450 t451 t456 true t460 t461 x13_3 t474 t476 (t478 != x18_33)) = some r := by rw [if_pos rfl] at H; exact H
                     clear H
                     have H := H1
                     clear H1
                     as_aux_lemma =>
                      have H' := Aside0.mk H
                      clear H
                      go_wp2
                      go_meet
                      case rel => exact ⟨_, ((t478 != x18_33)), zrx, H', ⟨by have := HJ7.out; have := HJ20.out; have := HK3.out; have := HJ27.out; have := HJ33.out; have := HJ37.out; first | omega | exact Nat.le_refl _⟩, ⟨by (with_reducible repeat (first | apply Kd.R_alloc | apply Kd.R_drewN | apply Kd.R_drew)); exact HO_3.out⟩, ⟨by (with_reducible repeat (first | apply Kd.R_alloc | apply Kd.R_drewN | apply Kd.R_drew)); exact HO_4.out⟩, ⟨by (with_reducible repeat (first | apply Kd.R_alloc | apply Kd.R_drewN | apply Kd.R_drew)); exact HO_5.out⟩, ⟨by (with_reducible repeat (first | apply Kd.R_alloc | apply Kd.R_drewN | apply Kd.R_drew)); exact HO_7.out⟩, ⟨by exact zBx HB.out⟩⟩
                    ·replace c46 := Bool.eq_false_iff.mpr c46
                     subst c46
                     have H1 : (laws_FnTwoCourses.j6 kj37 l0 t450 t451 t456 true t460 t461 x13_3 t474 t476 true) = some r := by rw [if_neg (show ¬ (false = true) by decide)] at H; exact H
                     clear H
                     have H := H1
                     clear H1
                     as_aux_lemma =>
                      have H' := Aside0.mk H
                      clear H
                      go_wp2
                      go_meet
                      case rel => exact ⟨_, (true), zrx, H', ⟨by have := HJ7.out; have := HJ20.out; have := HK3.out; have := HJ27.out; have := HJ33.out; have := HJ37.out; first | omega | exact Nat.le_refl _⟩, ⟨by (with_reducible repeat (first | apply Kd.R_alloc | apply Kd.R_drewN | apply Kd.R_drew)); exact HO_3.out⟩, ⟨by (with_reducible repeat (first | apply Kd.R_alloc | apply Kd.R_drewN | apply Kd.R_drew)); exact HO_4.out⟩, ⟨by (with_reducible repeat (first | apply Kd.R_alloc | apply Kd.R_drewN | apply Kd.R_drew)); exact HO_5.out⟩, ⟨by (with_reducible repeat (first | apply Kd.R_alloc | apply Kd.R_drewN | apply Kd.R_drew)); exact HO_7.out⟩, ⟨by exact zBx HB.out⟩⟩
                   ·replace c45 := Bool.eq_false_iff.mpr c45
                    subst c45
                    have H1 : (laws_FnTwoCourses.j6 kj37 l0 t450 t451 t456 false t460 t461 x13_3 t474 t476 false) = some r := by rw [if_neg (show ¬ (false = true) by decide)] at H; exact H
                    clear H
                    have H := H1
                    clear H1
                    as_aux_lemma =>
                     have H' := Aside0.mk H
                     clear H
                     go_wp2
                     go_meet
                     case rel => exact ⟨_, (false), zrx, H', ⟨by have := HJ7.out; have := HJ20.out; have := HK3.out; have := HJ27.out; have := HJ33.out; have := HJ37.out; first | omega | exact Nat.le_refl _⟩, ⟨by (with_reducible repeat (first | apply Kd.R_alloc | apply Kd.R_drewN | apply Kd.R_drew)); exact HO_3.out⟩, ⟨by (with_reducible repeat (first | apply Kd.R_alloc | apply Kd.R_drewN | apply Kd.R_drew)); exact HO_4.out⟩, ⟨by (with_reducible repeat (first | apply Kd.R_alloc | apply Kd.R_drewN | apply Kd.R_drew)); exact HO_5.out⟩, ⟨by (with_reducible repeat (first | apply Kd.R_alloc | apply Kd.R_drewN | apply Kd.R_drew)); exact HO_7.out⟩, ⟨by exact zBx HB.out⟩⟩
                  case rest =>
                   as_aux_lemma =>
                   clear HC42
                   try clear c1
                   try clear c2
                   try clear p2
                   try clear c3
                   try clear c4
                   try clear c7
                   try clear c8
                   try clear c9
                   try clear c10
                   try clear c11
                   try clear c13
                   try clear c14
                   try clear c15
                   try clear c15b0
                   try clear c15b1
                   try clear c15b2
                   try clear c19
                   try clear c23
                   try clear c23b0
                   try clear c23b1
                   try clear c23b2
                   try clear c27
                   try clear c29
                   try clear c29b0
                   try clear c30
                   try clear c31
                   try clear c37
                   try clear c37b0
                   try clear c39
                   try clear c40
                   try clear c45
                   try clear c46
                   try clear p2
                   obtain ⟨kq, x138_41, rfl, HA, HJ41, HO_3, HO_4, HO_5, HO_7, HB⟩ := hcut
                   cases kq with
                   | zero => exact absurd HA.out (by simp [laws_FnTwoCourses.j6])
                   | succ kj41 =>
                    have H := HA.out
                    clear HA
                    simp only [laws_FnTwoCourses.j6] at H
                    by_cases c47 : x138_41 = true
                    ·subst c47
                     have H1 : (some false) = some r := by rw [if_pos rfl] at H; exact H
                     clear H
                     have H := H1
                     clear H1
                     as_aux_lemma =>
                      exact absurd (Option.some.inj H) (by rw [hr_]; decide)
                    ·replace c47 := Bool.eq_false_iff.mpr c47
                     subst c47
                     have H1 : ((impl_CourseLevel.f kj41 t460 x13_3).bind fun bt480 => (if t461 = true then (if bt480.2 = true then (if t474 = t476 then (if bt480.1 = t474 then (laws_FnTwoCourses.l0 kj41 l0 t450 t451 t456 t457 t460 t461 (wrap64 (x13_3 + 1))) else (some false)) else (if bt480.1 = 0 then (laws_FnTwoCourses.l0 kj41 l0 t450 t451 t456 t457 t460 t461 (wrap64 (x13_3 + 1))) else (some false))) else (some false)) else (laws_FnTwoCourses.l0 kj41 l0 t450 t451 t456 t457 t460 t461 (wrap64 (x13_3 + 1))))) = some r := by rw [if_neg (show ¬ (false = true) by decide)] at H; exact H
                     clear H
                     have H := H1
                     clear H1
                     replace H := Option.bind_eq_some_iff.mp H
                     obtain ⟨⟨t480, t481⟩, A480, H⟩ := H
                     replace H : (if t461 = true then (if t481 = true then (if t474 = t476 then (if t480 = t474 then (laws_FnTwoCourses.l0 kj41 l0 t450 t451 t456 t457 t460 t461 (wrap64 (x13_3 + 1))) else (some false)) else (if t480 = 0 then (laws_FnTwoCourses.l0 kj41 l0 t450 t451 t456 t457 t460 t461 (wrap64 (x13_3 + 1))) else (some false))) else (some false)) else (laws_FnTwoCourses.l0 kj41 l0 t450 t451 t456 t457 t460 t461 (wrap64 (x13_3 + 1)))) = some r := H
                     have A48 := Aside0.mk A480
                     clear A480
                     by_cases c49 : t461 = true
                     ·subst c49
                      have H1 : (if t481 = true then (if t474 = t476 then (if t480 = t474 then (laws_FnTwoCourses.l0 kj41 l0 t450 t451 t456 t457 t460 true (wrap64 (x13_3 + 1))) else (some false)) else (if t480 = 0 then (laws_FnTwoCourses.l0 kj41 l0 t450 t451 t456 t457 t460 true (wrap64 (x13_3 + 1))) else (some false))) else (some false)) = some r := by rw [if_pos rfl] at H; exact H
                      clear H
                      have H := H1
                      clear H1
                      by_cases c50 : t481 = true
                      ·subst c50
                       have H1 : (if t474 = t476 then (if t480 = t474 then (laws_FnTwoCourses.l0 kj41 l0 t450 t451 t456 t457 t460 true (wrap64 (x13_3 + 1))) else (some false)) else (if t480 = 0 then (laws_FnTwoCourses.l0 kj41 l0 t450 t451 t456 t457 t460 true (wrap64 (x13_3 + 1))) else (some false))) = some r := by rw [if_pos rfl] at H; exact H
                       clear H
                       have H := H1
                       clear H1
                       by_cases c51 : t474 = t476
                       ·rw [if_pos c51] at H
                        have c51b0 : (t474 == t476) = true := beq_iff_eq.mpr c51
                        have c51b1 : (t474 != t476) = false := bne_eq_false_iff_eq.mpr c51
                        clear c51
                        by_cases c52 : t480 = t474
                        ·rw [if_pos c52] at H
                         have c52b0 : (t480 == t474) = true := beq_iff_eq.mpr c52
                         have c52b1 : (t480 != t474) = false := bne_eq_false_iff_eq.mpr c52
                         clear c52
                         as_aux_lemma =>
                          have H' := Aside0.mk H
                          clear H
                          obtain ⟨Ao53, co53, eo53⟩ := Kd.R_slice HO_7.out
                          subst eo53
                          go_wp2_with (first | ((with_reducible refine gate_callee (f := 14) rfl ?_); refine goesL_ (some 142) rfl rfl Try.func14 (by kernel_rfl) rfl #[.slice Ao53 t460.length co53, .int .i64 x13_3] rfl zlx ?_; (with_reducible refine (impl_CourseLevel.calls kj41 _ _ t460 x13_3 t480 true _ ?side1 ?side2 A48.out).mono ?_); (case side1 => repeat (first | exact (Kd.R_reads' HO_7.out).2.2 | (with_reducible refine Kd.C_alloc ?_ _) | (with_reducible refine Kd.C_drewN ?_ _) | (with_reducible refine Kd.C_drew ?_))); (case side2 => exact (Kd.R_reads' HO_7.out).2.1); rintro e w54 ⟨rfl, hb⟩; refine ⟨_, rfl, ?_⟩; have n0_ := Aside0.mk (Kd.R_below (zRx HO_3.out) hb); have n1_ := Aside0.mk (Kd.R_below (zRx HO_4.out) hb); have n2_ := Aside0.mk (Kd.R_below (zRx HO_5.out) hb); have n3_ := Aside0.mk (Kd.R_below (zRx HO_7.out) hb); have n4_ := Aside0.mk (below_step (zBx HB.out) hb); clear HO_3; clear HO_4; clear HO_5; clear HO_7; clear HB; have HO_3 := n0_; have HO_4 := n1_; have HO_5 := n2_; have HO_7 := n3_; have HB := n4_; clear n0_ n1_ n2_ n3_ n4_; (try clear hb); (try clear hb2); (try clear hk); (try clear hi)))
                          go_roundg kj41
                          case measure => have := HJ7.out; have := HJ20.out; have := HK3.out; have := HJ27.out; have := HJ33.out; have := HJ37.out; have := HJ41.out; omega
                          case rel => exact ⟨(wrap64 (x13_3 + 1)), zrx, H', ⟨by have := HJ7.out; have := HJ20.out; have := HK3.out; have := HJ27.out; have := HJ33.out; have := HJ37.out; have := HJ41.out; omega⟩, ⟨by (with_reducible repeat (first | apply Kd.R_alloc | apply Kd.R_drewN | apply Kd.R_drew)); exact HO_3.out⟩, ⟨by (with_reducible repeat (first | apply Kd.R_alloc | apply Kd.R_drewN | apply Kd.R_drew)); exact HO_4.out⟩, ⟨by (with_reducible repeat (first | apply Kd.R_alloc | apply Kd.R_drewN | apply Kd.R_drew)); exact HO_5.out⟩, ⟨by (with_reducible repeat (first | apply Kd.R_alloc | apply Kd.R_drewN | apply Kd.R_drew)); exact HO_7.out⟩, ⟨by exact zBx HB.out⟩⟩
                        ·rw [if_neg c52] at H
                         have c52b0 : (t480 == t474) = false := beq_eq_false_iff_ne.mpr c52
                         have c52b1 : (t480 != t474) = true := bne_iff_ne.mpr c52
                         as_aux_lemma =>
                          exact absurd (Option.some.inj H) (by rw [hr_]; decide)
                       ·rw [if_neg c51] at H
                        have c51b0 : (t474 == t476) = false := beq_eq_false_iff_ne.mpr c51
                        have c51b1 : (t474 != t476) = true := bne_iff_ne.mpr c51
                        by_cases c57 : t480 = 0
                        ·rw [if_pos c57] at H
                         have c57b0 : (t480 == 0) = true := beq_iff_eq.mpr c57
                         have c57b1 : (t480 != 0) = false := bne_eq_false_iff_eq.mpr c57
                         clear c57
                         as_aux_lemma =>
                          have H' := Aside0.mk H
                          clear H
                          obtain ⟨Ao58, co58, eo58⟩ := Kd.R_slice HO_7.out
                          subst eo58
                          go_wp2_with (first | ((with_reducible refine gate_callee (f := 14) rfl ?_); refine goesL_ (some 142) rfl rfl Try.func14 (by kernel_rfl) rfl #[.slice Ao58 t460.length co58, .int .i64 x13_3] rfl zlx ?_; (with_reducible refine (impl_CourseLevel.calls kj41 _ _ t460 x13_3 t480 true _ ?side1 ?side2 A48.out).mono ?_); (case side1 => repeat (first | exact (Kd.R_reads' HO_7.out).2.2 | (with_reducible refine Kd.C_alloc ?_ _) | (with_reducible refine Kd.C_drewN ?_ _) | (with_reducible refine Kd.C_drew ?_))); (case side2 => exact (Kd.R_reads' HO_7.out).2.1); rintro e w59 ⟨rfl, hb⟩; refine ⟨_, rfl, ?_⟩; have n0_ := Aside0.mk (Kd.R_below (zRx HO_3.out) hb); have n1_ := Aside0.mk (Kd.R_below (zRx HO_4.out) hb); have n2_ := Aside0.mk (Kd.R_below (zRx HO_5.out) hb); have n3_ := Aside0.mk (Kd.R_below (zRx HO_7.out) hb); have n4_ := Aside0.mk (below_step (zBx HB.out) hb); clear HO_3; clear HO_4; clear HO_5; clear HO_7; clear HB; have HO_3 := n0_; have HO_4 := n1_; have HO_5 := n2_; have HO_7 := n3_; have HB := n4_; clear n0_ n1_ n2_ n3_ n4_; (try clear hb); (try clear hb2); (try clear hk); (try clear hi)))
                          go_roundg kj41
                          case measure => have := HJ7.out; have := HJ20.out; have := HK3.out; have := HJ27.out; have := HJ33.out; have := HJ37.out; have := HJ41.out; omega
                          case rel => exact ⟨(wrap64 (x13_3 + 1)), zrx, H', ⟨by have := HJ7.out; have := HJ20.out; have := HK3.out; have := HJ27.out; have := HJ33.out; have := HJ37.out; have := HJ41.out; omega⟩, ⟨by (with_reducible repeat (first | apply Kd.R_alloc | apply Kd.R_drewN | apply Kd.R_drew)); exact HO_3.out⟩, ⟨by (with_reducible repeat (first | apply Kd.R_alloc | apply Kd.R_drewN | apply Kd.R_drew)); exact HO_4.out⟩, ⟨by (with_reducible repeat (first | apply Kd.R_alloc | apply Kd.R_drewN | apply Kd.R_drew)); exact HO_5.out⟩, ⟨by (with_reducible repeat (first | apply Kd.R_alloc | apply Kd.R_drewN | apply Kd.R_drew)); exact HO_7.out⟩, ⟨by exact zBx HB.out⟩⟩
                        ·rw [if_neg c57] at H
                         have c57b0 : (t480 == 0) = false := beq_eq_false_iff_ne.mpr c57
                         have c57b1 : (t480 != 0) = true := bne_iff_ne.mpr c57
                         as_aux_lemma =>
                          exact absurd (Option.some.inj H) (by rw [hr_]; decide)
                      ·replace c50 := Bool.eq_false_iff.mpr c50
                       subst c50
                       have H1 : (some false) = some r := by rw [if_neg (show ¬ (false = true) by decide)] at H; exact H
                       clear H
                       have H := H1
                       clear H1
                       as_aux_lemma =>
                        exact absurd (Option.some.inj H) (by rw [hr_]; decide)
                     ·replace c49 := Bool.eq_false_iff.mpr c49
                      subst c49
                      have H1 : (laws_FnTwoCourses.l0 kj41 l0 t450 t451 t456 t457 t460 false (wrap64 (x13_3 + 1))) = some r := by rw [if_neg (show ¬ (false = true) by decide)] at H; exact H
                      clear H
                      have H := H1
                      clear H1
                      as_aux_lemma =>
                       have H' := Aside0.mk H
                       clear H
                       obtain ⟨Ao64, co64, eo64⟩ := Kd.R_slice HO_7.out
                       subst eo64
                       go_wp2_with (first | ((with_reducible refine gate_callee (f := 14) rfl ?_); refine goesL_ (some 142) rfl rfl Try.func14 (by kernel_rfl) rfl #[.slice Ao64 t460.length co64, .int .i64 x13_3] rfl zlx ?_; (with_reducible refine (impl_CourseLevel.calls kj41 _ _ t460 x13_3 t480 t481 _ ?side1 ?side2 A48.out).mono ?_); (case side1 => repeat (first | exact (Kd.R_reads' HO_7.out).2.2 | (with_reducible refine Kd.C_alloc ?_ _) | (with_reducible refine Kd.C_drewN ?_ _) | (with_reducible refine Kd.C_drew ?_))); (case side2 => exact (Kd.R_reads' HO_7.out).2.1); rintro e w65 ⟨rfl, hb⟩; refine ⟨_, rfl, ?_⟩; have n0_ := Aside0.mk (Kd.R_below (zRx HO_3.out) hb); have n1_ := Aside0.mk (Kd.R_below (zRx HO_4.out) hb); have n2_ := Aside0.mk (Kd.R_below (zRx HO_5.out) hb); have n3_ := Aside0.mk (Kd.R_below (zRx HO_7.out) hb); have n4_ := Aside0.mk (below_step (zBx HB.out) hb); clear HO_3; clear HO_4; clear HO_5; clear HO_7; clear HB; have HO_3 := n0_; have HO_4 := n1_; have HO_5 := n2_; have HO_7 := n3_; have HB := n4_; clear n0_ n1_ n2_ n3_ n4_; (try clear hb); (try clear hb2); (try clear hk); (try clear hi)))
                       go_roundg kj41
                       case measure => have := HJ7.out; have := HJ20.out; have := HK3.out; have := HJ27.out; have := HJ33.out; have := HJ37.out; have := HJ41.out; omega
                       case rel => exact ⟨(wrap64 (x13_3 + 1)), zrx, H', ⟨by have := HJ7.out; have := HJ20.out; have := HK3.out; have := HJ27.out; have := HJ33.out; have := HJ37.out; have := HJ41.out; omega⟩, ⟨by (with_reducible repeat (first | apply Kd.R_alloc | apply Kd.R_drewN | apply Kd.R_drew)); exact HO_3.out⟩, ⟨by (with_reducible repeat (first | apply Kd.R_alloc | apply Kd.R_drewN | apply Kd.R_drew)); exact HO_4.out⟩, ⟨by (with_reducible repeat (first | apply Kd.R_alloc | apply Kd.R_drewN | apply Kd.R_drew)); exact HO_5.out⟩, ⟨by (with_reducible repeat (first | apply Kd.R_alloc | apply Kd.R_drewN | apply Kd.R_drew)); exact HO_7.out⟩, ⟨by exact zBx HB.out⟩⟩
            ·replace c31 := Bool.eq_false_iff.mpr c31
             subst c31
             have H1 : ((spec_DrawShiftCourse.f kj27 l0).bind fun bt482 => ((impl_ShiftCourse.f kj27 bt482.1 bt482.2).bind fun bt486 => ((spec_ShiftCourse.f kj27 bt482.1 bt482.2).bind fun bt490 => (if (bt486.2 != bt490.2) = true then (laws_FnTwoCourses.j7 kj27 l0 bt482.1 bt482.2 bt486.1 bt486.2 true) else ((laws_rCourses.f kj27 bt486.1 bt490.1).bind fun t494 => (laws_FnTwoCourses.j7 kj27 l0 bt482.1 bt482.2 bt486.1 bt486.2 (!t494))))))) = some r := by rw [if_neg (show ¬ (false = true) by decide)] at H; exact H
             clear H
             have H := H1
             clear H1
             replace H := Option.bind_eq_some_iff.mp H
             obtain ⟨⟨t482, t483⟩, A660, H⟩ := H
             replace H : ((impl_ShiftCourse.f kj27 t482 t483).bind fun bt486 => ((spec_ShiftCourse.f kj27 t482 t483).bind fun bt490 => (if (bt486.2 != bt490.2) = true then (laws_FnTwoCourses.j7 kj27 l0 t482 t483 bt486.1 bt486.2 true) else ((laws_rCourses.f kj27 bt486.1 bt490.1).bind fun t494 => (laws_FnTwoCourses.j7 kj27 l0 t482 t483 bt486.1 bt486.2 (!t494)))))) = some r := H
             have A66 := Aside0.mk A660
             clear A660
             replace H := Option.bind_eq_some_iff.mp H
             obtain ⟨⟨t486, t487⟩, A670, H⟩ := H
             replace H : ((spec_ShiftCourse.f kj27 t482 t483).bind fun bt490 => (if (t487 != bt490.2) = true then (laws_FnTwoCourses.j7 kj27 l0 t482 t483 t486 t487 true) else ((laws_rCourses.f kj27 t486 bt490.1).bind fun t494 => (laws_FnTwoCourses.j7 kj27 l0 t482 t483 t486 t487 (!t494))))) = some r := H
             have A67 := Aside0.mk A670
             clear A670
             replace H := Option.bind_eq_some_iff.mp H
             obtain ⟨⟨t490, t491⟩, A680, H⟩ := H
             replace H : (if (t487 != t491) = true then (laws_FnTwoCourses.j7 kj27 l0 t482 t483 t486 t487 true) else ((laws_rCourses.f kj27 t486 t490).bind fun t494 => (laws_FnTwoCourses.j7 kj27 l0 t482 t483 t486 t487 (!t494)))) = some r := H
             have A68 := Aside0.mk A680
             clear A680
             have HC69 := Aside0.mk H
             clear H
             go_upto_region 31 with (first | ((with_reducible refine gate_callee (f := 15) rfl ?_); refine goesL_ (some 171) rfl rfl Try.func15 (by kernel_rfl) rfl #[.slice A0 l0.length c0] rfl zlx ?_; (with_reducible refine (spec_DrawShiftCourse.calls kj27 _ _ l0 t482 t483 _ ?side1 ?side2 A66.out).mono ?_); (case side1 => repeat (first | exact (Kd.C_below HR0.out HB.out) | (with_reducible refine Kd.C_alloc ?_ _) | (with_reducible refine Kd.C_drewN ?_ _) | (with_reducible refine Kd.C_drew ?_))); (case side2 => exact HC0.out); rintro e w70 ⟨v484, rfl, ho0, hb⟩; refine ⟨_, rfl, ?_⟩; have n0_ := Aside0.mk (Kd.R_elder' (zRx HO_3.out) (Kd.R_base ho0) hb); have n1_ := Aside0.mk (Kd.R_elder' (zRx HO_4.out) (Kd.R_base ho0) hb); have n2_ := Aside0.mk (Kd.R_elder' (zRx HO_5.out) (Kd.R_base ho0) hb); have n3_ := Aside0.mk (Kd.R_elder' (zRx HO_7.out) (Kd.R_base ho0) hb); have n4_ := Aside0.mk (Kd.R_lower (Kd.R_new' (Kd.R_new' (Kd.R_new' (Kd.R_new' ho0 (Kd.R_lt (zRx HO_3.out))) (Kd.R_lt (zRx HO_4.out))) (Kd.R_lt (zRx HO_5.out))) (Kd.R_lt (zRx HO_7.out))) (below_size (zBx HB.out))); have n5_ := Aside0.mk (below_step (zBx HB.out) hb); clear HO_3; clear HO_4; clear HO_5; clear HO_7; clear HB; have HO_3 := n0_; have HO_4 := n1_; have HO_5 := n2_; have HO_7 := n3_; have HO485 := n4_; have HB := n5_; clear n0_ n1_ n2_ n3_ n4_ n5_; (try clear hb); (try clear hb2); (try clear hk); (try clear hi); (try clear ho0); obtain ⟨Ao71, co71, eo71⟩ := Kd.R_slice HO485.out; subst eo71) | ((with_reducible refine gate_callee (f := 16) rfl ?_); refine goesL_ (some 177) rfl rfl Try.func16 (by kernel_rfl) rfl #[.slice Ao71 t482.length co71, .int .i64 t483] rfl zlx ?_; (with_reducible refine (impl_ShiftCourse.calls kj27 _ _ t482 t483 t486 t487 _ ?side1 ?side2 A67.out).mono ?_); (case side1 => repeat (first | exact (Kd.R_reads' HO485.out).2.2 | (with_reducible refine Kd.C_alloc ?_ _) | (with_reducible refine Kd.C_drewN ?_ _) | (with_reducible refine Kd.C_drew ?_))); (case side2 => exact (Kd.R_reads' HO485.out).2.1); rintro e w72 ⟨v488, rfl, ho0, hb⟩; refine ⟨_, rfl, ?_⟩; have n0_ := Aside0.mk (Kd.R_elder' (zRx HO_3.out) (Kd.R_base ho0) hb); have n1_ := Aside0.mk (Kd.R_elder' (zRx HO_4.out) (Kd.R_base ho0) hb); have n2_ := Aside0.mk (Kd.R_elder' (zRx HO_5.out) (Kd.R_base ho0) hb); have n3_ := Aside0.mk (Kd.R_elder' (zRx HO_7.out) (Kd.R_base ho0) hb); have n4_ := Aside0.mk (Kd.R_elder' (zRx HO485.out) (Kd.R_base ho0) hb); have n5_ := Aside0.mk (Kd.R_lower (Kd.R_new' (Kd.R_new' (Kd.R_new' (Kd.R_new' (Kd.R_new' ho0 (Kd.R_lt (zRx HO_3.out))) (Kd.R_lt (zRx HO_4.out))) (Kd.R_lt (zRx HO_5.out))) (Kd.R_lt (zRx HO_7.out))) (Kd.R_lt (zRx HO485.out))) (below_size (zBx HB.out))); have n6_ := Aside0.mk (below_step (zBx HB.out) hb); clear HO_3; clear HO_4; clear HO_5; clear HO_7; clear HO485; clear HB; have HO_3 := n0_; have HO_4 := n1_; have HO_5 := n2_; have HO_7 := n3_; have HO485 := n4_; have HO489 := n5_; have HB := n6_; clear n0_ n1_ n2_ n3_ n4_ n5_ n6_; (try clear hb); (try clear hb2); (try clear hk); (try clear hi); (try clear ho0)) | ((with_reducible refine gate_callee (f := 17) rfl ?_); refine goesL_ (some 183) rfl rfl Try.func17 (by kernel_rfl) rfl #[.slice Ao71 t482.length co71, .int .i64 t483] rfl zlx ?_; (with_reducible refine (spec_ShiftCourse.calls kj27 _ _ t482 t483 t490 t491 _ ?side1 ?side2 A68.out).mono ?_); (case side1 => repeat (first | exact (Kd.R_reads' HO485.out).2.2 | (with_reducible refine Kd.C_alloc ?_ _) | (with_reducible refine Kd.C_drewN ?_ _) | (with_reducible refine Kd.C_drew ?_))); (case side2 => exact (Kd.R_reads' HO485.out).2.1); rintro e w73 ⟨v492, rfl, ho0, hb⟩; refine ⟨_, rfl, ?_⟩; have n0_ := Aside0.mk (Kd.R_elder' (zRx HO_3.out) (Kd.R_base ho0) hb); have n1_ := Aside0.mk (Kd.R_elder' (zRx HO_4.out) (Kd.R_base ho0) hb); have n2_ := Aside0.mk (Kd.R_elder' (zRx HO_5.out) (Kd.R_base ho0) hb); have n3_ := Aside0.mk (Kd.R_elder' (zRx HO_7.out) (Kd.R_base ho0) hb); have n4_ := Aside0.mk (Kd.R_elder' (zRx HO485.out) (Kd.R_base ho0) hb); have n5_ := Aside0.mk (Kd.R_elder' (zRx HO489.out) (Kd.R_base ho0) hb); have n6_ := Aside0.mk (Kd.R_lower (Kd.R_new' (Kd.R_new' (Kd.R_new' (Kd.R_new' (Kd.R_new' (Kd.R_new' ho0 (Kd.R_lt (zRx HO_3.out))) (Kd.R_lt (zRx HO_4.out))) (Kd.R_lt (zRx HO_5.out))) (Kd.R_lt (zRx HO_7.out))) (Kd.R_lt (zRx HO485.out))) (Kd.R_lt (zRx HO489.out))) (below_size (zBx HB.out))); have n7_ := Aside0.mk (below_step (zBx HB.out) hb); clear HO_3; clear HO_4; clear HO_5; clear HO_7; clear HO485; clear HO489; clear HB; have HO_3 := n0_; have HO_4 := n1_; have HO_5 := n2_; have HO_7 := n3_; have HO485 := n4_; have HO489 := n5_; have HO493 := n6_; have HB := n7_; clear n0_ n1_ n2_ n3_ n4_ n5_ n6_ n7_; (try clear hb); (try clear hb2); (try clear hk); (try clear hi); (try clear ho0)))
             (try simp only [Act.put, List.setIfInBounds_toArray, List.set_cons_zero, List.set_cons_succ])
             go_cut [194] (fun v194 wc => ∃ (kq : Nat) (x194_68 : Bool), v194 = .bool x194_68 ∧ Aside0 (laws_FnTwoCourses.j7 kq l0 t482 t483 t486 t487 x194_68 = some r) ∧ Aside0 (kq ≤ kj27) ∧ Aside0 (Kd.R k41 41 wc w.heap.size (fun k_ => some k_ ≠ (v488 : Value).ownBlock) (.slice Ao71 t482.length co71) t482) ∧ Aside0 (Kd.R k41 41 wc w.heap.size (fun k_ => some k_ ≠ ((.slice Ao71 t482.length co71) : Value).ownBlock) v488 t486) ∧ Aside0 (Below w.heap.size w wc))
             case first =>
              as_aux_lemma =>
              have H := HC69.out
              clear HC69
              by_cases c74 : (t487 != t491) = true
              ·rw [if_pos c74] at H
               have c74b0 : (t487 != t491) = true := c74
               (try (have c74b1 : decide (t487 = t491) = false := by simpa using c74))
               (try (have c74b2 : (t487 == t491) = false := by simpa using c74))
               (try (have c74b3 : ¬ (t487 = t491) := by simpa using c74))
               clear c74
               (first | rw [c74b0] | (simp only [i64_w, i32_w]; rw [c74b0]) | skip)
               as_aux_lemma =>
                have H' := Aside0.mk H
                clear H
                go_wp2
                go_meet
                case rel => exact ⟨_, (true), zrx, H', ⟨by have := HJ7.out; have := HJ20.out; have := HK3.out; have := HJ27.out; first | omega | exact Nat.le_refl _⟩, ⟨by (with_reducible repeat (first | apply Kd.R_alloc | apply Kd.R_drewN | apply Kd.R_drew)); exact Kd.R_mono HO485.out (fun _ hk => hk.1.2)⟩, ⟨by (with_reducible repeat (first | apply Kd.R_alloc | apply Kd.R_drewN | apply Kd.R_drew)); exact Kd.R_mono HO489.out (fun _ hk => hk.1.2)⟩, ⟨by exact zBx HB.out⟩⟩
              ·rw [if_neg c74] at H
               have c74b0 : (t487 != t491) = false := by simpa using c74
               (try (have c74b1 : decide (t487 = t491) = true := by simpa using c74))
               (try (have c74b2 : (t487 == t491) = true := by simpa using c74))
               clear c74
               (first | rw [c74b0] | (simp only [i64_w, i32_w]; rw [c74b0]) | skip)
               replace H := Option.bind_eq_some_iff.mp H
               obtain ⟨t494, A750, H⟩ := H
               replace H : (laws_FnTwoCourses.j7 kj27 l0 t482 t483 t486 t487 (!t494)) = some r := H
               have A75 := Aside0.mk A750
               clear A750
               as_aux_lemma =>
                have H' := Aside0.mk H
                clear H
                obtain ⟨Ao76, co76, eo76⟩ := Kd.R_slice HO489.out
                subst eo76
                obtain ⟨Ao77, co77, eo77⟩ := Kd.R_slice HO493.out
                subst eo77
                go_wp2_with (first | (go_at_call 12; (with_reducible refine (laws_rCourses.calls kj27 _ _ t486 _ _ t490 t494 _ ?side1 ?side2 ?side3 ?side4 A75.out).mono ?_); (case side1 => repeat (first | exact (Kd.R_reads' HO489.out).2.2 | (with_reducible refine Kd.C_alloc ?_ _) | (with_reducible refine Kd.C_drewN ?_ _) | (with_reducible refine Kd.C_drew ?_))); (case side2 => exact (Kd.R_reads' HO489.out).2.1); (case side3 => repeat (first | exact (Kd.R_reads' HO493.out).2.2 | (with_reducible refine Kd.C_alloc ?_ _) | (with_reducible refine Kd.C_drewN ?_ _) | (with_reducible refine Kd.C_drew ?_))); (case side4 => exact (Kd.R_reads' HO493.out).2.1); rintro e w' ⟨rfl, ⟨nd, rfl⟩⟩))
                go_meet
                case rel => exact ⟨_, (!t494), zrx, H', ⟨by have := HJ7.out; have := HJ20.out; have := HK3.out; have := HJ27.out; first | omega | exact Nat.le_refl _⟩, ⟨by (with_reducible repeat (first | apply Kd.R_alloc | apply Kd.R_drewN | apply Kd.R_drew)); exact Kd.R_mono HO485.out (fun _ hk => hk.1.2)⟩, ⟨by (with_reducible repeat (first | apply Kd.R_alloc | apply Kd.R_drewN | apply Kd.R_drew)); exact Kd.R_mono HO489.out (fun _ hk => hk.1.2)⟩, ⟨by exact zBx HB.out⟩⟩
             case rest =>
              as_aux_lemma =>
              clear HC69
              try clear c1
              try clear c2
              try clear p2
              try clear c3
              try clear c4
              try clear c5
              try clear p6
              try clear c7
              try clear c8
              try clear c9
              try clear c10
              try clear c11
              try clear c13
              try clear c14
              try clear c15
              try clear c15b0
              try clear c15b1
              try clear c15b2
              try clear c16
              try clear c17
              try clear c19
              try clear c23
              try clear c23b0
              try clear c23b1
              try clear c23b2
              try clear c27
              try clear c29
              try clear c29b0
              try clear c30
              try clear c31
              try clear c37
              try clear c37b0
              try clear c39
              try clear c40
              try clear c45
              try clear c46
              try clear c47
              try clear c49
              try clear c50
              try clear c51
              try clear c51b0
              try clear c51b1
              try clear c52
              try clear c52b0
              try clear c52b1
              try clear c57
              try clear c57b0
              try clear c57b1
              try clear p64
              try clear c74
              try clear c74b0
              try clear c74b1
              try clear c74b2
              try clear p2
              obtain ⟨kq, x194_68, rfl, HA, HJ68, HO_23, HO_25, HB⟩ := hcut
              cases kq with
              | zero => exact absurd HA.out (by simp [laws_FnTwoCourses.j7])
              | succ kj68 =>
               have H := HA.out
               clear HA
               simp only [laws_FnTwoCourses.j7] at H
               by_cases c78 : x194_68 = true
               ·subst c78
                have H1 : (some false) = some r := by rw [if_pos rfl] at H; exact H
                clear H
                have H := H1
                clear H1
                as_aux_lemma =>
                 exact absurd (Option.some.inj H) (by rw [hr_]; decide)
               ·replace c78 := Bool.eq_false_iff.mpr c78
                subst c78
                have H1 : (if t487 = true then ((impl_ShiftCourse.f kj68 t486 (wrap64 (-t483))).bind fun bt495 => (if bt495.2 = true then ((laws_rCourses.f kj68 bt495.1 t482).bind fun t499 => (if t499 = true then (laws_FnTwoCourses.j8 kj68 l0) else (some false))) else (some false))) else (laws_FnTwoCourses.j8 kj68 l0)) = some r := by rw [if_neg (show ¬ (false = true) by decide)] at H; exact H
                clear H
                have H := H1
                clear H1
                have HC79 := Aside0.mk H
                clear H
                go_upto_if 195 with (fail)
                go_cut [] (fun wc => ∃ (kq : Nat), Aside0 (laws_FnTwoCourses.j8 kq l0 = some r) ∧ Aside0 (kq ≤ kj68) ∧ Aside0 (Below w.heap.size w wc))
                case first =>
                 as_aux_lemma =>
                 have H := HC79.out
                 clear HC79
                 by_cases c80 : t487 = true
                 ·subst c80
                  have H1 : ((impl_ShiftCourse.f kj68 t486 (wrap64 (-t483))).bind fun bt495 => (if bt495.2 = true then ((laws_rCourses.f kj68 bt495.1 t482).bind fun t499 => (if t499 = true then (laws_FnTwoCourses.j8 kj68 l0) else (some false))) else (some false))) = some r := by rw [if_pos rfl] at H; exact H
                  clear H
                  have H := H1
                  clear H1
                  replace H := Option.bind_eq_some_iff.mp H
                  obtain ⟨⟨t495, t496⟩, A810, H⟩ := H
                  replace H : (if t496 = true then ((laws_rCourses.f kj68 t495 t482).bind fun t499 => (if t499 = true then (laws_FnTwoCourses.j8 kj68 l0) else (some false))) else (some false)) = some r := H
                  have A81 := Aside0.mk A810
                  clear A810
                  by_cases c82 : t496 = true
                  ·subst c82
                   have H1 : ((laws_rCourses.f kj68 t495 t482).bind fun t499 => (if t499 = true then (laws_FnTwoCourses.j8 kj68 l0) else (some false))) = some r := by rw [if_pos rfl] at H; exact H
                   clear H
                   have H := H1
                   clear H1
                   replace H := Option.bind_eq_some_iff.mp H
                   obtain ⟨t499, A830, H⟩ := H
                   replace H : (if t499 = true then (laws_FnTwoCourses.j8 kj68 l0) else (some false)) = some r := H
                   have A83 := Aside0.mk A830
                   clear A830
                   by_cases c84 : t499 = true
                   ·subst c84
                    have H1 : (laws_FnTwoCourses.j8 kj68 l0) = some r := by rw [if_pos rfl] at H; exact H
                    clear H
                    have H := H1
                    clear H1
                    as_aux_lemma =>
                     have H' := Aside0.mk H
                     clear H
                     obtain ⟨Ao85, co85, eo85⟩ := Kd.R_slice HO_25.out
                     subst eo85
                     go_wp2_with (first | ((with_reducible refine gate_callee (f := 16) rfl ?_); refine goesL_ (some 200) rfl rfl Try.func16 (by kernel_rfl) rfl #[.slice Ao85 t486.length co85, .int .i64 (wrap64 (-t483))] rfl zlx ?_; (with_reducible refine (impl_ShiftCourse.calls kj68 _ _ t486 (wrap64 (-t483)) t495 true _ ?side1 ?side2 A81.out).mono ?_); (case side1 => repeat (first | exact (Kd.R_reads' HO_25.out).2.2 | (with_reducible refine Kd.C_alloc ?_ _) | (with_reducible refine Kd.C_drewN ?_ _) | (with_reducible refine Kd.C_drew ?_))); (case side2 => exact (Kd.R_reads' HO_25.out).2.1); rintro e w86 ⟨v497, rfl, ho0, hb⟩; refine ⟨_, rfl, ?_⟩; have n0_ := Aside0.mk (Kd.R_elder' (zRx HO_23.out) (Kd.R_base ho0) hb); have n1_ := Aside0.mk (Kd.R_elder' (zRx HO_25.out) (Kd.R_base ho0) hb); have n2_ := Aside0.mk (Kd.R_lower (Kd.R_new' (Kd.R_new' ho0 (Kd.R_lt (zRx HO_23.out))) (Kd.R_lt (zRx HO_25.out))) (below_size (zBx HB.out))); have n3_ := Aside0.mk (below_step (zBx HB.out) hb); clear HO_23; clear HO_25; clear HB; have HO_23 := n0_; have HO_25 := n1_; have HO498 := n2_; have HB := n3_; clear n0_ n1_ n2_ n3_; (try clear hb); (try clear hb2); (try clear hk); (try clear hi); (try clear ho0); obtain ⟨Ao87, co87, eo87⟩ := Kd.R_slice HO498.out; subst eo87) | (go_at_call 12; (with_reducible refine (laws_rCourses.calls kj68 _ _ t495 _ _ t482 true _ ?side1 ?side2 ?side3 ?side4 A83.out).mono ?_); (case side1 => repeat (first | exact (Kd.R_reads' HO498.out).2.2 | (with_reducible refine Kd.C_alloc ?_ _) | (with_reducible refine Kd.C_drewN ?_ _) | (with_reducible refine Kd.C_drew ?_))); (case side2 => exact (Kd.R_reads' HO498.out).2.1); (case side3 => repeat (first | exact (Kd.R_reads' HO_23.out).2.2 | (with_reducible refine Kd.C_alloc ?_ _) | (with_reducible refine Kd.C_drewN ?_ _) | (with_reducible refine Kd.C_drew ?_))); (case side4 => exact (Kd.R_reads' HO_23.out).2.1); rintro e w' ⟨rfl, ⟨nd, rfl⟩⟩))
                     go_meet
                     case rel => exact ⟨_, H', ⟨by have := HJ7.out; have := HJ20.out; have := HK3.out; have := HJ27.out; have := HJ68.out; first | omega | exact Nat.le_refl _⟩, ⟨by exact zBx HB.out⟩⟩
                   ·replace c84 := Bool.eq_false_iff.mpr c84
                    subst c84
                    have H1 : (some false) = some r := by rw [if_neg (show ¬ (false = true) by decide)] at H; exact H
                    clear H
                    have H := H1
                    clear H1
                    as_aux_lemma =>
                     exact absurd (Option.some.inj H) (by rw [hr_]; decide)
                  ·replace c82 := Bool.eq_false_iff.mpr c82
                   subst c82
                   have H1 : (some false) = some r := by rw [if_neg (show ¬ (false = true) by decide)] at H; exact H
                   clear H
                   have H := H1
                   clear H1
                   as_aux_lemma =>
                    exact absurd (Option.some.inj H) (by rw [hr_]; decide)
                 ·replace c80 := Bool.eq_false_iff.mpr c80
                  subst c80
                  have H1 : (laws_FnTwoCourses.j8 kj68 l0) = some r := by rw [if_neg (show ¬ (false = true) by decide)] at H; exact H
                  clear H
                  have H := H1
                  clear H1
                  as_aux_lemma =>
                   have H' := Aside0.mk H
                   clear H
                   go_wp2
                   go_meet
                   case rel => exact ⟨_, H', ⟨by have := HJ7.out; have := HJ20.out; have := HK3.out; have := HJ27.out; have := HJ68.out; first | omega | exact Nat.le_refl _⟩, ⟨by exact zBx HB.out⟩⟩
                case rest =>
                 as_aux_lemma =>
                 clear HC79
                 try clear c1
                 try clear c2
                 try clear p2
                 try clear c3
                 try clear c4
                 try clear c5
                 try clear p6
                 try clear c7
                 try clear c8
                 try clear c9
                 try clear c10
                 try clear c11
                 try clear c13
                 try clear c14
                 try clear c15
                 try clear c15b0
                 try clear c15b1
                 try clear c15b2
                 try clear c16
                 try clear c17
                 try clear c19
                 try clear c23
                 try clear c23b0
                 try clear c23b1
                 try clear c23b2
                 try clear c27
                 try clear c29
                 try clear c29b0
                 try clear c30
                 try clear c31
                 try clear c37
                 try clear c37b0
                 try clear c39
                 try clear c40
                 try clear c45
                 try clear c46
                 try clear c47
                 try clear c49
                 try clear c50
                 try clear c51
                 try clear c51b0
                 try clear c51b1
                 try clear c52
                 try clear c52b0
                 try clear c52b1
                 try clear c57
                 try clear c57b0
                 try clear c57b1
                 try clear p64
                 try clear c74
                 try clear c74b0
                 try clear c74b1
                 try clear c74b2
                 try clear c78
                 try clear c80
                 try clear c82
                 try clear c84
                 try clear p2
                 try clear p6
                 try clear p64
                 obtain ⟨kq, HA, HJ78, HB⟩ := hcut
                 cases kq with
                 | zero => exact absurd HA.out (by simp [laws_FnTwoCourses.j8])
                 | succ kj78 =>
                  have H := HA.out
                  clear HA
                  simp only [laws_FnTwoCourses.j8] at H
                  replace H := Option.bind_eq_some_iff.mp H
                  obtain ⟨t500, A930, H⟩ := H
                  replace H : ((impl_ChangesOf.f kj78 t500).bind fun bt503 => ((spec_ChangesOf.f kj78 t500).bind fun bt507 => (if (bt503.2 != bt507.2) = true then (laws_FnTwoCourses.j9 kj78 t500 bt503.1 true) else ((laws_rInts.f kj78 bt503.1 bt507.1).bind fun t511 => (laws_FnTwoCourses.j9 kj78 t500 bt503.1 (!t511)))))) = some r := H
                  have A93 := Aside0.mk A930
                  clear A930
                  replace H := Option.bind_eq_some_iff.mp H
                  obtain ⟨⟨t503, t504⟩, A940, H⟩ := H
                  replace H : ((spec_ChangesOf.f kj78 t500).bind fun bt507 => (if (t504 != bt507.2) = true then (laws_FnTwoCourses.j9 kj78 t500 t503 true) else ((laws_rInts.f kj78 t503 bt507.1).bind fun t511 => (laws_FnTwoCourses.j9 kj78 t500 t503 (!t511))))) = some r := H
                  have A94 := Aside0.mk A940
                  clear A940
                  replace H := Option.bind_eq_some_iff.mp H
                  obtain ⟨⟨t507, t508⟩, A950, H⟩ := H
                  replace H : (if (t504 != t508) = true then (laws_FnTwoCourses.j9 kj78 t500 t503 true) else ((laws_rInts.f kj78 t503 t507).bind fun t511 => (laws_FnTwoCourses.j9 kj78 t500 t503 (!t511)))) = some r := H
                  have A95 := Aside0.mk A950
                  clear A950
                  have HC96 := Aside0.mk H
                  clear H
                  go_upto_region 40 with (first | ((with_reducible refine gate_callee (f := 18) rfl ?_); refine goesL_ (some 212) rfl rfl Try.func18 (by kernel_rfl) rfl #[.slice A0 l0.length c0] rfl zlx ?_; (with_reducible refine (spec_DrawChangesOf.calls kj78 _ _ l0 t500 _ ?side1 ?side2 A93.out).mono ?_); (case side1 => repeat (first | exact (Kd.C_below HR0.out HB.out) | (with_reducible refine Kd.C_alloc ?_ _) | (with_reducible refine Kd.C_drewN ?_ _) | (with_reducible refine Kd.C_drew ?_))); (case side2 => exact HC0.out); rintro e w97 ⟨v501, rfl, ho0, hb⟩; refine ⟨_, rfl, ?_⟩; have n0_ := Aside0.mk (Kd.R_lower ho0 (below_size (zBx HB.out))); have n1_ := Aside0.mk (below_step (zBx HB.out) hb); clear HB; have HO502 := n0_; have HB := n1_; clear n0_ n1_; (try clear hb); (try clear hb2); (try clear hk); (try clear hi); (try clear ho0); obtain ⟨Ao98, co98, eo98⟩ := Kd.R_slice HO502.out; subst eo98) | ((with_reducible refine gate_callee (f := 19) rfl ?_); refine goesL_ (some 215) rfl rfl Try.func19 (by kernel_rfl) rfl #[.slice Ao98 t500.length co98] rfl zlx ?_; (with_reducible refine (impl_ChangesOf.calls kj78 _ _ t500 t503 t504 _ ?side1 ?side2 A94.out).mono ?_); (case side1 => repeat (first | exact (Kd.R_reads' HO502.out).2.2 | (with_reducible refine Kd.C_alloc ?_ _) | (with_reducible refine Kd.C_drewN ?_ _) | (with_reducible refine Kd.C_drew ?_))); (case side2 => exact (Kd.R_reads' HO502.out).2.1); rintro e w99 ⟨v505, rfl, ho0, hb⟩; refine ⟨_, rfl, ?_⟩; have n0_ := Aside0.mk (Kd.R_below (zRx HO502.out) hb); have n1_ := Aside0.mk (Kd.R_lower ho0 (below_size (zBx HB.out))); have n2_ := Aside0.mk (below_step (zBx HB.out) hb); clear HO502; clear HB; have HO502 := n0_; have HO506 := n1_; have HB := n2_; clear n0_ n1_ n2_; (try clear hb); (try clear hb2); (try clear hk); (try clear hi); (try clear ho0)) | ((with_reducible refine gate_callee (f := 20) rfl ?_); refine goesL_ (some 220) rfl rfl Try.func20 (by kernel_rfl) rfl #[.slice Ao98 t500.length co98] rfl zlx ?_; (with_reducible refine (spec_ChangesOf.calls kj78 _ _ t500 t507 t508 _ ?side1 ?side2 A95.out).mono ?_); (case side1 => repeat (first | exact (Kd.R_reads' HO502.out).2.2 | (with_reducible refine Kd.C_alloc ?_ _) | (with_reducible refine Kd.C_drewN ?_ _) | (with_reducible refine Kd.C_drew ?_))); (case side2 => exact (Kd.R_reads' HO502.out).2.1); rintro e w100 ⟨v509, rfl, ho0, hb⟩; refine ⟨_, rfl, ?_⟩; have n0_ := Aside0.mk (Kd.R_below (zRx HO502.out) hb); have n1_ := Aside0.mk (Kd.R_elder' (zRx HO506.out) (Kd.R_base ho0) hb); have n2_ := Aside0.mk (Kd.R_lower (Kd.R_new' ho0 (Kd.R_lt (zRx HO506.out))) (below_size (zBx HB.out))); have n3_ := Aside0.mk (below_step (zBx HB.out) hb); clear HO502; clear HO506; clear HB; have HO502 := n0_; have HO506 := n1_; have HO510 := n2_; have HB := n3_; clear n0_ n1_ n2_ n3_; (try clear hb); (try clear hb2); (try clear hk); (try clear hi); (try clear ho0)))
                  (try simp only [Act.put, List.setIfInBounds_toArray, List.set_cons_zero, List.set_cons_succ])
                  go_cut [231] (fun v231 wc => ∃ (kq : Nat) (x231_95 : Bool), v231 = .bool x231_95 ∧ Aside0 (laws_FnTwoCourses.j9 kq t500 t503 x231_95 = some r) ∧ Aside0 (kq ≤ kj78) ∧ Aside0 (Kd.R k41 41 wc w.heap.size (fun _ => True) (.slice Ao98 t500.length co98) t500) ∧ Aside0 (Kd.R (Kd.int .i64) 3 wc w.heap.size (fun _ => True) v505 t503) ∧ Aside0 (Below w.heap.size w wc))
                  case first =>
                   as_aux_lemma =>
                   have H := HC96.out
                   clear HC96
                   by_cases c101 : (t504 != t508) = true
                   ·rw [if_pos c101] at H
                    have c101b0 : (t504 != t508) = true := c101
                    (try (have c101b1 : decide (t504 = t508) = false := by simpa using c101))
                    (try (have c101b2 : (t504 == t508) = false := by simpa using c101))
                    (try (have c101b3 : ¬ (t504 = t508) := by simpa using c101))
                    clear c101
                    (first | rw [c101b0] | (simp only [i64_w, i32_w]; rw [c101b0]) | skip)
                    as_aux_lemma =>
                     have H' := Aside0.mk H
                     clear H
                     go_wp2
                     go_meet
                     case rel => exact ⟨_, (true), zrx, H', ⟨by have := HJ7.out; have := HJ20.out; have := HK3.out; have := HJ27.out; have := HJ68.out; have := HJ78.out; first | omega | exact Nat.le_refl _⟩, ⟨by (with_reducible repeat (first | apply Kd.R_alloc | apply Kd.R_drewN | apply Kd.R_drew)); exact HO502.out⟩, ⟨by (with_reducible repeat (first | apply Kd.R_alloc | apply Kd.R_drewN | apply Kd.R_drew)); exact Kd.R_mono HO506.out (fun _ hk => trivial)⟩, ⟨by exact zBx HB.out⟩⟩
                   ·rw [if_neg c101] at H
                    have c101b0 : (t504 != t508) = false := by simpa using c101
                    (try (have c101b1 : decide (t504 = t508) = true := by simpa using c101))
                    (try (have c101b2 : (t504 == t508) = true := by simpa using c101))
                    clear c101
                    (first | rw [c101b0] | (simp only [i64_w, i32_w]; rw [c101b0]) | skip)
                    replace H := Option.bind_eq_some_iff.mp H
                    obtain ⟨t511, A1020, H⟩ := H
                    replace H : (laws_FnTwoCourses.j9 kj78 t500 t503 (!t511)) = some r := H
                    have A102 := Aside0.mk A1020
                    clear A1020
                    as_aux_lemma =>
                     have H' := Aside0.mk H
                     clear H
                     obtain ⟨Ao103, co103, eo103⟩ := Kd.R_slice HO506.out
                     subst eo103
                     obtain ⟨Ao104, co104, eo104⟩ := Kd.R_slice HO510.out
                     subst eo104
                     go_wp2_with (first | (go_at_call 21; (with_reducible refine (laws_rInts.calls kj78 _ _ t503 _ _ t507 t511 _ ?side1 ?side2 ?side3 ?side4 A102.out).mono ?_); (case side1 => repeat (first | exact (Kd.R_reads' HO506.out).2.2 | (with_reducible refine Kd.C_alloc ?_ _) | (with_reducible refine Kd.C_drewN ?_ _) | (with_reducible refine Kd.C_drew ?_))); (case side2 => exact (Kd.R_reads' HO506.out).2.1); (case side3 => repeat (first | exact (Kd.R_reads' HO510.out).2.2 | (with_reducible refine Kd.C_alloc ?_ _) | (with_reducible refine Kd.C_drewN ?_ _) | (with_reducible refine Kd.C_drew ?_))); (case side4 => exact (Kd.R_reads' HO510.out).2.1); rintro e w' ⟨rfl, ⟨nd, rfl⟩⟩))
                     go_meet
                     case rel => exact ⟨_, (!t511), zrx, H', ⟨by have := HJ7.out; have := HJ20.out; have := HK3.out; have := HJ27.out; have := HJ68.out; have := HJ78.out; first | omega | exact Nat.le_refl _⟩, ⟨by (with_reducible repeat (first | apply Kd.R_alloc | apply Kd.R_drewN | apply Kd.R_drew)); exact HO502.out⟩, ⟨by (with_reducible repeat (first | apply Kd.R_alloc | apply Kd.R_drewN | apply Kd.R_drew)); exact Kd.R_mono HO506.out (fun _ hk => trivial)⟩, ⟨by exact zBx HB.out⟩⟩
                  case rest =>
                   as_aux_lemma =>
                   clear HC96
                   try clear c1
                   try clear c2
                   try clear p2
                   try clear c3
                   try clear c4
                   try clear c5
                   try clear p6
                   try clear c7
                   try clear c8
                   try clear c9
                   try clear c10
                   try clear c11
                   try clear c13
                   try clear c14
                   try clear c15
                   try clear c15b0
                   try clear c15b1
                   try clear c15b2
                   try clear c16
                   try clear c17
                   try clear c18
                   try clear c19
                   try clear c20
                   try clear c23
                   try clear c23b0
                   try clear c23b1
                   try clear c23b2
                   try clear c27
                   try clear c29
                   try clear c29b0
                   try clear c30
                   try clear c31
                   try clear c37
                   try clear c37b0
                   try clear c39
                   try clear c40
                   try clear c45
                   try clear c46
                   try clear c47
                   try clear c49
                   try clear c50
                   try clear c51
                   try clear c51b0
                   try clear c51b1
                   try clear c52
                   try clear c52b0
                   try clear c52b1
                   try clear c57
                   try clear c57b0
                   try clear c57b1
                   try clear p64
                   try clear c74
                   try clear c74b0
                   try clear c74b1
                   try clear c74b2
                   try clear c78
                   try clear c80
                   try clear c82
                   try clear c84
                   try clear c101
                   try clear c101b0
                   try clear c101b1
                   try clear c101b2
                   try clear p2
                   try clear p6
                   try clear p64
                   obtain ⟨kq, x231_95, rfl, HA, HJ95, HO_31, HO_32, HB⟩ := hcut
                   cases kq with
                   | zero => exact absurd HA.out (by simp [laws_FnTwoCourses.j9])
                   | succ kj95 =>
                    have H := HA.out
                    clear HA
                    simp only [laws_FnTwoCourses.j9] at H
                    by_cases c105 : x231_95 = true
                    ·subst c105
                     have H1 : (some false) = some r := by rw [if_pos rfl] at H; exact H
                     clear H
                     have H := H1
                     clear H1
                     as_aux_lemma =>
                      exact absurd (Option.some.inj H) (by rw [hr_]; decide)
                    ·replace c105 := Bool.eq_false_iff.mpr c105
                     subst c105
                     have H1 : (laws_FnTwoCourses.l1 kj95 t500 t503 0) = some r := by rw [if_neg (show ¬ (false = true) by decide)] at H; exact H
                     clear H
                     have H := H1
                     clear H1
                     have H' := Aside0.mk H
                     clear H
                     go_wp2
                     go_loopg [36] kj95 (fun kq v36 w' => ∃ (x36_8 : Int), v36 = .int .i64 x36_8 ∧ Aside0 (laws_FnTwoCourses.l1 kq t500 t503 x36_8 = some r) ∧ Aside0 (kq ≤ kj95) ∧ Aside0 (Kd.R k41 41 w' w.heap.size (fun _ => True) (.slice Ao98 t500.length co98) t500) ∧ Aside0 (Kd.R (Kd.int .i64) 3 w' w.heap.size (fun _ => True) v505 t503) ∧ Aside0 (Below w.heap.size w w'))
                     case atStart => exact ⟨(0), zrx, H', ⟨Nat.le_refl _⟩, ⟨by (with_reducible repeat (first | apply Kd.R_alloc | apply Kd.R_drewN | apply Kd.R_drew)); exact HO_31.out⟩, ⟨by (with_reducible repeat (first | apply Kd.R_alloc | apply Kd.R_drewN | apply Kd.R_drew)); exact HO_32.out⟩, ⟨by exact zBx HB.out⟩⟩
                     case round =>
                      clear H'
                      try clear c1
                      try clear c2
                      try clear p2
                      try clear c3
                      try clear c4
                      try clear c5
                      try clear p6
                      try clear c7
                      try clear c8
                      try clear c9
                      try clear c10
                      try clear c11
                      try clear c13
                      try clear c14
                      try clear c15
                      try clear c15b0
                      try clear c15b1
                      try clear c15b2
                      try clear c16
                      try clear c17
                      try clear c18
                      try clear c19
                      try clear c20
                      try clear c23
                      try clear c23b0
                      try clear c23b1
                      try clear c23b2
                      try clear c27
                      try clear c29
                      try clear c29b0
                      try clear c30
                      try clear c31
                      try clear c37
                      try clear c37b0
                      try clear c39
                      try clear c40
                      try clear c45
                      try clear c46
                      try clear c47
                      try clear c49
                      try clear c50
                      try clear c51
                      try clear c51b0
                      try clear c51b1
                      try clear c52
                      try clear c52b0
                      try clear c52b1
                      try clear c57
                      try clear c57b0
                      try clear c57b1
                      try clear p64
                      try clear c74
                      try clear c74b0
                      try clear c74b1
                      try clear c74b2
                      try clear c78
                      try clear c80
                      try clear c82
                      try clear c84
                      try clear c101
                      try clear c101b0
                      try clear c101b1
                      try clear c101b2
                      try clear c105
                      try clear p2
                      try clear p6
                      try clear p64
                      obtain ⟨x36_8, rfl, HA, HK8, HO_31, HO_32, HB⟩ := hrel
                      cases gk with
                      | zero => exact absurd HA.out (by simp [laws_FnTwoCourses.l1])
                      | succ k8 =>
                       have H := HA.out
                       clear HA
                       simp only [laws_FnTwoCourses.l1] at H
                       by_cases c106 : x36_8 < (t503.length : Int)
                       ·rw [if_pos c106] at H
                        have c106b0 : decide (x36_8 < (t503.length : Int)) = true := decide_eq_true c106
                        clear c106
                        by_cases c107 : 0 ≤ x36_8
                        ·rw [if_pos c107] at H
                         have c107b0 : decide (0 ≤ x36_8) = true := decide_eq_true c107
                         clear c107
                         replace H := Option.bind_eq_some_iff.mp H
                         obtain ⟨⟨t513, t514⟩, A1080, H⟩ := H
                         replace H : ((impl_CourseLevel.f k8 t500 (wrap64 ((rd t503 x36_8) - 1))).bind fun bt516 => (if t514 = true then (if bt516.2 = true then (if t513 = bt516.1 then (some false) else (laws_FnTwoCourses.l1 k8 t500 t503 (wrap64 (x36_8 + 1)))) else (some false)) else (some false))) = some r := H
                         have A108 := Aside0.mk A1080
                         clear A1080
                         replace H := Option.bind_eq_some_iff.mp H
                         obtain ⟨⟨t516, t517⟩, A1090, H⟩ := H
                         replace H : (if t514 = true then (if t517 = true then (if t513 = t516 then (some false) else (laws_FnTwoCourses.l1 k8 t500 t503 (wrap64 (x36_8 + 1)))) else (some false)) else (some false)) = some r := H
                         have A109 := Aside0.mk A1090
                         clear A1090
                         by_cases c110 : t514 = true
                         ·subst c110
                          have H1 : (if t517 = true then (if t513 = t516 then (some false) else (laws_FnTwoCourses.l1 k8 t500 t503 (wrap64 (x36_8 + 1)))) else (some false)) = some r := by rw [if_pos rfl] at H; exact H
                          clear H
                          have H := H1
                          clear H1
                          by_cases c111 : t517 = true
                          ·subst c111
                           have H1 : (if t513 = t516 then (some false) else (laws_FnTwoCourses.l1 k8 t500 t503 (wrap64 (x36_8 + 1)))) = some r := by rw [if_pos rfl] at H; exact H
                           clear H
                           have H := H1
                           clear H1
                           by_cases c112 : t513 = t516
                           ·rw [if_pos c112] at H
                            have c112b0 : (t513 == t516) = true := beq_iff_eq.mpr c112
                            have c112b1 : (t513 != t516) = false := bne_eq_false_iff_eq.mpr c112
                            clear c112
                            as_aux_lemma =>
                             exact absurd (Option.some.inj H) (by rw [hr_]; decide)
                           ·rw [if_neg c112] at H
                            have c112b0 : (t513 == t516) = false := beq_eq_false_iff_ne.mpr c112
                            have c112b1 : (t513 != t516) = true := bne_iff_ne.mpr c112
                            as_aux_lemma =>
                             have H' := Aside0.mk H
                             clear H
                             obtain ⟨Ao116, co116, eo116⟩ := Kd.R_slice HO_32.out
                             subst eo116
                             have p512 : 0 ≤ (x36_8 : Int) := of_decide_eq_true zax
                             have q512 : x36_8 < (t503.length : Int) := of_decide_eq_true zax
                             obtain ⟨ad512, e512, hx512_0⟩ := Kd.at_int (Kd.R_reads' HO_32.out).2.2 x36_8 p512 q512
                             cases e512
                             replace p512 := eq_true p512
                             replace q512 := eq_true q512
                             go_wp2_with (first | ((with_reducible refine gate_callee (f := 14) rfl ?_); refine goesL_ (some 244) rfl rfl Try.func14 (by kernel_rfl) rfl #[.slice Ao98 t500.length co98, .int .i64 (rd t503 x36_8)] rfl zlx ?_; (with_reducible refine (impl_CourseLevel.calls k8 _ _ t500 (rd t503 x36_8) t513 true _ ?side1 ?side2 A108.out).mono ?_); (case side1 => repeat (first | exact (Kd.R_reads' HO_31.out).2.2 | (with_reducible refine Kd.C_alloc ?_ _) | (with_reducible refine Kd.C_drewN ?_ _) | (with_reducible refine Kd.C_drew ?_))); (case side2 => exact (Kd.R_reads' HO_31.out).2.1); rintro e w117 ⟨rfl, hb⟩; refine ⟨_, rfl, ?_⟩; have n0_ := Aside0.mk (Kd.R_below (zRx HO_31.out) hb); have n1_ := Aside0.mk (Kd.R_below (zRx HO_32.out) hb); have n2_ := Aside0.mk (below_step (zBx HB.out) hb); clear HO_31; clear HO_32; clear HB; have HO_31 := n0_; have HO_32 := n1_; have HB := n2_; clear n0_ n1_ n2_; (try clear hb); (try clear hb2); (try clear hk); (try clear hi); have p515 : 0 ≤ (x36_8 : Int) := of_decide_eq_true zax; have q515 : x36_8 < (t503.length : Int) := of_decide_eq_true zax; obtain ⟨ad515, e515, hx515_0⟩ := Kd.at_int (Kd.R_reads' HO_32.out).2.2 x36_8 p515 q515; obtain rfl : ad512 = ad515 := (by injection e515); replace p515 := eq_true p515; replace q515 := eq_true q515) | ((with_reducible refine gate_callee (f := 14) rfl ?_); refine goesL_ (some 254) rfl rfl Try.func14 (by kernel_rfl) rfl #[.slice Ao98 t500.length co98, .int .i64 (wrap64 ((rd t503 x36_8) - 1))] rfl zlx ?_; (with_reducible refine (impl_CourseLevel.calls k8 _ _ t500 (wrap64 ((rd t503 x36_8) - 1)) t516 true _ ?side1 ?side2 A109.out).mono ?_); (case side1 => repeat (first | exact (Kd.R_reads' HO_31.out).2.2 | (with_reducible refine Kd.C_alloc ?_ _) | (with_reducible refine Kd.C_drewN ?_ _) | (with_reducible refine Kd.C_drew ?_))); (case side2 => exact (Kd.R_reads' HO_31.out).2.1); rintro e w118 ⟨rfl, hb⟩; refine ⟨_, rfl, ?_⟩; have n0_ := Aside0.mk (Kd.R_below (zRx HO_31.out) hb); have n1_ := Aside0.mk (Kd.R_below (zRx HO_32.out) hb); have n2_ := Aside0.mk (below_step (zBx HB.out) hb); clear HO_31; clear HO_32; clear HB; have HO_31 := n0_; have HO_32 := n1_; have HB := n2_; clear n0_ n1_ n2_; (try clear hb); (try clear hb2); (try clear hk); (try clear hi)))
                             go_roundg k8
                             case measure => have := HJ7.out; have := HJ20.out; have := HK3.out; have := HJ27.out; have := HJ68.out; have := HJ78.out; have := HJ95.out; have := HK8.out; omega
                             case rel => exact ⟨(wrap64 (x36_8 + 1)), zrx, H', ⟨by have := HJ7.out; have := HJ20.out; have := HK3.out; have := HJ27.out; have := HJ68.out; have := HJ78.out; have := HJ95.out; have := HK8.out; omega⟩, ⟨by (with_reducible repeat (first | apply Kd.R_alloc | apply Kd.R_drewN | apply Kd.R_drew)); exact HO_31.out⟩, ⟨by (with_reducible repeat (first | apply Kd.R_alloc | apply Kd.R_drewN | apply Kd.R_drew)); exact HO_32.out⟩, ⟨by exact zBx HB.out⟩⟩
                          ·replace c111 := Bool.eq_false_iff.mpr c111
                           subst c111
                           have H1 : (some false) = some r := by rw [if_neg (show ¬ (false = true) by decide)] at H; exact H
                           clear H
                           have H := H1
                           clear H1
                           as_aux_lemma =>
                            exact absurd (Option.some.inj H) (by rw [hr_]; decide)
                         ·replace c110 := Bool.eq_false_iff.mpr c110
                          subst c110
                          have H1 : (some false) = some r := by rw [if_neg (show ¬ (false = true) by decide)] at H; exact H
                          clear H
                          have H := H1
                          clear H1
                          as_aux_lemma =>
                           exact absurd (Option.some.inj H) (by rw [hr_]; decide)
                        ·rw [if_neg c107] at H
                         exact absurd H (by simp)
                       ·rw [if_neg c106] at H
                        have c106b0 : decide (x36_8 < (t503.length : Int)) = false := decide_eq_false c106
                        clear c106
                        as_aux_lemma =>
                         obtain rfl := Option.some.inj H
                         obtain ⟨Ao125, co125, eo125⟩ := Kd.R_slice HO_32.out
                         subst eo125
                         go_wp2
                         go_ret
                         exact ⟨by first | rfl | (simp [errW_none, errW_some] <;> rfl) | (simp [*, errW_none, errW_some] <;> rfl), by exact zBx HB.out⟩

/-- THE ONE PURE STATEMENT of laws_FnTwoCourses: yours. -/
def laws_FnTwoCourses.Pure : Prop := ∀ (l0 : List Int), l0.length ≤ maxLen → l0.length * 1 ≤ 140737488351232 → (∀ x ∈ l0, (Lit.int .u8 x).wf = true) → ∃ k, laws_FnTwoCourses.f k l0 = some true
theorem laws_FnTwoCourses.walk (P : laws_FnTwoCourses.Pure) (a0 : Option Addr) (len0 cap0 : Nat) (z0 : List Int) (w : World) (w0 : (a0 = none ∧ len0 = 0 ∧ cap0 = 0 ∧ z0 = []) ∨ ∃ x, a0 = some x ∧ len0 ≤ cap0 ∧ cap0 ≤ maxLen ∧ z0.length = cap0 ∧ (∀ i, i < z0.length → w.cell? (x.add i) = some (.int .u8 (z0.getD i 0))) ∧ ∀ n ∈ z0, (Lit.int .u8 n).wf = true) (y0 : len0 * 1 ≤ 140737488351232) :
 Calls Try.prog 3 #[.slice a0 len0 cap0] w fun e w' => e = .returned (.bool true) ∧ Below w.heap.size w w' := by
 obtain ⟨l0, rfl, hr0, hm0, hw0, hc0⟩ := ReadsInt.ofRowC w0
 obtain ⟨k, h⟩ := P l0 hm0 y0 hw0
 refine (laws_FnTwoCourses.calls k _ _ l0 true w (Kd.C_of_reads (d := (0 : Int)) (h1 := fun _ => rfl) hr0) hc0 h rfl).mono ?_
 rintro e w' ⟨rfl, hd⟩
 exact ⟨rfl, hd⟩

end Go.Proofs.Ytkegkbpadhddkaa.XFnTwoCourses
