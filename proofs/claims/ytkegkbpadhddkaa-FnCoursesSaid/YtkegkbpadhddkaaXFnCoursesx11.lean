-- written by wip/tools/xprint.py (a program of this project) out of the translation
import Derived.Test.YtkegkbpadhddkaaXFnCoursesx0
import Derived.Test.YtkegkbpadhddkaaXFnCoursesx2
import Derived.Test.YtkegkbpadhddkaaXFnCoursesx3
import Derived.Test.YtkegkbpadhddkaaXFnCoursesx5
import Derived.Test.YtkegkbpadhddkaaXFnCoursesx7
import Derived.Test.YtkegkbpadhddkaaXFnCoursesx8
import Derived.Test.YtkegkbpadhddkaaXFnCoursesx9
import Derived.Test.YtkegkbpadhddkaaXFnCoursesx10
namespace Go.Proofs.Ytkegkbpadhddkaa.XFnCourses
open Go.RowKit Go.Proofs.YtkegkbpadhddkaaW.PrintWords Go.Proofs.YtkegkbpadhddkaaW.PrintLast Go.Proofs.YtkegkbpadhddkaaW.PrintMore
attribute [local go_sem] max2_int min2_int max_two min_two max_three min_three max_four min_four   -- for this text's walks alone
set_option linter.unusedVariables false
set_option linter.unusedSimpArgs false

/-! ### laws_FnCourses: function 4 -/
mutual
def laws_FnCourses.j0 : Nat → List Int → List (S41) → Bool → Bool → Int → Int → Int → Option (Bool)
 | 0, _, _, _, _, _, _, _ => none
 | k + 1, x0, x5, x6, x63, x461000, x461001, x461002 => if x63 = true then (some false) else (laws_FnCourses.l0 k x0 x5 x6 x461000 x461000 x461001 x461002)
def laws_FnCourses.l0 : Nat → List Int → List (S41) → Bool → Int → Int → Int → Int → Option (Bool)
 | 0, _, _, _, _, _, _, _ => none
 | k + 1, x0, x5, x6, x9, x461000, x461001, x461002 => if x6 = true then (laws_FnCourses.j2 k x0 x5 x6 x9 (decide (x9 < x461001)) x461000 x461001 x461002) else (laws_FnCourses.j2 k x0 x5 x6 x9 false x461000 x461001 x461002)
def laws_FnCourses.j2 : Nat → List Int → List (S41) → Bool → Int → Bool → Int → Int → Int → Option (Bool)
 | 0, _, _, _, _, _, _, _, _ => none
 | k + 1, x0, x5, x6, x9, x72, x461000, x461001, x461002 => if x72 = true then ((impl_CourseLevel.f k x5 x9).bind fun bt470 => (if bt470.2 = true then (if bt470.1 = x461002 then (laws_FnCourses.l0 k x0 x5 x6 (wrap64 (x9 + 1)) x461000 x461001 x461002) else (some false)) else (some false))) else ((spec_DrawGapsOf.f k x0).bind fun t472 => ((impl_GapsOf.f k t472).bind fun bt475 => ((spec_GapsOf.f k t472).bind fun bt479 => (if (bt475.2 != bt479.2) = true then (laws_FnCourses.j3 k x0 t472 bt475.1 bt475.2 true) else ((laws_rTable.f k bt475.1 bt479.1).bind fun t483 => (if t483 = true then ((impl_IsValidCourse.f k t472).bind fun t484 => (laws_FnCourses.j3 k x0 t472 bt475.1 bt475.2 (bt475.2 != t484))) else (laws_FnCourses.j3 k x0 t472 bt475.1 bt475.2 true)))))))
def laws_FnCourses.j3 : Nat → List Int → List (S41) → List (List Int) → Bool → Bool → Option (Bool)
 | 0, _, _, _, _, _ => none
 | k + 1, x0, x12, x13, x14, x115 => if x115 = true then (some false) else (if x14 = true then (laws_FnCourses.l1 k x0 x12 x13 (([] : List Int)) 0 0) else (laws_FnCourses.j7 k x0))
def laws_FnCourses.j7 : Nat → List Int → Option (Bool)
 | 0, _ => none
 | k + 1, x0 => (spec_DrawCourseOf.f k x0).bind fun t506 => ((impl_CourseOf.f k t506).bind fun bt509 => ((spec_CourseOf.f k t506).bind fun bt513 => (if (bt509.2 == bt513.2) = true then ((laws_rCourses.f k bt509.1 bt513.1).bind fun t517 => (some t517)) else (some false))))
def laws_FnCourses.l1 : Nat → List Int → List (S41) → List (List Int) → List Int → Int → Int → Option (Bool)
 | 0, _, _, _, _, _, _ => none
 | k + 1, x0, x12, x13, x17, x18, x19 => if x19 < 240 then ((impl_CourseLevel.f k x12 x19).bind fun bt488 => (if bt488.2 = true then (if x17.length < 17592186044416 then (laws_FnCourses.l1 k x0 x12 x13 (x17 ++ [bt488.1]) x18 (wrap64 (x19 + 1))) else (none)) else (some false))) else (laws_FnCourses.l2 k x0 x12 x13 x17 x18 0)
def laws_FnCourses.l2 : Nat → List Int → List (S41) → List (List Int) → List Int → Int → Int → Option (Bool)
 | 0, _, _, _, _, _, _ => none
 | k + 1, x0, x12, x13, x17, x18, x22 => if x22 ≤ 3 then ((impl_HoursAt.f k x12 x22).bind fun bt493 => (if bt493.2 = true then (laws_FnCourses.l2 k x0 x12 x13 x17 (wrap64 (x18 + bt493.1)) (wrap64 (x22 + 1))) else (some false))) else (laws_FnCourses.l3 k x0 x12 x13 x17 x18 0 0)
def laws_FnCourses.l3 : Nat → List Int → List (S41) → List (List Int) → List Int → Int → Int → Int → Option (Bool)
 | 0, _, _, _, _, _, _, _ => none
 | k + 1, x0, x12, x13, x17, x18, x25, x26 => if x26 < (x13.length : Int) then (if 0 ≤ x26 then (if 1 < ((rd_L3 x13 x26).length : Int) then (if 0 < ((rd_L3 x13 x26).length : Int) then (laws_FnCourses.l3 k x0 x12 x13 x17 x18 (wrap64 ((wrap64 (x25 + (rd (rd_L3 x13 x26) 1))) - (rd (rd_L3 x13 x26) 0))) (wrap64 (x26 + 1))) else (none)) else (none)) else (none)) else ((impl_HoursAt.f k x12 0).bind fun bt499 => ((impl_CourseOf.f k x17).bind fun bt501 => (if bt499.2 = true then (if bt501.2 = true then (if bt499.1 = x25 then (if x18 = 240 then ((laws_rCourses.f k bt501.1 x12).bind fun t505 => (if t505 = true then (laws_FnCourses.j7 k x0) else (some false))) else (some false)) else (some false)) else (some false)) else (some false))))
end
def laws_FnCourses.f (k : Nat) (l0 : List Int) : Option (Bool) := (laws_rBig.f l0).bind fun t453 => (if t453 = true then (some true) else ((spec_DrawSetCourseLevel.f k l0).bind fun bt454 => ((impl_SetCourseLevel.f k bt454.1 bt454.2.1 bt454.2.2.1 bt454.2.2.2).bind fun bt461 => ((spec_SetCourseLevel.f k bt454.1 bt454.2.1 bt454.2.2.1 bt454.2.2.2).bind fun bt465 => (if (bt461.2 != bt465.2) = true then (laws_FnCourses.j0 k l0 bt461.1 bt461.2 true bt454.2.1 bt454.2.2.1 bt454.2.2.2) else ((laws_rCourses.f k bt461.1 bt465.1).bind fun t469 => (laws_FnCourses.j0 k l0 bt461.1 bt461.2 (!t469) bt454.2.1 bt454.2.2.1 bt454.2.2.2)))))))
theorem laws_FnCourses.mono_l : ∀ k, (∀ y0 y1 y2 y3 y4 y5 y6, LeO (laws_FnCourses.j0 k y0 y1 y2 y3 y4 y5 y6) (laws_FnCourses.j0 (k + 1) y0 y1 y2 y3 y4 y5 y6)) ∧ (∀ y0 y1 y2 y3 y4 y5 y6, LeO (laws_FnCourses.l0 k y0 y1 y2 y3 y4 y5 y6) (laws_FnCourses.l0 (k + 1) y0 y1 y2 y3 y4 y5 y6)) ∧ (∀ y0 y1 y2 y3 y4 y5 y6 y7, LeO (laws_FnCourses.j2 k y0 y1 y2 y3 y4 y5 y6 y7) (laws_FnCourses.j2 (k + 1) y0 y1 y2 y3 y4 y5 y6 y7)) ∧ (∀ y0 y1 y2 y3 y4, LeO (laws_FnCourses.j3 k y0 y1 y2 y3 y4) (laws_FnCourses.j3 (k + 1) y0 y1 y2 y3 y4)) ∧ (∀ y0, LeO (laws_FnCourses.j7 k y0) (laws_FnCourses.j7 (k + 1) y0)) ∧ (∀ y0 y1 y2 y3 y4 y5, LeO (laws_FnCourses.l1 k y0 y1 y2 y3 y4 y5) (laws_FnCourses.l1 (k + 1) y0 y1 y2 y3 y4 y5)) ∧ (∀ y0 y1 y2 y3 y4 y5, LeO (laws_FnCourses.l2 k y0 y1 y2 y3 y4 y5) (laws_FnCourses.l2 (k + 1) y0 y1 y2 y3 y4 y5)) ∧ (∀ y0 y1 y2 y3 y4 y5 y6, LeO (laws_FnCourses.l3 k y0 y1 y2 y3 y4 y5 y6) (laws_FnCourses.l3 (k + 1) y0 y1 y2 y3 y4 y5 y6))
 | 0 => ⟨fun _ _ _ _ _ _ _ r h => by simp [laws_FnCourses.j0] at h, fun _ _ _ _ _ _ _ r h => by simp [laws_FnCourses.l0] at h, fun _ _ _ _ _ _ _ _ r h => by simp [laws_FnCourses.j2] at h, fun _ _ _ _ _ r h => by simp [laws_FnCourses.j3] at h, fun _ r h => by simp [laws_FnCourses.j7] at h, fun _ _ _ _ _ _ r h => by simp [laws_FnCourses.l1] at h, fun _ _ _ _ _ _ r h => by simp [laws_FnCourses.l2] at h, fun _ _ _ _ _ _ _ r h => by simp [laws_FnCourses.l3] at h⟩
 | k + 1 => by
  obtain ⟨ih0, ih1, ih2, ih3, ih4, ih5, ih6, ih7⟩ := laws_FnCourses.mono_l k
  refine ⟨?_, ?_, ?_, ?_, ?_, ?_, ?_, ?_⟩
  ·intro y0 y1 y2 y3 y4 y5 y6
   unfold laws_FnCourses.j0
   repeat' first
   | (with_reducible exact ih0 _ _ _ _ _ _ _)
   | (with_reducible exact ih1 _ _ _ _ _ _ _)
   | (with_reducible exact ih2 _ _ _ _ _ _ _ _)
   | (with_reducible exact ih3 _ _ _ _ _)
   | (with_reducible exact ih4 _)
   | (with_reducible exact ih5 _ _ _ _ _ _)
   | (with_reducible exact ih6 _ _ _ _ _ _)
   | (with_reducible exact ih7 _ _ _ _ _ _ _)
   | (with_reducible exact impl_CourseLevel.mono _ _ _)
   | (with_reducible exact impl_CourseOf.mono _ _)
   | (with_reducible exact impl_GapsOf.mono _ _)
   | (with_reducible exact impl_HoursAt.mono _ _ _)
   | (with_reducible exact impl_IsValidCourse.mono _ _)
   | (with_reducible exact impl_SetCourseLevel.mono _ _ _ _ _)
   | (with_reducible exact laws_rCourses.mono _ _ _)
   | (with_reducible exact laws_rTable.mono _ _ _)
   | (with_reducible exact spec_CourseOf.mono _ _)
   | (with_reducible exact spec_DrawCourseOf.mono _ _)
   | (with_reducible exact spec_DrawGapsOf.mono _ _)
   | (with_reducible exact spec_DrawSetCourseLevel.mono _ _)
   | (with_reducible exact spec_GapsOf.mono _ _)
   | (with_reducible exact spec_SetCourseLevel.mono _ _ _ _ _)
   | (with_reducible exact LeO.refl _)
   | (with_reducible exact LeO.none _)
   | (with_reducible refine LeO.ite ?_ ?_)
   | (with_reducible refine LeO.bind ?_ (fun _ => ?_))
   | exact ih0 _ _ _ _ _ _ _
   | exact ih1 _ _ _ _ _ _ _
   | exact ih2 _ _ _ _ _ _ _ _
   | exact ih3 _ _ _ _ _
   | exact ih4 _
   | exact ih5 _ _ _ _ _ _
   | exact ih6 _ _ _ _ _ _
   | exact ih7 _ _ _ _ _ _ _
   | exact impl_CourseLevel.mono _ _ _
   | exact impl_CourseOf.mono _ _
   | exact impl_GapsOf.mono _ _
   | exact impl_HoursAt.mono _ _ _
   | exact impl_IsValidCourse.mono _ _
   | exact impl_SetCourseLevel.mono _ _ _ _ _
   | exact laws_rCourses.mono _ _ _
   | exact laws_rTable.mono _ _ _
   | exact spec_CourseOf.mono _ _
   | exact spec_DrawCourseOf.mono _ _
   | exact spec_DrawGapsOf.mono _ _
   | exact spec_DrawSetCourseLevel.mono _ _
   | exact spec_GapsOf.mono _ _
   | exact spec_SetCourseLevel.mono _ _ _ _ _
   | exact LeO.none _
   | refine LeO.ite ?_ ?_
   | refine LeO.bind ?_ (fun _ => ?_)
  ·intro y0 y1 y2 y3 y4 y5 y6
   unfold laws_FnCourses.l0
   repeat' first
   | (with_reducible exact ih0 _ _ _ _ _ _ _)
   | (with_reducible exact ih1 _ _ _ _ _ _ _)
   | (with_reducible exact ih2 _ _ _ _ _ _ _ _)
   | (with_reducible exact ih3 _ _ _ _ _)
   | (with_reducible exact ih4 _)
   | (with_reducible exact ih5 _ _ _ _ _ _)
   | (with_reducible exact ih6 _ _ _ _ _ _)
   | (with_reducible exact ih7 _ _ _ _ _ _ _)
   | (with_reducible exact impl_CourseLevel.mono _ _ _)
   | (with_reducible exact impl_CourseOf.mono _ _)
   | (with_reducible exact impl_GapsOf.mono _ _)
   | (with_reducible exact impl_HoursAt.mono _ _ _)
   | (with_reducible exact impl_IsValidCourse.mono _ _)
   | (with_reducible exact impl_SetCourseLevel.mono _ _ _ _ _)
   | (with_reducible exact laws_rCourses.mono _ _ _)
   | (with_reducible exact laws_rTable.mono _ _ _)
   | (with_reducible exact spec_CourseOf.mono _ _)
   | (with_reducible exact spec_DrawCourseOf.mono _ _)
   | (with_reducible exact spec_DrawGapsOf.mono _ _)
   | (with_reducible exact spec_DrawSetCourseLevel.mono _ _)
   | (with_reducible exact spec_GapsOf.mono _ _)
   | (with_reducible exact spec_SetCourseLevel.mono _ _ _ _ _)
   | (with_reducible exact LeO.refl _)
   | (with_reducible exact LeO.none _)
   | (with_reducible refine LeO.ite ?_ ?_)
   | (with_reducible refine LeO.bind ?_ (fun _ => ?_))
   | exact ih0 _ _ _ _ _ _ _
   | exact ih1 _ _ _ _ _ _ _
   | exact ih2 _ _ _ _ _ _ _ _
   | exact ih3 _ _ _ _ _
   | exact ih4 _
   | exact ih5 _ _ _ _ _ _
   | exact ih6 _ _ _ _ _ _
   | exact ih7 _ _ _ _ _ _ _
   | exact impl_CourseLevel.mono _ _ _
   | exact impl_CourseOf.mono _ _
   | exact impl_GapsOf.mono _ _
   | exact impl_HoursAt.mono _ _ _
   | exact impl_IsValidCourse.mono _ _
   | exact impl_SetCourseLevel.mono _ _ _ _ _
   | exact laws_rCourses.mono _ _ _
   | exact laws_rTable.mono _ _ _
   | exact spec_CourseOf.mono _ _
   | exact spec_DrawCourseOf.mono _ _
   | exact spec_DrawGapsOf.mono _ _
   | exact spec_DrawSetCourseLevel.mono _ _
   | exact spec_GapsOf.mono _ _
   | exact spec_SetCourseLevel.mono _ _ _ _ _
   | exact LeO.none _
   | refine LeO.ite ?_ ?_
   | refine LeO.bind ?_ (fun _ => ?_)
  ·intro y0 y1 y2 y3 y4 y5 y6 y7
   unfold laws_FnCourses.j2
   repeat' first
   | (with_reducible exact ih0 _ _ _ _ _ _ _)
   | (with_reducible exact ih1 _ _ _ _ _ _ _)
   | (with_reducible exact ih2 _ _ _ _ _ _ _ _)
   | (with_reducible exact ih3 _ _ _ _ _)
   | (with_reducible exact ih4 _)
   | (with_reducible exact ih5 _ _ _ _ _ _)
   | (with_reducible exact ih6 _ _ _ _ _ _)
   | (with_reducible exact ih7 _ _ _ _ _ _ _)
   | (with_reducible exact impl_CourseLevel.mono _ _ _)
   | (with_reducible exact impl_CourseOf.mono _ _)
   | (with_reducible exact impl_GapsOf.mono _ _)
   | (with_reducible exact impl_HoursAt.mono _ _ _)
   | (with_reducible exact impl_IsValidCourse.mono _ _)
   | (with_reducible exact impl_SetCourseLevel.mono _ _ _ _ _)
   | (with_reducible exact laws_rCourses.mono _ _ _)
   | (with_reducible exact laws_rTable.mono _ _ _)
   | (with_reducible exact spec_CourseOf.mono _ _)
   | (with_reducible exact spec_DrawCourseOf.mono _ _)
   | (with_reducible exact spec_DrawGapsOf.mono _ _)
   | (with_reducible exact spec_DrawSetCourseLevel.mono _ _)
   | (with_reducible exact spec_GapsOf.mono _ _)
   | (with_reducible exact spec_SetCourseLevel.mono _ _ _ _ _)
   | (with_reducible exact LeO.refl _)
   | (with_reducible exact LeO.none _)
   | (with_reducible refine LeO.ite ?_ ?_)
   | (with_reducible refine LeO.bind ?_ (fun _ => ?_))
   | exact ih0 _ _ _ _ _ _ _
   | exact ih1 _ _ _ _ _ _ _
   | exact ih2 _ _ _ _ _ _ _ _
   | exact ih3 _ _ _ _ _
   | exact ih4 _
   | exact ih5 _ _ _ _ _ _
   | exact ih6 _ _ _ _ _ _
   | exact ih7 _ _ _ _ _ _ _
   | exact impl_CourseLevel.mono _ _ _
   | exact impl_CourseOf.mono _ _
   | exact impl_GapsOf.mono _ _
   | exact impl_HoursAt.mono _ _ _
   | exact impl_IsValidCourse.mono _ _
   | exact impl_SetCourseLevel.mono _ _ _ _ _
   | exact laws_rCourses.mono _ _ _
   | exact laws_rTable.mono _ _ _
   | exact spec_CourseOf.mono _ _
   | exact spec_DrawCourseOf.mono _ _
   | exact spec_DrawGapsOf.mono _ _
   | exact spec_DrawSetCourseLevel.mono _ _
   | exact spec_GapsOf.mono _ _
   | exact spec_SetCourseLevel.mono _ _ _ _ _
   | exact LeO.none _
   | refine LeO.ite ?_ ?_
   | refine LeO.bind ?_ (fun _ => ?_)
  ·intro y0 y1 y2 y3 y4
   unfold laws_FnCourses.j3
   repeat' first
   | (with_reducible exact ih0 _ _ _ _ _ _ _)
   | (with_reducible exact ih1 _ _ _ _ _ _ _)
   | (with_reducible exact ih2 _ _ _ _ _ _ _ _)
   | (with_reducible exact ih3 _ _ _ _ _)
   | (with_reducible exact ih4 _)
   | (with_reducible exact ih5 _ _ _ _ _ _)
   | (with_reducible exact ih6 _ _ _ _ _ _)
   | (with_reducible exact ih7 _ _ _ _ _ _ _)
   | (with_reducible exact impl_CourseLevel.mono _ _ _)
   | (with_reducible exact impl_CourseOf.mono _ _)
   | (with_reducible exact impl_GapsOf.mono _ _)
   | (with_reducible exact impl_HoursAt.mono _ _ _)
   | (with_reducible exact impl_IsValidCourse.mono _ _)
   | (with_reducible exact impl_SetCourseLevel.mono _ _ _ _ _)
   | (with_reducible exact laws_rCourses.mono _ _ _)
   | (with_reducible exact laws_rTable.mono _ _ _)
   | (with_reducible exact spec_CourseOf.mono _ _)
   | (with_reducible exact spec_DrawCourseOf.mono _ _)
   | (with_reducible exact spec_DrawGapsOf.mono _ _)
   | (with_reducible exact spec_DrawSetCourseLevel.mono _ _)
   | (with_reducible exact spec_GapsOf.mono _ _)
   | (with_reducible exact spec_SetCourseLevel.mono _ _ _ _ _)
   | (with_reducible exact LeO.refl _)
   | (with_reducible exact LeO.none _)
   | (with_reducible refine LeO.ite ?_ ?_)
   | (with_reducible refine LeO.bind ?_ (fun _ => ?_))
   | exact ih0 _ _ _ _ _ _ _
   | exact ih1 _ _ _ _ _ _ _
   | exact ih2 _ _ _ _ _ _ _ _
   | exact ih3 _ _ _ _ _
   | exact ih4 _
   | exact ih5 _ _ _ _ _ _
   | exact ih6 _ _ _ _ _ _
   | exact ih7 _ _ _ _ _ _ _
   | exact impl_CourseLevel.mono _ _ _
   | exact impl_CourseOf.mono _ _
   | exact impl_GapsOf.mono _ _
   | exact impl_HoursAt.mono _ _ _
   | exact impl_IsValidCourse.mono _ _
   | exact impl_SetCourseLevel.mono _ _ _ _ _
   | exact laws_rCourses.mono _ _ _
   | exact laws_rTable.mono _ _ _
   | exact spec_CourseOf.mono _ _
   | exact spec_DrawCourseOf.mono _ _
   | exact spec_DrawGapsOf.mono _ _
   | exact spec_DrawSetCourseLevel.mono _ _
   | exact spec_GapsOf.mono _ _
   | exact spec_SetCourseLevel.mono _ _ _ _ _
   | exact LeO.none _
   | refine LeO.ite ?_ ?_
   | refine LeO.bind ?_ (fun _ => ?_)
  ·intro y0
   unfold laws_FnCourses.j7
   repeat' first
   | (with_reducible exact ih0 _ _ _ _ _ _ _)
   | (with_reducible exact ih1 _ _ _ _ _ _ _)
   | (with_reducible exact ih2 _ _ _ _ _ _ _ _)
   | (with_reducible exact ih3 _ _ _ _ _)
   | (with_reducible exact ih4 _)
   | (with_reducible exact ih5 _ _ _ _ _ _)
   | (with_reducible exact ih6 _ _ _ _ _ _)
   | (with_reducible exact ih7 _ _ _ _ _ _ _)
   | (with_reducible exact impl_CourseLevel.mono _ _ _)
   | (with_reducible exact impl_CourseOf.mono _ _)
   | (with_reducible exact impl_GapsOf.mono _ _)
   | (with_reducible exact impl_HoursAt.mono _ _ _)
   | (with_reducible exact impl_IsValidCourse.mono _ _)
   | (with_reducible exact impl_SetCourseLevel.mono _ _ _ _ _)
   | (with_reducible exact laws_rCourses.mono _ _ _)
   | (with_reducible exact laws_rTable.mono _ _ _)
   | (with_reducible exact spec_CourseOf.mono _ _)
   | (with_reducible exact spec_DrawCourseOf.mono _ _)
   | (with_reducible exact spec_DrawGapsOf.mono _ _)
   | (with_reducible exact spec_DrawSetCourseLevel.mono _ _)
   | (with_reducible exact spec_GapsOf.mono _ _)
   | (with_reducible exact spec_SetCourseLevel.mono _ _ _ _ _)
   | (with_reducible exact LeO.refl _)
   | (with_reducible exact LeO.none _)
   | (with_reducible refine LeO.ite ?_ ?_)
   | (with_reducible refine LeO.bind ?_ (fun _ => ?_))
   | exact ih0 _ _ _ _ _ _ _
   | exact ih1 _ _ _ _ _ _ _
   | exact ih2 _ _ _ _ _ _ _ _
   | exact ih3 _ _ _ _ _
   | exact ih4 _
   | exact ih5 _ _ _ _ _ _
   | exact ih6 _ _ _ _ _ _
   | exact ih7 _ _ _ _ _ _ _
   | exact impl_CourseLevel.mono _ _ _
   | exact impl_CourseOf.mono _ _
   | exact impl_GapsOf.mono _ _
   | exact impl_HoursAt.mono _ _ _
   | exact impl_IsValidCourse.mono _ _
   | exact impl_SetCourseLevel.mono _ _ _ _ _
   | exact laws_rCourses.mono _ _ _
   | exact laws_rTable.mono _ _ _
   | exact spec_CourseOf.mono _ _
   | exact spec_DrawCourseOf.mono _ _
   | exact spec_DrawGapsOf.mono _ _
   | exact spec_DrawSetCourseLevel.mono _ _
   | exact spec_GapsOf.mono _ _
   | exact spec_SetCourseLevel.mono _ _ _ _ _
   | exact LeO.none _
   | refine LeO.ite ?_ ?_
   | refine LeO.bind ?_ (fun _ => ?_)
  ·intro y0 y1 y2 y3 y4 y5
   unfold laws_FnCourses.l1
   repeat' first
   | (with_reducible exact ih0 _ _ _ _ _ _ _)
   | (with_reducible exact ih1 _ _ _ _ _ _ _)
   | (with_reducible exact ih2 _ _ _ _ _ _ _ _)
   | (with_reducible exact ih3 _ _ _ _ _)
   | (with_reducible exact ih4 _)
   | (with_reducible exact ih5 _ _ _ _ _ _)
   | (with_reducible exact ih6 _ _ _ _ _ _)
   | (with_reducible exact ih7 _ _ _ _ _ _ _)
   | (with_reducible exact impl_CourseLevel.mono _ _ _)
   | (with_reducible exact impl_CourseOf.mono _ _)
   | (with_reducible exact impl_GapsOf.mono _ _)
   | (with_reducible exact impl_HoursAt.mono _ _ _)
   | (with_reducible exact impl_IsValidCourse.mono _ _)
   | (with_reducible exact impl_SetCourseLevel.mono _ _ _ _ _)
   | (with_reducible exact laws_rCourses.mono _ _ _)
   | (with_reducible exact laws_rTable.mono _ _ _)
   | (with_reducible exact spec_CourseOf.mono _ _)
   | (with_reducible exact spec_DrawCourseOf.mono _ _)
   | (with_reducible exact spec_DrawGapsOf.mono _ _)
   | (with_reducible exact spec_DrawSetCourseLevel.mono _ _)
   | (with_reducible exact spec_GapsOf.mono _ _)
   | (with_reducible exact spec_SetCourseLevel.mono _ _ _ _ _)
   | (with_reducible exact LeO.refl _)
   | (with_reducible exact LeO.none _)
   | (with_reducible refine LeO.ite ?_ ?_)
   | (with_reducible refine LeO.bind ?_ (fun _ => ?_))
   | exact ih0 _ _ _ _ _ _ _
   | exact ih1 _ _ _ _ _ _ _
   | exact ih2 _ _ _ _ _ _ _ _
   | exact ih3 _ _ _ _ _
   | exact ih4 _
   | exact ih5 _ _ _ _ _ _
   | exact ih6 _ _ _ _ _ _
   | exact ih7 _ _ _ _ _ _ _
   | exact impl_CourseLevel.mono _ _ _
   | exact impl_CourseOf.mono _ _
   | exact impl_GapsOf.mono _ _
   | exact impl_HoursAt.mono _ _ _
   | exact impl_IsValidCourse.mono _ _
   | exact impl_SetCourseLevel.mono _ _ _ _ _
   | exact laws_rCourses.mono _ _ _
   | exact laws_rTable.mono _ _ _
   | exact spec_CourseOf.mono _ _
   | exact spec_DrawCourseOf.mono _ _
   | exact spec_DrawGapsOf.mono _ _
   | exact spec_DrawSetCourseLevel.mono _ _
   | exact spec_GapsOf.mono _ _
   | exact spec_SetCourseLevel.mono _ _ _ _ _
   | exact LeO.none _
   | refine LeO.ite ?_ ?_
   | refine LeO.bind ?_ (fun _ => ?_)
  ·intro y0 y1 y2 y3 y4 y5
   unfold laws_FnCourses.l2
   repeat' first
   | (with_reducible exact ih0 _ _ _ _ _ _ _)
   | (with_reducible exact ih1 _ _ _ _ _ _ _)
   | (with_reducible exact ih2 _ _ _ _ _ _ _ _)
   | (with_reducible exact ih3 _ _ _ _ _)
   | (with_reducible exact ih4 _)
   | (with_reducible exact ih5 _ _ _ _ _ _)
   | (with_reducible exact ih6 _ _ _ _ _ _)
   | (with_reducible exact ih7 _ _ _ _ _ _ _)
   | (with_reducible exact impl_CourseLevel.mono _ _ _)
   | (with_reducible exact impl_CourseOf.mono _ _)
   | (with_reducible exact impl_GapsOf.mono _ _)
   | (with_reducible exact impl_HoursAt.mono _ _ _)
   | (with_reducible exact impl_IsValidCourse.mono _ _)
   | (with_reducible exact impl_SetCourseLevel.mono _ _ _ _ _)
   | (with_reducible exact laws_rCourses.mono _ _ _)
   | (with_reducible exact laws_rTable.mono _ _ _)
   | (with_reducible exact spec_CourseOf.mono _ _)
   | (with_reducible exact spec_DrawCourseOf.mono _ _)
   | (with_reducible exact spec_DrawGapsOf.mono _ _)
   | (with_reducible exact spec_DrawSetCourseLevel.mono _ _)
   | (with_reducible exact spec_GapsOf.mono _ _)
   | (with_reducible exact spec_SetCourseLevel.mono _ _ _ _ _)
   | (with_reducible exact LeO.refl _)
   | (with_reducible exact LeO.none _)
   | (with_reducible refine LeO.ite ?_ ?_)
   | (with_reducible refine LeO.bind ?_ (fun _ => ?_))
   | exact ih0 _ _ _ _ _ _ _
   | exact ih1 _ _ _ _ _ _ _
   | exact ih2 _ _ _ _ _ _ _ _
   | exact ih3 _ _ _ _ _
   | exact ih4 _
   | exact ih5 _ _ _ _ _ _
   | exact ih6 _ _ _ _ _ _
   | exact ih7 _ _ _ _ _ _ _
   | exact impl_CourseLevel.mono _ _ _
   | exact impl_CourseOf.mono _ _
   | exact impl_GapsOf.mono _ _
   | exact impl_HoursAt.mono _ _ _
   | exact impl_IsValidCourse.mono _ _
   | exact impl_SetCourseLevel.mono _ _ _ _ _
   | exact laws_rCourses.mono _ _ _
   | exact laws_rTable.mono _ _ _
   | exact spec_CourseOf.mono _ _
   | exact spec_DrawCourseOf.mono _ _
   | exact spec_DrawGapsOf.mono _ _
   | exact spec_DrawSetCourseLevel.mono _ _
   | exact spec_GapsOf.mono _ _
   | exact spec_SetCourseLevel.mono _ _ _ _ _
   | exact LeO.none _
   | refine LeO.ite ?_ ?_
   | refine LeO.bind ?_ (fun _ => ?_)
  ·intro y0 y1 y2 y3 y4 y5 y6
   unfold laws_FnCourses.l3
   repeat' first
   | (with_reducible exact ih0 _ _ _ _ _ _ _)
   | (with_reducible exact ih1 _ _ _ _ _ _ _)
   | (with_reducible exact ih2 _ _ _ _ _ _ _ _)
   | (with_reducible exact ih3 _ _ _ _ _)
   | (with_reducible exact ih4 _)
   | (with_reducible exact ih5 _ _ _ _ _ _)
   | (with_reducible exact ih6 _ _ _ _ _ _)
   | (with_reducible exact ih7 _ _ _ _ _ _ _)
   | (with_reducible exact impl_CourseLevel.mono _ _ _)
   | (with_reducible exact impl_CourseOf.mono _ _)
   | (with_reducible exact impl_GapsOf.mono _ _)
   | (with_reducible exact impl_HoursAt.mono _ _ _)
   | (with_reducible exact impl_IsValidCourse.mono _ _)
   | (with_reducible exact impl_SetCourseLevel.mono _ _ _ _ _)
   | (with_reducible exact laws_rCourses.mono _ _ _)
   | (with_reducible exact laws_rTable.mono _ _ _)
   | (with_reducible exact spec_CourseOf.mono _ _)
   | (with_reducible exact spec_DrawCourseOf.mono _ _)
   | (with_reducible exact spec_DrawGapsOf.mono _ _)
   | (with_reducible exact spec_DrawSetCourseLevel.mono _ _)
   | (with_reducible exact spec_GapsOf.mono _ _)
   | (with_reducible exact spec_SetCourseLevel.mono _ _ _ _ _)
   | (with_reducible exact LeO.refl _)
   | (with_reducible exact LeO.none _)
   | (with_reducible refine LeO.ite ?_ ?_)
   | (with_reducible refine LeO.bind ?_ (fun _ => ?_))
   | exact ih0 _ _ _ _ _ _ _
   | exact ih1 _ _ _ _ _ _ _
   | exact ih2 _ _ _ _ _ _ _ _
   | exact ih3 _ _ _ _ _
   | exact ih4 _
   | exact ih5 _ _ _ _ _ _
   | exact ih6 _ _ _ _ _ _
   | exact ih7 _ _ _ _ _ _ _
   | exact impl_CourseLevel.mono _ _ _
   | exact impl_CourseOf.mono _ _
   | exact impl_GapsOf.mono _ _
   | exact impl_HoursAt.mono _ _ _
   | exact impl_IsValidCourse.mono _ _
   | exact impl_SetCourseLevel.mono _ _ _ _ _
   | exact laws_rCourses.mono _ _ _
   | exact laws_rTable.mono _ _ _
   | exact spec_CourseOf.mono _ _
   | exact spec_DrawCourseOf.mono _ _
   | exact spec_DrawGapsOf.mono _ _
   | exact spec_DrawSetCourseLevel.mono _ _
   | exact spec_GapsOf.mono _ _
   | exact spec_SetCourseLevel.mono _ _ _ _ _
   | exact LeO.none _
   | refine LeO.ite ?_ ?_
   | refine LeO.bind ?_ (fun _ => ?_)
theorem laws_FnCourses.mono : ∀ a0 k, LeO (laws_FnCourses.f k a0) (laws_FnCourses.f (k + 1) a0) := by
 intro a0 k
 obtain ⟨ih0, ih1, ih2, ih3, ih4, ih5, ih6, ih7⟩ := laws_FnCourses.mono_l k
 unfold laws_FnCourses.f
 repeat' first
  | (with_reducible exact ih0 _ _ _ _ _ _ _)
  | (with_reducible exact ih1 _ _ _ _ _ _ _)
  | (with_reducible exact ih2 _ _ _ _ _ _ _ _)
  | (with_reducible exact ih3 _ _ _ _ _)
  | (with_reducible exact ih4 _)
  | (with_reducible exact ih5 _ _ _ _ _ _)
  | (with_reducible exact ih6 _ _ _ _ _ _)
  | (with_reducible exact ih7 _ _ _ _ _ _ _)
  | (with_reducible exact impl_CourseLevel.mono _ _ _)
  | (with_reducible exact impl_CourseOf.mono _ _)
  | (with_reducible exact impl_GapsOf.mono _ _)
  | (with_reducible exact impl_HoursAt.mono _ _ _)
  | (with_reducible exact impl_IsValidCourse.mono _ _)
  | (with_reducible exact impl_SetCourseLevel.mono _ _ _ _ _)
  | (with_reducible exact laws_rCourses.mono _ _ _)
  | (with_reducible exact laws_rTable.mono _ _ _)
  | (with_reducible exact spec_CourseOf.mono _ _)
  | (with_reducible exact spec_DrawCourseOf.mono _ _)
  | (with_reducible exact spec_DrawGapsOf.mono _ _)
  | (with_reducible exact spec_DrawSetCourseLevel.mono _ _)
  | (with_reducible exact spec_GapsOf.mono _ _)
  | (with_reducible exact spec_SetCourseLevel.mono _ _ _ _ _)
  | (with_reducible exact LeO.refl _)
  | (with_reducible exact LeO.none _)
  | (with_reducible refine LeO.ite ?_ ?_)
  | (with_reducible refine LeO.bind ?_ (fun _ => ?_))
  | exact ih0 _ _ _ _ _ _ _
  | exact ih1 _ _ _ _ _ _ _
  | exact ih2 _ _ _ _ _ _ _ _
  | exact ih3 _ _ _ _ _
  | exact ih4 _
  | exact ih5 _ _ _ _ _ _
  | exact ih6 _ _ _ _ _ _
  | exact ih7 _ _ _ _ _ _ _
  | exact impl_CourseLevel.mono _ _ _
  | exact impl_CourseOf.mono _ _
  | exact impl_GapsOf.mono _ _
  | exact impl_HoursAt.mono _ _ _
  | exact impl_IsValidCourse.mono _ _
  | exact impl_SetCourseLevel.mono _ _ _ _ _
  | exact laws_rCourses.mono _ _ _
  | exact laws_rTable.mono _ _ _
  | exact spec_CourseOf.mono _ _
  | exact spec_DrawCourseOf.mono _ _
  | exact spec_DrawGapsOf.mono _ _
  | exact spec_DrawSetCourseLevel.mono _ _
  | exact spec_GapsOf.mono _ _
  | exact spec_SetCourseLevel.mono _ _ _ _ _
  | exact LeO.none _
  | refine LeO.ite ?_ ?_
  | refine LeO.bind ?_ (fun _ => ?_)
set_option maxHeartbeats 8000000 in
set_option maxRecDepth 100000 in
theorem laws_FnCourses.calls (k : Nat) (A0 : Option Addr) (c0 : Nat) (l0 : List Int) (r : Bool) (w : World) (hr0 : Kd.C (Kd.int .u8) w A0 l0.length l0) (hc0 : l0.length ≤ c0) (h : laws_FnCourses.f k l0 = some r) (hr_ : r = true) :
 Calls Try.prog 4 #[.slice A0 l0.length c0] w fun e w' => e = .returned (.bool r) ∧ Below w.heap.size w w' := by
 have hu41 := Try.underlying41
 have HR0 := Aside0.mk hr0
 have HC0 := Aside0.mk hc0
 clear hr0 hc0
 have HB := Aside0.mk (Below.refl w.heap.size w)
 have H : ((laws_rBig.f l0).bind fun t453 => (if t453 = true then (some true) else ((spec_DrawSetCourseLevel.f k l0).bind fun bt454 => ((impl_SetCourseLevel.f k bt454.1 bt454.2.1 bt454.2.2.1 bt454.2.2.2).bind fun bt461 => ((spec_SetCourseLevel.f k bt454.1 bt454.2.1 bt454.2.2.1 bt454.2.2.2).bind fun bt465 => (if (bt461.2 != bt465.2) = true then (laws_FnCourses.j0 k l0 bt461.1 bt461.2 true bt454.2.1 bt454.2.2.1 bt454.2.2.2) else ((laws_rCourses.f k bt461.1 bt465.1).bind fun t469 => (laws_FnCourses.j0 k l0 bt461.1 bt461.2 (!t469) bt454.2.1 bt454.2.2.1 bt454.2.2.2)))))))) = some r := h
 clear h
 replace H := Option.bind_eq_some_iff.mp H
 obtain ⟨t453, A20, H⟩ := H
 replace H : (if t453 = true then (some true) else ((spec_DrawSetCourseLevel.f k l0).bind fun bt454 => ((impl_SetCourseLevel.f k bt454.1 bt454.2.1 bt454.2.2.1 bt454.2.2.2).bind fun bt461 => ((spec_SetCourseLevel.f k bt454.1 bt454.2.1 bt454.2.2.1 bt454.2.2.2).bind fun bt465 => (if (bt461.2 != bt465.2) = true then (laws_FnCourses.j0 k l0 bt461.1 bt461.2 true bt454.2.1 bt454.2.2.1 bt454.2.2.2) else ((laws_rCourses.f k bt461.1 bt465.1).bind fun t469 => (laws_FnCourses.j0 k l0 bt461.1 bt461.2 (!t469) bt454.2.1 bt454.2.2.1 bt454.2.2.2))))))) = some r := H
 have A2 := Aside0.mk A20
 clear A20
 by_cases c3 : t453 = true
 ·subst c3
  have H1 : (some true) = some r := by rw [if_pos rfl] at H; exact H
  clear H
  have H := H1
  clear H1
  as_aux_lemma =>
   obtain rfl := Option.some.inj H
   go_enter Try.func4, Try.ntmps4
   go_wp2_with (first | (go_at_call 7; (with_reducible refine (laws_rBig.calls _ _ l0 true _ ?side1 ?side2 A2.out).mono ?_); (case side1 => exact zCx HR0.out); (case side2 => exact HC0.out); rintro e w' ⟨rfl, ⟨nd, rfl⟩⟩; (try exact zdx)))
   repeat (go_quiet (first | (go_at_call 7; (with_reducible refine (laws_rBig.calls _ _ l0 true _ ?side1 ?side2 A2.out).mono ?_); (case side1 => exact zCx HR0.out); (case side2 => exact HC0.out); rintro e w' ⟨rfl, ⟨nd, rfl⟩⟩; (try exact zdx))); try go_wp2_with (first | (go_at_call 7; (with_reducible refine (laws_rBig.calls _ _ l0 true _ ?side1 ?side2 A2.out).mono ?_); (case side1 => exact zCx HR0.out); (case side2 => exact HC0.out); rintro e w' ⟨rfl, ⟨nd, rfl⟩⟩; (try exact zdx))))
   go_ret
   exact ⟨by first | rfl | (simp [errW_none, errW_some] <;> rfl) | (simp [*, errW_none, errW_some] <;> rfl), by exact zBx HB.out⟩
 ·replace c3 := Bool.eq_false_iff.mpr c3
  subst c3
  have H1 : ((spec_DrawSetCourseLevel.f k l0).bind fun bt454 => ((impl_SetCourseLevel.f k bt454.1 bt454.2.1 bt454.2.2.1 bt454.2.2.2).bind fun bt461 => ((spec_SetCourseLevel.f k bt454.1 bt454.2.1 bt454.2.2.1 bt454.2.2.2).bind fun bt465 => (if (bt461.2 != bt465.2) = true then (laws_FnCourses.j0 k l0 bt461.1 bt461.2 true bt454.2.1 bt454.2.2.1 bt454.2.2.2) else ((laws_rCourses.f k bt461.1 bt465.1).bind fun t469 => (laws_FnCourses.j0 k l0 bt461.1 bt461.2 (!t469) bt454.2.1 bt454.2.2.1 bt454.2.2.2)))))) = some r := by rw [if_neg (show ¬ (false = true) by decide)] at H; exact H
  clear H
  have H := H1
  clear H1
  replace H := Option.bind_eq_some_iff.mp H
  obtain ⟨⟨t454, t457, t458, t459⟩, A40, H⟩ := H
  replace H : ((impl_SetCourseLevel.f k t454 t457 t458 t459).bind fun bt461 => ((spec_SetCourseLevel.f k t454 t457 t458 t459).bind fun bt465 => (if (bt461.2 != bt465.2) = true then (laws_FnCourses.j0 k l0 bt461.1 bt461.2 true t457 t458 t459) else ((laws_rCourses.f k bt461.1 bt465.1).bind fun t469 => (laws_FnCourses.j0 k l0 bt461.1 bt461.2 (!t469) t457 t458 t459))))) = some r := H
  have A4 := Aside0.mk A40
  clear A40
  replace H := Option.bind_eq_some_iff.mp H
  obtain ⟨⟨t461, t464⟩, A50, H⟩ := H
  replace H : ((spec_SetCourseLevel.f k t454 t457 t458 t459).bind fun bt465 => (if (t464 != bt465.2) = true then (laws_FnCourses.j0 k l0 t461 t464 true t457 t458 t459) else ((laws_rCourses.f k t461 bt465.1).bind fun t469 => (laws_FnCourses.j0 k l0 t461 t464 (!t469) t457 t458 t459)))) = some r := H
  have A5 := Aside0.mk A50
  clear A50
  replace H := Option.bind_eq_some_iff.mp H
  obtain ⟨⟨t465, t468⟩, A60, H⟩ := H
  replace H : (if (t464 != t468) = true then (laws_FnCourses.j0 k l0 t461 t464 true t457 t458 t459) else ((laws_rCourses.f k t461 t465).bind fun t469 => (laws_FnCourses.j0 k l0 t461 t464 (!t469) t457 t458 t459))) = some r := H
  have A6 := Aside0.mk A60
  clear A60
  have HC7 := Aside0.mk H
  clear H
  go_enter Try.func4, Try.ntmps4
  go_upto_region 6 with (first | (go_at_call 7; (with_reducible refine (laws_rBig.calls _ _ l0 false _ ?side1 ?side2 A2.out).mono ?_); (case side1 => exact zCx HR0.out); (case side2 => exact HC0.out); rintro e w' ⟨rfl, ⟨nd, rfl⟩⟩; (try exact zdx)) | (go_at_call 22; (with_reducible refine (spec_DrawSetCourseLevel.calls k _ _ l0 t454 t457 t458 t459 _ ?side1 ?side2 A4.out).mono ?_); (case side1 => exact zCx HR0.out); (case side2 => exact HC0.out); rintro e w8 ⟨v455, rfl, ho0, hb⟩; have n0_ := Aside0.mk (Kd.R_lower ho0 (below_size (zBx HB.out))); have n1_ := Aside0.mk (below_step (zBx HB.out) hb); clear HB; have HO456 := n0_; have HB := n1_; clear n0_ n1_; (try clear hb); (try clear hb2); (try clear hk); (try clear hi); (try clear ho0)) | ((with_reducible refine gate_dst (N := 4) rfl ?_); refine box_event ?hg (N := 4) ?hd (cs := #[.int .i64 0, .int .i64 0, .int .i64 0]) (t := 41) ?hr ?_; (case hd => rfl); (case hg => rfl); (case hr => exact zsx); intro gb460 hg w9 hbox hb; have n0_ := Aside0.mk (Kd.R_below (Kd.R_elderB (zRx HO456.out) gb460 (Nat.le_of_eq hg.symm)) hb); have n1_ := Aside0.mk (below_step (zBx HB.out) hb); have n2_ := Aside0.mk (hbox); have n3_ := Aside0.mk ((by rw [hg]; exact (below_size (zBx HB.out)) : w.heap.size ≤ gb460)); have n4_ := Aside0.mk ((by rw [hg]; exact (below_size (zBx HB.out)) : w.heap.size ≤ gb460)); clear HO456; clear HB; have HO456 := n0_; have HB := n1_; have BK460 := n2_; have GW460 := n3_; have GE460 := n4_; clear n0_ n1_ n2_ n3_ n4_; clear hb hbox hg; have hcz10_0 : w9.cell? ⟨gb460, 0, none⟩ = some (.int .i64 0) := (blk_cell BK460.out 0).trans rfl; have hcz10_1 : w9.cell? ⟨gb460, 1, none⟩ = some (.int .i64 0) := (blk_cell BK460.out 1).trans rfl; have hcz10_2 : w9.cell? ⟨gb460, 2, none⟩ = some (.int .i64 0) := (blk_cell BK460.out 2).trans rfl; have hfz10_0 := blk_frozen BK460.out 0; have hfz10_1 := blk_frozen BK460.out 1; have hfz10_2 := blk_frozen BK460.out 2; obtain ⟨Ao11, co11, eo11⟩ := Kd.R_slice HO456.out; subst eo11) | (go_at_call 23; (with_reducible refine (impl_SetCourseLevel.calls k _ _ t454 t457 t458 t459 t461 t464 _ ?side1 ?side2 A5.out).mono ?_); (case side1 => refine (Kd.R_reads' (e := 41) (base := w.heap.size) (ok := fun k_ => (True ∧ k_ ≠ gb460)) (n := t454.length) (c := co11) ?_).2.2; exact (by (with_reducible repeat (first | apply Kd.R_alloc | apply Kd.R_drewN | apply Kd.R_drew)); exact (Kd.R_mono (Kd.R_far (p := ⟨gb460, 2, none⟩) (Kd.R_far (p := ⟨gb460, 1, none⟩) (Kd.R_far (p := ⟨gb460, 0, none⟩) (Kd.R_mono HO456.out (fun k_ hk => (⟨hk, hk.2⟩ : _ ∧ k_ ≠ gb460))) (fun _ hk => hk.2) (.int .i64 t457)) (fun _ hk => hk.2) (.int .i64 t458)) (fun _ hk => hk.2) (.int .i64 t459)) (fun _ h_ => h_.1)))); (case side2 => exact (Kd.R_reads' HO456.out).2.1); rintro e w12 ⟨v462, rfl, ho0, hb⟩; have n0_ := Aside0.mk (Kd.R_elder' (by (with_reducible repeat (first | apply Kd.R_alloc | apply Kd.R_drewN | apply Kd.R_drew)); exact (Kd.R_mono (Kd.R_far (p := ⟨gb460, 2, none⟩) (Kd.R_far (p := ⟨gb460, 1, none⟩) (Kd.R_far (p := ⟨gb460, 0, none⟩) (Kd.R_mono HO456.out (fun k_ hk => (⟨hk, hk.2⟩ : _ ∧ k_ ≠ gb460))) (fun _ hk => hk.2) (.int .i64 t457)) (fun _ hk => hk.2) (.int .i64 t458)) (fun _ hk => hk.2) (.int .i64 t459)) (fun _ h_ => h_.1))) (Kd.R_base ho0) hb); have n1_ := Aside0.mk (Kd.R_lower (Kd.R_newB (Kd.R_new' ho0 (Kd.R_lt (by (with_reducible repeat (first | apply Kd.R_alloc | apply Kd.R_drewN | apply Kd.R_drew)); exact (Kd.R_mono (Kd.R_far (p := ⟨gb460, 2, none⟩) (Kd.R_far (p := ⟨gb460, 1, none⟩) (Kd.R_far (p := ⟨gb460, 0, none⟩) (Kd.R_mono HO456.out (fun k_ hk => (⟨hk, hk.2⟩ : _ ∧ k_ ≠ gb460))) (fun _ hk => hk.2) (.int .i64 t457)) (fun _ hk => hk.2) (.int .i64 t458)) (fun _ hk => hk.2) (.int .i64 t459)) (fun _ h_ => h_.1))))) (g := gb460) (o := .cells #[.int .i64 t457, .int .i64 t458, .int .i64 t459] 41 (0, 0)) (by (with_reducible repeat (first | refine blk_drewN ?_ _ | refine blk_drew ?_ | refine blk_alloc ?_ _)); refine blk_put (cs := #[.int .i64 t457, .int .i64 t458, .int .i64 0]) ?_ 2 _ rfl; (with_reducible repeat (first | refine blk_drewN ?_ _ | refine blk_drew ?_ | refine blk_alloc ?_ _)); refine blk_put (cs := #[.int .i64 t457, .int .i64 0, .int .i64 0]) ?_ 1 _ rfl; (with_reducible repeat (first | refine blk_drewN ?_ _ | refine blk_drew ?_ | refine blk_alloc ?_ _)); refine blk_put (cs := #[.int .i64 0, .int .i64 0, .int .i64 0]) ?_ 0 _ rfl; (with_reducible repeat (first | refine blk_drewN ?_ _ | refine blk_drew ?_ | refine blk_alloc ?_ _)); exact BK460.out)) (below_size (zBy HB.out GE460.out))); have n2_ := Aside0.mk (blk_below (g := gb460) (o := .cells #[.int .i64 t457, .int .i64 t458, .int .i64 t459] 41 (0, 0)) (by (with_reducible repeat (first | refine blk_drewN ?_ _ | refine blk_drew ?_ | refine blk_alloc ?_ _)); refine blk_put (cs := #[.int .i64 t457, .int .i64 t458, .int .i64 0]) ?_ 2 _ rfl; (with_reducible repeat (first | refine blk_drewN ?_ _ | refine blk_drew ?_ | refine blk_alloc ?_ _)); refine blk_put (cs := #[.int .i64 t457, .int .i64 0, .int .i64 0]) ?_ 1 _ rfl; (with_reducible repeat (first | refine blk_drewN ?_ _ | refine blk_drew ?_ | refine blk_alloc ?_ _)); refine blk_put (cs := #[.int .i64 0, .int .i64 0, .int .i64 0]) ?_ 0 _ rfl; (with_reducible repeat (first | refine blk_drewN ?_ _ | refine blk_drew ?_ | refine blk_alloc ?_ _)); exact BK460.out) hb); have n3_ := Aside0.mk (below_step (zBy HB.out GE460.out) hb); clear HO456; clear BK460; clear HB; have HO456 := n0_; have HO463 := n1_; have BK460 := n2_; have HB := n3_; clear n0_ n1_ n2_ n3_; (try clear hb); (try clear hb2); (try clear hk); (try clear hi); (try clear ho0); have hcz13_0 : w12.cell? ⟨gb460, 0, none⟩ = some (.int .i64 t457) := (blk_cell BK460.out 0).trans rfl; have hcz13_1 : w12.cell? ⟨gb460, 1, none⟩ = some (.int .i64 t458) := (blk_cell BK460.out 1).trans rfl; have hcz13_2 : w12.cell? ⟨gb460, 2, none⟩ = some (.int .i64 t459) := (blk_cell BK460.out 2).trans rfl; have hfz13_0 := blk_frozen BK460.out 0; have hfz13_1 := blk_frozen BK460.out 1; have hfz13_2 := blk_frozen BK460.out 2) | (go_at_call 24; (with_reducible refine (spec_SetCourseLevel.calls k _ _ t454 t457 t458 t459 t465 t468 _ ?side1 ?side2 A6.out).mono ?_); (case side1 => repeat (first | exact (Kd.R_reads' HO456.out).2.2 | (with_reducible refine Kd.C_alloc ?_ _) | (with_reducible refine Kd.C_drewN ?_ _) | (with_reducible refine Kd.C_drew ?_))); (case side2 => exact (Kd.R_reads' HO456.out).2.1); rintro e w14 ⟨v466, rfl, ho0, hb⟩; have n0_ := Aside0.mk (Kd.R_elder' (zRx HO456.out) (Kd.R_base ho0) hb); have n1_ := Aside0.mk (Kd.R_elder' (zRx HO463.out) (Kd.R_base ho0) hb); have n2_ := Aside0.mk (Kd.R_lower (Kd.R_newB (Kd.R_new' (Kd.R_new' ho0 (Kd.R_lt (zRx HO456.out))) (Kd.R_lt (zRx HO463.out))) (g := gb460) (o := .cells #[.int .i64 t457, .int .i64 t458, .int .i64 t459] 41 (0, 0)) (zbx BK460.out)) (below_size (zBy HB.out GE460.out))); have n3_ := Aside0.mk (blk_below (g := gb460) (o := .cells #[.int .i64 t457, .int .i64 t458, .int .i64 t459] 41 (0, 0)) (zbx BK460.out) hb); have n4_ := Aside0.mk (below_step (zBy HB.out GE460.out) hb); clear HO456; clear HO463; clear BK460; clear HB; have HO456 := n0_; have HO463 := n1_; have HO467 := n2_; have BK460 := n3_; have HB := n4_; clear n0_ n1_ n2_ n3_ n4_; (try clear hb); (try clear hb2); (try clear hk); (try clear hi); (try clear ho0)))
  repeat (go_quiet (first | (go_at_call 7; (with_reducible refine (laws_rBig.calls _ _ l0 false _ ?side1 ?side2 A2.out).mono ?_); (case side1 => exact zCx HR0.out); (case side2 => exact HC0.out); rintro e w' ⟨rfl, ⟨nd, rfl⟩⟩; (try exact zdx)) | (go_at_call 22; (with_reducible refine (spec_DrawSetCourseLevel.calls k _ _ l0 t454 t457 t458 t459 _ ?side1 ?side2 A4.out).mono ?_); (case side1 => exact zCx HR0.out); (case side2 => exact HC0.out); rintro e w8 ⟨v455, rfl, ho0, hb⟩; have n0_ := Aside0.mk (Kd.R_lower ho0 (below_size (zBx HB.out))); have n1_ := Aside0.mk (below_step (zBx HB.out) hb); clear HB; have HO456 := n0_; have HB := n1_; clear n0_ n1_; (try clear hb); (try clear hb2); (try clear hk); (try clear hi); (try clear ho0)) | ((with_reducible refine gate_dst (N := 4) rfl ?_); refine box_event ?hg (N := 4) ?hd (cs := #[.int .i64 0, .int .i64 0, .int .i64 0]) (t := 41) ?hr ?_; (case hd => rfl); (case hg => rfl); (case hr => exact zsx); intro gb460 hg w9 hbox hb; have n0_ := Aside0.mk (Kd.R_below (Kd.R_elderB (zRx HO456.out) gb460 (Nat.le_of_eq hg.symm)) hb); have n1_ := Aside0.mk (below_step (zBx HB.out) hb); have n2_ := Aside0.mk (hbox); have n3_ := Aside0.mk ((by rw [hg]; exact (below_size (zBx HB.out)) : w.heap.size ≤ gb460)); have n4_ := Aside0.mk ((by rw [hg]; exact (below_size (zBx HB.out)) : w.heap.size ≤ gb460)); clear HO456; clear HB; have HO456 := n0_; have HB := n1_; have BK460 := n2_; have GW460 := n3_; have GE460 := n4_; clear n0_ n1_ n2_ n3_ n4_; clear hb hbox hg; have hcz10_0 : w9.cell? ⟨gb460, 0, none⟩ = some (.int .i64 0) := (blk_cell BK460.out 0).trans rfl; have hcz10_1 : w9.cell? ⟨gb460, 1, none⟩ = some (.int .i64 0) := (blk_cell BK460.out 1).trans rfl; have hcz10_2 : w9.cell? ⟨gb460, 2, none⟩ = some (.int .i64 0) := (blk_cell BK460.out 2).trans rfl; have hfz10_0 := blk_frozen BK460.out 0; have hfz10_1 := blk_frozen BK460.out 1; have hfz10_2 := blk_frozen BK460.out 2; obtain ⟨Ao11, co11, eo11⟩ := Kd.R_slice HO456.out; subst eo11) | (go_at_call 23; (with_reducible refine (impl_SetCourseLevel.calls k _ _ t454 t457 t458 t459 t461 t464 _ ?side1 ?side2 A5.out).mono ?_); (case side1 => refine (Kd.R_reads' (e := 41) (base := w.heap.size) (ok := fun k_ => (True ∧ k_ ≠ gb460)) (n := t454.length) (c := co11) ?_).2.2; exact (by (with_reducible repeat (first | apply Kd.R_alloc | apply Kd.R_drewN | apply Kd.R_drew)); exact (Kd.R_mono (Kd.R_far (p := ⟨gb460, 2, none⟩) (Kd.R_far (p := ⟨gb460, 1, none⟩) (Kd.R_far (p := ⟨gb460, 0, none⟩) (Kd.R_mono HO456.out (fun k_ hk => (⟨hk, hk.2⟩ : _ ∧ k_ ≠ gb460))) (fun _ hk => hk.2) (.int .i64 t457)) (fun _ hk => hk.2) (.int .i64 t458)) (fun _ hk => hk.2) (.int .i64 t459)) (fun _ h_ => h_.1)))); (case side2 => exact (Kd.R_reads' HO456.out).2.1); rintro e w12 ⟨v462, rfl, ho0, hb⟩; have n0_ := Aside0.mk (Kd.R_elder' (by (with_reducible repeat (first | apply Kd.R_alloc | apply Kd.R_drewN | apply Kd.R_drew)); exact (Kd.R_mono (Kd.R_far (p := ⟨gb460, 2, none⟩) (Kd.R_far (p := ⟨gb460, 1, none⟩) (Kd.R_far (p := ⟨gb460, 0, none⟩) (Kd.R_mono HO456.out (fun k_ hk => (⟨hk, hk.2⟩ : _ ∧ k_ ≠ gb460))) (fun _ hk => hk.2) (.int .i64 t457)) (fun _ hk => hk.2) (.int .i64 t458)) (fun _ hk => hk.2) (.int .i64 t459)) (fun _ h_ => h_.1))) (Kd.R_base ho0) hb); have n1_ := Aside0.mk (Kd.R_lower (Kd.R_newB (Kd.R_new' ho0 (Kd.R_lt (by (with_reducible repeat (first | apply Kd.R_alloc | apply Kd.R_drewN | apply Kd.R_drew)); exact (Kd.R_mono (Kd.R_far (p := ⟨gb460, 2, none⟩) (Kd.R_far (p := ⟨gb460, 1, none⟩) (Kd.R_far (p := ⟨gb460, 0, none⟩) (Kd.R_mono HO456.out (fun k_ hk => (⟨hk, hk.2⟩ : _ ∧ k_ ≠ gb460))) (fun _ hk => hk.2) (.int .i64 t457)) (fun _ hk => hk.2) (.int .i64 t458)) (fun _ hk => hk.2) (.int .i64 t459)) (fun _ h_ => h_.1))))) (g := gb460) (o := .cells #[.int .i64 t457, .int .i64 t458, .int .i64 t459] 41 (0, 0)) (by (with_reducible repeat (first | refine blk_drewN ?_ _ | refine blk_drew ?_ | refine blk_alloc ?_ _)); refine blk_put (cs := #[.int .i64 t457, .int .i64 t458, .int .i64 0]) ?_ 2 _ rfl; (with_reducible repeat (first | refine blk_drewN ?_ _ | refine blk_drew ?_ | refine blk_alloc ?_ _)); refine blk_put (cs := #[.int .i64 t457, .int .i64 0, .int .i64 0]) ?_ 1 _ rfl; (with_reducible repeat (first | refine blk_drewN ?_ _ | refine blk_drew ?_ | refine blk_alloc ?_ _)); refine blk_put (cs := #[.int .i64 0, .int .i64 0, .int .i64 0]) ?_ 0 _ rfl; (with_reducible repeat (first | refine blk_drewN ?_ _ | refine blk_drew ?_ | refine blk_alloc ?_ _)); exact BK460.out)) (below_size (zBy HB.out GE460.out))); have n2_ := Aside0.mk (blk_below (g := gb460) (o := .cells #[.int .i64 t457, .int .i64 t458, .int .i64 t459] 41 (0, 0)) (by (with_reducible repeat (first | refine blk_drewN ?_ _ | refine blk_drew ?_ | refine blk_alloc ?_ _)); refine blk_put (cs := #[.int .i64 t457, .int .i64 t458, .int .i64 0]) ?_ 2 _ rfl; (with_reducible repeat (first | refine blk_drewN ?_ _ | refine blk_drew ?_ | refine blk_alloc ?_ _)); refine blk_put (cs := #[.int .i64 t457, .int .i64 0, .int .i64 0]) ?_ 1 _ rfl; (with_reducible repeat (first | refine blk_drewN ?_ _ | refine blk_drew ?_ | refine blk_alloc ?_ _)); refine blk_put (cs := #[.int .i64 0, .int .i64 0, .int .i64 0]) ?_ 0 _ rfl; (with_reducible repeat (first | refine blk_drewN ?_ _ | refine blk_drew ?_ | refine blk_alloc ?_ _)); exact BK460.out) hb); have n3_ := Aside0.mk (below_step (zBy HB.out GE460.out) hb); clear HO456; clear BK460; clear HB; have HO456 := n0_; have HO463 := n1_; have BK460 := n2_; have HB := n3_; clear n0_ n1_ n2_ n3_; (try clear hb); (try clear hb2); (try clear hk); (try clear hi); (try clear ho0); have hcz13_0 : w12.cell? ⟨gb460, 0, none⟩ = some (.int .i64 t457) := (blk_cell BK460.out 0).trans rfl; have hcz13_1 : w12.cell? ⟨gb460, 1, none⟩ = some (.int .i64 t458) := (blk_cell BK460.out 1).trans rfl; have hcz13_2 : w12.cell? ⟨gb460, 2, none⟩ = some (.int .i64 t459) := (blk_cell BK460.out 2).trans rfl; have hfz13_0 := blk_frozen BK460.out 0; have hfz13_1 := blk_frozen BK460.out 1; have hfz13_2 := blk_frozen BK460.out 2) | (go_at_call 24; (with_reducible refine (spec_SetCourseLevel.calls k _ _ t454 t457 t458 t459 t465 t468 _ ?side1 ?side2 A6.out).mono ?_); (case side1 => repeat (first | exact (Kd.R_reads' HO456.out).2.2 | (with_reducible refine Kd.C_alloc ?_ _) | (with_reducible refine Kd.C_drewN ?_ _) | (with_reducible refine Kd.C_drew ?_))); (case side2 => exact (Kd.R_reads' HO456.out).2.1); rintro e w14 ⟨v466, rfl, ho0, hb⟩; have n0_ := Aside0.mk (Kd.R_elder' (zRx HO456.out) (Kd.R_base ho0) hb); have n1_ := Aside0.mk (Kd.R_elder' (zRx HO463.out) (Kd.R_base ho0) hb); have n2_ := Aside0.mk (Kd.R_lower (Kd.R_newB (Kd.R_new' (Kd.R_new' ho0 (Kd.R_lt (zRx HO456.out))) (Kd.R_lt (zRx HO463.out))) (g := gb460) (o := .cells #[.int .i64 t457, .int .i64 t458, .int .i64 t459] 41 (0, 0)) (zbx BK460.out)) (below_size (zBy HB.out GE460.out))); have n3_ := Aside0.mk (blk_below (g := gb460) (o := .cells #[.int .i64 t457, .int .i64 t458, .int .i64 t459] 41 (0, 0)) (zbx BK460.out) hb); have n4_ := Aside0.mk (below_step (zBy HB.out GE460.out) hb); clear HO456; clear HO463; clear BK460; clear HB; have HO456 := n0_; have HO463 := n1_; have HO467 := n2_; have BK460 := n3_; have HB := n4_; clear n0_ n1_ n2_ n3_ n4_; (try clear hb); (try clear hb2); (try clear hk); (try clear hi); (try clear ho0))); go_upto_region 6 with (first | (go_at_call 7; (with_reducible refine (laws_rBig.calls _ _ l0 false _ ?side1 ?side2 A2.out).mono ?_); (case side1 => exact zCx HR0.out); (case side2 => exact HC0.out); rintro e w' ⟨rfl, ⟨nd, rfl⟩⟩; (try exact zdx)) | (go_at_call 22; (with_reducible refine (spec_DrawSetCourseLevel.calls k _ _ l0 t454 t457 t458 t459 _ ?side1 ?side2 A4.out).mono ?_); (case side1 => exact zCx HR0.out); (case side2 => exact HC0.out); rintro e w8 ⟨v455, rfl, ho0, hb⟩; have n0_ := Aside0.mk (Kd.R_lower ho0 (below_size (zBx HB.out))); have n1_ := Aside0.mk (below_step (zBx HB.out) hb); clear HB; have HO456 := n0_; have HB := n1_; clear n0_ n1_; (try clear hb); (try clear hb2); (try clear hk); (try clear hi); (try clear ho0)) | ((with_reducible refine gate_dst (N := 4) rfl ?_); refine box_event ?hg (N := 4) ?hd (cs := #[.int .i64 0, .int .i64 0, .int .i64 0]) (t := 41) ?hr ?_; (case hd => rfl); (case hg => rfl); (case hr => exact zsx); intro gb460 hg w9 hbox hb; have n0_ := Aside0.mk (Kd.R_below (Kd.R_elderB (zRx HO456.out) gb460 (Nat.le_of_eq hg.symm)) hb); have n1_ := Aside0.mk (below_step (zBx HB.out) hb); have n2_ := Aside0.mk (hbox); have n3_ := Aside0.mk ((by rw [hg]; exact (below_size (zBx HB.out)) : w.heap.size ≤ gb460)); have n4_ := Aside0.mk ((by rw [hg]; exact (below_size (zBx HB.out)) : w.heap.size ≤ gb460)); clear HO456; clear HB; have HO456 := n0_; have HB := n1_; have BK460 := n2_; have GW460 := n3_; have GE460 := n4_; clear n0_ n1_ n2_ n3_ n4_; clear hb hbox hg; have hcz10_0 : w9.cell? ⟨gb460, 0, none⟩ = some (.int .i64 0) := (blk_cell BK460.out 0).trans rfl; have hcz10_1 : w9.cell? ⟨gb460, 1, none⟩ = some (.int .i64 0) := (blk_cell BK460.out 1).trans rfl; have hcz10_2 : w9.cell? ⟨gb460, 2, none⟩ = some (.int .i64 0) := (blk_cell BK460.out 2).trans rfl; have hfz10_0 := blk_frozen BK460.out 0; have hfz10_1 := blk_frozen BK460.out 1; have hfz10_2 := blk_frozen BK460.out 2; obtain ⟨Ao11, co11, eo11⟩ := Kd.R_slice HO456.out; subst eo11) | (go_at_call 23; (with_reducible refine (impl_SetCourseLevel.calls k _ _ t454 t457 t458 t459 t461 t464 _ ?side1 ?side2 A5.out).mono ?_); (case side1 => refine (Kd.R_reads' (e := 41) (base := w.heap.size) (ok := fun k_ => (True ∧ k_ ≠ gb460)) (n := t454.length) (c := co11) ?_).2.2; exact (by (with_reducible repeat (first | apply Kd.R_alloc | apply Kd.R_drewN | apply Kd.R_drew)); exact (Kd.R_mono (Kd.R_far (p := ⟨gb460, 2, none⟩) (Kd.R_far (p := ⟨gb460, 1, none⟩) (Kd.R_far (p := ⟨gb460, 0, none⟩) (Kd.R_mono HO456.out (fun k_ hk => (⟨hk, hk.2⟩ : _ ∧ k_ ≠ gb460))) (fun _ hk => hk.2) (.int .i64 t457)) (fun _ hk => hk.2) (.int .i64 t458)) (fun _ hk => hk.2) (.int .i64 t459)) (fun _ h_ => h_.1)))); (case side2 => exact (Kd.R_reads' HO456.out).2.1); rintro e w12 ⟨v462, rfl, ho0, hb⟩; have n0_ := Aside0.mk (Kd.R_elder' (by (with_reducible repeat (first | apply Kd.R_alloc | apply Kd.R_drewN | apply Kd.R_drew)); exact (Kd.R_mono (Kd.R_far (p := ⟨gb460, 2, none⟩) (Kd.R_far (p := ⟨gb460, 1, none⟩) (Kd.R_far (p := ⟨gb460, 0, none⟩) (Kd.R_mono HO456.out (fun k_ hk => (⟨hk, hk.2⟩ : _ ∧ k_ ≠ gb460))) (fun _ hk => hk.2) (.int .i64 t457)) (fun _ hk => hk.2) (.int .i64 t458)) (fun _ hk => hk.2) (.int .i64 t459)) (fun _ h_ => h_.1))) (Kd.R_base ho0) hb); have n1_ := Aside0.mk (Kd.R_lower (Kd.R_newB (Kd.R_new' ho0 (Kd.R_lt (by (with_reducible repeat (first | apply Kd.R_alloc | apply Kd.R_drewN | apply Kd.R_drew)); exact (Kd.R_mono (Kd.R_far (p := ⟨gb460, 2, none⟩) (Kd.R_far (p := ⟨gb460, 1, none⟩) (Kd.R_far (p := ⟨gb460, 0, none⟩) (Kd.R_mono HO456.out (fun k_ hk => (⟨hk, hk.2⟩ : _ ∧ k_ ≠ gb460))) (fun _ hk => hk.2) (.int .i64 t457)) (fun _ hk => hk.2) (.int .i64 t458)) (fun _ hk => hk.2) (.int .i64 t459)) (fun _ h_ => h_.1))))) (g := gb460) (o := .cells #[.int .i64 t457, .int .i64 t458, .int .i64 t459] 41 (0, 0)) (by (with_reducible repeat (first | refine blk_drewN ?_ _ | refine blk_drew ?_ | refine blk_alloc ?_ _)); refine blk_put (cs := #[.int .i64 t457, .int .i64 t458, .int .i64 0]) ?_ 2 _ rfl; (with_reducible repeat (first | refine blk_drewN ?_ _ | refine blk_drew ?_ | refine blk_alloc ?_ _)); refine blk_put (cs := #[.int .i64 t457, .int .i64 0, .int .i64 0]) ?_ 1 _ rfl; (with_reducible repeat (first | refine blk_drewN ?_ _ | refine blk_drew ?_ | refine blk_alloc ?_ _)); refine blk_put (cs := #[.int .i64 0, .int .i64 0, .int .i64 0]) ?_ 0 _ rfl; (with_reducible repeat (first | refine blk_drewN ?_ _ | refine blk_drew ?_ | refine blk_alloc ?_ _)); exact BK460.out)) (below_size (zBy HB.out GE460.out))); have n2_ := Aside0.mk (blk_below (g := gb460) (o := .cells #[.int .i64 t457, .int .i64 t458, .int .i64 t459] 41 (0, 0)) (by (with_reducible repeat (first | refine blk_drewN ?_ _ | refine blk_drew ?_ | refine blk_alloc ?_ _)); refine blk_put (cs := #[.int .i64 t457, .int .i64 t458, .int .i64 0]) ?_ 2 _ rfl; (with_reducible repeat (first | refine blk_drewN ?_ _ | refine blk_drew ?_ | refine blk_alloc ?_ _)); refine blk_put (cs := #[.int .i64 t457, .int .i64 0, .int .i64 0]) ?_ 1 _ rfl; (with_reducible repeat (first | refine blk_drewN ?_ _ | refine blk_drew ?_ | refine blk_alloc ?_ _)); refine blk_put (cs := #[.int .i64 0, .int .i64 0, .int .i64 0]) ?_ 0 _ rfl; (with_reducible repeat (first | refine blk_drewN ?_ _ | refine blk_drew ?_ | refine blk_alloc ?_ _)); exact BK460.out) hb); have n3_ := Aside0.mk (below_step (zBy HB.out GE460.out) hb); clear HO456; clear BK460; clear HB; have HO456 := n0_; have HO463 := n1_; have BK460 := n2_; have HB := n3_; clear n0_ n1_ n2_ n3_; (try clear hb); (try clear hb2); (try clear hk); (try clear hi); (try clear ho0); have hcz13_0 : w12.cell? ⟨gb460, 0, none⟩ = some (.int .i64 t457) := (blk_cell BK460.out 0).trans rfl; have hcz13_1 : w12.cell? ⟨gb460, 1, none⟩ = some (.int .i64 t458) := (blk_cell BK460.out 1).trans rfl; have hcz13_2 : w12.cell? ⟨gb460, 2, none⟩ = some (.int .i64 t459) := (blk_cell BK460.out 2).trans rfl; have hfz13_0 := blk_frozen BK460.out 0; have hfz13_1 := blk_frozen BK460.out 1; have hfz13_2 := blk_frozen BK460.out 2) | (go_at_call 24; (with_reducible refine (spec_SetCourseLevel.calls k _ _ t454 t457 t458 t459 t465 t468 _ ?side1 ?side2 A6.out).mono ?_); (case side1 => repeat (first | exact (Kd.R_reads' HO456.out).2.2 | (with_reducible refine Kd.C_alloc ?_ _) | (with_reducible refine Kd.C_drewN ?_ _) | (with_reducible refine Kd.C_drew ?_))); (case side2 => exact (Kd.R_reads' HO456.out).2.1); rintro e w14 ⟨v466, rfl, ho0, hb⟩; have n0_ := Aside0.mk (Kd.R_elder' (zRx HO456.out) (Kd.R_base ho0) hb); have n1_ := Aside0.mk (Kd.R_elder' (zRx HO463.out) (Kd.R_base ho0) hb); have n2_ := Aside0.mk (Kd.R_lower (Kd.R_newB (Kd.R_new' (Kd.R_new' ho0 (Kd.R_lt (zRx HO456.out))) (Kd.R_lt (zRx HO463.out))) (g := gb460) (o := .cells #[.int .i64 t457, .int .i64 t458, .int .i64 t459] 41 (0, 0)) (zbx BK460.out)) (below_size (zBy HB.out GE460.out))); have n3_ := Aside0.mk (blk_below (g := gb460) (o := .cells #[.int .i64 t457, .int .i64 t458, .int .i64 t459] 41 (0, 0)) (zbx BK460.out) hb); have n4_ := Aside0.mk (below_step (zBy HB.out GE460.out) hb); clear HO456; clear HO463; clear BK460; clear HB; have HO456 := n0_; have HO463 := n1_; have HO467 := n2_; have BK460 := n3_; have HB := n4_; clear n0_ n1_ n2_ n3_ n4_; (try clear hb); (try clear hb2); (try clear hk); (try clear hi); (try clear ho0))))
  (try simp only [Act.put, List.setIfInBounds_toArray, List.set_cons_zero, List.set_cons_succ])
  go_cut [63] (fun v63 wc => ∃ (kq : Nat) (x63_6 : Bool), v63 = .bool x63_6 ∧ Aside0 (laws_FnCourses.j0 kq l0 t461 t464 x63_6 t457 t458 t459 = some r) ∧ Aside0 (kq ≤ k) ∧ Aside0 (Kd.R k41 41 wc w.heap.size (fun k_ => k_ ≠ gb460) v462 t461) ∧ Aside0 (wc.heap[gb460]? = some (.cells #[.int .i64 t457, .int .i64 t458, .int .i64 t459] 41 (0, 0))) ∧ Aside0 (Below w.heap.size w wc))
  case first =>
   as_aux_lemma =>
   have H := HC7.out
   clear HC7
   by_cases c15 : (t464 != t468) = true
   ·rw [if_pos c15] at H
    have c15b0 : (t464 != t468) = true := c15
    (try (have c15b1 : decide (t464 = t468) = false := by simpa using c15))
    (try (have c15b2 : (t464 == t468) = false := by simpa using c15))
    (try (have c15b3 : ¬ (t464 = t468) := by simpa using c15))
    clear c15
    (first | rw [c15b0] | (simp only [i64_w, i32_w]; rw [c15b0]) | skip)
    as_aux_lemma =>
     have H' := Aside0.mk H
     clear H
     go_wp2
     repeat (go_quiet (fail); try go_wp2)
     go_meet
     case rel => exact ⟨_, (true), zrx, H', ⟨by first | omega | exact Nat.le_refl _⟩, ⟨by (with_reducible repeat (first | apply Kd.R_alloc | apply Kd.R_drewN | apply Kd.R_drew)); exact Kd.R_mono HO463.out (fun _ hk => hk.1.2)⟩, ⟨by (with_reducible repeat (first | refine blk_drewN ?_ _ | refine blk_drew ?_ | refine blk_alloc ?_ _)); exact BK460.out⟩, ⟨by exact zBy HB.out GE460.out⟩⟩
   ·rw [if_neg c15] at H
    have c15b0 : (t464 != t468) = false := by simpa using c15
    (try (have c15b1 : decide (t464 = t468) = true := by simpa using c15))
    (try (have c15b2 : (t464 == t468) = true := by simpa using c15))
    clear c15
    (first | rw [c15b0] | (simp only [i64_w, i32_w]; rw [c15b0]) | skip)
    replace H := Option.bind_eq_some_iff.mp H
    obtain ⟨t469, A160, H⟩ := H
    replace H : (laws_FnCourses.j0 k l0 t461 t464 (!t469) t457 t458 t459) = some r := H
    have A16 := Aside0.mk A160
    clear A160
    as_aux_lemma =>
     have H' := Aside0.mk H
     clear H
     obtain ⟨Ao17, co17, eo17⟩ := Kd.R_slice HO463.out
     subst eo17
     obtain ⟨Ao18, co18, eo18⟩ := Kd.R_slice HO467.out
     subst eo18
     go_wp2_with (first | (go_at_call 12; (with_reducible refine (laws_rCourses.calls k _ _ t461 _ _ t465 t469 _ ?side1 ?side2 ?side3 ?side4 A16.out).mono ?_); (case side1 => repeat (first | exact (Kd.R_reads' HO463.out).2.2 | (with_reducible refine Kd.C_alloc ?_ _) | (with_reducible refine Kd.C_drewN ?_ _) | (with_reducible refine Kd.C_drew ?_))); (case side2 => exact (Kd.R_reads' HO463.out).2.1); (case side3 => repeat (first | exact (Kd.R_reads' HO467.out).2.2 | (with_reducible refine Kd.C_alloc ?_ _) | (with_reducible refine Kd.C_drewN ?_ _) | (with_reducible refine Kd.C_drew ?_))); (case side4 => exact (Kd.R_reads' HO467.out).2.1); rintro e w' ⟨rfl, ⟨nd, rfl⟩⟩; (try exact zdx)))
     repeat (go_quiet (first | (go_at_call 12; (with_reducible refine (laws_rCourses.calls k _ _ t461 _ _ t465 t469 _ ?side1 ?side2 ?side3 ?side4 A16.out).mono ?_); (case side1 => repeat (first | exact (Kd.R_reads' HO463.out).2.2 | (with_reducible refine Kd.C_alloc ?_ _) | (with_reducible refine Kd.C_drewN ?_ _) | (with_reducible refine Kd.C_drew ?_))); (case side2 => exact (Kd.R_reads' HO463.out).2.1); (case side3 => repeat (first | exact (Kd.R_reads' HO467.out).2.2 | (with_reducible refine Kd.C_alloc ?_ _) | (with_reducible refine Kd.C_drewN ?_ _) | (with_reducible refine Kd.C_drew ?_))); (case side4 => exact (Kd.R_reads' HO467.out).2.1); rintro e w' ⟨rfl, ⟨nd, rfl⟩⟩; (try exact zdx))); try go_wp2_with (first | (go_at_call 12; (with_reducible refine (laws_rCourses.calls k _ _ t461 _ _ t465 t469 _ ?side1 ?side2 ?side3 ?side4 A16.out).mono ?_); (case side1 => repeat (first | exact (Kd.R_reads' HO463.out).2.2 | (with_reducible refine Kd.C_alloc ?_ _) | (with_reducible refine Kd.C_drewN ?_ _) | (with_reducible refine Kd.C_drew ?_))); (case side2 => exact (Kd.R_reads' HO463.out).2.1); (case side3 => repeat (first | exact (Kd.R_reads' HO467.out).2.2 | (with_reducible refine Kd.C_alloc ?_ _) | (with_reducible refine Kd.C_drewN ?_ _) | (with_reducible refine Kd.C_drew ?_))); (case side4 => exact (Kd.R_reads' HO467.out).2.1); rintro e w' ⟨rfl, ⟨nd, rfl⟩⟩; (try exact zdx))))
     go_meet
     case rel => exact ⟨_, (!t469), zrx, H', ⟨by first | omega | exact Nat.le_refl _⟩, ⟨by (with_reducible repeat (first | apply Kd.R_alloc | apply Kd.R_drewN | apply Kd.R_drew)); exact Kd.R_mono HO463.out (fun _ hk => hk.1.2)⟩, ⟨by (with_reducible repeat (first | refine blk_drewN ?_ _ | refine blk_drew ?_ | refine blk_alloc ?_ _)); exact BK460.out⟩, ⟨by exact zBy HB.out GE460.out⟩⟩
  case rest =>
   as_aux_lemma =>
   clear HC7
   try clear c1
   try clear p2
   try clear c3
   try clear c4
   try clear c15
   try clear c15b0
   try clear c15b1
   try clear c15b2
   try clear hcz10_0
   try clear hcz10_1
   try clear hcz10_2
   try clear hcz13_0
   try clear hcz13_1
   try clear hcz13_2
   try clear hfz10_0
   try clear hfz10_1
   try clear hfz10_2
   try clear hfz13_0
   try clear hfz13_1
   try clear hfz13_2
   obtain ⟨kq, x63_6, rfl, HA, HJ6, HO_5, BK460, HB⟩ := hcut
   cases kq with
   | zero => exact absurd HA.out (by simp [laws_FnCourses.j0])
   | succ kj6 =>
    have H := HA.out
    clear HA
    simp only [laws_FnCourses.j0] at H
    by_cases c19 : x63_6 = true
    ·subst c19
     have H1 : (some false) = some r := by rw [if_pos rfl] at H; exact H
     clear H
     have H := H1
     clear H1
     as_aux_lemma =>
      exact absurd (Option.some.inj H) (by rw [hr_]; decide)
    ·replace c19 := Bool.eq_false_iff.mpr c19
     subst c19
     have H1 : (laws_FnCourses.l0 kj6 l0 t461 t464 t457 t457 t458 t459) = some r := by rw [if_neg (show ¬ (false = true) by decide)] at H; exact H
     clear H
     have H := H1
     clear H1
     have H' := Aside0.mk H
     clear H
     have hcz20_0 : wc.cell? ⟨gb460, 0, none⟩ = some (.int .i64 t457) := (blk_cell BK460.out 0).trans rfl
     have hcz20_1 : wc.cell? ⟨gb460, 1, none⟩ = some (.int .i64 t458) := (blk_cell BK460.out 1).trans rfl
     have hcz20_2 : wc.cell? ⟨gb460, 2, none⟩ = some (.int .i64 t459) := (blk_cell BK460.out 2).trans rfl
     have hfz20_0 := blk_frozen BK460.out 0
     have hfz20_1 := blk_frozen BK460.out 1
     have hfz20_2 := blk_frozen BK460.out 2
     go_wp2
     repeat (go_quiet (fail); try go_wp2)
     go_loopg [9] kj6 (fun kq v9 w' => ∃ (x9_2 : Int), v9 = .int .i64 x9_2 ∧ Aside0 (laws_FnCourses.l0 kq l0 t461 t464 x9_2 t457 t458 t459 = some r) ∧ Aside0 (kq ≤ kj6) ∧ Aside0 (Kd.R k41 41 w' w.heap.size (fun k_ => k_ ≠ gb460) v462 t461) ∧ Aside0 (w'.heap[gb460]? = some (.cells #[.int .i64 t457, .int .i64 t458, .int .i64 t459] 41 (0, 0))) ∧ Aside0 (Below w.heap.size w w'))
     case atStart => exact ⟨(t457), zrx, H', ⟨Nat.le_refl _⟩, ⟨by (with_reducible repeat (first | apply Kd.R_alloc | apply Kd.R_drewN | apply Kd.R_drew)); exact HO_5.out⟩, ⟨by (with_reducible repeat (first | refine blk_drewN ?_ _ | refine blk_drew ?_ | refine blk_alloc ?_ _)); exact BK460.out⟩, ⟨by exact zBy HB.out GE460.out⟩⟩
     case round =>
      clear H'
      try clear c1
      try clear p2
      try clear c3
      try clear c4
      try clear c15
      try clear c15b0
      try clear c15b1
      try clear c15b2
      try clear c19
      try clear hcz10_0
      try clear hcz10_1
      try clear hcz10_2
      try clear hcz13_0
      try clear hcz13_1
      try clear hcz13_2
      try clear hcz20_0
      try clear hcz20_1
      try clear hcz20_2
      try clear hfz10_0
      try clear hfz10_1
      try clear hfz10_2
      try clear hfz13_0
      try clear hfz13_1
      try clear hfz13_2
      try clear hfz20_0
      try clear hfz20_1
      try clear hfz20_2
      try clear p2
      obtain ⟨x9_2, rfl, HA, HK2, HO_5, BK460, HB⟩ := hrel
      cases gk with
      | zero => exact absurd HA.out (by simp [laws_FnCourses.l0])
      | succ k2 =>
       have H := HA.out
       clear HA
       simp only [laws_FnCourses.l0] at H
       have HC21 := Aside0.mk H
       clear H
       go_upto_region 9 with (fail)
       repeat (go_quiet (fail); go_upto_region 9 with (fail))
       go_cut [72] (fun v72 wc => ∃ (kq : Nat) (x72_20 : Bool), v72 = .bool x72_20 ∧ Aside0 (laws_FnCourses.j2 kq l0 t461 t464 x9_2 x72_20 t457 t458 t459 = some r) ∧ Aside0 (kq ≤ k2) ∧ Aside0 (Kd.R k41 41 wc w.heap.size (fun k_ => k_ ≠ gb460) v462 t461) ∧ Aside0 (wc.heap[gb460]? = some (.cells #[.int .i64 t457, .int .i64 t458, .int .i64 t459] 41 (0, 0))) ∧ Aside0 (Below w.heap.size w wc))
       case first =>
        as_aux_lemma =>
        have H := HC21.out
        clear HC21
        by_cases c22 : t464 = true
        ·subst c22
         have H1 : (laws_FnCourses.j2 k2 l0 t461 true x9_2 (decide (x9_2 < t458)) t457 t458 t459) = some r := by rw [if_pos rfl] at H; exact H
         clear H
         have H := H1
         clear H1
         as_aux_lemma =>
          have H' := Aside0.mk H
          clear H
          have hcz23_0 : wr.cell? ⟨gb460, 0, none⟩ = some (.int .i64 t457) := (blk_cell BK460.out 0).trans rfl
          have hcz23_1 : wr.cell? ⟨gb460, 1, none⟩ = some (.int .i64 t458) := (blk_cell BK460.out 1).trans rfl
          have hcz23_2 : wr.cell? ⟨gb460, 2, none⟩ = some (.int .i64 t459) := (blk_cell BK460.out 2).trans rfl
          have hfz23_0 := blk_frozen BK460.out 0
          have hfz23_1 := blk_frozen BK460.out 1
          have hfz23_2 := blk_frozen BK460.out 2
          go_wp2
          repeat (go_quiet (fail); try go_wp2)
          go_meet
          case rel => exact ⟨_, (decide (x9_2 < t458)), zrx, H', ⟨by have := HJ6.out; have := HK2.out; first | omega | exact Nat.le_refl _⟩, ⟨by (with_reducible repeat (first | apply Kd.R_alloc | apply Kd.R_drewN | apply Kd.R_drew)); exact HO_5.out⟩, ⟨by (with_reducible repeat (first | refine blk_drewN ?_ _ | refine blk_drew ?_ | refine blk_alloc ?_ _)); exact BK460.out⟩, ⟨by exact zBy HB.out GE460.out⟩⟩
        ·replace c22 := Bool.eq_false_iff.mpr c22
         subst c22
         have H1 : (laws_FnCourses.j2 k2 l0 t461 false x9_2 false t457 t458 t459) = some r := by rw [if_neg (show ¬ (false = true) by decide)] at H; exact H
         clear H
         have H := H1
         clear H1
         as_aux_lemma =>
          have H' := Aside0.mk H
          clear H
          go_wp2
          repeat (go_quiet (fail); try go_wp2)
          go_meet
          case rel => exact ⟨_, (false), zrx, H', ⟨by have := HJ6.out; have := HK2.out; first | omega | exact Nat.le_refl _⟩, ⟨by (with_reducible repeat (first | apply Kd.R_alloc | apply Kd.R_drewN | apply Kd.R_drew)); exact HO_5.out⟩, ⟨by (with_reducible repeat (first | refine blk_drewN ?_ _ | refine blk_drew ?_ | refine blk_alloc ?_ _)); exact BK460.out⟩, ⟨by exact zBy HB.out GE460.out⟩⟩
       case rest =>
        as_aux_lemma =>
        clear HC21
        try clear c1
        try clear c2
        try clear p2
        try clear c3
        try clear c4
        try clear c15
        try clear c15b0
        try clear c15b1
        try clear c15b2
        try clear c19
        try clear c22
        try clear hcz10_0
        try clear hcz10_1
        try clear hcz10_2
        try clear hcz13_0
        try clear hcz13_1
        try clear hcz13_2
        try clear hcz20_0
        try clear hcz20_1
        try clear hcz20_2
        try clear hcz23_0
        try clear hcz23_1
        try clear hcz23_2
        try clear hfz10_0
        try clear hfz10_1
        try clear hfz10_2
        try clear hfz13_0
        try clear hfz13_1
        try clear hfz13_2
        try clear hfz20_0
        try clear hfz20_1
        try clear hfz20_2
        try clear hfz23_0
        try clear hfz23_1
        try clear hfz23_2
        try clear p2
        obtain ⟨kq, x72_20, rfl, HA, HJ20, HO_5, BK460, HB⟩ := hcut
        cases kq with
        | zero => exact absurd HA.out (by simp [laws_FnCourses.j2])
        | succ kj20 =>
         have H := HA.out
         clear HA
         simp only [laws_FnCourses.j2] at H
         by_cases c24 : x72_20 = true
         ·subst c24
          have H1 : ((impl_CourseLevel.f kj20 t461 x9_2).bind fun bt470 => (if bt470.2 = true then (if bt470.1 = t459 then (laws_FnCourses.l0 kj20 l0 t461 t464 (wrap64 (x9_2 + 1)) t457 t458 t459) else (some false)) else (some false))) = some r := by rw [if_pos rfl] at H; exact H
          clear H
          have H := H1
          clear H1
          replace H := Option.bind_eq_some_iff.mp H
          obtain ⟨⟨t470, t471⟩, A250, H⟩ := H
          replace H : (if t471 = true then (if t470 = t459 then (laws_FnCourses.l0 kj20 l0 t461 t464 (wrap64 (x9_2 + 1)) t457 t458 t459) else (some false)) else (some false)) = some r := H
          have A25 := Aside0.mk A250
          clear A250
          by_cases c26 : t471 = true
          ·subst c26
           have H1 : (if t470 = t459 then (laws_FnCourses.l0 kj20 l0 t461 t464 (wrap64 (x9_2 + 1)) t457 t458 t459) else (some false)) = some r := by rw [if_pos rfl] at H; exact H
           clear H
           have H := H1
           clear H1
           by_cases c27 : t470 = t459
           ·rw [if_pos c27] at H
            have c27b0 : (t470 == t459) = true := beq_iff_eq.mpr c27
            have c27b1 : (t470 != t459) = false := bne_eq_false_iff_eq.mpr c27
            clear c27
            as_aux_lemma =>
             have H' := Aside0.mk H
             clear H
             obtain ⟨Ao28, co28, eo28⟩ := Kd.R_slice HO_5.out
             subst eo28
             go_wp2_with (first | (go_at_call 14; (with_reducible refine (impl_CourseLevel.calls kj20 _ _ t461 x9_2 t470 true _ ?side1 ?side2 A25.out).mono ?_); (case side1 => repeat (first | exact (Kd.R_reads' HO_5.out).2.2 | (with_reducible refine Kd.C_alloc ?_ _) | (with_reducible refine Kd.C_drewN ?_ _) | (with_reducible refine Kd.C_drew ?_))); (case side2 => exact (Kd.R_reads' HO_5.out).2.1); rintro e w29 ⟨rfl, hb⟩; have n0_ := Aside0.mk (Kd.R_below (zRx HO_5.out) hb); have n1_ := Aside0.mk (blk_below (g := gb460) (o := .cells #[.int .i64 t457, .int .i64 t458, .int .i64 t459] 41 (0, 0)) (zbx BK460.out) hb); have n2_ := Aside0.mk (below_step (zBy HB.out GE460.out) hb); clear HO_5; clear BK460; clear HB; have HO_5 := n0_; have BK460 := n1_; have HB := n2_; clear n0_ n1_ n2_; (try clear hb); (try clear hb2); (try clear hk); (try clear hi); have hcz30_0 : w29.cell? ⟨gb460, 0, none⟩ = some (.int .i64 t457) := (blk_cell BK460.out 0).trans rfl; have hcz30_1 : w29.cell? ⟨gb460, 1, none⟩ = some (.int .i64 t458) := (blk_cell BK460.out 1).trans rfl; have hcz30_2 : w29.cell? ⟨gb460, 2, none⟩ = some (.int .i64 t459) := (blk_cell BK460.out 2).trans rfl; have hfz30_0 := blk_frozen BK460.out 0; have hfz30_1 := blk_frozen BK460.out 1; have hfz30_2 := blk_frozen BK460.out 2))
             repeat (go_quiet (first | (go_at_call 14; (with_reducible refine (impl_CourseLevel.calls kj20 _ _ t461 x9_2 t470 true _ ?side1 ?side2 A25.out).mono ?_); (case side1 => repeat (first | exact (Kd.R_reads' HO_5.out).2.2 | (with_reducible refine Kd.C_alloc ?_ _) | (with_reducible refine Kd.C_drewN ?_ _) | (with_reducible refine Kd.C_drew ?_))); (case side2 => exact (Kd.R_reads' HO_5.out).2.1); rintro e w29 ⟨rfl, hb⟩; have n0_ := Aside0.mk (Kd.R_below (zRx HO_5.out) hb); have n1_ := Aside0.mk (blk_below (g := gb460) (o := .cells #[.int .i64 t457, .int .i64 t458, .int .i64 t459] 41 (0, 0)) (zbx BK460.out) hb); have n2_ := Aside0.mk (below_step (zBy HB.out GE460.out) hb); clear HO_5; clear BK460; clear HB; have HO_5 := n0_; have BK460 := n1_; have HB := n2_; clear n0_ n1_ n2_; (try clear hb); (try clear hb2); (try clear hk); (try clear hi); have hcz30_0 : w29.cell? ⟨gb460, 0, none⟩ = some (.int .i64 t457) := (blk_cell BK460.out 0).trans rfl; have hcz30_1 : w29.cell? ⟨gb460, 1, none⟩ = some (.int .i64 t458) := (blk_cell BK460.out 1).trans rfl; have hcz30_2 : w29.cell? ⟨gb460, 2, none⟩ = some (.int .i64 t459) := (blk_cell BK460.out 2).trans rfl; have hfz30_0 := blk_frozen BK460.out 0; have hfz30_1 := blk_frozen BK460.out 1; have hfz30_2 := blk_frozen BK460.out 2)); try go_wp2_with (first | (go_at_call 14; (with_reducible refine (impl_CourseLevel.calls kj20 _ _ t461 x9_2 t470 true _ ?side1 ?side2 A25.out).mono ?_); (case side1 => repeat (first | exact (Kd.R_reads' HO_5.out).2.2 | (with_reducible refine Kd.C_alloc ?_ _) | (with_reducible refine Kd.C_drewN ?_ _) | (with_reducible refine Kd.C_drew ?_))); (case side2 => exact (Kd.R_reads' HO_5.out).2.1); rintro e w29 ⟨rfl, hb⟩; have n0_ := Aside0.mk (Kd.R_below (zRx HO_5.out) hb); have n1_ := Aside0.mk (blk_below (g := gb460) (o := .cells #[.int .i64 t457, .int .i64 t458, .int .i64 t459] 41 (0, 0)) (zbx BK460.out) hb); have n2_ := Aside0.mk (below_step (zBy HB.out GE460.out) hb); clear HO_5; clear BK460; clear HB; have HO_5 := n0_; have BK460 := n1_; have HB := n2_; clear n0_ n1_ n2_; (try clear hb); (try clear hb2); (try clear hk); (try clear hi); have hcz30_0 : w29.cell? ⟨gb460, 0, none⟩ = some (.int .i64 t457) := (blk_cell BK460.out 0).trans rfl; have hcz30_1 : w29.cell? ⟨gb460, 1, none⟩ = some (.int .i64 t458) := (blk_cell BK460.out 1).trans rfl; have hcz30_2 : w29.cell? ⟨gb460, 2, none⟩ = some (.int .i64 t459) := (blk_cell BK460.out 2).trans rfl; have hfz30_0 := blk_frozen BK460.out 0; have hfz30_1 := blk_frozen BK460.out 1; have hfz30_2 := blk_frozen BK460.out 2)))
             go_roundg kj20
             case measure => have := HJ6.out; have := HK2.out; have := HJ20.out; omega
             case rel => exact ⟨(wrap64 (x9_2 + 1)), zrx, H', ⟨by have := HJ6.out; have := HK2.out; have := HJ20.out; omega⟩, ⟨by (with_reducible repeat (first | apply Kd.R_alloc | apply Kd.R_drewN | apply Kd.R_drew)); exact HO_5.out⟩, ⟨by (with_reducible repeat (first | refine blk_drewN ?_ _ | refine blk_drew ?_ | refine blk_alloc ?_ _)); exact BK460.out⟩, ⟨by exact zBy HB.out GE460.out⟩⟩
           ·rw [if_neg c27] at H
            have c27b0 : (t470 == t459) = false := beq_eq_false_iff_ne.mpr c27
            have c27b1 : (t470 != t459) = true := bne_iff_ne.mpr c27
            as_aux_lemma =>
             exact absurd (Option.some.inj H) (by rw [hr_]; decide)
          ·replace c26 := Bool.eq_false_iff.mpr c26
           subst c26
           have H1 : (some false) = some r := by rw [if_neg (show ¬ (false = true) by decide)] at H; exact H
           clear H
           have H := H1
           clear H1
           as_aux_lemma =>
            exact absurd (Option.some.inj H) (by rw [hr_]; decide)
         ·replace c24 := Bool.eq_false_iff.mpr c24
          subst c24
          have H1 : ((spec_DrawGapsOf.f kj20 l0).bind fun t472 => ((impl_GapsOf.f kj20 t472).bind fun bt475 => ((spec_GapsOf.f kj20 t472).bind fun bt479 => (if (bt475.2 != bt479.2) = true then (laws_FnCourses.j3 kj20 l0 t472 bt475.1 bt475.2 true) else ((laws_rTable.f kj20 bt475.1 bt479.1).bind fun t483 => (if t483 = true then ((impl_IsValidCourse.f kj20 t472).bind fun t484 => (laws_FnCourses.j3 kj20 l0 t472 bt475.1 bt475.2 (bt475.2 != t484))) else (laws_FnCourses.j3 kj20 l0 t472 bt475.1 bt475.2 true))))))) = some r := by rw [if_neg (show ¬ (false = true) by decide)] at H; exact H
          clear H
          have H := H1
          clear H1
          replace H := Option.bind_eq_some_iff.mp H
          obtain ⟨t472, A360, H⟩ := H
          replace H : ((impl_GapsOf.f kj20 t472).bind fun bt475 => ((spec_GapsOf.f kj20 t472).bind fun bt479 => (if (bt475.2 != bt479.2) = true then (laws_FnCourses.j3 kj20 l0 t472 bt475.1 bt475.2 true) else ((laws_rTable.f kj20 bt475.1 bt479.1).bind fun t483 => (if t483 = true then ((impl_IsValidCourse.f kj20 t472).bind fun t484 => (laws_FnCourses.j3 kj20 l0 t472 bt475.1 bt475.2 (bt475.2 != t484))) else (laws_FnCourses.j3 kj20 l0 t472 bt475.1 bt475.2 true)))))) = some r := H
          have A36 := Aside0.mk A360
          clear A360
          replace H := Option.bind_eq_some_iff.mp H
          obtain ⟨⟨t475, t476⟩, A370, H⟩ := H
          replace H : ((spec_GapsOf.f kj20 t472).bind fun bt479 => (if (t476 != bt479.2) = true then (laws_FnCourses.j3 kj20 l0 t472 t475 t476 true) else ((laws_rTable.f kj20 t475 bt479.1).bind fun t483 => (if t483 = true then ((impl_IsValidCourse.f kj20 t472).bind fun t484 => (laws_FnCourses.j3 kj20 l0 t472 t475 t476 (t476 != t484))) else (laws_FnCourses.j3 kj20 l0 t472 t475 t476 true))))) = some r := H
          have A37 := Aside0.mk A370
          clear A370
          replace H := Option.bind_eq_some_iff.mp H
          obtain ⟨⟨t479, t480⟩, A380, H⟩ := H
          replace H : (if (t476 != t480) = true then (laws_FnCourses.j3 kj20 l0 t472 t475 t476 true) else ((laws_rTable.f kj20 t475 t479).bind fun t483 => (if t483 = true then ((impl_IsValidCourse.f kj20 t472).bind fun t484 => (laws_FnCourses.j3 kj20 l0 t472 t475 t476 (t476 != t484))) else (laws_FnCourses.j3 kj20 l0 t472 t475 t476 true)))) = some r := H
          have A38 := Aside0.mk A380
          clear A380
          have HC39 := Aside0.mk H
          clear H
          go_upto_region 17 with (first | (go_at_call 25; (with_reducible refine (spec_DrawGapsOf.calls kj20 _ _ l0 t472 _ ?side1 ?side2 A36.out).mono ?_); (case side1 => repeat (first | exact (Kd.C_below HR0.out HB.out) | (with_reducible refine Kd.C_alloc ?_ _) | (with_reducible refine Kd.C_drewN ?_ _) | (with_reducible refine Kd.C_drew ?_))); (case side2 => exact HC0.out); rintro e w40 ⟨v473, rfl, ho0, hb⟩; have n0_ := Aside0.mk (Kd.R_elder' (zRx HO_5.out) (Kd.R_base ho0) hb); have n1_ := Aside0.mk (Kd.R_lower (Kd.R_newB (Kd.R_new' ho0 (Kd.R_lt (zRx HO_5.out))) (g := gb460) (o := .cells #[.int .i64 t457, .int .i64 t458, .int .i64 t459] 41 (0, 0)) (zbx BK460.out)) (below_size (zBy HB.out GE460.out))); have n2_ := Aside0.mk (blk_below (g := gb460) (o := .cells #[.int .i64 t457, .int .i64 t458, .int .i64 t459] 41 (0, 0)) (zbx BK460.out) hb); have n3_ := Aside0.mk (below_step (zBy HB.out GE460.out) hb); clear HO_5; clear BK460; clear HB; have HO_5 := n0_; have HO474 := n1_; have BK460 := n2_; have HB := n3_; clear n0_ n1_ n2_ n3_; (try clear hb); (try clear hb2); (try clear hk); (try clear hi); (try clear ho0); obtain ⟨Ao41, co41, eo41⟩ := Kd.R_slice HO474.out; subst eo41) | (go_at_call 26; (with_reducible refine (impl_GapsOf.calls kj20 _ _ t472 t475 t476 _ ?side1 ?side2 A37.out).mono ?_); (case side1 => repeat (first | exact (Kd.R_reads' HO474.out).2.2 | (with_reducible refine Kd.C_alloc ?_ _) | (with_reducible refine Kd.C_drewN ?_ _) | (with_reducible refine Kd.C_drew ?_))); (case side2 => exact (Kd.R_reads' HO474.out).2.1); rintro e w42 ⟨v477, rfl, ho0, hb⟩; have n0_ := Aside0.mk (Kd.R_below (zRx HO_5.out) hb); have n1_ := Aside0.mk (Kd.R_below (zRx HO474.out) hb); have n2_ := Aside0.mk (Kd.S_lower ho0 (below_size (zBy HB.out GE460.out))); have n3_ := Aside0.mk (blk_below (g := gb460) (o := .cells #[.int .i64 t457, .int .i64 t458, .int .i64 t459] 41 (0, 0)) (zbx BK460.out) hb); have n4_ := Aside0.mk (below_step (zBy HB.out GE460.out) hb); clear HO_5; clear HO474; clear BK460; clear HB; have HO_5 := n0_; have HO474 := n1_; have HO478 := n2_; have BK460 := n3_; have HB := n4_; clear n0_ n1_ n2_ n3_ n4_; (try clear hb); (try clear hb2); (try clear hk); (try clear hi); (try clear ho0)) | (go_at_call 27; (with_reducible refine (spec_GapsOf.calls kj20 _ _ t472 t479 t480 _ ?side1 ?side2 A38.out).mono ?_); (case side1 => repeat (first | exact (Kd.R_reads' HO474.out).2.2 | (with_reducible refine Kd.C_alloc ?_ _) | (with_reducible refine Kd.C_drewN ?_ _) | (with_reducible refine Kd.C_drew ?_))); (case side2 => exact (Kd.R_reads' HO474.out).2.1); rintro e w43 ⟨v481, rfl, ho0, hb⟩; have n0_ := Aside0.mk (Kd.R_below (zRx HO_5.out) hb); have n1_ := Aside0.mk (Kd.R_below (zRx HO474.out) hb); have n2_ := Aside0.mk (Kd.S_elder' (zSx HO478.out) (Kd.S_base ho0) hb); have n3_ := Aside0.mk (Kd.S_lower (Kd.S_new' ho0 (Kd.S_lt (zSx HO478.out))) (below_size (zBy HB.out GE460.out))); have n4_ := Aside0.mk (blk_below (g := gb460) (o := .cells #[.int .i64 t457, .int .i64 t458, .int .i64 t459] 41 (0, 0)) (zbx BK460.out) hb); have n5_ := Aside0.mk (below_step (zBy HB.out GE460.out) hb); clear HO_5; clear HO474; clear HO478; clear BK460; clear HB; have HO_5 := n0_; have HO474 := n1_; have HO478 := n2_; have HO482 := n3_; have BK460 := n4_; have HB := n5_; clear n0_ n1_ n2_ n3_ n4_ n5_; (try clear hb); (try clear hb2); (try clear hk); (try clear hi); (try clear ho0)))
          repeat (go_quiet (first | (go_at_call 25; (with_reducible refine (spec_DrawGapsOf.calls kj20 _ _ l0 t472 _ ?side1 ?side2 A36.out).mono ?_); (case side1 => repeat (first | exact (Kd.C_below HR0.out HB.out) | (with_reducible refine Kd.C_alloc ?_ _) | (with_reducible refine Kd.C_drewN ?_ _) | (with_reducible refine Kd.C_drew ?_))); (case side2 => exact HC0.out); rintro e w40 ⟨v473, rfl, ho0, hb⟩; have n0_ := Aside0.mk (Kd.R_elder' (zRx HO_5.out) (Kd.R_base ho0) hb); have n1_ := Aside0.mk (Kd.R_lower (Kd.R_newB (Kd.R_new' ho0 (Kd.R_lt (zRx HO_5.out))) (g := gb460) (o := .cells #[.int .i64 t457, .int .i64 t458, .int .i64 t459] 41 (0, 0)) (zbx BK460.out)) (below_size (zBy HB.out GE460.out))); have n2_ := Aside0.mk (blk_below (g := gb460) (o := .cells #[.int .i64 t457, .int .i64 t458, .int .i64 t459] 41 (0, 0)) (zbx BK460.out) hb); have n3_ := Aside0.mk (below_step (zBy HB.out GE460.out) hb); clear HO_5; clear BK460; clear HB; have HO_5 := n0_; have HO474 := n1_; have BK460 := n2_; have HB := n3_; clear n0_ n1_ n2_ n3_; (try clear hb); (try clear hb2); (try clear hk); (try clear hi); (try clear ho0); obtain ⟨Ao41, co41, eo41⟩ := Kd.R_slice HO474.out; subst eo41) | (go_at_call 26; (with_reducible refine (impl_GapsOf.calls kj20 _ _ t472 t475 t476 _ ?side1 ?side2 A37.out).mono ?_); (case side1 => repeat (first | exact (Kd.R_reads' HO474.out).2.2 | (with_reducible refine Kd.C_alloc ?_ _) | (with_reducible refine Kd.C_drewN ?_ _) | (with_reducible refine Kd.C_drew ?_))); (case side2 => exact (Kd.R_reads' HO474.out).2.1); rintro e w42 ⟨v477, rfl, ho0, hb⟩; have n0_ := Aside0.mk (Kd.R_below (zRx HO_5.out) hb); have n1_ := Aside0.mk (Kd.R_below (zRx HO474.out) hb); have n2_ := Aside0.mk (Kd.S_lower ho0 (below_size (zBy HB.out GE460.out))); have n3_ := Aside0.mk (blk_below (g := gb460) (o := .cells #[.int .i64 t457, .int .i64 t458, .int .i64 t459] 41 (0, 0)) (zbx BK460.out) hb); have n4_ := Aside0.mk (below_step (zBy HB.out GE460.out) hb); clear HO_5; clear HO474; clear BK460; clear HB; have HO_5 := n0_; have HO474 := n1_; have HO478 := n2_; have BK460 := n3_; have HB := n4_; clear n0_ n1_ n2_ n3_ n4_; (try clear hb); (try clear hb2); (try clear hk); (try clear hi); (try clear ho0)) | (go_at_call 27; (with_reducible refine (spec_GapsOf.calls kj20 _ _ t472 t479 t480 _ ?side1 ?side2 A38.out).mono ?_); (case side1 => repeat (first | exact (Kd.R_reads' HO474.out).2.2 | (with_reducible refine Kd.C_alloc ?_ _) | (with_reducible refine Kd.C_drewN ?_ _) | (with_reducible refine Kd.C_drew ?_))); (case side2 => exact (Kd.R_reads' HO474.out).2.1); rintro e w43 ⟨v481, rfl, ho0, hb⟩; have n0_ := Aside0.mk (Kd.R_below (zRx HO_5.out) hb); have n1_ := Aside0.mk (Kd.R_below (zRx HO474.out) hb); have n2_ := Aside0.mk (Kd.S_elder' (zSx HO478.out) (Kd.S_base ho0) hb); have n3_ := Aside0.mk (Kd.S_lower (Kd.S_new' ho0 (Kd.S_lt (zSx HO478.out))) (below_size (zBy HB.out GE460.out))); have n4_ := Aside0.mk (blk_below (g := gb460) (o := .cells #[.int .i64 t457, .int .i64 t458, .int .i64 t459] 41 (0, 0)) (zbx BK460.out) hb); have n5_ := Aside0.mk (below_step (zBy HB.out GE460.out) hb); clear HO_5; clear HO474; clear HO478; clear BK460; clear HB; have HO_5 := n0_; have HO474 := n1_; have HO478 := n2_; have HO482 := n3_; have BK460 := n4_; have HB := n5_; clear n0_ n1_ n2_ n3_ n4_ n5_; (try clear hb); (try clear hb2); (try clear hk); (try clear hi); (try clear ho0))); go_upto_region 17 with (first | (go_at_call 25; (with_reducible refine (spec_DrawGapsOf.calls kj20 _ _ l0 t472 _ ?side1 ?side2 A36.out).mono ?_); (case side1 => repeat (first | exact (Kd.C_below HR0.out HB.out) | (with_reducible refine Kd.C_alloc ?_ _) | (with_reducible refine Kd.C_drewN ?_ _) | (with_reducible refine Kd.C_drew ?_))); (case side2 => exact HC0.out); rintro e w40 ⟨v473, rfl, ho0, hb⟩; have n0_ := Aside0.mk (Kd.R_elder' (zRx HO_5.out) (Kd.R_base ho0) hb); have n1_ := Aside0.mk (Kd.R_lower (Kd.R_newB (Kd.R_new' ho0 (Kd.R_lt (zRx HO_5.out))) (g := gb460) (o := .cells #[.int .i64 t457, .int .i64 t458, .int .i64 t459] 41 (0, 0)) (zbx BK460.out)) (below_size (zBy HB.out GE460.out))); have n2_ := Aside0.mk (blk_below (g := gb460) (o := .cells #[.int .i64 t457, .int .i64 t458, .int .i64 t459] 41 (0, 0)) (zbx BK460.out) hb); have n3_ := Aside0.mk (below_step (zBy HB.out GE460.out) hb); clear HO_5; clear BK460; clear HB; have HO_5 := n0_; have HO474 := n1_; have BK460 := n2_; have HB := n3_; clear n0_ n1_ n2_ n3_; (try clear hb); (try clear hb2); (try clear hk); (try clear hi); (try clear ho0); obtain ⟨Ao41, co41, eo41⟩ := Kd.R_slice HO474.out; subst eo41) | (go_at_call 26; (with_reducible refine (impl_GapsOf.calls kj20 _ _ t472 t475 t476 _ ?side1 ?side2 A37.out).mono ?_); (case side1 => repeat (first | exact (Kd.R_reads' HO474.out).2.2 | (with_reducible refine Kd.C_alloc ?_ _) | (with_reducible refine Kd.C_drewN ?_ _) | (with_reducible refine Kd.C_drew ?_))); (case side2 => exact (Kd.R_reads' HO474.out).2.1); rintro e w42 ⟨v477, rfl, ho0, hb⟩; have n0_ := Aside0.mk (Kd.R_below (zRx HO_5.out) hb); have n1_ := Aside0.mk (Kd.R_below (zRx HO474.out) hb); have n2_ := Aside0.mk (Kd.S_lower ho0 (below_size (zBy HB.out GE460.out))); have n3_ := Aside0.mk (blk_below (g := gb460) (o := .cells #[.int .i64 t457, .int .i64 t458, .int .i64 t459] 41 (0, 0)) (zbx BK460.out) hb); have n4_ := Aside0.mk (below_step (zBy HB.out GE460.out) hb); clear HO_5; clear HO474; clear BK460; clear HB; have HO_5 := n0_; have HO474 := n1_; have HO478 := n2_; have BK460 := n3_; have HB := n4_; clear n0_ n1_ n2_ n3_ n4_; (try clear hb); (try clear hb2); (try clear hk); (try clear hi); (try clear ho0)) | (go_at_call 27; (with_reducible refine (spec_GapsOf.calls kj20 _ _ t472 t479 t480 _ ?side1 ?side2 A38.out).mono ?_); (case side1 => repeat (first | exact (Kd.R_reads' HO474.out).2.2 | (with_reducible refine Kd.C_alloc ?_ _) | (with_reducible refine Kd.C_drewN ?_ _) | (with_reducible refine Kd.C_drew ?_))); (case side2 => exact (Kd.R_reads' HO474.out).2.1); rintro e w43 ⟨v481, rfl, ho0, hb⟩; have n0_ := Aside0.mk (Kd.R_below (zRx HO_5.out) hb); have n1_ := Aside0.mk (Kd.R_below (zRx HO474.out) hb); have n2_ := Aside0.mk (Kd.S_elder' (zSx HO478.out) (Kd.S_base ho0) hb); have n3_ := Aside0.mk (Kd.S_lower (Kd.S_new' ho0 (Kd.S_lt (zSx HO478.out))) (below_size (zBy HB.out GE460.out))); have n4_ := Aside0.mk (blk_below (g := gb460) (o := .cells #[.int .i64 t457, .int .i64 t458, .int .i64 t459] 41 (0, 0)) (zbx BK460.out) hb); have n5_ := Aside0.mk (below_step (zBy HB.out GE460.out) hb); clear HO_5; clear HO474; clear HO478; clear BK460; clear HB; have HO_5 := n0_; have HO474 := n1_; have HO478 := n2_; have HO482 := n3_; have BK460 := n4_; have HB := n5_; clear n0_ n1_ n2_ n3_ n4_ n5_; (try clear hb); (try clear hb2); (try clear hk); (try clear hi); (try clear ho0))))
          (try simp only [Act.put, List.setIfInBounds_toArray, List.set_cons_zero, List.set_cons_succ])
          go_cut [115] (fun v115 wc => ∃ (kq : Nat) (x115_38 : Bool), v115 = .bool x115_38 ∧ Aside0 (laws_FnCourses.j3 kq l0 t472 t475 t476 x115_38 = some r) ∧ Aside0 (kq ≤ kj20) ∧ Aside0 (Kd.R k41 41 wc w.heap.size (fun k_ => k_ ≠ gb460) (.slice Ao41 t472.length co41) t472) ∧ Aside0 (Kd.S (Kd.slice 3 (Kd.int .i64)) 36 wc w.heap.size (fun _ => True) v477 t475) ∧ Aside0 (wc.heap[gb460]? = some (.cells #[.int .i64 t457, .int .i64 t458, .int .i64 t459] 41 (0, 0))) ∧ Aside0 (Below w.heap.size w wc))
          case first =>
           as_aux_lemma =>
           have H := HC39.out
           clear HC39
           by_cases c44 : (t476 != t480) = true
           ·rw [if_pos c44] at H
            have c44b0 : (t476 != t480) = true := c44
            (try (have c44b1 : decide (t476 = t480) = false := by simpa using c44))
            (try (have c44b2 : (t476 == t480) = false := by simpa using c44))
            (try (have c44b3 : ¬ (t476 = t480) := by simpa using c44))
            clear c44
            (first | rw [c44b0] | (simp only [i64_w, i32_w]; rw [c44b0]) | skip)
            as_aux_lemma =>
             have H' := Aside0.mk H
             clear H
             go_wp2
             repeat (go_quiet (fail); try go_wp2)
             go_meet
             case rel => exact ⟨_, (true), zrx, H', ⟨by have := HJ6.out; have := HK2.out; have := HJ20.out; first | omega | exact Nat.le_refl _⟩, ⟨by (with_reducible repeat (first | apply Kd.R_alloc | apply Kd.R_drewN | apply Kd.R_drew)); exact Kd.R_mono HO474.out (fun _ hk => hk.2)⟩, ⟨by (with_reducible repeat (first | apply Kd.S_alloc | apply Kd.S_drewN | apply Kd.S_drew)); exact Kd.S_mono HO478.out (fun _ hk => trivial)⟩, ⟨by (with_reducible repeat (first | refine blk_drewN ?_ _ | refine blk_drew ?_ | refine blk_alloc ?_ _)); exact BK460.out⟩, ⟨by exact zBy HB.out GE460.out⟩⟩
           ·rw [if_neg c44] at H
            have c44b0 : (t476 != t480) = false := by simpa using c44
            (try (have c44b1 : decide (t476 = t480) = true := by simpa using c44))
            (try (have c44b2 : (t476 == t480) = true := by simpa using c44))
            clear c44
            (first | rw [c44b0] | (simp only [i64_w, i32_w]; rw [c44b0]) | skip)
            replace H := Option.bind_eq_some_iff.mp H
            obtain ⟨t483, A450, H⟩ := H
            replace H : (if t483 = true then ((impl_IsValidCourse.f kj20 t472).bind fun t484 => (laws_FnCourses.j3 kj20 l0 t472 t475 t476 (t476 != t484))) else (laws_FnCourses.j3 kj20 l0 t472 t475 t476 true)) = some r := H
            have A45 := Aside0.mk A450
            clear A450
            by_cases c46 : t483 = true
            ·subst c46
             have H1 : ((impl_IsValidCourse.f kj20 t472).bind fun t484 => (laws_FnCourses.j3 kj20 l0 t472 t475 t476 (t476 != t484))) = some r := by rw [if_pos rfl] at H; exact H
             clear H
             have H := H1
             clear H1
             replace H := Option.bind_eq_some_iff.mp H
             obtain ⟨t484, A470, H⟩ := H
             replace H : (laws_FnCourses.j3 kj20 l0 t472 t475 t476 (t476 != t484)) = some r := H
             have A47 := Aside0.mk A470
             clear A470
             as_aux_lemma =>
              have H' := Aside0.mk H
              clear H
              obtain ⟨Ao48, co48, eo48⟩ := Kd.S_slice HO478.out
              subst eo48
              obtain ⟨Ao49, co49, eo49⟩ := Kd.S_slice HO482.out
              subst eo49
              go_wp2_with (first | (go_at_call 28; (with_reducible refine (laws_rTable.calls kj20 _ _ t475 _ _ t479 true _ ?side1 ?side2 ?side3 ?side4 A45.out).mono ?_); (case side1 => repeat (first | exact (Kd.S_reads' HO478.out).2.2 | (with_reducible refine Kd.C_alloc ?_ _) | (with_reducible refine Kd.C_drewN ?_ _) | (with_reducible refine Kd.C_drew ?_))); (case side2 => exact (Kd.S_reads' HO478.out).2.1); (case side3 => repeat (first | exact (Kd.S_reads' HO482.out).2.2 | (with_reducible refine Kd.C_alloc ?_ _) | (with_reducible refine Kd.C_drewN ?_ _) | (with_reducible refine Kd.C_drew ?_))); (case side4 => exact (Kd.S_reads' HO482.out).2.1); rintro e w' ⟨rfl, ⟨nd, rfl⟩⟩; (try exact zdx)) | (go_at_call 29; (with_reducible refine (impl_IsValidCourse.calls kj20 _ _ t472 t484 _ ?side1 ?side2 A47.out).mono ?_); (case side1 => repeat (first | exact (Kd.R_reads' HO474.out).2.2 | (with_reducible refine Kd.C_alloc ?_ _) | (with_reducible refine Kd.C_drewN ?_ _) | (with_reducible refine Kd.C_drew ?_))); (case side2 => exact (Kd.R_reads' HO474.out).2.1); rintro e w50 ⟨rfl, hb⟩; have n0_ := Aside0.mk (Kd.R_below (zRx HO_5.out) hb); have n1_ := Aside0.mk (Kd.R_below (zRx HO474.out) hb); have n2_ := Aside0.mk (Kd.S_below (zSx HO478.out) hb); have n3_ := Aside0.mk (Kd.S_below (zSx HO482.out) hb); have n4_ := Aside0.mk (blk_below (g := gb460) (o := .cells #[.int .i64 t457, .int .i64 t458, .int .i64 t459] 41 (0, 0)) (zbx BK460.out) hb); have n5_ := Aside0.mk (below_step (zBy HB.out GE460.out) hb); clear HO_5; clear HO474; clear HO478; clear HO482; clear BK460; clear HB; have HO_5 := n0_; have HO474 := n1_; have HO478 := n2_; have HO482 := n3_; have BK460 := n4_; have HB := n5_; clear n0_ n1_ n2_ n3_ n4_ n5_; (try clear hb); (try clear hb2); (try clear hk); (try clear hi)))
              repeat (go_quiet (first | (go_at_call 28; (with_reducible refine (laws_rTable.calls kj20 _ _ t475 _ _ t479 true _ ?side1 ?side2 ?side3 ?side4 A45.out).mono ?_); (case side1 => repeat (first | exact (Kd.S_reads' HO478.out).2.2 | (with_reducible refine Kd.C_alloc ?_ _) | (with_reducible refine Kd.C_drewN ?_ _) | (with_reducible refine Kd.C_drew ?_))); (case side2 => exact (Kd.S_reads' HO478.out).2.1); (case side3 => repeat (first | exact (Kd.S_reads' HO482.out).2.2 | (with_reducible refine Kd.C_alloc ?_ _) | (with_reducible refine Kd.C_drewN ?_ _) | (with_reducible refine Kd.C_drew ?_))); (case side4 => exact (Kd.S_reads' HO482.out).2.1); rintro e w' ⟨rfl, ⟨nd, rfl⟩⟩; (try exact zdx)) | (go_at_call 29; (with_reducible refine (impl_IsValidCourse.calls kj20 _ _ t472 t484 _ ?side1 ?side2 A47.out).mono ?_); (case side1 => repeat (first | exact (Kd.R_reads' HO474.out).2.2 | (with_reducible refine Kd.C_alloc ?_ _) | (with_reducible refine Kd.C_drewN ?_ _) | (with_reducible refine Kd.C_drew ?_))); (case side2 => exact (Kd.R_reads' HO474.out).2.1); rintro e w50 ⟨rfl, hb⟩; have n0_ := Aside0.mk (Kd.R_below (zRx HO_5.out) hb); have n1_ := Aside0.mk (Kd.R_below (zRx HO474.out) hb); have n2_ := Aside0.mk (Kd.S_below (zSx HO478.out) hb); have n3_ := Aside0.mk (Kd.S_below (zSx HO482.out) hb); have n4_ := Aside0.mk (blk_below (g := gb460) (o := .cells #[.int .i64 t457, .int .i64 t458, .int .i64 t459] 41 (0, 0)) (zbx BK460.out) hb); have n5_ := Aside0.mk (below_step (zBy HB.out GE460.out) hb); clear HO_5; clear HO474; clear HO478; clear HO482; clear BK460; clear HB; have HO_5 := n0_; have HO474 := n1_; have HO478 := n2_; have HO482 := n3_; have BK460 := n4_; have HB := n5_; clear n0_ n1_ n2_ n3_ n4_ n5_; (try clear hb); (try clear hb2); (try clear hk); (try clear hi))); try go_wp2_with (first | (go_at_call 28; (with_reducible refine (laws_rTable.calls kj20 _ _ t475 _ _ t479 true _ ?side1 ?side2 ?side3 ?side4 A45.out).mono ?_); (case side1 => repeat (first | exact (Kd.S_reads' HO478.out).2.2 | (with_reducible refine Kd.C_alloc ?_ _) | (with_reducible refine Kd.C_drewN ?_ _) | (with_reducible refine Kd.C_drew ?_))); (case side2 => exact (Kd.S_reads' HO478.out).2.1); (case side3 => repeat (first | exact (Kd.S_reads' HO482.out).2.2 | (with_reducible refine Kd.C_alloc ?_ _) | (with_reducible refine Kd.C_drewN ?_ _) | (with_reducible refine Kd.C_drew ?_))); (case side4 => exact (Kd.S_reads' HO482.out).2.1); rintro e w' ⟨rfl, ⟨nd, rfl⟩⟩; (try exact zdx)) | (go_at_call 29; (with_reducible refine (impl_IsValidCourse.calls kj20 _ _ t472 t484 _ ?side1 ?side2 A47.out).mono ?_); (case side1 => repeat (first | exact (Kd.R_reads' HO474.out).2.2 | (with_reducible refine Kd.C_alloc ?_ _) | (with_reducible refine Kd.C_drewN ?_ _) | (with_reducible refine Kd.C_drew ?_))); (case side2 => exact (Kd.R_reads' HO474.out).2.1); rintro e w50 ⟨rfl, hb⟩; have n0_ := Aside0.mk (Kd.R_below (zRx HO_5.out) hb); have n1_ := Aside0.mk (Kd.R_below (zRx HO474.out) hb); have n2_ := Aside0.mk (Kd.S_below (zSx HO478.out) hb); have n3_ := Aside0.mk (Kd.S_below (zSx HO482.out) hb); have n4_ := Aside0.mk (blk_below (g := gb460) (o := .cells #[.int .i64 t457, .int .i64 t458, .int .i64 t459] 41 (0, 0)) (zbx BK460.out) hb); have n5_ := Aside0.mk (below_step (zBy HB.out GE460.out) hb); clear HO_5; clear HO474; clear HO478; clear HO482; clear BK460; clear HB; have HO_5 := n0_; have HO474 := n1_; have HO478 := n2_; have HO482 := n3_; have BK460 := n4_; have HB := n5_; clear n0_ n1_ n2_ n3_ n4_ n5_; (try clear hb); (try clear hb2); (try clear hk); (try clear hi))))
              go_meet
              case rel => exact ⟨_, ((t476 != t484)), zrx, H', ⟨by have := HJ6.out; have := HK2.out; have := HJ20.out; first | omega | exact Nat.le_refl _⟩, ⟨by (with_reducible repeat (first | apply Kd.R_alloc | apply Kd.R_drewN | apply Kd.R_drew)); exact Kd.R_mono HO474.out (fun _ hk => hk.2)⟩, ⟨by (with_reducible repeat (first | apply Kd.S_alloc | apply Kd.S_drewN | apply Kd.S_drew)); exact Kd.S_mono HO478.out (fun _ hk => trivial)⟩, ⟨by (with_reducible repeat (first | refine blk_drewN ?_ _ | refine blk_drew ?_ | refine blk_alloc ?_ _)); exact BK460.out⟩, ⟨by exact zBy HB.out GE460.out⟩⟩
            ·replace c46 := Bool.eq_false_iff.mpr c46
             subst c46
             have H1 : (laws_FnCourses.j3 kj20 l0 t472 t475 t476 true) = some r := by rw [if_neg (show ¬ (false = true) by decide)] at H; exact H
             clear H
             have H := H1
             clear H1
             as_aux_lemma =>
              have H' := Aside0.mk H
              clear H
              obtain ⟨Ao51, co51, eo51⟩ := Kd.S_slice HO478.out
              subst eo51
              obtain ⟨Ao52, co52, eo52⟩ := Kd.S_slice HO482.out
              subst eo52
              go_wp2_with (first | (go_at_call 28; (with_reducible refine (laws_rTable.calls kj20 _ _ t475 _ _ t479 false _ ?side1 ?side2 ?side3 ?side4 A45.out).mono ?_); (case side1 => repeat (first | exact (Kd.S_reads' HO478.out).2.2 | (with_reducible refine Kd.C_alloc ?_ _) | (with_reducible refine Kd.C_drewN ?_ _) | (with_reducible refine Kd.C_drew ?_))); (case side2 => exact (Kd.S_reads' HO478.out).2.1); (case side3 => repeat (first | exact (Kd.S_reads' HO482.out).2.2 | (with_reducible refine Kd.C_alloc ?_ _) | (with_reducible refine Kd.C_drewN ?_ _) | (with_reducible refine Kd.C_drew ?_))); (case side4 => exact (Kd.S_reads' HO482.out).2.1); rintro e w' ⟨rfl, ⟨nd, rfl⟩⟩; (try exact zdx)))
              repeat (go_quiet (first | (go_at_call 28; (with_reducible refine (laws_rTable.calls kj20 _ _ t475 _ _ t479 false _ ?side1 ?side2 ?side3 ?side4 A45.out).mono ?_); (case side1 => repeat (first | exact (Kd.S_reads' HO478.out).2.2 | (with_reducible refine Kd.C_alloc ?_ _) | (with_reducible refine Kd.C_drewN ?_ _) | (with_reducible refine Kd.C_drew ?_))); (case side2 => exact (Kd.S_reads' HO478.out).2.1); (case side3 => repeat (first | exact (Kd.S_reads' HO482.out).2.2 | (with_reducible refine Kd.C_alloc ?_ _) | (with_reducible refine Kd.C_drewN ?_ _) | (with_reducible refine Kd.C_drew ?_))); (case side4 => exact (Kd.S_reads' HO482.out).2.1); rintro e w' ⟨rfl, ⟨nd, rfl⟩⟩; (try exact zdx))); try go_wp2_with (first | (go_at_call 28; (with_reducible refine (laws_rTable.calls kj20 _ _ t475 _ _ t479 false _ ?side1 ?side2 ?side3 ?side4 A45.out).mono ?_); (case side1 => repeat (first | exact (Kd.S_reads' HO478.out).2.2 | (with_reducible refine Kd.C_alloc ?_ _) | (with_reducible refine Kd.C_drewN ?_ _) | (with_reducible refine Kd.C_drew ?_))); (case side2 => exact (Kd.S_reads' HO478.out).2.1); (case side3 => repeat (first | exact (Kd.S_reads' HO482.out).2.2 | (with_reducible refine Kd.C_alloc ?_ _) | (with_reducible refine Kd.C_drewN ?_ _) | (with_reducible refine Kd.C_drew ?_))); (case side4 => exact (Kd.S_reads' HO482.out).2.1); rintro e w' ⟨rfl, ⟨nd, rfl⟩⟩; (try exact zdx))))
              go_meet
              case rel => exact ⟨_, (true), zrx, H', ⟨by have := HJ6.out; have := HK2.out; have := HJ20.out; first | omega | exact Nat.le_refl _⟩, ⟨by (with_reducible repeat (first | apply Kd.R_alloc | apply Kd.R_drewN | apply Kd.R_drew)); exact Kd.R_mono HO474.out (fun _ hk => hk.2)⟩, ⟨by (with_reducible repeat (first | apply Kd.S_alloc | apply Kd.S_drewN | apply Kd.S_drew)); exact Kd.S_mono HO478.out (fun _ hk => trivial)⟩, ⟨by (with_reducible repeat (first | refine blk_drewN ?_ _ | refine blk_drew ?_ | refine blk_alloc ?_ _)); exact BK460.out⟩, ⟨by exact zBy HB.out GE460.out⟩⟩
          case rest =>
           as_aux_lemma =>
           clear HC39
           try clear c1
           try clear c2
           try clear p2
           try clear c3
           try clear c4
           try clear p6
           try clear c15
           try clear c15b0
           try clear c15b1
           try clear c15b2
           try clear c19
           try clear c22
           try clear c24
           try clear c26
           try clear c27
           try clear c27b0
           try clear c27b1
           try clear c44
           try clear c44b0
           try clear c44b1
           try clear c44b2
           try clear c46
           try clear hcz10_0
           try clear hcz10_1
           try clear hcz10_2
           try clear hcz13_0
           try clear hcz13_1
           try clear hcz13_2
           try clear hcz20_0
           try clear hcz20_1
           try clear hcz20_2
           try clear hcz23_0
           try clear hcz23_1
           try clear hcz23_2
           try clear hcz30_0
           try clear hcz30_1
           try clear hcz30_2
           try clear hcz33_0
           try clear hcz33_1
           try clear hcz33_2
           try clear hfz10_0
           try clear hfz10_1
           try clear hfz10_2
           try clear hfz13_0
           try clear hfz13_1
           try clear hfz13_2
           try clear hfz20_0
           try clear hfz20_1
           try clear hfz20_2
           try clear hfz23_0
           try clear hfz23_1
           try clear hfz23_2
           try clear hfz30_0
           try clear hfz30_1
           try clear hfz30_2
           try clear hfz33_0
           try clear hfz33_1
           try clear hfz33_2
           try clear p2
           obtain ⟨kq, x115_38, rfl, HA, HJ38, HO_12, HO_13, BK460, HB⟩ := hcut
           cases kq with
           | zero => exact absurd HA.out (by simp [laws_FnCourses.j3])
           | succ kj38 =>
            have H := HA.out
            clear HA
            simp only [laws_FnCourses.j3] at H
            by_cases c53 : x115_38 = true
            ·subst c53
             have H1 : (some false) = some r := by rw [if_pos rfl] at H; exact H
             clear H
             have H := H1
             clear H1
             as_aux_lemma =>
              exact absurd (Option.some.inj H) (by rw [hr_]; decide)
            ·replace c53 := Bool.eq_false_iff.mpr c53
             subst c53
             have H1 : (if t476 = true then (laws_FnCourses.l1 kj38 l0 t472 t475 (([] : List Int)) 0 0) else (laws_FnCourses.j7 kj38 l0)) = some r := by rw [if_neg (show ¬ (false = true) by decide)] at H; exact H
             clear H
             have H := H1
             clear H1
             have HC54 := Aside0.mk H
             clear H
             go_upto_if 116 with (fail)
             repeat (go_quiet (fail); go_upto_if 116 with (fail))
             go_cut [] (fun wc => ∃ (kq : Nat), Aside0 (laws_FnCourses.j7 kq l0 = some r) ∧ Aside0 (kq ≤ kj38) ∧ Aside0 (wc.heap[gb460]? = some (.cells #[.int .i64 t457, .int .i64 t458, .int .i64 t459] 41 (0, 0))) ∧ Aside0 (Below w.heap.size w wc))
             case first =>
              as_aux_lemma =>
              have H := HC54.out
              clear HC54
              by_cases c55 : t476 = true
              ·subst c55
               have H1 : (laws_FnCourses.l1 kj38 l0 t472 t475 (([] : List Int)) 0 0) = some r := by rw [if_pos rfl] at H; exact H
               clear H
               have H := H1
               clear H1
               obtain ⟨y485, hy485⟩ : ∃ y_ : List Int, y_ = (([] : List Int)) := ⟨_, rfl⟩
               replace H : (laws_FnCourses.l1 kj38 l0 t472 t475 y485 0 0) = some r := by first | (rw [hy485]; with_reducible exact H) | (have H2_ := (Option.bind_some _ _).symm.trans H; rw [hy485]; with_reducible exact H2_) | (have H2_ := (Option.bind_some _ _).symm.trans H; with_reducible exact H2_) | with_reducible exact H | (rw [hy485]; exact H) | exact H
               have Ny485 := Aside0.mk hy485
               clear hy485
               have H' := Aside0.mk H
               clear H
               go_wp2_with (first | ((with_reducible refine gate_dst (N := 117) rfl ?_); refine Kd.R_lit (Kd.int .i64) _ 3 ?hg (N := 117) ?hd (xs := ([] : List Int)) (inner := []) (ok := fun _ => True) (okp := fun _ => True) ?hr ?hp (fun _ hk => hk) trivial (Below.refl _ _) (Nat.le_refl _) (by simp) ?_; (case hd => rfl); (case hg => rfl); (case hr => exact zsx); (case hp => exact (Reps.none _ _)); intro v486 w56 ho57 hb hg_ hnew_; clear hg_ hnew_; (first | rw [← Ny485.out] at ho57 | (simp only [Int.reduceToNat] at ho57; rw [← Ny485.out] at ho57)); have n0_ := Aside0.mk (Kd.R_below (zRx HO_12.out) hb); have n1_ := Aside0.mk (Kd.S_elder' (zSx HO_13.out) (Kd.R_base ho57) hb); have n2_ := Aside0.mk (Kd.R_lower ho57 (below_size (zBy HB.out GE460.out))); have n3_ := Aside0.mk (blk_below (g := gb460) (o := .cells #[.int .i64 t457, .int .i64 t458, .int .i64 t459] 41 (0, 0)) (zbx BK460.out) hb); have n4_ := Aside0.mk (below_step (zBy HB.out GE460.out) hb); clear HO_12; clear HO_13; clear BK460; clear HB; have HO_12 := n0_; have HO_13 := n1_; have HO487 := n2_; have BK460 := n3_; have HB := n4_; clear n0_ n1_ n2_ n3_ n4_; clear hb ho57))
               repeat (go_quiet (first | ((with_reducible refine gate_dst (N := 117) rfl ?_); refine Kd.R_lit (Kd.int .i64) _ 3 ?hg (N := 117) ?hd (xs := ([] : List Int)) (inner := []) (ok := fun _ => True) (okp := fun _ => True) ?hr ?hp (fun _ hk => hk) trivial (Below.refl _ _) (Nat.le_refl _) (by simp) ?_; (case hd => rfl); (case hg => rfl); (case hr => exact zsx); (case hp => exact (Reps.none _ _)); intro v486 w56 ho57 hb hg_ hnew_; clear hg_ hnew_; (first | rw [← Ny485.out] at ho57 | (simp only [Int.reduceToNat] at ho57; rw [← Ny485.out] at ho57)); have n0_ := Aside0.mk (Kd.R_below (zRx HO_12.out) hb); have n1_ := Aside0.mk (Kd.S_elder' (zSx HO_13.out) (Kd.R_base ho57) hb); have n2_ := Aside0.mk (Kd.R_lower ho57 (below_size (zBy HB.out GE460.out))); have n3_ := Aside0.mk (blk_below (g := gb460) (o := .cells #[.int .i64 t457, .int .i64 t458, .int .i64 t459] 41 (0, 0)) (zbx BK460.out) hb); have n4_ := Aside0.mk (below_step (zBy HB.out GE460.out) hb); clear HO_12; clear HO_13; clear BK460; clear HB; have HO_12 := n0_; have HO_13 := n1_; have HO487 := n2_; have BK460 := n3_; have HB := n4_; clear n0_ n1_ n2_ n3_ n4_; clear hb ho57)); try go_wp2_with (first | ((with_reducible refine gate_dst (N := 117) rfl ?_); refine Kd.R_lit (Kd.int .i64) _ 3 ?hg (N := 117) ?hd (xs := ([] : List Int)) (inner := []) (ok := fun _ => True) (okp := fun _ => True) ?hr ?hp (fun _ hk => hk) trivial (Below.refl _ _) (Nat.le_refl _) (by simp) ?_; (case hd => rfl); (case hg => rfl); (case hr => exact zsx); (case hp => exact (Reps.none _ _)); intro v486 w56 ho57 hb hg_ hnew_; clear hg_ hnew_; (first | rw [← Ny485.out] at ho57 | (simp only [Int.reduceToNat] at ho57; rw [← Ny485.out] at ho57)); have n0_ := Aside0.mk (Kd.R_below (zRx HO_12.out) hb); have n1_ := Aside0.mk (Kd.S_elder' (zSx HO_13.out) (Kd.R_base ho57) hb); have n2_ := Aside0.mk (Kd.R_lower ho57 (below_size (zBy HB.out GE460.out))); have n3_ := Aside0.mk (blk_below (g := gb460) (o := .cells #[.int .i64 t457, .int .i64 t458, .int .i64 t459] 41 (0, 0)) (zbx BK460.out) hb); have n4_ := Aside0.mk (below_step (zBy HB.out GE460.out) hb); clear HO_12; clear HO_13; clear BK460; clear HB; have HO_12 := n0_; have HO_13 := n1_; have HO487 := n2_; have BK460 := n3_; have HB := n4_; clear n0_ n1_ n2_ n3_ n4_; clear hb ho57)))
               go_loopg [17, 19] kj38 (fun kq v17 v19 w' => ∃ (x17_5 : List Int) (x19_5 : Int), v19 = .int .i64 x19_5 ∧ Aside0 (laws_FnCourses.l1 kq l0 t472 t475 x17_5 0 x19_5 = some r) ∧ Aside0 (kq ≤ kj38) ∧ Aside0 (Kd.R k41 41 w' w.heap.size (fun k_ => k_ ≠ gb460) (.slice Ao41 t472.length co41) t472) ∧ Aside0 (Kd.S (Kd.slice 3 (Kd.int .i64)) 36 w' w.heap.size (fun k_ => some k_ ≠ (v17 : Value).ownBlock) v477 t475) ∧ Aside0 (Kd.R (Kd.int .i64) 3 w' w.heap.size (fun _ => True) v17 x17_5) ∧ Aside0 (w'.heap[gb460]? = some (.cells #[.int .i64 t457, .int .i64 t458, .int .i64 t459] 41 (0, 0))) ∧ Aside0 (Below w.heap.size w w'))
               case atStart => exact ⟨(y485), (0), zrx, H', ⟨Nat.le_refl _⟩, ⟨by (with_reducible repeat (first | apply Kd.R_alloc | apply Kd.R_drewN | apply Kd.R_drew)); exact HO_12.out⟩, ⟨by (with_reducible repeat (first | apply Kd.S_alloc | apply Kd.S_drewN | apply Kd.S_drew)); exact Kd.S_mono HO_13.out (fun _ hk => hk.2)⟩, ⟨by (with_reducible repeat (first | apply Kd.R_alloc | apply Kd.R_drewN | apply Kd.R_drew)); exact HO487.out⟩, ⟨by (with_reducible repeat (first | refine blk_drewN ?_ _ | refine blk_drew ?_ | refine blk_alloc ?_ _)); exact BK460.out⟩, ⟨by exact zBy HB.out GE460.out⟩⟩
               case round =>
                clear H'
                try clear c1
                try clear c2
                try clear p2
                try clear c3
                try clear c4
                try clear c5
                try clear p6
                try clear c15
                try clear c15b0
                try clear c15b1
                try clear c15b2
                try clear c19
                try clear c22
                try clear c24
                try clear c26
                try clear c27
                try clear c27b0
                try clear c27b1
                try clear c44
                try clear c44b0
                try clear c44b1
                try clear c44b2
                try clear c46
                try clear c53
                try clear c55
                try clear hcz10_0
                try clear hcz10_1
                try clear hcz10_2
                try clear hcz13_0
                try clear hcz13_1
                try clear hcz13_2
                try clear hcz20_0
                try clear hcz20_1
                try clear hcz20_2
                try clear hcz23_0
                try clear hcz23_1
                try clear hcz23_2
                try clear hcz30_0
                try clear hcz30_1
                try clear hcz30_2
                try clear hcz33_0
                try clear hcz33_1
                try clear hcz33_2
                try clear hfz10_0
                try clear hfz10_1
                try clear hfz10_2
                try clear hfz13_0
                try clear hfz13_1
                try clear hfz13_2
                try clear hfz20_0
                try clear hfz20_1
                try clear hfz20_2
                try clear hfz23_0
                try clear hfz23_1
                try clear hfz23_2
                try clear hfz30_0
                try clear hfz30_1
                try clear hfz30_2
                try clear hfz33_0
                try clear hfz33_1
                try clear hfz33_2
                try clear p2
                try clear p6
                obtain ⟨x17_5, x19_5, rfl, HA, HK5, HO_12, HO_13, HO_17, BK460, HB⟩ := hrel
                cases gk with
                | zero => exact absurd HA.out (by simp [laws_FnCourses.l1])
                | succ k5 =>
                 have H := HA.out
                 clear HA
                 simp only [laws_FnCourses.l1] at H
                 by_cases c58 : x19_5 < 240
                 ·rw [if_pos c58] at H
                  have c58b0 : decide (x19_5 < 240) = true := decide_eq_true c58
                  clear c58
                  (first | rw [c58b0] | (simp only [i64_w, i32_w]; rw [c58b0]) | skip)
                  replace H := Option.bind_eq_some_iff.mp H
                  obtain ⟨⟨t488, t489⟩, A590, H⟩ := H
                  replace H : (if t489 = true then (if x17_5.length < 17592186044416 then (laws_FnCourses.l1 k5 l0 t472 t475 (x17_5 ++ [t488]) 0 (wrap64 (x19_5 + 1))) else (none)) else (some false)) = some r := H
                  have A59 := Aside0.mk A590
                  clear A590
                  by_cases c60 : t489 = true
                  ·subst c60
                   have H1 : (if x17_5.length < 17592186044416 then (laws_FnCourses.l1 k5 l0 t472 t475 (x17_5 ++ [t488]) 0 (wrap64 (x19_5 + 1))) else (none)) = some r := by rw [if_pos rfl] at H; exact H
                   clear H
                   have H := H1
                   clear H1
                   by_cases c61 : x17_5.length < 17592186044416
                   ·rw [if_pos c61] at H
                    have LMc61 := Aside0.mk c61
                    clear c61
                    obtain ⟨y490, hy490⟩ : ∃ y_ : List Int, y_ = (x17_5 ++ [t488]) := ⟨_, rfl⟩
                    replace H : (laws_FnCourses.l1 k5 l0 t472 t475 y490 0 (wrap64 (x19_5 + 1))) = some r := by first | (rw [hy490]; with_reducible exact H) | (have H2_ := (Option.bind_some _ _).symm.trans H; rw [hy490]; with_reducible exact H2_) | (have H2_ := (Option.bind_some _ _).symm.trans H; with_reducible exact H2_) | with_reducible exact H | (rw [hy490]; exact H) | exact H
                    have Ny490 := Aside0.mk hy490
                    clear hy490
                    as_aux_lemma =>
                     have H' := Aside0.mk H
                     clear H
                     go_wp2_with (first | (go_at_call 14; (with_reducible refine (impl_CourseLevel.calls k5 _ _ t472 x19_5 t488 true _ ?side1 ?side2 A59.out).mono ?_); (case side1 => repeat (first | exact (Kd.R_reads' HO_12.out).2.2 | (with_reducible refine Kd.C_alloc ?_ _) | (with_reducible refine Kd.C_drewN ?_ _) | (with_reducible refine Kd.C_drew ?_))); (case side2 => exact (Kd.R_reads' HO_12.out).2.1); rintro e w62 ⟨rfl, hb⟩; have n0_ := Aside0.mk (Kd.R_below (zRx HO_12.out) hb); have n1_ := Aside0.mk (Kd.S_below (zSx HO_13.out) hb); have n2_ := Aside0.mk (Kd.R_below (zRx HO_17.out) hb); have n3_ := Aside0.mk (blk_below (g := gb460) (o := .cells #[.int .i64 t457, .int .i64 t458, .int .i64 t459] 41 (0, 0)) (zbx BK460.out) hb); have n4_ := Aside0.mk (below_step (zBy HB.out GE460.out) hb); clear HO_12; clear HO_13; clear HO_17; clear BK460; clear HB; have HO_12 := n0_; have HO_13 := n1_; have HO_17 := n2_; have BK460 := n3_; have HB := n4_; clear n0_ n1_ n2_ n3_ n4_; (try clear hb); (try clear hb2); (try clear hk); (try clear hi)) | ((with_reducible refine gate_builtin (b := .append) (xs := #[.tmp 130, .tmp 132]) rfl ?_); at_builtin; refine Kd.R_append (Kd.int .i64) (w0 := w) w.heap.size rfl (.tmp 130) (.tmp 132) 36 3 (.int .i64 0) 8 rfl Try.underlying36 info3 rfl (by decide) (by omega) u17 x17_5 t488 [.int .i64 t488] (fun _ => True) (fun _ => False) rfl rfl ?aP (fun _ hk => hk.elim) ?aF ?aO ?aB ?aS ?aL ?_; (case aP => exact rfl); (case aB => exact (zBy HB.out GE460.out)); (case aF => exact (fun _ _ => trivial)); (case aO => exact (zRx HO_17.out)); (case aS => exact (below_size (zBy HB.out GE460.out))); (case aL => have := LMc61.out; omega); intro v491 w63 ho hb hg hat; rw [← Ny490.out] at ho; have n0_ := Aside0.mk (Kd.R_over' (zRx HO_12.out) (Kd.R_typed (zRx HO_17.out)) (by decide) hg); have n1_ := Aside0.mk (Kd.S_after (ok := (fun _ => True)) (by (with_reducible repeat (first | apply Kd.S_alloc | apply Kd.S_drewN | apply Kd.S_drew)); exact Kd.S_mono HO_13.out (fun _ hk => ⟨trivial, hk⟩)) hg hat); have n2_ := Aside0.mk (blk_grown (g := gb460) (o := .cells #[.int .i64 t457, .int .i64 t458, .int .i64 t459] 41 (0, 0)) (zbx BK460.out) hg (Kd.R_ne HO_17.out BK460.out (by decide))); have n3_ := Aside0.mk (hb); have n4_ := Aside0.mk (ho); clear HO_12; clear HO_13; clear BK460; clear HB; clear HO_17; have HO_12 := n0_; have HO_13 := n1_; have BK460 := n2_; have HB := n3_; have HO492 := n4_; clear n0_ n1_ n2_ n3_ n4_; clear ho hb hg hat))
                     repeat (go_quiet (first | (go_at_call 14; (with_reducible refine (impl_CourseLevel.calls k5 _ _ t472 x19_5 t488 true _ ?side1 ?side2 A59.out).mono ?_); (case side1 => repeat (first | exact (Kd.R_reads' HO_12.out).2.2 | (with_reducible refine Kd.C_alloc ?_ _) | (with_reducible refine Kd.C_drewN ?_ _) | (with_reducible refine Kd.C_drew ?_))); (case side2 => exact (Kd.R_reads' HO_12.out).2.1); rintro e w62 ⟨rfl, hb⟩; have n0_ := Aside0.mk (Kd.R_below (zRx HO_12.out) hb); have n1_ := Aside0.mk (Kd.S_below (zSx HO_13.out) hb); have n2_ := Aside0.mk (Kd.R_below (zRx HO_17.out) hb); have n3_ := Aside0.mk (blk_below (g := gb460) (o := .cells #[.int .i64 t457, .int .i64 t458, .int .i64 t459] 41 (0, 0)) (zbx BK460.out) hb); have n4_ := Aside0.mk (below_step (zBy HB.out GE460.out) hb); clear HO_12; clear HO_13; clear HO_17; clear BK460; clear HB; have HO_12 := n0_; have HO_13 := n1_; have HO_17 := n2_; have BK460 := n3_; have HB := n4_; clear n0_ n1_ n2_ n3_ n4_; (try clear hb); (try clear hb2); (try clear hk); (try clear hi)) | ((with_reducible refine gate_builtin (b := .append) (xs := #[.tmp 130, .tmp 132]) rfl ?_); at_builtin; refine Kd.R_append (Kd.int .i64) (w0 := w) w.heap.size rfl (.tmp 130) (.tmp 132) 36 3 (.int .i64 0) 8 rfl Try.underlying36 info3 rfl (by decide) (by omega) u17 x17_5 t488 [.int .i64 t488] (fun _ => True) (fun _ => False) rfl rfl ?aP (fun _ hk => hk.elim) ?aF ?aO ?aB ?aS ?aL ?_; (case aP => exact rfl); (case aB => exact (zBy HB.out GE460.out)); (case aF => exact (fun _ _ => trivial)); (case aO => exact (zRx HO_17.out)); (case aS => exact (below_size (zBy HB.out GE460.out))); (case aL => have := LMc61.out; omega); intro v491 w63 ho hb hg hat; rw [← Ny490.out] at ho; have n0_ := Aside0.mk (Kd.R_over' (zRx HO_12.out) (Kd.R_typed (zRx HO_17.out)) (by decide) hg); have n1_ := Aside0.mk (Kd.S_after (ok := (fun _ => True)) (by (with_reducible repeat (first | apply Kd.S_alloc | apply Kd.S_drewN | apply Kd.S_drew)); exact Kd.S_mono HO_13.out (fun _ hk => ⟨trivial, hk⟩)) hg hat); have n2_ := Aside0.mk (blk_grown (g := gb460) (o := .cells #[.int .i64 t457, .int .i64 t458, .int .i64 t459] 41 (0, 0)) (zbx BK460.out) hg (Kd.R_ne HO_17.out BK460.out (by decide))); have n3_ := Aside0.mk (hb); have n4_ := Aside0.mk (ho); clear HO_12; clear HO_13; clear BK460; clear HB; clear HO_17; have HO_12 := n0_; have HO_13 := n1_; have BK460 := n2_; have HB := n3_; have HO492 := n4_; clear n0_ n1_ n2_ n3_ n4_; clear ho hb hg hat)); try go_wp2_with (first | (go_at_call 14; (with_reducible refine (impl_CourseLevel.calls k5 _ _ t472 x19_5 t488 true _ ?side1 ?side2 A59.out).mono ?_); (case side1 => repeat (first | exact (Kd.R_reads' HO_12.out).2.2 | (with_reducible refine Kd.C_alloc ?_ _) | (with_reducible refine Kd.C_drewN ?_ _) | (with_reducible refine Kd.C_drew ?_))); (case side2 => exact (Kd.R_reads' HO_12.out).2.1); rintro e w62 ⟨rfl, hb⟩; have n0_ := Aside0.mk (Kd.R_below (zRx HO_12.out) hb); have n1_ := Aside0.mk (Kd.S_below (zSx HO_13.out) hb); have n2_ := Aside0.mk (Kd.R_below (zRx HO_17.out) hb); have n3_ := Aside0.mk (blk_below (g := gb460) (o := .cells #[.int .i64 t457, .int .i64 t458, .int .i64 t459] 41 (0, 0)) (zbx BK460.out) hb); have n4_ := Aside0.mk (below_step (zBy HB.out GE460.out) hb); clear HO_12; clear HO_13; clear HO_17; clear BK460; clear HB; have HO_12 := n0_; have HO_13 := n1_; have HO_17 := n2_; have BK460 := n3_; have HB := n4_; clear n0_ n1_ n2_ n3_ n4_; (try clear hb); (try clear hb2); (try clear hk); (try clear hi)) | ((with_reducible refine gate_builtin (b := .append) (xs := #[.tmp 130, .tmp 132]) rfl ?_); at_builtin; refine Kd.R_append (Kd.int .i64) (w0 := w) w.heap.size rfl (.tmp 130) (.tmp 132) 36 3 (.int .i64 0) 8 rfl Try.underlying36 info3 rfl (by decide) (by omega) u17 x17_5 t488 [.int .i64 t488] (fun _ => True) (fun _ => False) rfl rfl ?aP (fun _ hk => hk.elim) ?aF ?aO ?aB ?aS ?aL ?_; (case aP => exact rfl); (case aB => exact (zBy HB.out GE460.out)); (case aF => exact (fun _ _ => trivial)); (case aO => exact (zRx HO_17.out)); (case aS => exact (below_size (zBy HB.out GE460.out))); (case aL => have := LMc61.out; omega); intro v491 w63 ho hb hg hat; rw [← Ny490.out] at ho; have n0_ := Aside0.mk (Kd.R_over' (zRx HO_12.out) (Kd.R_typed (zRx HO_17.out)) (by decide) hg); have n1_ := Aside0.mk (Kd.S_after (ok := (fun _ => True)) (by (with_reducible repeat (first | apply Kd.S_alloc | apply Kd.S_drewN | apply Kd.S_drew)); exact Kd.S_mono HO_13.out (fun _ hk => ⟨trivial, hk⟩)) hg hat); have n2_ := Aside0.mk (blk_grown (g := gb460) (o := .cells #[.int .i64 t457, .int .i64 t458, .int .i64 t459] 41 (0, 0)) (zbx BK460.out) hg (Kd.R_ne HO_17.out BK460.out (by decide))); have n3_ := Aside0.mk (hb); have n4_ := Aside0.mk (ho); clear HO_12; clear HO_13; clear BK460; clear HB; clear HO_17; have HO_12 := n0_; have HO_13 := n1_; have BK460 := n2_; have HB := n3_; have HO492 := n4_; clear n0_ n1_ n2_ n3_ n4_; clear ho hb hg hat)))
                     go_roundg k5
                     case measure => have := HJ6.out; have := HK2.out; have := HJ20.out; have := HJ38.out; have := HK5.out; omega
                     case rel => exact ⟨(y490), (wrap64 (x19_5 + 1)), zrx, H', ⟨by have := HJ6.out; have := HK2.out; have := HJ20.out; have := HJ38.out; have := HK5.out; omega⟩, ⟨by (with_reducible repeat (first | apply Kd.R_alloc | apply Kd.R_drewN | apply Kd.R_drew)); exact HO_12.out⟩, ⟨by (with_reducible repeat (first | apply Kd.S_alloc | apply Kd.S_drewN | apply Kd.S_drew)); exact Kd.S_mono HO_13.out (fun _ hk => hk.2)⟩, ⟨by (with_reducible repeat (first | apply Kd.R_alloc | apply Kd.R_drewN | apply Kd.R_drew)); exact HO492.out⟩, ⟨by (with_reducible repeat (first | refine blk_drewN ?_ _ | refine blk_drew ?_ | refine blk_alloc ?_ _)); exact BK460.out⟩, ⟨by exact zBy HB.out GE460.out⟩⟩
                   ·rw [if_neg c61] at H
                    exact absurd H (by simp)
                  ·replace c60 := Bool.eq_false_iff.mpr c60
                   subst c60
                   have H1 : (some false) = some r := by rw [if_neg (show ¬ (false = true) by decide)] at H; exact H
                   clear H
                   have H := H1
                   clear H1
                   as_aux_lemma =>
                    exact absurd (Option.some.inj H) (by rw [hr_]; decide)
                 ·rw [if_neg c58] at H
                  have c58b0 : decide (x19_5 < 240) = false := decide_eq_false c58
                  clear c58
                  (first | rw [c58b0] | (simp only [i64_w, i32_w]; rw [c58b0]) | skip)
                  have H' := Aside0.mk H
                  clear H
                  go_wp2
                  repeat (go_quiet (fail); try go_wp2)
                  go_loopg [18, 22] k5 (fun kq v18 v22 w' => ∃ (x18_6 : Int) (x22_6 : Int), v18 = .int .i64 x18_6 ∧ v22 = .int .i64 x22_6 ∧ Aside0 (laws_FnCourses.l2 kq l0 t472 t475 x17_5 x18_6 x22_6 = some r) ∧ Aside0 (kq ≤ k5) ∧ Aside0 (Kd.R k41 41 w' w.heap.size (fun k_ => k_ ≠ gb460) (.slice Ao41 t472.length co41) t472) ∧ Aside0 (Kd.S (Kd.slice 3 (Kd.int .i64)) 36 w' w.heap.size (fun k_ => some k_ ≠ (u17 : Value).ownBlock) v477 t475) ∧ Aside0 (Kd.R (Kd.int .i64) 3 w' w.heap.size (fun _ => True) u17 x17_5) ∧ Aside0 (w'.heap[gb460]? = some (.cells #[.int .i64 t457, .int .i64 t458, .int .i64 t459] 41 (0, 0))) ∧ Aside0 (Below w.heap.size w w'))
                  case atStart => exact ⟨(0), (0), zrx, zrx, H', ⟨Nat.le_refl _⟩, ⟨by (with_reducible repeat (first | apply Kd.R_alloc | apply Kd.R_drewN | apply Kd.R_drew)); exact HO_12.out⟩, ⟨by (with_reducible repeat (first | apply Kd.S_alloc | apply Kd.S_drewN | apply Kd.S_drew)); exact HO_13.out⟩, ⟨by (with_reducible repeat (first | apply Kd.R_alloc | apply Kd.R_drewN | apply Kd.R_drew)); exact HO_17.out⟩, ⟨by (with_reducible repeat (first | refine blk_drewN ?_ _ | refine blk_drew ?_ | refine blk_alloc ?_ _)); exact BK460.out⟩, ⟨by exact zBy HB.out GE460.out⟩⟩
                  case round =>
                   clear H'
                   try clear c1
                   try clear c2
                   try clear p2
                   try clear c3
                   try clear c4
                   try clear c5
                   try clear c6
                   try clear p6
                   try clear c15
                   try clear c15b0
                   try clear c15b1
                   try clear c15b2
                   try clear c19
                   try clear c22
                   try clear c24
                   try clear c26
                   try clear c27
                   try clear c27b0
                   try clear c27b1
                   try clear c44
                   try clear c44b0
                   try clear c44b1
                   try clear c44b2
                   try clear c46
                   try clear c53
                   try clear c55
                   try clear c58
                   try clear c58b0
                   try clear c60
                   try clear c61
                   try clear p64
                   try clear hcz10_0
                   try clear hcz10_1
                   try clear hcz10_2
                   try clear hcz13_0
                   try clear hcz13_1
                   try clear hcz13_2
                   try clear hcz20_0
                   try clear hcz20_1
                   try clear hcz20_2
                   try clear hcz23_0
                   try clear hcz23_1
                   try clear hcz23_2
                   try clear hcz30_0
                   try clear hcz30_1
                   try clear hcz30_2
                   try clear hcz33_0
                   try clear hcz33_1
                   try clear hcz33_2
                   try clear hfz10_0
                   try clear hfz10_1
                   try clear hfz10_2
                   try clear hfz13_0
                   try clear hfz13_1
                   try clear hfz13_2
                   try clear hfz20_0
                   try clear hfz20_1
                   try clear hfz20_2
                   try clear hfz23_0
                   try clear hfz23_1
                   try clear hfz23_2
                   try clear hfz30_0
                   try clear hfz30_1
                   try clear hfz30_2
                   try clear hfz33_0
                   try clear hfz33_1
                   try clear hfz33_2
                   try clear p2
                   try clear p6
                   obtain ⟨x18_6, x22_6, rfl, rfl, HA, HK6, HO_12, HO_13, HO_17, BK460, HB⟩ := hrel
                   cases gk with
                   | zero => exact absurd HA.out (by simp [laws_FnCourses.l2])
                   | succ k6 =>
                    have H := HA.out
                    clear HA
                    simp only [laws_FnCourses.l2] at H
                    by_cases c65 : x22_6 ≤ 3
                    ·rw [if_pos c65] at H
                     have c65b0 : decide (x22_6 ≤ 3) = true := decide_eq_true c65
                     clear c65
                     replace H := Option.bind_eq_some_iff.mp H
                     obtain ⟨⟨t493, t494⟩, A660, H⟩ := H
                     replace H : (if t494 = true then (laws_FnCourses.l2 k6 l0 t472 t475 x17_5 (wrap64 (x18_6 + t493)) (wrap64 (x22_6 + 1))) else (some false)) = some r := H
                     have A66 := Aside0.mk A660
                     clear A660
                     by_cases c67 : t494 = true
                     ·subst c67
                      have H1 : (laws_FnCourses.l2 k6 l0 t472 t475 x17_5 (wrap64 (x18_6 + t493)) (wrap64 (x22_6 + 1))) = some r := by rw [if_pos rfl] at H; exact H
                      clear H
                      have H := H1
                      clear H1
                      as_aux_lemma =>
                       have H' := Aside0.mk H
                       clear H
                       go_wp2_with (first | (go_at_call 30; (with_reducible refine (impl_HoursAt.calls k6 _ _ t472 x22_6 t493 true _ ?side1 ?side2 A66.out).mono ?_); (case side1 => repeat (first | exact (Kd.R_reads' HO_12.out).2.2 | (with_reducible refine Kd.C_alloc ?_ _) | (with_reducible refine Kd.C_drewN ?_ _) | (with_reducible refine Kd.C_drew ?_))); (case side2 => exact (Kd.R_reads' HO_12.out).2.1); rintro e w68 ⟨rfl, hb⟩; have n0_ := Aside0.mk (Kd.R_below (zRx HO_12.out) hb); have n1_ := Aside0.mk (Kd.S_below (zSx HO_13.out) hb); have n2_ := Aside0.mk (Kd.R_below (zRx HO_17.out) hb); have n3_ := Aside0.mk (blk_below (g := gb460) (o := .cells #[.int .i64 t457, .int .i64 t458, .int .i64 t459] 41 (0, 0)) (zbx BK460.out) hb); have n4_ := Aside0.mk (below_step (zBy HB.out GE460.out) hb); clear HO_12; clear HO_13; clear HO_17; clear BK460; clear HB; have HO_12 := n0_; have HO_13 := n1_; have HO_17 := n2_; have BK460 := n3_; have HB := n4_; clear n0_ n1_ n2_ n3_ n4_; (try clear hb); (try clear hb2); (try clear hk); (try clear hi)))
                       repeat (go_quiet (first | (go_at_call 30; (with_reducible refine (impl_HoursAt.calls k6 _ _ t472 x22_6 t493 true _ ?side1 ?side2 A66.out).mono ?_); (case side1 => repeat (first | exact (Kd.R_reads' HO_12.out).2.2 | (with_reducible refine Kd.C_alloc ?_ _) | (with_reducible refine Kd.C_drewN ?_ _) | (with_reducible refine Kd.C_drew ?_))); (case side2 => exact (Kd.R_reads' HO_12.out).2.1); rintro e w68 ⟨rfl, hb⟩; have n0_ := Aside0.mk (Kd.R_below (zRx HO_12.out) hb); have n1_ := Aside0.mk (Kd.S_below (zSx HO_13.out) hb); have n2_ := Aside0.mk (Kd.R_below (zRx HO_17.out) hb); have n3_ := Aside0.mk (blk_below (g := gb460) (o := .cells #[.int .i64 t457, .int .i64 t458, .int .i64 t459] 41 (0, 0)) (zbx BK460.out) hb); have n4_ := Aside0.mk (below_step (zBy HB.out GE460.out) hb); clear HO_12; clear HO_13; clear HO_17; clear BK460; clear HB; have HO_12 := n0_; have HO_13 := n1_; have HO_17 := n2_; have BK460 := n3_; have HB := n4_; clear n0_ n1_ n2_ n3_ n4_; (try clear hb); (try clear hb2); (try clear hk); (try clear hi))); try go_wp2_with (first | (go_at_call 30; (with_reducible refine (impl_HoursAt.calls k6 _ _ t472 x22_6 t493 true _ ?side1 ?side2 A66.out).mono ?_); (case side1 => repeat (first | exact (Kd.R_reads' HO_12.out).2.2 | (with_reducible refine Kd.C_alloc ?_ _) | (with_reducible refine Kd.C_drewN ?_ _) | (with_reducible refine Kd.C_drew ?_))); (case side2 => exact (Kd.R_reads' HO_12.out).2.1); rintro e w68 ⟨rfl, hb⟩; have n0_ := Aside0.mk (Kd.R_below (zRx HO_12.out) hb); have n1_ := Aside0.mk (Kd.S_below (zSx HO_13.out) hb); have n2_ := Aside0.mk (Kd.R_below (zRx HO_17.out) hb); have n3_ := Aside0.mk (blk_below (g := gb460) (o := .cells #[.int .i64 t457, .int .i64 t458, .int .i64 t459] 41 (0, 0)) (zbx BK460.out) hb); have n4_ := Aside0.mk (below_step (zBy HB.out GE460.out) hb); clear HO_12; clear HO_13; clear HO_17; clear BK460; clear HB; have HO_12 := n0_; have HO_13 := n1_; have HO_17 := n2_; have BK460 := n3_; have HB := n4_; clear n0_ n1_ n2_ n3_ n4_; (try clear hb); (try clear hb2); (try clear hk); (try clear hi))))
                       go_roundg k6
                       case measure => have := HJ6.out; have := HK2.out; have := HJ20.out; have := HJ38.out; have := HK5.out; have := HK6.out; omega
                       case rel => exact ⟨(wrap64 (x18_6 + t493)), (wrap64 (x22_6 + 1)), zrx, zrx, H', ⟨by have := HJ6.out; have := HK2.out; have := HJ20.out; have := HJ38.out; have := HK5.out; have := HK6.out; omega⟩, ⟨by (with_reducible repeat (first | apply Kd.R_alloc | apply Kd.R_drewN | apply Kd.R_drew)); exact HO_12.out⟩, ⟨by (with_reducible repeat (first | apply Kd.S_alloc | apply Kd.S_drewN | apply Kd.S_drew)); exact HO_13.out⟩, ⟨by (with_reducible repeat (first | apply Kd.R_alloc | apply Kd.R_drewN | apply Kd.R_drew)); exact HO_17.out⟩, ⟨by (with_reducible repeat (first | refine blk_drewN ?_ _ | refine blk_drew ?_ | refine blk_alloc ?_ _)); exact BK460.out⟩, ⟨by exact zBy HB.out GE460.out⟩⟩
                     ·replace c67 := Bool.eq_false_iff.mpr c67
                      subst c67
                      have H1 : (some false) = some r := by rw [if_neg (show ¬ (false = true) by decide)] at H; exact H
                      clear H
                      have H := H1
                      clear H1
                      as_aux_lemma =>
                       exact absurd (Option.some.inj H) (by rw [hr_]; decide)
                    ·rw [if_neg c65] at H
                     have c65b0 : decide (x22_6 ≤ 3) = false := decide_eq_false c65
                     clear c65
                     have H' := Aside0.mk H
                     clear H
                     go_wp2
                     repeat (go_quiet (fail); try go_wp2)
                     go_loopg [25, 26] k6 (fun kq v25 v26 w' => ∃ (x25_7 : Int) (x26_7 : Int), v25 = .int .i64 x25_7 ∧ v26 = .int .i64 x26_7 ∧ Aside0 (laws_FnCourses.l3 kq l0 t472 t475 x17_5 x18_6 x25_7 x26_7 = some r) ∧ Aside0 (kq ≤ k6) ∧ Aside0 (Kd.R k41 41 w' w.heap.size (fun k_ => k_ ≠ gb460) (.slice Ao41 t472.length co41) t472) ∧ Aside0 (Kd.S (Kd.slice 3 (Kd.int .i64)) 36 w' w.heap.size (fun k_ => some k_ ≠ (u17 : Value).ownBlock) v477 t475) ∧ Aside0 (Kd.R (Kd.int .i64) 3 w' w.heap.size (fun _ => True) u17 x17_5) ∧ Aside0 (w'.heap[gb460]? = some (.cells #[.int .i64 t457, .int .i64 t458, .int .i64 t459] 41 (0, 0))) ∧ Aside0 (Below w.heap.size w w'))
                     case atStart => exact ⟨(0), (0), zrx, zrx, H', ⟨Nat.le_refl _⟩, ⟨by (with_reducible repeat (first | apply Kd.R_alloc | apply Kd.R_drewN | apply Kd.R_drew)); exact HO_12.out⟩, ⟨by (with_reducible repeat (first | apply Kd.S_alloc | apply Kd.S_drewN | apply Kd.S_drew)); exact HO_13.out⟩, ⟨by (with_reducible repeat (first | apply Kd.R_alloc | apply Kd.R_drewN | apply Kd.R_drew)); exact HO_17.out⟩, ⟨by (with_reducible repeat (first | refine blk_drewN ?_ _ | refine blk_drew ?_ | refine blk_alloc ?_ _)); exact BK460.out⟩, ⟨by exact zBy HB.out GE460.out⟩⟩
                     case round =>
                      clear H'
                      try clear c1
                      try clear c2
                      try clear p2
                      try clear c3
                      try clear c4
                      try clear c5
                      try clear c6
                      try clear p6
                      try clear c15
                      try clear c15b0
                      try clear c15b1
                      try clear c15b2
                      try clear c19
                      try clear c22
                      try clear c24
                      try clear c26
                      try clear c27
                      try clear c27b0
                      try clear c27b1
                      try clear c44
                      try clear c44b0
                      try clear c44b1
                      try clear c44b2
                      try clear c46
                      try clear c53
                      try clear c55
                      try clear c58
                      try clear c58b0
                      try clear c60
                      try clear c61
                      try clear p64
                      try clear c65
                      try clear c65b0
                      try clear c67
                      try clear hcz10_0
                      try clear hcz10_1
                      try clear hcz10_2
                      try clear hcz13_0
                      try clear hcz13_1
                      try clear hcz13_2
                      try clear hcz20_0
                      try clear hcz20_1
                      try clear hcz20_2
                      try clear hcz23_0
                      try clear hcz23_1
                      try clear hcz23_2
                      try clear hcz30_0
                      try clear hcz30_1
                      try clear hcz30_2
                      try clear hcz33_0
                      try clear hcz33_1
                      try clear hcz33_2
                      try clear hfz10_0
                      try clear hfz10_1
                      try clear hfz10_2
                      try clear hfz13_0
                      try clear hfz13_1
                      try clear hfz13_2
                      try clear hfz20_0
                      try clear hfz20_1
                      try clear hfz20_2
                      try clear hfz23_0
                      try clear hfz23_1
                      try clear hfz23_2
                      try clear hfz30_0
                      try clear hfz30_1
                      try clear hfz30_2
                      try clear hfz33_0
                      try clear hfz33_1
                      try clear hfz33_2
                      try clear p2
                      try clear p6
                      try clear p64
                      obtain ⟨x25_7, x26_7, rfl, rfl, HA, HK7, HO_12, HO_13, HO_17, BK460, HB⟩ := hrel
                      cases gk with
                      | zero => exact absurd HA.out (by simp [laws_FnCourses.l3])
                      | succ k7 =>
                       have H := HA.out
                       clear HA
                       simp only [laws_FnCourses.l3] at H
                       by_cases c70 : x26_7 < (t475.length : Int)
                       ·rw [if_pos c70] at H
                        have c70b0 : decide (x26_7 < (t475.length : Int)) = true := decide_eq_true c70
                        clear c70
                        by_cases c71 : 0 ≤ x26_7
                        ·rw [if_pos c71] at H
                         have c71b0 : decide (0 ≤ x26_7) = true := decide_eq_true c71
                         clear c71
                         by_cases c72 : 1 < ((rd_L3 t475 x26_7).length : Int)
                         ·rw [if_pos c72] at H
                          have c72b0 : decide (1 < ((rd_L3 t475 x26_7).length : Int)) = true := decide_eq_true c72
                          have c72b1 : decide (1 < (rd_L3 t475 x26_7).length) = true := decide_eq_true (by omega)
                          clear c72
                          by_cases c73 : 0 < ((rd_L3 t475 x26_7).length : Int)
                          ·rw [if_pos c73] at H
                           have c73b0 : decide (0 < ((rd_L3 t475 x26_7).length : Int)) = true := decide_eq_true c73
                           have c73b1 : decide (0 < (rd_L3 t475 x26_7).length) = true := decide_eq_true (by omega)
                           clear c73
                           as_aux_lemma =>
                            have H' := Aside0.mk H
                            clear H
                            obtain ⟨Ao74, co74, eo74⟩ := Kd.S_slice HO_13.out
                            subst eo74
                            have p495 : 0 ≤ (x26_7 : Int) := of_decide_eq_true zax
                            have q495 : x26_7 < (t475.length : Int) := of_decide_eq_true zax
                            obtain ⟨ad495, A495_0, c495_0, e495, hx495_0, hl495_0, hi495_0⟩ := at_L3 (Kd.S_reads' HO_13.out).2.2 x26_7 p495 q495
                            cases e495
                            obtain ⟨ce495, hce495, hMe495, hcc495⟩ := Kd.S_get HO_13.out [] x26_7 p495 (by first | exact q495 | exact of_decide_eq_true zax | (have e_ := (Kd.S_reads' HO_13.out).1; omega))
                            obtain ⟨ve495_0, rfl, ge495_0⟩ := hMe495
                            have hv495_0 := hcc495 0 _ rfl
                            rw [Nat.add_zero, show ((Kd.slice 3 (Kd.int .i64))).sz = 1 from rfl, Nat.mul_one] at hv495_0
                            replace hv495_0 := Option.some.inj (hv495_0.symm.trans hx495_0)
                            rw [hv495_0] at ge495_0
                            have HL495_0 := Aside0.mk (show Kd.R (Kd.int .i64) 3 _ _ _ _ (rd_L3 t475 x26_7) from ge495_0)
                            clear hv495_0 ge495_0
                            clear hcc495 hce495
                            have HR495_0 := Aside0.mk hi495_0
                            have HC495_0 := Aside0.mk hl495_0
                            clear hi495_0 hl495_0
                            replace p495 := eq_true p495
                            replace q495 := eq_true q495
                            have p496 : 0 ≤ (1 : Int) := (by omega)
                            have q496 : 1 < ((rd_L3 t475 x26_7).length : Int) := of_decide_eq_true zax
                            obtain ⟨ad496, e496, hx496_0⟩ := Kd.at_int (by repeat (first | (with_reducible exact HR495_0.out) | (with_reducible refine Kd.C_alloc ?_ _) | (with_reducible refine Kd.C_drewN ?_ _) | (with_reducible refine Kd.C_drew ?_) | exact HR495_0.out)) 1 p496 q496
                            cases e496
                            (try simp only [show (1 : Int).toNat = 1 from rfl, Nat.reduceMul, Nat.reduceEqDiff, Go.Addr.add, ↓reduceIte] at hx496_0)
                            have qi496 : (1 < (rd_L3 t475 x26_7).length) = True := eq_true (by omega)
                            (try rw [show ((1 : Int)).toNat = 1 from rfl] at hx496_0)
                            replace p496 := eq_true p496
                            replace q496 := eq_true q496
                            have p497 : 0 ≤ (x26_7 : Int) := of_decide_eq_true zax
                            have q497 : x26_7 < (t475.length : Int) := of_decide_eq_true zax
                            obtain ⟨ad497, A497_0, c497_0, e497, hx497_0, hl497_0, hi497_0⟩ := at_L3 (Kd.S_reads' HO_13.out).2.2 x26_7 p497 q497
                            obtain rfl : ad495 = ad497 := (by injection e497)
                            obtain ⟨ce497, hce497, hMe497, hcc497⟩ := Kd.S_get HO_13.out [] x26_7 p497 (by first | exact q497 | exact of_decide_eq_true zax | (have e_ := (Kd.S_reads' HO_13.out).1; omega))
                            obtain ⟨ve497_0, rfl, ge497_0⟩ := hMe497
                            have hv497_0 := hcc497 0 _ rfl
                            rw [Nat.add_zero, show ((Kd.slice 3 (Kd.int .i64))).sz = 1 from rfl, Nat.mul_one] at hv497_0
                            replace hv497_0 := Option.some.inj (hv497_0.symm.trans hx497_0)
                            rw [hv497_0] at ge497_0
                            have HL497_0 := Aside0.mk (show Kd.R (Kd.int .i64) 3 _ _ _ _ (rd_L3 t475 x26_7) from ge497_0)
                            clear hv497_0 ge497_0
                            clear hcc497 hce497
                            have HR497_0 := Aside0.mk hi497_0
                            have HC497_0 := Aside0.mk hl497_0
                            clear hi497_0 hl497_0
                            replace p497 := eq_true p497
                            replace q497 := eq_true q497
                            have ea_ := Option.some.inj (hx495_0.symm.trans hx497_0)
                            injection ea_ with ea_ en_ ec_
                            subst ea_
                            subst ec_
                            clear en_
                            have p498 : 0 ≤ (0 : Int) := (by omega)
                            have q498 : 0 < ((rd_L3 t475 x26_7).length : Int) := of_decide_eq_true zax
                            obtain ⟨ad498, e498, hx498_0⟩ := Kd.at_int (by repeat (first | (with_reducible exact HR497_0.out) | (with_reducible refine Kd.C_alloc ?_ _) | (with_reducible refine Kd.C_drewN ?_ _) | (with_reducible refine Kd.C_drew ?_) | exact HR497_0.out)) 0 p498 q498
                            cases e498
                            have qi498 : (0 < (rd_L3 t475 x26_7).length) = True := eq_true (by omega)
                            (try rw [show ((0 : Int)).toNat = 0 from rfl] at hx498_0)
                            (try rw [Addr.add_zero'] at hx498_0)
                            replace p498 := eq_true p498
                            replace q498 := eq_true q498
                            go_wp2
                            repeat (go_quiet (fail); try go_wp2)
                            go_roundg k7
                            case measure => have := HJ6.out; have := HK2.out; have := HJ20.out; have := HJ38.out; have := HK5.out; have := HK6.out; have := HK7.out; omega
                            case rel => exact ⟨(wrap64 ((wrap64 (x25_7 + (rd (rd_L3 t475 x26_7) 1))) - (rd (rd_L3 t475 x26_7) 0))), (wrap64 (x26_7 + 1)), zrx, zrx, H', ⟨by have := HJ6.out; have := HK2.out; have := HJ20.out; have := HJ38.out; have := HK5.out; have := HK6.out; have := HK7.out; omega⟩, ⟨by (with_reducible repeat (first | apply Kd.R_alloc | apply Kd.R_drewN | apply Kd.R_drew)); exact HO_12.out⟩, ⟨by (with_reducible repeat (first | apply Kd.S_alloc | apply Kd.S_drewN | apply Kd.S_drew)); exact HO_13.out⟩, ⟨by (with_reducible repeat (first | apply Kd.R_alloc | apply Kd.R_drewN | apply Kd.R_drew)); exact HO_17.out⟩, ⟨by (with_reducible repeat (first | refine blk_drewN ?_ _ | refine blk_drew ?_ | refine blk_alloc ?_ _)); exact BK460.out⟩, ⟨by exact zBy HB.out GE460.out⟩⟩
                          ·rw [if_neg c73] at H
                           exact absurd H (by simp)
                         ·rw [if_neg c72] at H
                          exact absurd H (by simp)
                        ·rw [if_neg c71] at H
                         exact absurd H (by simp)
                       ·rw [if_neg c70] at H
                        have c70b0 : decide (x26_7 < (t475.length : Int)) = false := decide_eq_false c70
                        clear c70
                        replace H := Option.bind_eq_some_iff.mp H
                        obtain ⟨⟨t499, t500⟩, A750, H⟩ := H
                        replace H : ((impl_CourseOf.f k7 x17_5).bind fun bt501 => (if t500 = true then (if bt501.2 = true then (if t499 = x25_7 then (if x18_6 = 240 then ((laws_rCourses.f k7 bt501.1 t472).bind fun t505 => (if t505 = true then (laws_FnCourses.j7 k7 l0) else (some false))) else (some false)) else (some false)) else (some false)) else (some false))) = some r := H
                        have A75 := Aside0.mk A750
                        clear A750
                        replace H := Option.bind_eq_some_iff.mp H
                        obtain ⟨⟨t501, t502⟩, A760, H⟩ := H
                        replace H : (if t500 = true then (if t502 = true then (if t499 = x25_7 then (if x18_6 = 240 then ((laws_rCourses.f k7 t501 t472).bind fun t505 => (if t505 = true then (laws_FnCourses.j7 k7 l0) else (some false))) else (some false)) else (some false)) else (some false)) else (some false)) = some r := H
                        have A76 := Aside0.mk A760
                        clear A760
                        by_cases c77 : t500 = true
                        ·subst c77
                         have H1 : (if t502 = true then (if t499 = x25_7 then (if x18_6 = 240 then ((laws_rCourses.f k7 t501 t472).bind fun t505 => (if t505 = true then (laws_FnCourses.j7 k7 l0) else (some false))) else (some false)) else (some false)) else (some false)) = some r := by rw [if_pos rfl] at H; exact H
                         clear H
                         have H := H1
                         clear H1
                         by_cases c78 : t502 = true
                         ·subst c78
                          have H1 : (if t499 = x25_7 then (if x18_6 = 240 then ((laws_rCourses.f k7 t501 t472).bind fun t505 => (if t505 = true then (laws_FnCourses.j7 k7 l0) else (some false))) else (some false)) else (some false)) = some r := by rw [if_pos rfl] at H; exact H
                          clear H
                          have H := H1
                          clear H1
                          by_cases c79 : t499 = x25_7
                          ·rw [if_pos c79] at H
                           have c79b0 : (t499 == x25_7) = true := beq_iff_eq.mpr c79
                           have c79b1 : (t499 != x25_7) = false := bne_eq_false_iff_eq.mpr c79
                           clear c79
                           by_cases c80 : x18_6 = 240
                           ·rw [if_pos c80] at H
                            have c80b0 : (x18_6 == 240) = true := beq_iff_eq.mpr c80
                            have c80b1 : (x18_6 != 240) = false := bne_eq_false_iff_eq.mpr c80
                            clear c80
                            replace H := Option.bind_eq_some_iff.mp H
                            obtain ⟨t505, A810, H⟩ := H
                            replace H : (if t505 = true then (laws_FnCourses.j7 k7 l0) else (some false)) = some r := H
                            have A81 := Aside0.mk A810
                            clear A810
                            by_cases c82 : t505 = true
                            ·subst c82
                             have H1 : (laws_FnCourses.j7 k7 l0) = some r := by rw [if_pos rfl] at H; exact H
                             clear H
                             have H := H1
                             clear H1
                             as_aux_lemma =>
                              have H' := Aside0.mk H
                              clear H
                              obtain ⟨Ao83, co83, eo83⟩ := Kd.S_slice HO_13.out
                              subst eo83
                              go_wp2_with (first | (go_at_call 30; (with_reducible refine (impl_HoursAt.calls k7 _ _ t472 0 t499 true _ ?side1 ?side2 A75.out).mono ?_); (case side1 => repeat (first | exact (Kd.R_reads' HO_12.out).2.2 | (with_reducible refine Kd.C_alloc ?_ _) | (with_reducible refine Kd.C_drewN ?_ _) | (with_reducible refine Kd.C_drew ?_))); (case side2 => exact (Kd.R_reads' HO_12.out).2.1); rintro e w84 ⟨rfl, hb⟩; have n0_ := Aside0.mk (Kd.R_below (zRx HO_12.out) hb); have n1_ := Aside0.mk (Kd.S_below (zSx HO_13.out) hb); have n2_ := Aside0.mk (Kd.R_below (zRx HO_17.out) hb); have n3_ := Aside0.mk (blk_below (g := gb460) (o := .cells #[.int .i64 t457, .int .i64 t458, .int .i64 t459] 41 (0, 0)) (zbx BK460.out) hb); have n4_ := Aside0.mk (below_step (zBy HB.out GE460.out) hb); clear HO_12; clear HO_13; clear HO_17; clear BK460; clear HB; have HO_12 := n0_; have HO_13 := n1_; have HO_17 := n2_; have BK460 := n3_; have HB := n4_; clear n0_ n1_ n2_ n3_ n4_; (try clear hb); (try clear hb2); (try clear hk); (try clear hi); obtain ⟨Ao85, co85, eo85⟩ := Kd.R_slice HO_17.out; subst eo85) | (go_at_call 31; (with_reducible refine (impl_CourseOf.calls k7 _ _ x17_5 t501 true _ ?side1 ?side2 A76.out).mono ?_); (case side1 => repeat (first | exact (Kd.R_reads' HO_17.out).2.2 | (with_reducible refine Kd.C_alloc ?_ _) | (with_reducible refine Kd.C_drewN ?_ _) | (with_reducible refine Kd.C_drew ?_))); (case side2 => exact (Kd.R_reads' HO_17.out).2.1); rintro e w86 ⟨v503, rfl, ho0, hb⟩; have n0_ := Aside0.mk (Kd.R_elder' (zRx HO_12.out) (Kd.R_base ho0) hb); have n1_ := Aside0.mk (Kd.S_below (zSx HO_13.out) hb); have n2_ := Aside0.mk (Kd.R_below (zRx HO_17.out) hb); have n3_ := Aside0.mk (Kd.R_lower (Kd.R_newB (Kd.R_new' ho0 (Kd.R_lt (zRx HO_12.out))) (g := gb460) (o := .cells #[.int .i64 t457, .int .i64 t458, .int .i64 t459] 41 (0, 0)) (zbx BK460.out)) (below_size (zBy HB.out GE460.out))); have n4_ := Aside0.mk (blk_below (g := gb460) (o := .cells #[.int .i64 t457, .int .i64 t458, .int .i64 t459] 41 (0, 0)) (zbx BK460.out) hb); have n5_ := Aside0.mk (below_step (zBy HB.out GE460.out) hb); clear HO_12; clear HO_13; clear HO_17; clear BK460; clear HB; have HO_12 := n0_; have HO_13 := n1_; have HO_17 := n2_; have HO504 := n3_; have BK460 := n4_; have HB := n5_; clear n0_ n1_ n2_ n3_ n4_ n5_; (try clear hb); (try clear hb2); (try clear hk); (try clear hi); (try clear ho0); obtain ⟨Ao87, co87, eo87⟩ := Kd.R_slice HO504.out; subst eo87) | (go_at_call 12; (with_reducible refine (laws_rCourses.calls k7 _ _ t501 _ _ t472 true _ ?side1 ?side2 ?side3 ?side4 A81.out).mono ?_); (case side1 => repeat (first | exact (Kd.R_reads' HO504.out).2.2 | (with_reducible refine Kd.C_alloc ?_ _) | (with_reducible refine Kd.C_drewN ?_ _) | (with_reducible refine Kd.C_drew ?_))); (case side2 => exact (Kd.R_reads' HO504.out).2.1); (case side3 => repeat (first | exact (Kd.R_reads' HO_12.out).2.2 | (with_reducible refine Kd.C_alloc ?_ _) | (with_reducible refine Kd.C_drewN ?_ _) | (with_reducible refine Kd.C_drew ?_))); (case side4 => exact (Kd.R_reads' HO_12.out).2.1); rintro e w' ⟨rfl, ⟨nd, rfl⟩⟩; (try exact zdx)))
                              repeat (go_quiet (first | (go_at_call 30; (with_reducible refine (impl_HoursAt.calls k7 _ _ t472 0 t499 true _ ?side1 ?side2 A75.out).mono ?_); (case side1 => repeat (first | exact (Kd.R_reads' HO_12.out).2.2 | (with_reducible refine Kd.C_alloc ?_ _) | (with_reducible refine Kd.C_drewN ?_ _) | (with_reducible refine Kd.C_drew ?_))); (case side2 => exact (Kd.R_reads' HO_12.out).2.1); rintro e w84 ⟨rfl, hb⟩; have n0_ := Aside0.mk (Kd.R_below (zRx HO_12.out) hb); have n1_ := Aside0.mk (Kd.S_below (zSx HO_13.out) hb); have n2_ := Aside0.mk (Kd.R_below (zRx HO_17.out) hb); have n3_ := Aside0.mk (blk_below (g := gb460) (o := .cells #[.int .i64 t457, .int .i64 t458, .int .i64 t459] 41 (0, 0)) (zbx BK460.out) hb); have n4_ := Aside0.mk (below_step (zBy HB.out GE460.out) hb); clear HO_12; clear HO_13; clear HO_17; clear BK460; clear HB; have HO_12 := n0_; have HO_13 := n1_; have HO_17 := n2_; have BK460 := n3_; have HB := n4_; clear n0_ n1_ n2_ n3_ n4_; (try clear hb); (try clear hb2); (try clear hk); (try clear hi); obtain ⟨Ao85, co85, eo85⟩ := Kd.R_slice HO_17.out; subst eo85) | (go_at_call 31; (with_reducible refine (impl_CourseOf.calls k7 _ _ x17_5 t501 true _ ?side1 ?side2 A76.out).mono ?_); (case side1 => repeat (first | exact (Kd.R_reads' HO_17.out).2.2 | (with_reducible refine Kd.C_alloc ?_ _) | (with_reducible refine Kd.C_drewN ?_ _) | (with_reducible refine Kd.C_drew ?_))); (case side2 => exact (Kd.R_reads' HO_17.out).2.1); rintro e w86 ⟨v503, rfl, ho0, hb⟩; have n0_ := Aside0.mk (Kd.R_elder' (zRx HO_12.out) (Kd.R_base ho0) hb); have n1_ := Aside0.mk (Kd.S_below (zSx HO_13.out) hb); have n2_ := Aside0.mk (Kd.R_below (zRx HO_17.out) hb); have n3_ := Aside0.mk (Kd.R_lower (Kd.R_newB (Kd.R_new' ho0 (Kd.R_lt (zRx HO_12.out))) (g := gb460) (o := .cells #[.int .i64 t457, .int .i64 t458, .int .i64 t459] 41 (0, 0)) (zbx BK460.out)) (below_size (zBy HB.out GE460.out))); have n4_ := Aside0.mk (blk_below (g := gb460) (o := .cells #[.int .i64 t457, .int .i64 t458, .int .i64 t459] 41 (0, 0)) (zbx BK460.out) hb); have n5_ := Aside0.mk (below_step (zBy HB.out GE460.out) hb); clear HO_12; clear HO_13; clear HO_17; clear BK460; clear HB; have HO_12 := n0_; have HO_13 := n1_; have HO_17 := n2_; have HO504 := n3_; have BK460 := n4_; have HB := n5_; clear n0_ n1_ n2_ n3_ n4_ n5_; (try clear hb); (try clear hb2); (try clear hk); (try clear hi); (try clear ho0); obtain ⟨Ao87, co87, eo87⟩ := Kd.R_slice HO504.out; subst eo87) | (go_at_call 12; (with_reducible refine (laws_rCourses.calls k7 _ _ t501 _ _ t472 true _ ?side1 ?side2 ?side3 ?side4 A81.out).mono ?_); (case side1 => repeat (first | exact (Kd.R_reads' HO504.out).2.2 | (with_reducible refine Kd.C_alloc ?_ _) | (with_reducible refine Kd.C_drewN ?_ _) | (with_reducible refine Kd.C_drew ?_))); (case side2 => exact (Kd.R_reads' HO504.out).2.1); (case side3 => repeat (first | exact (Kd.R_reads' HO_12.out).2.2 | (with_reducible refine Kd.C_alloc ?_ _) | (with_reducible refine Kd.C_drewN ?_ _) | (with_reducible refine Kd.C_drew ?_))); (case side4 => exact (Kd.R_reads' HO_12.out).2.1); rintro e w' ⟨rfl, ⟨nd, rfl⟩⟩; (try exact zdx))); try go_wp2_with (first | (go_at_call 30; (with_reducible refine (impl_HoursAt.calls k7 _ _ t472 0 t499 true _ ?side1 ?side2 A75.out).mono ?_); (case side1 => repeat (first | exact (Kd.R_reads' HO_12.out).2.2 | (with_reducible refine Kd.C_alloc ?_ _) | (with_reducible refine Kd.C_drewN ?_ _) | (with_reducible refine Kd.C_drew ?_))); (case side2 => exact (Kd.R_reads' HO_12.out).2.1); rintro e w84 ⟨rfl, hb⟩; have n0_ := Aside0.mk (Kd.R_below (zRx HO_12.out) hb); have n1_ := Aside0.mk (Kd.S_below (zSx HO_13.out) hb); have n2_ := Aside0.mk (Kd.R_below (zRx HO_17.out) hb); have n3_ := Aside0.mk (blk_below (g := gb460) (o := .cells #[.int .i64 t457, .int .i64 t458, .int .i64 t459] 41 (0, 0)) (zbx BK460.out) hb); have n4_ := Aside0.mk (below_step (zBy HB.out GE460.out) hb); clear HO_12; clear HO_13; clear HO_17; clear BK460; clear HB; have HO_12 := n0_; have HO_13 := n1_; have HO_17 := n2_; have BK460 := n3_; have HB := n4_; clear n0_ n1_ n2_ n3_ n4_; (try clear hb); (try clear hb2); (try clear hk); (try clear hi); obtain ⟨Ao85, co85, eo85⟩ := Kd.R_slice HO_17.out; subst eo85) | (go_at_call 31; (with_reducible refine (impl_CourseOf.calls k7 _ _ x17_5 t501 true _ ?side1 ?side2 A76.out).mono ?_); (case side1 => repeat (first | exact (Kd.R_reads' HO_17.out).2.2 | (with_reducible refine Kd.C_alloc ?_ _) | (with_reducible refine Kd.C_drewN ?_ _) | (with_reducible refine Kd.C_drew ?_))); (case side2 => exact (Kd.R_reads' HO_17.out).2.1); rintro e w86 ⟨v503, rfl, ho0, hb⟩; have n0_ := Aside0.mk (Kd.R_elder' (zRx HO_12.out) (Kd.R_base ho0) hb); have n1_ := Aside0.mk (Kd.S_below (zSx HO_13.out) hb); have n2_ := Aside0.mk (Kd.R_below (zRx HO_17.out) hb); have n3_ := Aside0.mk (Kd.R_lower (Kd.R_newB (Kd.R_new' ho0 (Kd.R_lt (zRx HO_12.out))) (g := gb460) (o := .cells #[.int .i64 t457, .int .i64 t458, .int .i64 t459] 41 (0, 0)) (zbx BK460.out)) (below_size (zBy HB.out GE460.out))); have n4_ := Aside0.mk (blk_below (g := gb460) (o := .cells #[.int .i64 t457, .int .i64 t458, .int .i64 t459] 41 (0, 0)) (zbx BK460.out) hb); have n5_ := Aside0.mk (below_step (zBy HB.out GE460.out) hb); clear HO_12; clear HO_13; clear HO_17; clear BK460; clear HB; have HO_12 := n0_; have HO_13 := n1_; have HO_17 := n2_; have HO504 := n3_; have BK460 := n4_; have HB := n5_; clear n0_ n1_ n2_ n3_ n4_ n5_; (try clear hb); (try clear hb2); (try clear hk); (try clear hi); (try clear ho0); obtain ⟨Ao87, co87, eo87⟩ := Kd.R_slice HO504.out; subst eo87) | (go_at_call 12; (with_reducible refine (laws_rCourses.calls k7 _ _ t501 _ _ t472 true _ ?side1 ?side2 ?side3 ?side4 A81.out).mono ?_); (case side1 => repeat (first | exact (Kd.R_reads' HO504.out).2.2 | (with_reducible refine Kd.C_alloc ?_ _) | (with_reducible refine Kd.C_drewN ?_ _) | (with_reducible refine Kd.C_drew ?_))); (case side2 => exact (Kd.R_reads' HO504.out).2.1); (case side3 => repeat (first | exact (Kd.R_reads' HO_12.out).2.2 | (with_reducible refine Kd.C_alloc ?_ _) | (with_reducible refine Kd.C_drewN ?_ _) | (with_reducible refine Kd.C_drew ?_))); (case side4 => exact (Kd.R_reads' HO_12.out).2.1); rintro e w' ⟨rfl, ⟨nd, rfl⟩⟩; (try exact zdx))))
                              go_meet
                              case rel => exact ⟨_, H', ⟨by have := HJ6.out; have := HK2.out; have := HJ20.out; have := HJ38.out; have := HK5.out; have := HK6.out; have := HK7.out; first | omega | exact Nat.le_refl _⟩, ⟨by (with_reducible repeat (first | refine blk_drewN ?_ _ | refine blk_drew ?_ | refine blk_alloc ?_ _)); exact BK460.out⟩, ⟨by exact zBy HB.out GE460.out⟩⟩
                            ·replace c82 := Bool.eq_false_iff.mpr c82
                             subst c82
                             have H1 : (some false) = some r := by rw [if_neg (show ¬ (false = true) by decide)] at H; exact H
                             clear H
                             have H := H1
                             clear H1
                             as_aux_lemma =>
                              exact absurd (Option.some.inj H) (by rw [hr_]; decide)
                           ·rw [if_neg c80] at H
                            have c80b0 : (x18_6 == 240) = false := beq_eq_false_iff_ne.mpr c80
                            have c80b1 : (x18_6 != 240) = true := bne_iff_ne.mpr c80
                            as_aux_lemma =>
                             exact absurd (Option.some.inj H) (by rw [hr_]; decide)
                          ·rw [if_neg c79] at H
                           have c79b0 : (t499 == x25_7) = false := beq_eq_false_iff_ne.mpr c79
                           have c79b1 : (t499 != x25_7) = true := bne_iff_ne.mpr c79
                           as_aux_lemma =>
                            exact absurd (Option.some.inj H) (by rw [hr_]; decide)
                         ·replace c78 := Bool.eq_false_iff.mpr c78
                          subst c78
                          have H1 : (some false) = some r := by rw [if_neg (show ¬ (false = true) by decide)] at H; exact H
                          clear H
                          have H := H1
                          clear H1
                          as_aux_lemma =>
                           exact absurd (Option.some.inj H) (by rw [hr_]; decide)
                        ·replace c77 := Bool.eq_false_iff.mpr c77
                         subst c77
                         have H1 : (some false) = some r := by rw [if_neg (show ¬ (false = true) by decide)] at H; exact H
                         clear H
                         have H := H1
                         clear H1
                         as_aux_lemma =>
                          exact absurd (Option.some.inj H) (by rw [hr_]; decide)
              ·replace c55 := Bool.eq_false_iff.mpr c55
               subst c55
               have H1 : (laws_FnCourses.j7 kj38 l0) = some r := by rw [if_neg (show ¬ (false = true) by decide)] at H; exact H
               clear H
               have H := H1
               clear H1
               as_aux_lemma =>
                have H' := Aside0.mk H
                clear H
                go_wp2
                repeat (go_quiet (fail); try go_wp2)
                go_meet
                case rel => exact ⟨_, H', ⟨by have := HJ6.out; have := HK2.out; have := HJ20.out; have := HJ38.out; first | omega | exact Nat.le_refl _⟩, ⟨by (with_reducible repeat (first | refine blk_drewN ?_ _ | refine blk_drew ?_ | refine blk_alloc ?_ _)); exact BK460.out⟩, ⟨by exact zBy HB.out GE460.out⟩⟩
             case rest =>
              as_aux_lemma =>
              clear HC54
              try clear c1
              try clear c2
              try clear p2
              try clear c3
              try clear c4
              try clear p4
              try clear q4
              try clear hx4
              try clear qi4
              try clear c5
              try clear c6
              try clear p6
              try clear c7
              try clear c8
              try clear c15
              try clear c15b0
              try clear c15b1
              try clear c15b2
              try clear c19
              try clear c22
              try clear c24
              try clear c26
              try clear c27
              try clear c27b0
              try clear c27b1
              try clear c44
              try clear c44b0
              try clear c44b1
              try clear c44b2
              try clear c46
              try clear c49
              try clear p49
              try clear q49
              try clear hx49
              try clear qi49
              try clear c53
              try clear c55
              try clear c58
              try clear c58b0
              try clear c60
              try clear c61
              try clear p64
              try clear c65
              try clear c65b0
              try clear c67
              try clear c70
              try clear c70b0
              try clear c71
              try clear c71b0
              try clear c72
              try clear c72b0
              try clear c72b1
              try clear c73
              try clear c73b0
              try clear c73b1
              try clear c77
              try clear c78
              try clear c79
              try clear c79b0
              try clear c79b1
              try clear c80
              try clear c80b0
              try clear c80b1
              try clear c82
              try clear hcz10_0
              try clear hcz10_1
              try clear hcz10_2
              try clear hcz13_0
              try clear hcz13_1
              try clear hcz13_2
              try clear hcz20_0
              try clear hcz20_1
              try clear hcz20_2
              try clear hcz23_0
              try clear hcz23_1
              try clear hcz23_2
              try clear hcz30_0
              try clear hcz30_1
              try clear hcz30_2
              try clear hcz33_0
              try clear hcz33_1
              try clear hcz33_2
              try clear hfz10_0
              try clear hfz10_1
              try clear hfz10_2
              try clear hfz13_0
              try clear hfz13_1
              try clear hfz13_2
              try clear hfz20_0
              try clear hfz20_1
              try clear hfz20_2
              try clear hfz23_0
              try clear hfz23_1
              try clear hfz23_2
              try clear hfz30_0
              try clear hfz30_1
              try clear hfz30_2
              try clear hfz33_0
              try clear hfz33_1
              try clear hfz33_2
              try clear hx495_0
              try clear hx496_0
              try clear hx497_0
              try clear hx498_0
              try clear p2
              try clear p495
              try clear p496
              try clear p497
              try clear p498
              try clear p6
              try clear p64
              try clear q495
              try clear q496
              try clear q497
              try clear q498
              obtain ⟨kq, HA, HJ53, BK460, HB⟩ := hcut
              cases kq with
              | zero => exact absurd HA.out (by simp [laws_FnCourses.j7])
              | succ kj53 =>
               have H := HA.out
               clear HA
               simp only [laws_FnCourses.j7] at H
               replace H := Option.bind_eq_some_iff.mp H
               obtain ⟨t506, A1090, H⟩ := H
               replace H : ((impl_CourseOf.f kj53 t506).bind fun bt509 => ((spec_CourseOf.f kj53 t506).bind fun bt513 => (if (bt509.2 == bt513.2) = true then ((laws_rCourses.f kj53 bt509.1 bt513.1).bind fun t517 => (some t517)) else (some false)))) = some r := H
               have A109 := Aside0.mk A1090
               clear A1090
               replace H := Option.bind_eq_some_iff.mp H
               obtain ⟨⟨t509, t510⟩, A1100, H⟩ := H
               replace H : ((spec_CourseOf.f kj53 t506).bind fun bt513 => (if (t510 == bt513.2) = true then ((laws_rCourses.f kj53 t509 bt513.1).bind fun t517 => (some t517)) else (some false))) = some r := H
               have A110 := Aside0.mk A1100
               clear A1100
               replace H := Option.bind_eq_some_iff.mp H
               obtain ⟨⟨t513, t514⟩, A1110, H⟩ := H
               replace H : (if (t510 == t514) = true then ((laws_rCourses.f kj53 t509 t513).bind fun t517 => (some t517)) else (some false)) = some r := H
               have A111 := Aside0.mk A1110
               clear A1110
               by_cases c112 : (t510 == t514) = true
               ·rw [if_pos c112] at H
                have c112b0 : (t510 == t514) = true := c112
                (try (have c112b1 : decide (t510 = t514) = true := by simpa using c112))
                (try (have c112b2 : (t510 == t514) = true := by simpa using c112))
                clear c112
                replace H := Option.bind_eq_some_iff.mp H
                obtain ⟨t517, A1130, H⟩ := H
                replace H : (some t517) = some r := H
                have A113 := Aside0.mk A1130
                clear A1130
                as_aux_lemma =>
                 obtain rfl := Option.some.inj H
                 go_wp2_with (first | (go_at_call 32; (with_reducible refine (spec_DrawCourseOf.calls kj53 _ _ l0 t506 _ ?side1 ?side2 A109.out).mono ?_); (case side1 => repeat (first | exact (Kd.C_below HR0.out HB.out) | (with_reducible refine Kd.C_alloc ?_ _) | (with_reducible refine Kd.C_drewN ?_ _) | (with_reducible refine Kd.C_drew ?_))); (case side2 => exact HC0.out); rintro e w114 ⟨v507, rfl, ho0, hb⟩; have n0_ := Aside0.mk (Kd.R_lower ho0 (below_size (zBy HB.out GE460.out))); have n1_ := Aside0.mk (blk_below (g := gb460) (o := .cells #[.int .i64 t457, .int .i64 t458, .int .i64 t459] 41 (0, 0)) (zbx BK460.out) hb); have n2_ := Aside0.mk (below_step (zBy HB.out GE460.out) hb); clear BK460; clear HB; have HO508 := n0_; have BK460 := n1_; have HB := n2_; clear n0_ n1_ n2_; (try clear hb); (try clear hb2); (try clear hk); (try clear hi); (try clear ho0); obtain ⟨Ao115, co115, eo115⟩ := Kd.R_slice HO508.out; subst eo115) | (go_at_call 31; (with_reducible refine (impl_CourseOf.calls kj53 _ _ t506 t509 t510 _ ?side1 ?side2 A110.out).mono ?_); (case side1 => repeat (first | exact (Kd.R_reads' HO508.out).2.2 | (with_reducible refine Kd.C_alloc ?_ _) | (with_reducible refine Kd.C_drewN ?_ _) | (with_reducible refine Kd.C_drew ?_))); (case side2 => exact (Kd.R_reads' HO508.out).2.1); rintro e w116 ⟨v511, rfl, ho0, hb⟩; have n0_ := Aside0.mk (Kd.R_below (zRx HO508.out) hb); have n1_ := Aside0.mk (Kd.R_lower (Kd.R_newB ho0 (g := gb460) (o := .cells #[.int .i64 t457, .int .i64 t458, .int .i64 t459] 41 (0, 0)) (zbx BK460.out)) (below_size (zBy HB.out GE460.out))); have n2_ := Aside0.mk (blk_below (g := gb460) (o := .cells #[.int .i64 t457, .int .i64 t458, .int .i64 t459] 41 (0, 0)) (zbx BK460.out) hb); have n3_ := Aside0.mk (below_step (zBy HB.out GE460.out) hb); clear HO508; clear BK460; clear HB; have HO508 := n0_; have HO512 := n1_; have BK460 := n2_; have HB := n3_; clear n0_ n1_ n2_ n3_; (try clear hb); (try clear hb2); (try clear hk); (try clear hi); (try clear ho0)) | (go_at_call 33; (with_reducible refine (spec_CourseOf.calls kj53 _ _ t506 t513 t514 _ ?side1 ?side2 A111.out).mono ?_); (case side1 => repeat (first | exact (Kd.R_reads' HO508.out).2.2 | (with_reducible refine Kd.C_alloc ?_ _) | (with_reducible refine Kd.C_drewN ?_ _) | (with_reducible refine Kd.C_drew ?_))); (case side2 => exact (Kd.R_reads' HO508.out).2.1); rintro e w117 ⟨v515, rfl, ho0, hb⟩; have n0_ := Aside0.mk (Kd.R_below (zRx HO508.out) hb); have n1_ := Aside0.mk (Kd.R_elder' (zRx HO512.out) (Kd.R_base ho0) hb); have n2_ := Aside0.mk (Kd.R_lower (Kd.R_newB (Kd.R_new' ho0 (Kd.R_lt (zRx HO512.out))) (g := gb460) (o := .cells #[.int .i64 t457, .int .i64 t458, .int .i64 t459] 41 (0, 0)) (zbx BK460.out)) (below_size (zBy HB.out GE460.out))); have n3_ := Aside0.mk (blk_below (g := gb460) (o := .cells #[.int .i64 t457, .int .i64 t458, .int .i64 t459] 41 (0, 0)) (zbx BK460.out) hb); have n4_ := Aside0.mk (below_step (zBy HB.out GE460.out) hb); clear HO508; clear HO512; clear BK460; clear HB; have HO508 := n0_; have HO512 := n1_; have HO516 := n2_; have BK460 := n3_; have HB := n4_; clear n0_ n1_ n2_ n3_ n4_; (try clear hb); (try clear hb2); (try clear hk); (try clear hi); (try clear ho0); obtain ⟨Ao118, co118, eo118⟩ := Kd.R_slice HO512.out; subst eo118; obtain ⟨Ao119, co119, eo119⟩ := Kd.R_slice HO516.out; subst eo119) | (go_at_call 12; (with_reducible refine (laws_rCourses.calls kj53 _ _ t509 _ _ t513 t517 _ ?side1 ?side2 ?side3 ?side4 A113.out).mono ?_); (case side1 => repeat (first | exact (Kd.R_reads' HO512.out).2.2 | (with_reducible refine Kd.C_alloc ?_ _) | (with_reducible refine Kd.C_drewN ?_ _) | (with_reducible refine Kd.C_drew ?_))); (case side2 => exact (Kd.R_reads' HO512.out).2.1); (case side3 => repeat (first | exact (Kd.R_reads' HO516.out).2.2 | (with_reducible refine Kd.C_alloc ?_ _) | (with_reducible refine Kd.C_drewN ?_ _) | (with_reducible refine Kd.C_drew ?_))); (case side4 => exact (Kd.R_reads' HO516.out).2.1); rintro e w' ⟨rfl, ⟨nd, rfl⟩⟩; (try exact zdx)))
                 repeat (go_quiet (first | (go_at_call 32; (with_reducible refine (spec_DrawCourseOf.calls kj53 _ _ l0 t506 _ ?side1 ?side2 A109.out).mono ?_); (case side1 => repeat (first | exact (Kd.C_below HR0.out HB.out) | (with_reducible refine Kd.C_alloc ?_ _) | (with_reducible refine Kd.C_drewN ?_ _) | (with_reducible refine Kd.C_drew ?_))); (case side2 => exact HC0.out); rintro e w114 ⟨v507, rfl, ho0, hb⟩; have n0_ := Aside0.mk (Kd.R_lower ho0 (below_size (zBy HB.out GE460.out))); have n1_ := Aside0.mk (blk_below (g := gb460) (o := .cells #[.int .i64 t457, .int .i64 t458, .int .i64 t459] 41 (0, 0)) (zbx BK460.out) hb); have n2_ := Aside0.mk (below_step (zBy HB.out GE460.out) hb); clear BK460; clear HB; have HO508 := n0_; have BK460 := n1_; have HB := n2_; clear n0_ n1_ n2_; (try clear hb); (try clear hb2); (try clear hk); (try clear hi); (try clear ho0); obtain ⟨Ao115, co115, eo115⟩ := Kd.R_slice HO508.out; subst eo115) | (go_at_call 31; (with_reducible refine (impl_CourseOf.calls kj53 _ _ t506 t509 t510 _ ?side1 ?side2 A110.out).mono ?_); (case side1 => repeat (first | exact (Kd.R_reads' HO508.out).2.2 | (with_reducible refine Kd.C_alloc ?_ _) | (with_reducible refine Kd.C_drewN ?_ _) | (with_reducible refine Kd.C_drew ?_))); (case side2 => exact (Kd.R_reads' HO508.out).2.1); rintro e w116 ⟨v511, rfl, ho0, hb⟩; have n0_ := Aside0.mk (Kd.R_below (zRx HO508.out) hb); have n1_ := Aside0.mk (Kd.R_lower (Kd.R_newB ho0 (g := gb460) (o := .cells #[.int .i64 t457, .int .i64 t458, .int .i64 t459] 41 (0, 0)) (zbx BK460.out)) (below_size (zBy HB.out GE460.out))); have n2_ := Aside0.mk (blk_below (g := gb460) (o := .cells #[.int .i64 t457, .int .i64 t458, .int .i64 t459] 41 (0, 0)) (zbx BK460.out) hb); have n3_ := Aside0.mk (below_step (zBy HB.out GE460.out) hb); clear HO508; clear BK460; clear HB; have HO508 := n0_; have HO512 := n1_; have BK460 := n2_; have HB := n3_; clear n0_ n1_ n2_ n3_; (try clear hb); (try clear hb2); (try clear hk); (try clear hi); (try clear ho0)) | (go_at_call 33; (with_reducible refine (spec_CourseOf.calls kj53 _ _ t506 t513 t514 _ ?side1 ?side2 A111.out).mono ?_); (case side1 => repeat (first | exact (Kd.R_reads' HO508.out).2.2 | (with_reducible refine Kd.C_alloc ?_ _) | (with_reducible refine Kd.C_drewN ?_ _) | (with_reducible refine Kd.C_drew ?_))); (case side2 => exact (Kd.R_reads' HO508.out).2.1); rintro e w117 ⟨v515, rfl, ho0, hb⟩; have n0_ := Aside0.mk (Kd.R_below (zRx HO508.out) hb); have n1_ := Aside0.mk (Kd.R_elder' (zRx HO512.out) (Kd.R_base ho0) hb); have n2_ := Aside0.mk (Kd.R_lower (Kd.R_newB (Kd.R_new' ho0 (Kd.R_lt (zRx HO512.out))) (g := gb460) (o := .cells #[.int .i64 t457, .int .i64 t458, .int .i64 t459] 41 (0, 0)) (zbx BK460.out)) (below_size (zBy HB.out GE460.out))); have n3_ := Aside0.mk (blk_below (g := gb460) (o := .cells #[.int .i64 t457, .int .i64 t458, .int .i64 t459] 41 (0, 0)) (zbx BK460.out) hb); have n4_ := Aside0.mk (below_step (zBy HB.out GE460.out) hb); clear HO508; clear HO512; clear BK460; clear HB; have HO508 := n0_; have HO512 := n1_; have HO516 := n2_; have BK460 := n3_; have HB := n4_; clear n0_ n1_ n2_ n3_ n4_; (try clear hb); (try clear hb2); (try clear hk); (try clear hi); (try clear ho0); obtain ⟨Ao118, co118, eo118⟩ := Kd.R_slice HO512.out; subst eo118; obtain ⟨Ao119, co119, eo119⟩ := Kd.R_slice HO516.out; subst eo119) | (go_at_call 12; (with_reducible refine (laws_rCourses.calls kj53 _ _ t509 _ _ t513 t517 _ ?side1 ?side2 ?side3 ?side4 A113.out).mono ?_); (case side1 => repeat (first | exact (Kd.R_reads' HO512.out).2.2 | (with_reducible refine Kd.C_alloc ?_ _) | (with_reducible refine Kd.C_drewN ?_ _) | (with_reducible refine Kd.C_drew ?_))); (case side2 => exact (Kd.R_reads' HO512.out).2.1); (case side3 => repeat (first | exact (Kd.R_reads' HO516.out).2.2 | (with_reducible refine Kd.C_alloc ?_ _) | (with_reducible refine Kd.C_drewN ?_ _) | (with_reducible refine Kd.C_drew ?_))); (case side4 => exact (Kd.R_reads' HO516.out).2.1); rintro e w' ⟨rfl, ⟨nd, rfl⟩⟩; (try exact zdx))); try go_wp2_with (first | (go_at_call 32; (with_reducible refine (spec_DrawCourseOf.calls kj53 _ _ l0 t506 _ ?side1 ?side2 A109.out).mono ?_); (case side1 => repeat (first | exact (Kd.C_below HR0.out HB.out) | (with_reducible refine Kd.C_alloc ?_ _) | (with_reducible refine Kd.C_drewN ?_ _) | (with_reducible refine Kd.C_drew ?_))); (case side2 => exact HC0.out); rintro e w114 ⟨v507, rfl, ho0, hb⟩; have n0_ := Aside0.mk (Kd.R_lower ho0 (below_size (zBy HB.out GE460.out))); have n1_ := Aside0.mk (blk_below (g := gb460) (o := .cells #[.int .i64 t457, .int .i64 t458, .int .i64 t459] 41 (0, 0)) (zbx BK460.out) hb); have n2_ := Aside0.mk (below_step (zBy HB.out GE460.out) hb); clear BK460; clear HB; have HO508 := n0_; have BK460 := n1_; have HB := n2_; clear n0_ n1_ n2_; (try clear hb); (try clear hb2); (try clear hk); (try clear hi); (try clear ho0); obtain ⟨Ao115, co115, eo115⟩ := Kd.R_slice HO508.out; subst eo115) | (go_at_call 31; (with_reducible refine (impl_CourseOf.calls kj53 _ _ t506 t509 t510 _ ?side1 ?side2 A110.out).mono ?_); (case side1 => repeat (first | exact (Kd.R_reads' HO508.out).2.2 | (with_reducible refine Kd.C_alloc ?_ _) | (with_reducible refine Kd.C_drewN ?_ _) | (with_reducible refine Kd.C_drew ?_))); (case side2 => exact (Kd.R_reads' HO508.out).2.1); rintro e w116 ⟨v511, rfl, ho0, hb⟩; have n0_ := Aside0.mk (Kd.R_below (zRx HO508.out) hb); have n1_ := Aside0.mk (Kd.R_lower (Kd.R_newB ho0 (g := gb460) (o := .cells #[.int .i64 t457, .int .i64 t458, .int .i64 t459] 41 (0, 0)) (zbx BK460.out)) (below_size (zBy HB.out GE460.out))); have n2_ := Aside0.mk (blk_below (g := gb460) (o := .cells #[.int .i64 t457, .int .i64 t458, .int .i64 t459] 41 (0, 0)) (zbx BK460.out) hb); have n3_ := Aside0.mk (below_step (zBy HB.out GE460.out) hb); clear HO508; clear BK460; clear HB; have HO508 := n0_; have HO512 := n1_; have BK460 := n2_; have HB := n3_; clear n0_ n1_ n2_ n3_; (try clear hb); (try clear hb2); (try clear hk); (try clear hi); (try clear ho0)) | (go_at_call 33; (with_reducible refine (spec_CourseOf.calls kj53 _ _ t506 t513 t514 _ ?side1 ?side2 A111.out).mono ?_); (case side1 => repeat (first | exact (Kd.R_reads' HO508.out).2.2 | (with_reducible refine Kd.C_alloc ?_ _) | (with_reducible refine Kd.C_drewN ?_ _) | (with_reducible refine Kd.C_drew ?_))); (case side2 => exact (Kd.R_reads' HO508.out).2.1); rintro e w117 ⟨v515, rfl, ho0, hb⟩; have n0_ := Aside0.mk (Kd.R_below (zRx HO508.out) hb); have n1_ := Aside0.mk (Kd.R_elder' (zRx HO512.out) (Kd.R_base ho0) hb); have n2_ := Aside0.mk (Kd.R_lower (Kd.R_newB (Kd.R_new' ho0 (Kd.R_lt (zRx HO512.out))) (g := gb460) (o := .cells #[.int .i64 t457, .int .i64 t458, .int .i64 t459] 41 (0, 0)) (zbx BK460.out)) (below_size (zBy HB.out GE460.out))); have n3_ := Aside0.mk (blk_below (g := gb460) (o := .cells #[.int .i64 t457, .int .i64 t458, .int .i64 t459] 41 (0, 0)) (zbx BK460.out) hb); have n4_ := Aside0.mk (below_step (zBy HB.out GE460.out) hb); clear HO508; clear HO512; clear BK460; clear HB; have HO508 := n0_; have HO512 := n1_; have HO516 := n2_; have BK460 := n3_; have HB := n4_; clear n0_ n1_ n2_ n3_ n4_; (try clear hb); (try clear hb2); (try clear hk); (try clear hi); (try clear ho0); obtain ⟨Ao118, co118, eo118⟩ := Kd.R_slice HO512.out; subst eo118; obtain ⟨Ao119, co119, eo119⟩ := Kd.R_slice HO516.out; subst eo119) | (go_at_call 12; (with_reducible refine (laws_rCourses.calls kj53 _ _ t509 _ _ t513 t517 _ ?side1 ?side2 ?side3 ?side4 A113.out).mono ?_); (case side1 => repeat (first | exact (Kd.R_reads' HO512.out).2.2 | (with_reducible refine Kd.C_alloc ?_ _) | (with_reducible refine Kd.C_drewN ?_ _) | (with_reducible refine Kd.C_drew ?_))); (case side2 => exact (Kd.R_reads' HO512.out).2.1); (case side3 => repeat (first | exact (Kd.R_reads' HO516.out).2.2 | (with_reducible refine Kd.C_alloc ?_ _) | (with_reducible refine Kd.C_drewN ?_ _) | (with_reducible refine Kd.C_drew ?_))); (case side4 => exact (Kd.R_reads' HO516.out).2.1); rintro e w' ⟨rfl, ⟨nd, rfl⟩⟩; (try exact zdx))))
                 go_ret
                 exact ⟨by first | rfl | (simp [errW_none, errW_some] <;> rfl) | (simp [*, errW_none, errW_some] <;> rfl), by exact zBy HB.out GE460.out⟩
               ·rw [if_neg c112] at H
                have c112b0 : (t510 == t514) = false := by simpa using c112
                (try (have c112b1 : decide (t510 = t514) = false := by simpa using c112))
                (try (have c112b2 : (t510 == t514) = false := by simpa using c112))
                (try (have c112b3 : ¬ (t510 = t514) := by simpa using c112))
                clear c112
                as_aux_lemma =>
                 exact absurd (Option.some.inj H) (by rw [hr_]; decide)

/-- THE ONE PURE STATEMENT of laws_FnCourses: yours. -/
def laws_FnCourses.Pure : Prop := ∀ (l0 : List Int), l0.length ≤ maxLen → l0.length * 1 ≤ 140737488351232 → (∀ x ∈ l0, (Lit.int .u8 x).wf = true) → ∃ k, laws_FnCourses.f k l0 = some true
theorem laws_FnCourses.walk (P : laws_FnCourses.Pure) (a0 : Option Addr) (len0 cap0 : Nat) (z0 : List Int) (w : World) (w0 : (a0 = none ∧ len0 = 0 ∧ cap0 = 0 ∧ z0 = []) ∨ ∃ x, a0 = some x ∧ len0 ≤ cap0 ∧ cap0 ≤ maxLen ∧ z0.length = cap0 ∧ (∀ i, i < z0.length → w.cell? (x.add i) = some (.int .u8 (z0.getD i 0))) ∧ ∀ n ∈ z0, (Lit.int .u8 n).wf = true) (y0 : len0 * 1 ≤ 140737488351232) :
 Calls Try.prog 4 #[.slice a0 len0 cap0] w fun e w' => e = .returned (.bool true) ∧ Below w.heap.size w w' := by
 obtain ⟨l0, rfl, hr0, hm0, hw0, hc0⟩ := ReadsInt.ofRowC w0
 obtain ⟨k, h⟩ := P l0 hm0 y0 hw0
 refine (laws_FnCourses.calls k _ _ l0 true w (Kd.C_of_reads (d := (0 : Int)) (h1 := fun _ => rfl) hr0) hc0 h rfl).mono ?_
 rintro e w' ⟨rfl, hd⟩
 exact ⟨rfl, hd⟩

end Go.Proofs.Ytkegkbpadhddkaa.XFnCourses
