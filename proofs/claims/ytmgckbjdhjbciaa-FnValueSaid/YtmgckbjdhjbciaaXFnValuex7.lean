-- written by wip/tools/xprint.py (a program of this project) out of the translation
import Derived.Test.YtmgckbjdhjbciaaXFnValuex0
import Derived.Test.YtmgckbjdhjbciaaXFnValuex1
import Derived.Test.YtmgckbjdhjbciaaXFnValuex2
import Derived.Test.YtmgckbjdhjbciaaXFnValuex3
import Derived.Test.YtmgckbjdhjbciaaXFnValuex4
import Derived.Test.YtmgckbjdhjbciaaXFnValuex5
import Derived.Test.YtmgckbjdhjbciaaXFnValuex6
namespace Go.Proofs.Ytmgckbjdhjbciaa.XFnValue
open Go.RowKit Go.Proofs.YtmgckbjdhjbciaaW.PrintWords Go.Proofs.YtmgckbjdhjbciaaW.PrintLast Go.Proofs.YtmgckbjdhjbciaaW.PrintMore
attribute [local go_sem] max2_int min2_int max_two min_two max_three min_three max_four min_four   -- for this text's walks alone
set_option linter.unusedVariables false
set_option linter.unusedSimpArgs false

/-! ### laws_FnValue: function 4 -/
mutual
def laws_FnValue.j0 : Nat → List Int → List Int → Int → Bool → Int → Bool → Int → Bool → Int → Int → Option (Bool)
  | 0, _, _, _, _, _, _, _, _, _, _ => none
  | k + 1, x0, x4, x5, x6, x7, x8, x10, x81, x327000, x327001 => if x81 = true then (some false) else ((spec_BestWithout.f k x327000 x327001 x4).bind fun bt336 => (if x7 = bt336.1 then (if (x8 != bt336.2.1) = true then (laws_FnValue.j1 k x0 x4 x5 x6 x7 x10 true x327000 x327001) else (if x6 = true then (if x5 < x10 then (laws_FnValue.j1 k x0 x4 x5 x6 x7 x10 true x327000 x327001) else (laws_FnValue.j1 k x0 x4 x5 x6 x7 x10 (decide (x7 < x10)) x327000 x327001)) else (laws_FnValue.j1 k x0 x4 x5 x6 x7 x10 false x327000 x327001))) else (laws_FnValue.j1 k x0 x4 x5 x6 x7 x10 true x327000 x327001)))
def laws_FnValue.j1 : Nat → List Int → List Int → Int → Bool → Int → Int → Bool → Int → Int → Option (Bool)
  | 0, _, _, _, _, _, _, _, _, _ => none
  | k + 1, x0, x4, x5, x6, x7, x10, x109, x327000, x327001 => if x109 = true then (some false) else ((impl_ValueOf.f k x327000 x327001 x4).bind fun bt339 => ((spec_ValueOf.f k x327000 x327001 x4).bind fun bt342 => (if bt339.1 = bt342.1 then (if bt339.2.1 = bt342.2.1 then (laws_FnValue.j2 k x0 x4 x5 x6 x7 x10 bt339.1 bt339.2.1 bt339.2.2 (bt339.2.2 != bt342.2.2) x327000 x327001) else (laws_FnValue.j2 k x0 x4 x5 x6 x7 x10 bt339.1 bt339.2.1 bt339.2.2 true x327000 x327001)) else (laws_FnValue.j2 k x0 x4 x5 x6 x7 x10 bt339.1 bt339.2.1 bt339.2.2 true x327000 x327001))))
def laws_FnValue.j2 : Nat → List Int → List Int → Int → Bool → Int → Int → Int → Int → Bool → Bool → Int → Int → Option (Bool)
  | 0, _, _, _, _, _, _, _, _, _, _, _, _ => none
  | k + 1, x0, x4, x5, x6, x7, x10, x17, x18, x19, x136, x327000, x327001 => if x136 = true then (some false) else ((impl_IsWorthless.f k x327000 x327001 x4).bind fun bt345 => (if (bt345.2 != x6) = true then (laws_FnValue.j3 k x0 true) else (if x6 = true then (if (bt345.1 != (decide (x5 ≥ x7))) = true then (laws_FnValue.j3 k x0 true) else (if x19 = true then (if x17 > x18 then (laws_FnValue.j3 k x0 true) else (if (bt345.1 != (decide (x17 ≤ 0))) = true then (laws_FnValue.j3 k x0 true) else (laws_FnValue.j3 k x0 (x19 != (decide (x7 > x10)))))) else (laws_FnValue.j3 k x0 (x19 != (decide (x7 > x10)))))) else (if x19 = true then (if x17 > x18 then (laws_FnValue.j3 k x0 true) else (if (bt345.1 != (decide (x17 ≤ 0))) = true then (laws_FnValue.j3 k x0 true) else (laws_FnValue.j3 k x0 false))) else (laws_FnValue.j3 k x0 false)))))
def laws_FnValue.j3 : Nat → List Int → Bool → Option (Bool)
  | 0, _, _ => none
  | k + 1, x0, x179 => if x179 = true then (some false) else ((spec_DrawShouldProtect.f x0).bind fun bt347 => ((impl_ShouldProtect.f bt347.1 bt347.2.1 bt347.2.2.1 bt347.2.2.2).bind fun bt352 => ((spec_ShouldProtect.f bt347.1 bt347.2.1 bt347.2.2.1 bt347.2.2.2).bind fun bt354 => (if (bt352.1 == bt354.1) = true then (some (bt352.2 == bt354.2)) else (some false)))))
end
def laws_FnValue.f (k : Nat) (l0 : List Int) : Option (Bool) := (laws_rBig.f l0).bind fun t320 => (if t320 = true then (some true) else ((spec_DrawValueOf.f k l0).bind fun bt321 => ((impl_ExpenseOf.f k bt321.1 bt321.2.1 bt321.2.2).bind fun bt327 => ((impl_BestWithout.f k bt321.1 bt321.2.1 bt321.2.2).bind fun bt329 => ((impl_PerfectExpense.f k bt321.1 bt321.2.1 bt321.2.2).bind fun bt332 => ((spec_ExpenseOf.f k bt321.1 bt321.2.1 bt321.2.2).bind fun bt334 => (if bt327.1 = bt334.1 then (if (bt327.2 != bt334.2) = true then (laws_FnValue.j0 k l0 bt321.2.2 bt327.1 bt327.2 bt329.1 bt329.2.1 bt332.1 true bt321.1 bt321.2.1) else (if (bt329.2.2 != bt327.2) = true then (laws_FnValue.j0 k l0 bt321.2.2 bt327.1 bt327.2 bt329.1 bt329.2.1 bt332.1 true bt321.1 bt321.2.1) else (laws_FnValue.j0 k l0 bt321.2.2 bt327.1 bt327.2 bt329.1 bt329.2.1 bt332.1 (bt332.2 != bt327.2) bt321.1 bt321.2.1))) else (laws_FnValue.j0 k l0 bt321.2.2 bt327.1 bt327.2 bt329.1 bt329.2.1 bt332.1 true bt321.1 bt321.2.1))))))))
theorem laws_FnValue.mono_l : ∀ k, (∀ y0 y1 y2 y3 y4 y5 y6 y7 y8 y9, LeO (laws_FnValue.j0 k y0 y1 y2 y3 y4 y5 y6 y7 y8 y9) (laws_FnValue.j0 (k + 1) y0 y1 y2 y3 y4 y5 y6 y7 y8 y9)) ∧ (∀ y0 y1 y2 y3 y4 y5 y6 y7 y8, LeO (laws_FnValue.j1 k y0 y1 y2 y3 y4 y5 y6 y7 y8) (laws_FnValue.j1 (k + 1) y0 y1 y2 y3 y4 y5 y6 y7 y8)) ∧ (∀ y0 y1 y2 y3 y4 y5 y6 y7 y8 y9 y10 y11, LeO (laws_FnValue.j2 k y0 y1 y2 y3 y4 y5 y6 y7 y8 y9 y10 y11) (laws_FnValue.j2 (k + 1) y0 y1 y2 y3 y4 y5 y6 y7 y8 y9 y10 y11)) ∧ (∀ y0 y1, LeO (laws_FnValue.j3 k y0 y1) (laws_FnValue.j3 (k + 1) y0 y1))
  | 0 => ⟨fun _ _ _ _ _ _ _ _ _ _ r h => by simp [laws_FnValue.j0] at h, fun _ _ _ _ _ _ _ _ _ r h => by simp [laws_FnValue.j1] at h, fun _ _ _ _ _ _ _ _ _ _ _ _ r h => by simp [laws_FnValue.j2] at h, fun _ _ r h => by simp [laws_FnValue.j3] at h⟩
  | k + 1 => by
    obtain ⟨ih0, ih1, ih2, ih3⟩ := laws_FnValue.mono_l k
    refine ⟨?_, ?_, ?_, ?_⟩
    · intro y0 y1 y2 y3 y4 y5 y6 y7 y8 y9
      unfold laws_FnValue.j0
      repeat' first
      | (with_reducible exact ih0 _ _ _ _ _ _ _ _ _ _)
      | (with_reducible exact ih1 _ _ _ _ _ _ _ _ _)
      | (with_reducible exact ih2 _ _ _ _ _ _ _ _ _ _ _ _)
      | (with_reducible exact ih3 _ _)
      | (with_reducible exact impl_BestWithout.mono _ _ _ _)
      | (with_reducible exact impl_ExpenseOf.mono _ _ _ _)
      | (with_reducible exact impl_IsWorthless.mono _ _ _ _)
      | (with_reducible exact impl_PerfectExpense.mono _ _ _ _)
      | (with_reducible exact impl_ValueOf.mono _ _ _ _)
      | (with_reducible exact spec_BestWithout.mono _ _ _ _)
      | (with_reducible exact spec_DrawValueOf.mono _ _)
      | (with_reducible exact spec_ExpenseOf.mono _ _ _ _)
      | (with_reducible exact spec_ValueOf.mono _ _ _ _)
      | (with_reducible exact LeO.refl _)
      | (with_reducible exact LeO.none _)
      | (with_reducible refine LeO.ite ?_ ?_)
      | (with_reducible refine LeO.bind ?_ (fun _ => ?_))
      | exact ih0 _ _ _ _ _ _ _ _ _ _
      | exact ih1 _ _ _ _ _ _ _ _ _
      | exact ih2 _ _ _ _ _ _ _ _ _ _ _ _
      | exact ih3 _ _
      | exact impl_BestWithout.mono _ _ _ _
      | exact impl_ExpenseOf.mono _ _ _ _
      | exact impl_IsWorthless.mono _ _ _ _
      | exact impl_PerfectExpense.mono _ _ _ _
      | exact impl_ValueOf.mono _ _ _ _
      | exact spec_BestWithout.mono _ _ _ _
      | exact spec_DrawValueOf.mono _ _
      | exact spec_ExpenseOf.mono _ _ _ _
      | exact spec_ValueOf.mono _ _ _ _
      | exact LeO.none _
      | refine LeO.ite ?_ ?_
      | refine LeO.bind ?_ (fun _ => ?_)
    · intro y0 y1 y2 y3 y4 y5 y6 y7 y8
      unfold laws_FnValue.j1
      repeat' first
      | (with_reducible exact ih0 _ _ _ _ _ _ _ _ _ _)
      | (with_reducible exact ih1 _ _ _ _ _ _ _ _ _)
      | (with_reducible exact ih2 _ _ _ _ _ _ _ _ _ _ _ _)
      | (with_reducible exact ih3 _ _)
      | (with_reducible exact impl_BestWithout.mono _ _ _ _)
      | (with_reducible exact impl_ExpenseOf.mono _ _ _ _)
      | (with_reducible exact impl_IsWorthless.mono _ _ _ _)
      | (with_reducible exact impl_PerfectExpense.mono _ _ _ _)
      | (with_reducible exact impl_ValueOf.mono _ _ _ _)
      | (with_reducible exact spec_BestWithout.mono _ _ _ _)
      | (with_reducible exact spec_DrawValueOf.mono _ _)
      | (with_reducible exact spec_ExpenseOf.mono _ _ _ _)
      | (with_reducible exact spec_ValueOf.mono _ _ _ _)
      | (with_reducible exact LeO.refl _)
      | (with_reducible exact LeO.none _)
      | (with_reducible refine LeO.ite ?_ ?_)
      | (with_reducible refine LeO.bind ?_ (fun _ => ?_))
      | exact ih0 _ _ _ _ _ _ _ _ _ _
      | exact ih1 _ _ _ _ _ _ _ _ _
      | exact ih2 _ _ _ _ _ _ _ _ _ _ _ _
      | exact ih3 _ _
      | exact impl_BestWithout.mono _ _ _ _
      | exact impl_ExpenseOf.mono _ _ _ _
      | exact impl_IsWorthless.mono _ _ _ _
      | exact impl_PerfectExpense.mono _ _ _ _
      | exact impl_ValueOf.mono _ _ _ _
      | exact spec_BestWithout.mono _ _ _ _
      | exact spec_DrawValueOf.mono _ _
      | exact spec_ExpenseOf.mono _ _ _ _
      | exact spec_ValueOf.mono _ _ _ _
      | exact LeO.none _
      | refine LeO.ite ?_ ?_
      | refine LeO.bind ?_ (fun _ => ?_)
    · intro y0 y1 y2 y3 y4 y5 y6 y7 y8 y9 y10 y11
      unfold laws_FnValue.j2
      repeat' first
      | (with_reducible exact ih0 _ _ _ _ _ _ _ _ _ _)
      | (with_reducible exact ih1 _ _ _ _ _ _ _ _ _)
      | (with_reducible exact ih2 _ _ _ _ _ _ _ _ _ _ _ _)
      | (with_reducible exact ih3 _ _)
      | (with_reducible exact impl_BestWithout.mono _ _ _ _)
      | (with_reducible exact impl_ExpenseOf.mono _ _ _ _)
      | (with_reducible exact impl_IsWorthless.mono _ _ _ _)
      | (with_reducible exact impl_PerfectExpense.mono _ _ _ _)
      | (with_reducible exact impl_ValueOf.mono _ _ _ _)
      | (with_reducible exact spec_BestWithout.mono _ _ _ _)
      | (with_reducible exact spec_DrawValueOf.mono _ _)
      | (with_reducible exact spec_ExpenseOf.mono _ _ _ _)
      | (with_reducible exact spec_ValueOf.mono _ _ _ _)
      | (with_reducible exact LeO.refl _)
      | (with_reducible exact LeO.none _)
      | (with_reducible refine LeO.ite ?_ ?_)
      | (with_reducible refine LeO.bind ?_ (fun _ => ?_))
      | exact ih0 _ _ _ _ _ _ _ _ _ _
      | exact ih1 _ _ _ _ _ _ _ _ _
      | exact ih2 _ _ _ _ _ _ _ _ _ _ _ _
      | exact ih3 _ _
      | exact impl_BestWithout.mono _ _ _ _
      | exact impl_ExpenseOf.mono _ _ _ _
      | exact impl_IsWorthless.mono _ _ _ _
      | exact impl_PerfectExpense.mono _ _ _ _
      | exact impl_ValueOf.mono _ _ _ _
      | exact spec_BestWithout.mono _ _ _ _
      | exact spec_DrawValueOf.mono _ _
      | exact spec_ExpenseOf.mono _ _ _ _
      | exact spec_ValueOf.mono _ _ _ _
      | exact LeO.none _
      | refine LeO.ite ?_ ?_
      | refine LeO.bind ?_ (fun _ => ?_)
    · intro y0 y1
      unfold laws_FnValue.j3
      repeat' first
      | (with_reducible exact ih0 _ _ _ _ _ _ _ _ _ _)
      | (with_reducible exact ih1 _ _ _ _ _ _ _ _ _)
      | (with_reducible exact ih2 _ _ _ _ _ _ _ _ _ _ _ _)
      | (with_reducible exact ih3 _ _)
      | (with_reducible exact impl_BestWithout.mono _ _ _ _)
      | (with_reducible exact impl_ExpenseOf.mono _ _ _ _)
      | (with_reducible exact impl_IsWorthless.mono _ _ _ _)
      | (with_reducible exact impl_PerfectExpense.mono _ _ _ _)
      | (with_reducible exact impl_ValueOf.mono _ _ _ _)
      | (with_reducible exact spec_BestWithout.mono _ _ _ _)
      | (with_reducible exact spec_DrawValueOf.mono _ _)
      | (with_reducible exact spec_ExpenseOf.mono _ _ _ _)
      | (with_reducible exact spec_ValueOf.mono _ _ _ _)
      | (with_reducible exact LeO.refl _)
      | (with_reducible exact LeO.none _)
      | (with_reducible refine LeO.ite ?_ ?_)
      | (with_reducible refine LeO.bind ?_ (fun _ => ?_))
      | exact ih0 _ _ _ _ _ _ _ _ _ _
      | exact ih1 _ _ _ _ _ _ _ _ _
      | exact ih2 _ _ _ _ _ _ _ _ _ _ _ _
      | exact ih3 _ _
      | exact impl_BestWithout.mono _ _ _ _
      | exact impl_ExpenseOf.mono _ _ _ _
      | exact impl_IsWorthless.mono _ _ _ _
      | exact impl_PerfectExpense.mono _ _ _ _
      | exact impl_ValueOf.mono _ _ _ _
      | exact spec_BestWithout.mono _ _ _ _
      | exact spec_DrawValueOf.mono _ _
      | exact spec_ExpenseOf.mono _ _ _ _
      | exact spec_ValueOf.mono _ _ _ _
      | exact LeO.none _
      | refine LeO.ite ?_ ?_
      | refine LeO.bind ?_ (fun _ => ?_)
theorem laws_FnValue.mono : ∀ a0 k, LeO (laws_FnValue.f k a0) (laws_FnValue.f (k + 1) a0) := by
  intro a0 k
  obtain ⟨ih0, ih1, ih2, ih3⟩ := laws_FnValue.mono_l k
  unfold laws_FnValue.f
  repeat' first
      | (with_reducible exact ih0 _ _ _ _ _ _ _ _ _ _)
      | (with_reducible exact ih1 _ _ _ _ _ _ _ _ _)
      | (with_reducible exact ih2 _ _ _ _ _ _ _ _ _ _ _ _)
      | (with_reducible exact ih3 _ _)
      | (with_reducible exact impl_BestWithout.mono _ _ _ _)
      | (with_reducible exact impl_ExpenseOf.mono _ _ _ _)
      | (with_reducible exact impl_IsWorthless.mono _ _ _ _)
      | (with_reducible exact impl_PerfectExpense.mono _ _ _ _)
      | (with_reducible exact impl_ValueOf.mono _ _ _ _)
      | (with_reducible exact spec_BestWithout.mono _ _ _ _)
      | (with_reducible exact spec_DrawValueOf.mono _ _)
      | (with_reducible exact spec_ExpenseOf.mono _ _ _ _)
      | (with_reducible exact spec_ValueOf.mono _ _ _ _)
      | (with_reducible exact LeO.refl _)
      | (with_reducible exact LeO.none _)
      | (with_reducible refine LeO.ite ?_ ?_)
      | (with_reducible refine LeO.bind ?_ (fun _ => ?_))
      | exact ih0 _ _ _ _ _ _ _ _ _ _
      | exact ih1 _ _ _ _ _ _ _ _ _
      | exact ih2 _ _ _ _ _ _ _ _ _ _ _ _
      | exact ih3 _ _
      | exact impl_BestWithout.mono _ _ _ _
      | exact impl_ExpenseOf.mono _ _ _ _
      | exact impl_IsWorthless.mono _ _ _ _
      | exact impl_PerfectExpense.mono _ _ _ _
      | exact impl_ValueOf.mono _ _ _ _
      | exact spec_BestWithout.mono _ _ _ _
      | exact spec_DrawValueOf.mono _ _
      | exact spec_ExpenseOf.mono _ _ _ _
      | exact spec_ValueOf.mono _ _ _ _
      | exact LeO.none _
      | refine LeO.ite ?_ ?_
      | refine LeO.bind ?_ (fun _ => ?_)
set_option maxHeartbeats 8000000 in
set_option maxRecDepth 100000 in
theorem laws_FnValue.calls (k : Nat) (A0 : Option Addr) (c0 : Nat) (l0 : List Int) (r : Bool) (w : World) (hr0 : Kd.C (Kd.int .u8) w A0 l0.length l0) (hc0 : l0.length ≤ c0) (h : laws_FnValue.f k l0 = some r) :
    Calls Try.prog 4 #[.slice A0 l0.length c0] w fun e w' => e = .returned (.bool r) ∧ Below w.heap.size w w' := by
  have hu25 := Try.underlying25
  have HR0 := Aside0.mk hr0
  have HC0 := Aside0.mk hc0
  clear hr0 hc0
  have HB := Aside0.mk (Below.refl w.heap.size w)
  have H : ((laws_rBig.f l0).bind fun t320 => (if t320 = true then (some true) else ((spec_DrawValueOf.f k l0).bind fun bt321 => ((impl_ExpenseOf.f k bt321.1 bt321.2.1 bt321.2.2).bind fun bt327 => ((impl_BestWithout.f k bt321.1 bt321.2.1 bt321.2.2).bind fun bt329 => ((impl_PerfectExpense.f k bt321.1 bt321.2.1 bt321.2.2).bind fun bt332 => ((spec_ExpenseOf.f k bt321.1 bt321.2.1 bt321.2.2).bind fun bt334 => (if bt327.1 = bt334.1 then (if (bt327.2 != bt334.2) = true then (laws_FnValue.j0 k l0 bt321.2.2 bt327.1 bt327.2 bt329.1 bt329.2.1 bt332.1 true bt321.1 bt321.2.1) else (if (bt329.2.2 != bt327.2) = true then (laws_FnValue.j0 k l0 bt321.2.2 bt327.1 bt327.2 bt329.1 bt329.2.1 bt332.1 true bt321.1 bt321.2.1) else (laws_FnValue.j0 k l0 bt321.2.2 bt327.1 bt327.2 bt329.1 bt329.2.1 bt332.1 (bt332.2 != bt327.2) bt321.1 bt321.2.1))) else (laws_FnValue.j0 k l0 bt321.2.2 bt327.1 bt327.2 bt329.1 bt329.2.1 bt332.1 true bt321.1 bt321.2.1))))))))) = some r := h
  clear h
  replace H := Option.bind_eq_some_iff.mp H
  obtain ⟨t320, A20, H⟩ := H
  replace H : (if t320 = true then (some true) else ((spec_DrawValueOf.f k l0).bind fun bt321 => ((impl_ExpenseOf.f k bt321.1 bt321.2.1 bt321.2.2).bind fun bt327 => ((impl_BestWithout.f k bt321.1 bt321.2.1 bt321.2.2).bind fun bt329 => ((impl_PerfectExpense.f k bt321.1 bt321.2.1 bt321.2.2).bind fun bt332 => ((spec_ExpenseOf.f k bt321.1 bt321.2.1 bt321.2.2).bind fun bt334 => (if bt327.1 = bt334.1 then (if (bt327.2 != bt334.2) = true then (laws_FnValue.j0 k l0 bt321.2.2 bt327.1 bt327.2 bt329.1 bt329.2.1 bt332.1 true bt321.1 bt321.2.1) else (if (bt329.2.2 != bt327.2) = true then (laws_FnValue.j0 k l0 bt321.2.2 bt327.1 bt327.2 bt329.1 bt329.2.1 bt332.1 true bt321.1 bt321.2.1) else (laws_FnValue.j0 k l0 bt321.2.2 bt327.1 bt327.2 bt329.1 bt329.2.1 bt332.1 (bt332.2 != bt327.2) bt321.1 bt321.2.1))) else (laws_FnValue.j0 k l0 bt321.2.2 bt327.1 bt327.2 bt329.1 bt329.2.1 bt332.1 true bt321.1 bt321.2.1)))))))) = some r := H
  have A2 := Aside0.mk A20
  clear A20
  by_cases c3 : t320 = true
  · subst c3
    have H1 : (some true) = some r := by rw [if_pos rfl] at H; exact H
    clear H
    have H := H1
    clear H1
    obtain rfl := Option.some.inj H
    go_enter Try.func4, Try.ntmps4
    go_wp2_with (first | ((with_reducible refine gate_callee (f := 9) rfl ?_); refine goesL_ (some 33) rfl rfl Try.func9 (by kernel_rfl) rfl #[.slice A0 l0.length c0] rfl (by (try simp only [List.map_toArray, List.map_cons, List.map_nil]); first | done | rfl | (simp only [List.length_drop, List.length_take]; rfl)) ?_; (with_reducible refine (laws_rBig.calls _ _ l0 true _ ?side1 ?side2 A2.out).mono ?_); (case side1 => repeat (first | exact HR0.out | (with_reducible refine Kd.C_alloc ?_ _) | (with_reducible refine Kd.C_drewN ?_ _) | (with_reducible refine Kd.C_drew ?_))); (case side2 => exact HC0.out); rintro e w' ⟨rfl, ⟨nd, rfl⟩⟩; refine ⟨_, rfl, ?_⟩))
    go_ret
    exact ⟨by first | rfl | (simp [errW_none, errW_some] <;> rfl) | (simp [*, errW_none, errW_some] <;> rfl), by repeat (first | (with_reducible first | exact HB.out | apply below_alloc | apply pw_below_drewN | apply below_drew1) | exact HB.out)⟩
  · replace c3 := Bool.eq_false_iff.mpr c3
    subst c3
    have H1 : ((spec_DrawValueOf.f k l0).bind fun bt321 => ((impl_ExpenseOf.f k bt321.1 bt321.2.1 bt321.2.2).bind fun bt327 => ((impl_BestWithout.f k bt321.1 bt321.2.1 bt321.2.2).bind fun bt329 => ((impl_PerfectExpense.f k bt321.1 bt321.2.1 bt321.2.2).bind fun bt332 => ((spec_ExpenseOf.f k bt321.1 bt321.2.1 bt321.2.2).bind fun bt334 => (if bt327.1 = bt334.1 then (if (bt327.2 != bt334.2) = true then (laws_FnValue.j0 k l0 bt321.2.2 bt327.1 bt327.2 bt329.1 bt329.2.1 bt332.1 true bt321.1 bt321.2.1) else (if (bt329.2.2 != bt327.2) = true then (laws_FnValue.j0 k l0 bt321.2.2 bt327.1 bt327.2 bt329.1 bt329.2.1 bt332.1 true bt321.1 bt321.2.1) else (laws_FnValue.j0 k l0 bt321.2.2 bt327.1 bt327.2 bt329.1 bt329.2.1 bt332.1 (bt332.2 != bt327.2) bt321.1 bt321.2.1))) else (laws_FnValue.j0 k l0 bt321.2.2 bt327.1 bt327.2 bt329.1 bt329.2.1 bt332.1 true bt321.1 bt321.2.1))))))) = some r := by rw [if_neg (show ¬ (false = true) by decide)] at H; exact H
    clear H
    have H := H1
    clear H1
    replace H := Option.bind_eq_some_iff.mp H
    obtain ⟨⟨t321, t322, t323⟩, A40, H⟩ := H
    replace H : ((impl_ExpenseOf.f k t321 t322 t323).bind fun bt327 => ((impl_BestWithout.f k t321 t322 t323).bind fun bt329 => ((impl_PerfectExpense.f k t321 t322 t323).bind fun bt332 => ((spec_ExpenseOf.f k t321 t322 t323).bind fun bt334 => (if bt327.1 = bt334.1 then (if (bt327.2 != bt334.2) = true then (laws_FnValue.j0 k l0 t323 bt327.1 bt327.2 bt329.1 bt329.2.1 bt332.1 true t321 t322) else (if (bt329.2.2 != bt327.2) = true then (laws_FnValue.j0 k l0 t323 bt327.1 bt327.2 bt329.1 bt329.2.1 bt332.1 true t321 t322) else (laws_FnValue.j0 k l0 t323 bt327.1 bt327.2 bt329.1 bt329.2.1 bt332.1 (bt332.2 != bt327.2) t321 t322))) else (laws_FnValue.j0 k l0 t323 bt327.1 bt327.2 bt329.1 bt329.2.1 bt332.1 true t321 t322)))))) = some r := H
    have A4 := Aside0.mk A40
    clear A40
    replace H := Option.bind_eq_some_iff.mp H
    obtain ⟨⟨t327, t328⟩, A50, H⟩ := H
    replace H : ((impl_BestWithout.f k t321 t322 t323).bind fun bt329 => ((impl_PerfectExpense.f k t321 t322 t323).bind fun bt332 => ((spec_ExpenseOf.f k t321 t322 t323).bind fun bt334 => (if t327 = bt334.1 then (if (t328 != bt334.2) = true then (laws_FnValue.j0 k l0 t323 t327 t328 bt329.1 bt329.2.1 bt332.1 true t321 t322) else (if (bt329.2.2 != t328) = true then (laws_FnValue.j0 k l0 t323 t327 t328 bt329.1 bt329.2.1 bt332.1 true t321 t322) else (laws_FnValue.j0 k l0 t323 t327 t328 bt329.1 bt329.2.1 bt332.1 (bt332.2 != t328) t321 t322))) else (laws_FnValue.j0 k l0 t323 t327 t328 bt329.1 bt329.2.1 bt332.1 true t321 t322))))) = some r := H
    have A5 := Aside0.mk A50
    clear A50
    replace H := Option.bind_eq_some_iff.mp H
    obtain ⟨⟨t329, t330, t331⟩, A60, H⟩ := H
    replace H : ((impl_PerfectExpense.f k t321 t322 t323).bind fun bt332 => ((spec_ExpenseOf.f k t321 t322 t323).bind fun bt334 => (if t327 = bt334.1 then (if (t328 != bt334.2) = true then (laws_FnValue.j0 k l0 t323 t327 t328 t329 t330 bt332.1 true t321 t322) else (if (t331 != t328) = true then (laws_FnValue.j0 k l0 t323 t327 t328 t329 t330 bt332.1 true t321 t322) else (laws_FnValue.j0 k l0 t323 t327 t328 t329 t330 bt332.1 (bt332.2 != t328) t321 t322))) else (laws_FnValue.j0 k l0 t323 t327 t328 t329 t330 bt332.1 true t321 t322)))) = some r := H
    have A6 := Aside0.mk A60
    clear A60
    replace H := Option.bind_eq_some_iff.mp H
    obtain ⟨⟨t332, t333⟩, A70, H⟩ := H
    replace H : ((spec_ExpenseOf.f k t321 t322 t323).bind fun bt334 => (if t327 = bt334.1 then (if (t328 != bt334.2) = true then (laws_FnValue.j0 k l0 t323 t327 t328 t329 t330 t332 true t321 t322) else (if (t331 != t328) = true then (laws_FnValue.j0 k l0 t323 t327 t328 t329 t330 t332 true t321 t322) else (laws_FnValue.j0 k l0 t323 t327 t328 t329 t330 t332 (t333 != t328) t321 t322))) else (laws_FnValue.j0 k l0 t323 t327 t328 t329 t330 t332 true t321 t322))) = some r := H
    have A7 := Aside0.mk A70
    clear A70
    replace H := Option.bind_eq_some_iff.mp H
    obtain ⟨⟨t334, t335⟩, A80, H⟩ := H
    replace H : (if t327 = t334 then (if (t328 != t335) = true then (laws_FnValue.j0 k l0 t323 t327 t328 t329 t330 t332 true t321 t322) else (if (t331 != t328) = true then (laws_FnValue.j0 k l0 t323 t327 t328 t329 t330 t332 true t321 t322) else (laws_FnValue.j0 k l0 t323 t327 t328 t329 t330 t332 (t333 != t328) t321 t322))) else (laws_FnValue.j0 k l0 t323 t327 t328 t329 t330 t332 true t321 t322)) = some r := H
    have A8 := Aside0.mk A80
    clear A80
    have HC9 := Aside0.mk H
    clear H
    go_enter Try.func4, Try.ntmps4
    go_upto_region 8 with (first | ((with_reducible refine gate_callee (f := 9) rfl ?_); refine goesL_ (some 33) rfl rfl Try.func9 (by kernel_rfl) rfl #[.slice A0 l0.length c0] rfl (by (try simp only [List.map_toArray, List.map_cons, List.map_nil]); first | done | rfl | (simp only [List.length_drop, List.length_take]; rfl)) ?_; (with_reducible refine (laws_rBig.calls _ _ l0 false _ ?side1 ?side2 A2.out).mono ?_); (case side1 => repeat (first | exact HR0.out | (with_reducible refine Kd.C_alloc ?_ _) | (with_reducible refine Kd.C_drewN ?_ _) | (with_reducible refine Kd.C_drew ?_))); (case side2 => exact HC0.out); rintro e w' ⟨rfl, ⟨nd, rfl⟩⟩; refine ⟨_, rfl, ?_⟩) | ((with_reducible refine gate_callee (f := 18) rfl ?_); refine goesL_ (some 36) rfl rfl Try.func18 (by kernel_rfl) rfl #[.slice A0 l0.length c0] rfl (by (try simp only [List.map_toArray, List.map_cons, List.map_nil]); first | done | rfl | (simp only [List.length_drop, List.length_take]; rfl)) ?_; (with_reducible refine (spec_DrawValueOf.calls k _ _ l0 t321 t322 t323 _ ?side1 ?side2 A4.out).mono ?_); (case side1 => repeat (first | exact HR0.out | (with_reducible refine Kd.C_alloc ?_ _) | (with_reducible refine Kd.C_drewN ?_ _) | (with_reducible refine Kd.C_drew ?_))); (case side2 => exact HC0.out); rintro e w10 ⟨v324, rfl, ho0, hb⟩; refine ⟨_, rfl, ?_⟩; have n0_ := Aside0.mk (Kd.R_lower ho0 (below_size (by repeat (first | (with_reducible first | exact HB.out | apply below_alloc | apply pw_below_drewN | apply below_drew1) | exact HB.out)))); have n1_ := Aside0.mk (below_step (by repeat (first | (with_reducible first | exact HB.out | apply below_alloc | apply pw_below_drewN | apply below_drew1) | exact HB.out)) hb); clear HB; have HO325 := n0_; have HB := n1_; clear n0_ n1_; (try clear hb); (try clear hb2); (try clear hk); (try clear hi); (try clear ho0)) | ((with_reducible refine gate_dst (N := 3) rfl ?_); refine box_event ?hg (N := 3) ?hd (cs := #[.int .i64 0, .int .i64 0]) (t := 25) ?hr ?_; (case hd => rfl); (case hg => rfl); (case hr => first | (go_simp; done) | (go_simp; rfl)); intro gb326 hg w11 hbox hb; have n0_ := Aside0.mk (Kd.R_below (by (with_reducible repeat (first | apply Kd.R_alloc | apply Kd.R_drewN | apply Kd.R_drew)); exact HO325.out) hb); have n1_ := Aside0.mk (below_step (by repeat (first | (with_reducible first | exact HB.out | apply below_alloc | apply pw_below_drewN | apply below_drew1) | exact HB.out)) hb); have n2_ := Aside0.mk (hbox); have n3_ := Aside0.mk ((by rw [hg]; exact (below_size (by repeat (first | (with_reducible first | exact HB.out | apply below_alloc | apply pw_below_drewN | apply below_drew1) | exact HB.out))) : w.heap.size ≤ gb326)); have n4_ := Aside0.mk ((by rw [hg]; exact (below_size (by repeat (first | (with_reducible first | exact HB.out | apply below_alloc | apply pw_below_drewN | apply below_drew1) | exact HB.out))) : w.heap.size ≤ gb326)); clear HO325; clear HB; have HO325 := n0_; have HB := n1_; have BK326 := n2_; have GW326 := n3_; have GE326 := n4_; clear n0_ n1_ n2_ n3_ n4_; clear hb hbox hg; have hcz12_0 : w11.cell? ⟨gb326, 0, none⟩ = some (.int .i64 0) := (blk_cell BK326.out 0).trans rfl; have hcz12_1 : w11.cell? ⟨gb326, 1, none⟩ = some (.int .i64 0) := (blk_cell BK326.out 1).trans rfl; have hfz12_0 := blk_frozen BK326.out 0; have hfz12_1 := blk_frozen BK326.out 1; obtain ⟨Ao13, co13, eo13⟩ := Kd.R_slice HO325.out; subst eo13) | ((with_reducible refine gate_callee (f := 17) rfl ?_); refine goesL_ (some 42) rfl rfl Try.func17 (by kernel_rfl) rfl #[.agg #[.int .i64 t321, .int .i64 t322], .slice Ao13 t323.length co13] rfl (by (try simp only [List.map_toArray, List.map_cons, List.map_nil]); first | done | rfl | (simp only [List.length_drop, List.length_take]; rfl)) ?_; (with_reducible refine (impl_ExpenseOf.calls k t321 t322 _ _ t323 t327 t328 _ ?side1 ?side2 A5.out).mono ?_); (case side1 => refine (Kd.R_reads' (e := 3) (base := w.heap.size) (ok := fun k_ => True) (n := t323.length) (c := co13) ?_).2.2; exact (by (with_reducible repeat (first | apply Kd.R_alloc | apply Kd.R_drewN | apply Kd.R_drew)); exact (Kd.R_mono (Kd.R_far (p := ⟨gb326, 1, none⟩) (Kd.R_far (p := ⟨gb326, 0, none⟩) (Kd.R_types HO325.out BK326.out (by decide)) (fun _ hk => hk.2) (.int .i64 t321)) (fun _ hk => hk.2) (.int .i64 t322)) (fun _ h_ => h_.1)))); (case side2 => exact (Kd.R_reads' HO325.out).2.1); rintro e w14 ⟨rfl, hb⟩; refine ⟨_, rfl, ?_⟩; have n0_ := Aside0.mk (Kd.R_below (by (with_reducible repeat (first | apply Kd.R_alloc | apply Kd.R_drewN | apply Kd.R_drew)); exact (Kd.R_mono (Kd.R_far (p := ⟨gb326, 1, none⟩) (Kd.R_far (p := ⟨gb326, 0, none⟩) (Kd.R_types HO325.out BK326.out (by decide)) (fun _ hk => hk.2) (.int .i64 t321)) (fun _ hk => hk.2) (.int .i64 t322)) (fun _ h_ => h_.1))) hb); have n1_ := Aside0.mk (blk_below (g := gb326) (o := .cells #[.int .i64 t321, .int .i64 t322] 25 (0, 0)) (by (with_reducible repeat (first | refine blk_drewN ?_ _ | refine blk_drew ?_ | refine blk_alloc ?_ _)); refine blk_put (cs := #[.int .i64 t321, .int .i64 0]) ?_ 1 _ rfl; (with_reducible repeat (first | refine blk_drewN ?_ _ | refine blk_drew ?_ | refine blk_alloc ?_ _)); refine blk_put (cs := #[.int .i64 0, .int .i64 0]) ?_ 0 _ rfl; (with_reducible repeat (first | refine blk_drewN ?_ _ | refine blk_drew ?_ | refine blk_alloc ?_ _)); exact BK326.out) hb); have n2_ := Aside0.mk (below_step (by repeat (first | (with_reducible first | exact HB.out | apply below_alloc | apply pw_below_drewN | apply below_drew1 | refine below_set ?_ GE326.out) | exact HB.out)) hb); clear HO325; clear BK326; clear HB; have HO325 := n0_; have BK326 := n1_; have HB := n2_; clear n0_ n1_ n2_; (try clear hb); (try clear hb2); (try clear hk); (try clear hi); have hcz15_0 : w14.cell? ⟨gb326, 0, none⟩ = some (.int .i64 t321) := (blk_cell BK326.out 0).trans rfl; have hcz15_1 : w14.cell? ⟨gb326, 1, none⟩ = some (.int .i64 t322) := (blk_cell BK326.out 1).trans rfl; have hfz15_0 := blk_frozen BK326.out 0; have hfz15_1 := blk_frozen BK326.out 1) | ((with_reducible refine gate_callee (f := 19) rfl ?_); refine goesL_ (some 48) rfl rfl Try.func19 (by kernel_rfl) rfl #[.agg #[.int .i64 t321, .int .i64 t322], .slice Ao13 t323.length co13] rfl (by (try simp only [List.map_toArray, List.map_cons, List.map_nil]); first | done | rfl | (simp only [List.length_drop, List.length_take]; rfl)) ?_; (with_reducible refine (impl_BestWithout.calls k t321 t322 _ _ t323 t329 t330 t331 _ ?side1 ?side2 A6.out).mono ?_); (case side1 => repeat (first | exact (Kd.R_reads' HO325.out).2.2 | (with_reducible refine Kd.C_alloc ?_ _) | (with_reducible refine Kd.C_drewN ?_ _) | (with_reducible refine Kd.C_drew ?_))); (case side2 => exact (Kd.R_reads' HO325.out).2.1); rintro e w16 ⟨rfl, hb⟩; refine ⟨_, rfl, ?_⟩; have n0_ := Aside0.mk (Kd.R_below (by (with_reducible repeat (first | apply Kd.R_alloc | apply Kd.R_drewN | apply Kd.R_drew)); exact HO325.out) hb); have n1_ := Aside0.mk (blk_below (g := gb326) (o := .cells #[.int .i64 t321, .int .i64 t322] 25 (0, 0)) (by (with_reducible repeat (first | refine blk_drewN ?_ _ | refine blk_drew ?_ | refine blk_alloc ?_ _)); exact BK326.out) hb); have n2_ := Aside0.mk (below_step (by repeat (first | (with_reducible first | exact HB.out | apply below_alloc | apply pw_below_drewN | apply below_drew1 | refine below_set ?_ GE326.out) | exact HB.out)) hb); clear HO325; clear BK326; clear HB; have HO325 := n0_; have BK326 := n1_; have HB := n2_; clear n0_ n1_ n2_; (try clear hb); (try clear hb2); (try clear hk); (try clear hi); have hcz17_0 : w16.cell? ⟨gb326, 0, none⟩ = some (.int .i64 t321) := (blk_cell BK326.out 0).trans rfl; have hcz17_1 : w16.cell? ⟨gb326, 1, none⟩ = some (.int .i64 t322) := (blk_cell BK326.out 1).trans rfl; have hfz17_0 := blk_frozen BK326.out 0; have hfz17_1 := blk_frozen BK326.out 1) | ((with_reducible refine gate_callee (f := 20) rfl ?_); refine goesL_ (some 55) rfl rfl Try.func20 (by kernel_rfl) rfl #[.agg #[.int .i64 t321, .int .i64 t322], .slice Ao13 t323.length co13] rfl (by (try simp only [List.map_toArray, List.map_cons, List.map_nil]); first | done | rfl | (simp only [List.length_drop, List.length_take]; rfl)) ?_; (with_reducible refine (impl_PerfectExpense.calls k t321 t322 _ _ t323 t332 t333 _ ?side1 ?side2 A7.out).mono ?_); (case side1 => repeat (first | exact (Kd.R_reads' HO325.out).2.2 | (with_reducible refine Kd.C_alloc ?_ _) | (with_reducible refine Kd.C_drewN ?_ _) | (with_reducible refine Kd.C_drew ?_))); (case side2 => exact (Kd.R_reads' HO325.out).2.1); rintro e w18 ⟨rfl, hb⟩; refine ⟨_, rfl, ?_⟩; have n0_ := Aside0.mk (Kd.R_below (by (with_reducible repeat (first | apply Kd.R_alloc | apply Kd.R_drewN | apply Kd.R_drew)); exact HO325.out) hb); have n1_ := Aside0.mk (blk_below (g := gb326) (o := .cells #[.int .i64 t321, .int .i64 t322] 25 (0, 0)) (by (with_reducible repeat (first | refine blk_drewN ?_ _ | refine blk_drew ?_ | refine blk_alloc ?_ _)); exact BK326.out) hb); have n2_ := Aside0.mk (below_step (by repeat (first | (with_reducible first | exact HB.out | apply below_alloc | apply pw_below_drewN | apply below_drew1 | refine below_set ?_ GE326.out) | exact HB.out)) hb); clear HO325; clear BK326; clear HB; have HO325 := n0_; have BK326 := n1_; have HB := n2_; clear n0_ n1_ n2_; (try clear hb); (try clear hb2); (try clear hk); (try clear hi); have hcz19_0 : w18.cell? ⟨gb326, 0, none⟩ = some (.int .i64 t321) := (blk_cell BK326.out 0).trans rfl; have hcz19_1 : w18.cell? ⟨gb326, 1, none⟩ = some (.int .i64 t322) := (blk_cell BK326.out 1).trans rfl; have hfz19_0 := blk_frozen BK326.out 0; have hfz19_1 := blk_frozen BK326.out 1) | ((with_reducible refine gate_callee (f := 21) rfl ?_); refine goesL_ (some 61) rfl rfl Try.func21 (by kernel_rfl) rfl #[.agg #[.int .i64 t321, .int .i64 t322], .slice Ao13 t323.length co13] rfl (by (try simp only [List.map_toArray, List.map_cons, List.map_nil]); first | done | rfl | (simp only [List.length_drop, List.length_take]; rfl)) ?_; (with_reducible refine (spec_ExpenseOf.calls k t321 t322 _ _ t323 t334 t335 _ ?side1 ?side2 A8.out).mono ?_); (case side1 => repeat (first | exact (Kd.R_reads' HO325.out).2.2 | (with_reducible refine Kd.C_alloc ?_ _) | (with_reducible refine Kd.C_drewN ?_ _) | (with_reducible refine Kd.C_drew ?_))); (case side2 => exact (Kd.R_reads' HO325.out).2.1); rintro e w20 ⟨rfl, hb⟩; refine ⟨_, rfl, ?_⟩; have n0_ := Aside0.mk (Kd.R_below (by (with_reducible repeat (first | apply Kd.R_alloc | apply Kd.R_drewN | apply Kd.R_drew)); exact HO325.out) hb); have n1_ := Aside0.mk (blk_below (g := gb326) (o := .cells #[.int .i64 t321, .int .i64 t322] 25 (0, 0)) (by (with_reducible repeat (first | refine blk_drewN ?_ _ | refine blk_drew ?_ | refine blk_alloc ?_ _)); exact BK326.out) hb); have n2_ := Aside0.mk (below_step (by repeat (first | (with_reducible first | exact HB.out | apply below_alloc | apply pw_below_drewN | apply below_drew1 | refine below_set ?_ GE326.out) | exact HB.out)) hb); clear HO325; clear BK326; clear HB; have HO325 := n0_; have BK326 := n1_; have HB := n2_; clear n0_ n1_ n2_; (try clear hb); (try clear hb2); (try clear hk); (try clear hi)))
    (try simp only [Act.put, List.setIfInBounds_toArray, List.set_cons_zero, List.set_cons_succ])
    go_cut [81] (fun v81 wc => ∃ (kq : Nat) (x81_8 : Bool), v81 = .bool x81_8 ∧ Aside0 (laws_FnValue.j0 kq l0 t323 t327 t328 t329 t330 t332 x81_8 t321 t322 = some r) ∧ Aside0 (kq ≤ k) ∧ Aside0 (Kd.R (Kd.int .i64) 3 wc w.heap.size (fun _ => True) (.slice Ao13 t323.length co13) t323) ∧ Aside0 (wc.heap[gb326]? = some (.cells #[.int .i64 t321, .int .i64 t322] 25 (0, 0))) ∧ Aside0 (Below w.heap.size w wc))
    case first =>
      as_aux_lemma =>
      have H := HC9.out
      clear HC9
      by_cases c21 : t327 = t334
      · rw [if_pos c21] at H
        have c21b0 : (t327 == t334) = true := beq_iff_eq.mpr c21
        have c21b1 : (t327 != t334) = false := bne_eq_false_iff_eq.mpr c21
        clear c21
        (first | rw [c21b0] | (simp only [i64_w, i32_w]; rw [c21b0]) | skip)
        by_cases c22 : (t328 != t335) = true
        · rw [if_pos c22] at H
          have c22b0 : (t328 != t335) = true := c22
          (try (have c22b1 : decide (t328 = t335) = false := by simpa using c22))
          (try (have c22b2 : (t328 == t335) = false := by simpa using c22))
          (try (have c22b3 : ¬ (t328 = t335) := by simpa using c22))
          clear c22
          have H' := Aside0.mk H
          clear H
          go_wp2
          go_meet
          case rel => exact ⟨_, (true), (by first | rfl | (simp; done) | (simp [*]; done)), H', ⟨by first | omega | exact Nat.le_refl _⟩, ⟨by (with_reducible repeat (first | apply Kd.R_alloc | apply Kd.R_drewN | apply Kd.R_drew)); exact HO325.out⟩, ⟨by (with_reducible repeat (first | refine blk_drewN ?_ _ | refine blk_drew ?_ | refine blk_alloc ?_ _)); exact BK326.out⟩, ⟨by repeat (first | (with_reducible first | exact HB.out | apply below_alloc | apply pw_below_drewN | apply below_drew1 | refine below_set ?_ GE326.out) | exact HB.out)⟩⟩
        · rw [if_neg c22] at H
          have c22b0 : (t328 != t335) = false := by simpa using c22
          (try (have c22b1 : decide (t328 = t335) = true := by simpa using c22))
          (try (have c22b2 : (t328 == t335) = true := by simpa using c22))
          clear c22
          by_cases c23 : (t331 != t328) = true
          · rw [if_pos c23] at H
            have c23b0 : (t331 != t328) = true := c23
            (try (have c23b1 : decide (t331 = t328) = false := by simpa using c23))
            (try (have c23b2 : (t331 == t328) = false := by simpa using c23))
            (try (have c23b3 : ¬ (t331 = t328) := by simpa using c23))
            clear c23
            have H' := Aside0.mk H
            clear H
            go_wp2
            go_meet
            case rel => exact ⟨_, (true), (by first | rfl | (simp; done) | (simp [*]; done)), H', ⟨by first | omega | exact Nat.le_refl _⟩, ⟨by (with_reducible repeat (first | apply Kd.R_alloc | apply Kd.R_drewN | apply Kd.R_drew)); exact HO325.out⟩, ⟨by (with_reducible repeat (first | refine blk_drewN ?_ _ | refine blk_drew ?_ | refine blk_alloc ?_ _)); exact BK326.out⟩, ⟨by repeat (first | (with_reducible first | exact HB.out | apply below_alloc | apply pw_below_drewN | apply below_drew1 | refine below_set ?_ GE326.out) | exact HB.out)⟩⟩
          · rw [if_neg c23] at H
            have c23b0 : (t331 != t328) = false := by simpa using c23
            (try (have c23b1 : decide (t331 = t328) = true := by simpa using c23))
            (try (have c23b2 : (t331 == t328) = true := by simpa using c23))
            clear c23
            have H' := Aside0.mk H
            clear H
            go_wp2
            go_meet
            case rel => exact ⟨_, ((t333 != t328)), (by first | rfl | (simp; done) | (simp [*]; done)), H', ⟨by first | omega | exact Nat.le_refl _⟩, ⟨by (with_reducible repeat (first | apply Kd.R_alloc | apply Kd.R_drewN | apply Kd.R_drew)); exact HO325.out⟩, ⟨by (with_reducible repeat (first | refine blk_drewN ?_ _ | refine blk_drew ?_ | refine blk_alloc ?_ _)); exact BK326.out⟩, ⟨by repeat (first | (with_reducible first | exact HB.out | apply below_alloc | apply pw_below_drewN | apply below_drew1 | refine below_set ?_ GE326.out) | exact HB.out)⟩⟩
      · rw [if_neg c21] at H
        have c21b0 : (t327 == t334) = false := beq_eq_false_iff_ne.mpr c21
        have c21b1 : (t327 != t334) = true := bne_iff_ne.mpr c21
        (first | rw [c21b0] | (simp only [i64_w, i32_w]; rw [c21b0]) | skip)
        have H' := Aside0.mk H
        clear H
        go_wp2
        go_meet
        case rel => exact ⟨_, (true), (by first | rfl | (simp; done) | (simp [*]; done)), H', ⟨by first | omega | exact Nat.le_refl _⟩, ⟨by (with_reducible repeat (first | apply Kd.R_alloc | apply Kd.R_drewN | apply Kd.R_drew)); exact HO325.out⟩, ⟨by (with_reducible repeat (first | refine blk_drewN ?_ _ | refine blk_drew ?_ | refine blk_alloc ?_ _)); exact BK326.out⟩, ⟨by repeat (first | (with_reducible first | exact HB.out | apply below_alloc | apply pw_below_drewN | apply below_drew1 | refine below_set ?_ GE326.out) | exact HB.out)⟩⟩
    case rest =>
      as_aux_lemma =>
      clear HC9
      try clear c1
      try clear c2
      try clear p2
      try clear c3
      try clear c4
      try clear c9
      try clear c17
      try clear c18
      try clear c19
      try clear c20
      try clear c21
      try clear c21b0
      try clear c21b1
      try clear c22
      try clear c22b0
      try clear c22b1
      try clear c22b2
      try clear c23
      try clear c23b0
      try clear c23b1
      try clear c23b2
      try clear hcz12_0
      try clear hcz12_1
      try clear hcz15_0
      try clear hcz15_1
      try clear hcz17_0
      try clear hcz17_1
      try clear hcz19_0
      try clear hcz19_1
      try clear hfz12_0
      try clear hfz12_1
      try clear hfz15_0
      try clear hfz15_1
      try clear hfz17_0
      try clear hfz17_1
      try clear hfz19_0
      try clear hfz19_1
      obtain ⟨kq, x81_8, rfl, HA, HJ8, HO_4, BK326, HB⟩ := hcut
      cases kq with
      | zero => exact absurd HA.out (by simp [laws_FnValue.j0])
      | succ kj8 =>
        have H := HA.out
        clear HA
        simp only [laws_FnValue.j0] at H
        by_cases c24 : x81_8 = true
        · subst c24
          have H1 : (some false) = some r := by rw [if_pos rfl] at H; exact H
          clear H
          have H := H1
          clear H1
          obtain rfl := Option.some.inj H
          go_wp2
          go_ret
          exact ⟨by first | rfl | (simp [errW_none, errW_some] <;> rfl) | (simp [*, errW_none, errW_some] <;> rfl), by repeat (first | (with_reducible first | exact HB.out | apply below_alloc | apply pw_below_drewN | apply below_drew1 | refine below_set ?_ GE326.out) | exact HB.out)⟩
        · replace c24 := Bool.eq_false_iff.mpr c24
          subst c24
          have H1 : ((spec_BestWithout.f kj8 t321 t322 t323).bind fun bt336 => (if t329 = bt336.1 then (if (t330 != bt336.2.1) = true then (laws_FnValue.j1 kj8 l0 t323 t327 t328 t329 t332 true t321 t322) else (if t328 = true then (if t327 < t332 then (laws_FnValue.j1 kj8 l0 t323 t327 t328 t329 t332 true t321 t322) else (laws_FnValue.j1 kj8 l0 t323 t327 t328 t329 t332 (decide (t329 < t332)) t321 t322)) else (laws_FnValue.j1 kj8 l0 t323 t327 t328 t329 t332 false t321 t322))) else (laws_FnValue.j1 kj8 l0 t323 t327 t328 t329 t332 true t321 t322))) = some r := by rw [if_neg (show ¬ (false = true) by decide)] at H; exact H
          clear H
          have H := H1
          clear H1
          replace H := Option.bind_eq_some_iff.mp H
          obtain ⟨⟨t336, t337, t338⟩, A250, H⟩ := H
          replace H : (if t329 = t336 then (if (t330 != t337) = true then (laws_FnValue.j1 kj8 l0 t323 t327 t328 t329 t332 true t321 t322) else (if t328 = true then (if t327 < t332 then (laws_FnValue.j1 kj8 l0 t323 t327 t328 t329 t332 true t321 t322) else (laws_FnValue.j1 kj8 l0 t323 t327 t328 t329 t332 (decide (t329 < t332)) t321 t322)) else (laws_FnValue.j1 kj8 l0 t323 t327 t328 t329 t332 false t321 t322))) else (laws_FnValue.j1 kj8 l0 t323 t327 t328 t329 t332 true t321 t322)) = some r := H
          have A25 := Aside0.mk A250
          clear A250
          have HC26 := Aside0.mk H
          clear H
          have hcz27_0 : wc.cell? ⟨gb326, 0, none⟩ = some (.int .i64 t321) := (blk_cell BK326.out 0).trans rfl
          have hcz27_1 : wc.cell? ⟨gb326, 1, none⟩ = some (.int .i64 t322) := (blk_cell BK326.out 1).trans rfl
          have hfz27_0 := blk_frozen BK326.out 0
          have hfz27_1 := blk_frozen BK326.out 1
          go_upto_region 11 with (first | ((with_reducible refine gate_callee (f := 22) rfl ?_); refine goesL_ (some 85) rfl rfl Try.func22 (by kernel_rfl) rfl #[.agg #[.int .i64 t321, .int .i64 t322], .slice Ao13 t323.length co13] rfl (by (try simp only [List.map_toArray, List.map_cons, List.map_nil]); first | done | rfl | (simp only [List.length_drop, List.length_take]; rfl)) ?_; (with_reducible refine (spec_BestWithout.calls kj8 t321 t322 _ _ t323 t336 t337 t338 _ ?side1 ?side2 A25.out).mono ?_); (case side1 => repeat (first | exact (Kd.R_reads' HO_4.out).2.2 | (with_reducible refine Kd.C_alloc ?_ _) | (with_reducible refine Kd.C_drewN ?_ _) | (with_reducible refine Kd.C_drew ?_))); (case side2 => exact (Kd.R_reads' HO_4.out).2.1); rintro e w28 ⟨rfl, hb⟩; refine ⟨_, rfl, ?_⟩; have n0_ := Aside0.mk (Kd.R_below (by (with_reducible repeat (first | apply Kd.R_alloc | apply Kd.R_drewN | apply Kd.R_drew)); exact HO_4.out) hb); have n1_ := Aside0.mk (blk_below (g := gb326) (o := .cells #[.int .i64 t321, .int .i64 t322] 25 (0, 0)) (by (with_reducible repeat (first | refine blk_drewN ?_ _ | refine blk_drew ?_ | refine blk_alloc ?_ _)); exact BK326.out) hb); have n2_ := Aside0.mk (below_step (by repeat (first | (with_reducible first | exact HB.out | apply below_alloc | apply pw_below_drewN | apply below_drew1 | refine below_set ?_ GE326.out) | exact HB.out)) hb); clear HO_4; clear BK326; clear HB; have HO_4 := n0_; have BK326 := n1_; have HB := n2_; clear n0_ n1_ n2_; (try clear hb); (try clear hb2); (try clear hk); (try clear hi)))
          (try simp only [Act.put, List.setIfInBounds_toArray, List.set_cons_zero, List.set_cons_succ])
          go_cut [109] (fun v109 wc => ∃ (kq : Nat) (x109_25 : Bool), v109 = .bool x109_25 ∧ Aside0 (laws_FnValue.j1 kq l0 t323 t327 t328 t329 t332 x109_25 t321 t322 = some r) ∧ Aside0 (kq ≤ kj8) ∧ Aside0 (Kd.R (Kd.int .i64) 3 wc w.heap.size (fun _ => True) (.slice Ao13 t323.length co13) t323) ∧ Aside0 (wc.heap[gb326]? = some (.cells #[.int .i64 t321, .int .i64 t322] 25 (0, 0))) ∧ Aside0 (Below w.heap.size w wc))
          case first =>
            as_aux_lemma =>
            have H := HC26.out
            clear HC26
            by_cases c29 : t329 = t336
            · rw [if_pos c29] at H
              have c29b0 : (t329 == t336) = true := beq_iff_eq.mpr c29
              have c29b1 : (t329 != t336) = false := bne_eq_false_iff_eq.mpr c29
              clear c29
              (first | rw [c29b0] | (simp only [i64_w, i32_w]; rw [c29b0]) | skip)
              by_cases c30 : (t330 != t337) = true
              · rw [if_pos c30] at H
                have c30b0 : (t330 != t337) = true := c30
                (try (have c30b1 : decide (t330 = t337) = false := by simpa using c30))
                (try (have c30b2 : (t330 == t337) = false := by simpa using c30))
                (try (have c30b3 : ¬ (t330 = t337) := by simpa using c30))
                clear c30
                have H' := Aside0.mk H
                clear H
                go_wp2
                go_meet
                case rel => exact ⟨_, (true), (by first | rfl | (simp; done) | (simp [*]; done)), H', ⟨by have := HJ8.out; first | omega | exact Nat.le_refl _⟩, ⟨by (with_reducible repeat (first | apply Kd.R_alloc | apply Kd.R_drewN | apply Kd.R_drew)); exact HO_4.out⟩, ⟨by (with_reducible repeat (first | refine blk_drewN ?_ _ | refine blk_drew ?_ | refine blk_alloc ?_ _)); exact BK326.out⟩, ⟨by repeat (first | (with_reducible first | exact HB.out | apply below_alloc | apply pw_below_drewN | apply below_drew1 | refine below_set ?_ GE326.out) | exact HB.out)⟩⟩
              · rw [if_neg c30] at H
                have c30b0 : (t330 != t337) = false := by simpa using c30
                (try (have c30b1 : decide (t330 = t337) = true := by simpa using c30))
                (try (have c30b2 : (t330 == t337) = true := by simpa using c30))
                clear c30
                by_cases c31 : t328 = true
                · subst c31
                  have H1 : (if t327 < t332 then (laws_FnValue.j1 kj8 l0 t323 t327 true t329 t332 true t321 t322) else (laws_FnValue.j1 kj8 l0 t323 t327 true t329 t332 (decide (t329 < t332)) t321 t322)) = some r := by rw [if_pos rfl] at H; exact H
                  clear H
                  have H := H1
                  clear H1
                  by_cases c32 : t327 < t332
                  · rw [if_pos c32] at H
                    have c32b0 : decide (t327 < t332) = true := decide_eq_true c32
                    clear c32
                    have H' := Aside0.mk H
                    clear H
                    go_wp2
                    go_meet
                    case rel => exact ⟨_, (true), (by first | rfl | (simp; done) | (simp [*]; done)), H', ⟨by have := HJ8.out; first | omega | exact Nat.le_refl _⟩, ⟨by (with_reducible repeat (first | apply Kd.R_alloc | apply Kd.R_drewN | apply Kd.R_drew)); exact HO_4.out⟩, ⟨by (with_reducible repeat (first | refine blk_drewN ?_ _ | refine blk_drew ?_ | refine blk_alloc ?_ _)); exact BK326.out⟩, ⟨by repeat (first | (with_reducible first | exact HB.out | apply below_alloc | apply pw_below_drewN | apply below_drew1 | refine below_set ?_ GE326.out) | exact HB.out)⟩⟩
                  · rw [if_neg c32] at H
                    have c32b0 : decide (t327 < t332) = false := decide_eq_false c32
                    clear c32
                    have H' := Aside0.mk H
                    clear H
                    go_wp2
                    go_meet
                    case rel => exact ⟨_, (decide (t329 < t332)), (by first | rfl | (simp; done) | (simp [*]; done)), H', ⟨by have := HJ8.out; first | omega | exact Nat.le_refl _⟩, ⟨by (with_reducible repeat (first | apply Kd.R_alloc | apply Kd.R_drewN | apply Kd.R_drew)); exact HO_4.out⟩, ⟨by (with_reducible repeat (first | refine blk_drewN ?_ _ | refine blk_drew ?_ | refine blk_alloc ?_ _)); exact BK326.out⟩, ⟨by repeat (first | (with_reducible first | exact HB.out | apply below_alloc | apply pw_below_drewN | apply below_drew1 | refine below_set ?_ GE326.out) | exact HB.out)⟩⟩
                · replace c31 := Bool.eq_false_iff.mpr c31
                  subst c31
                  have H1 : (laws_FnValue.j1 kj8 l0 t323 t327 false t329 t332 false t321 t322) = some r := by rw [if_neg (show ¬ (false = true) by decide)] at H; exact H
                  clear H
                  have H := H1
                  clear H1
                  have H' := Aside0.mk H
                  clear H
                  go_wp2
                  go_meet
                  case rel => exact ⟨_, (false), (by first | rfl | (simp; done) | (simp [*]; done)), H', ⟨by have := HJ8.out; first | omega | exact Nat.le_refl _⟩, ⟨by (with_reducible repeat (first | apply Kd.R_alloc | apply Kd.R_drewN | apply Kd.R_drew)); exact HO_4.out⟩, ⟨by (with_reducible repeat (first | refine blk_drewN ?_ _ | refine blk_drew ?_ | refine blk_alloc ?_ _)); exact BK326.out⟩, ⟨by repeat (first | (with_reducible first | exact HB.out | apply below_alloc | apply pw_below_drewN | apply below_drew1 | refine below_set ?_ GE326.out) | exact HB.out)⟩⟩
            · rw [if_neg c29] at H
              have c29b0 : (t329 == t336) = false := beq_eq_false_iff_ne.mpr c29
              have c29b1 : (t329 != t336) = true := bne_iff_ne.mpr c29
              (first | rw [c29b0] | (simp only [i64_w, i32_w]; rw [c29b0]) | skip)
              have H' := Aside0.mk H
              clear H
              go_wp2
              go_meet
              case rel => exact ⟨_, (true), (by first | rfl | (simp; done) | (simp [*]; done)), H', ⟨by have := HJ8.out; first | omega | exact Nat.le_refl _⟩, ⟨by (with_reducible repeat (first | apply Kd.R_alloc | apply Kd.R_drewN | apply Kd.R_drew)); exact HO_4.out⟩, ⟨by (with_reducible repeat (first | refine blk_drewN ?_ _ | refine blk_drew ?_ | refine blk_alloc ?_ _)); exact BK326.out⟩, ⟨by repeat (first | (with_reducible first | exact HB.out | apply below_alloc | apply pw_below_drewN | apply below_drew1 | refine below_set ?_ GE326.out) | exact HB.out)⟩⟩
          case rest =>
            as_aux_lemma =>
            clear HC26
            try clear c1
            try clear c2
            try clear p2
            try clear c3
            try clear c4
            try clear c9
            try clear c17
            try clear c18
            try clear c19
            try clear c20
            try clear c21
            try clear c21b0
            try clear c21b1
            try clear c22
            try clear c22b0
            try clear c22b1
            try clear c22b2
            try clear c23
            try clear c23b0
            try clear c23b1
            try clear c23b2
            try clear c24
            try clear c29
            try clear c29b0
            try clear c29b1
            try clear c30
            try clear c30b0
            try clear c30b1
            try clear c30b2
            try clear c31
            try clear c32
            try clear c32b0
            try clear hcz12_0
            try clear hcz12_1
            try clear hcz15_0
            try clear hcz15_1
            try clear hcz17_0
            try clear hcz17_1
            try clear hcz19_0
            try clear hcz19_1
            try clear hcz27_0
            try clear hcz27_1
            try clear hfz12_0
            try clear hfz12_1
            try clear hfz15_0
            try clear hfz15_1
            try clear hfz17_0
            try clear hfz17_1
            try clear hfz19_0
            try clear hfz19_1
            try clear hfz27_0
            try clear hfz27_1
            try clear p2
            obtain ⟨kq, x109_25, rfl, HA, HJ25, HO_4, BK326, HB⟩ := hcut
            cases kq with
            | zero => exact absurd HA.out (by simp [laws_FnValue.j1])
            | succ kj25 =>
              have H := HA.out
              clear HA
              simp only [laws_FnValue.j1] at H
              by_cases c33 : x109_25 = true
              · subst c33
                have H1 : (some false) = some r := by rw [if_pos rfl] at H; exact H
                clear H
                have H := H1
                clear H1
                obtain rfl := Option.some.inj H
                go_wp2
                go_ret
                exact ⟨by first | rfl | (simp [errW_none, errW_some] <;> rfl) | (simp [*, errW_none, errW_some] <;> rfl), by repeat (first | (with_reducible first | exact HB.out | apply below_alloc | apply pw_below_drewN | apply below_drew1 | refine below_set ?_ GE326.out) | exact HB.out)⟩
              · replace c33 := Bool.eq_false_iff.mpr c33
                subst c33
                have H1 : ((impl_ValueOf.f kj25 t321 t322 t323).bind fun bt339 => ((spec_ValueOf.f kj25 t321 t322 t323).bind fun bt342 => (if bt339.1 = bt342.1 then (if bt339.2.1 = bt342.2.1 then (laws_FnValue.j2 kj25 l0 t323 t327 t328 t329 t332 bt339.1 bt339.2.1 bt339.2.2 (bt339.2.2 != bt342.2.2) t321 t322) else (laws_FnValue.j2 kj25 l0 t323 t327 t328 t329 t332 bt339.1 bt339.2.1 bt339.2.2 true t321 t322)) else (laws_FnValue.j2 kj25 l0 t323 t327 t328 t329 t332 bt339.1 bt339.2.1 bt339.2.2 true t321 t322)))) = some r := by rw [if_neg (show ¬ (false = true) by decide)] at H; exact H
                clear H
                have H := H1
                clear H1
                replace H := Option.bind_eq_some_iff.mp H
                obtain ⟨⟨t339, t340, t341⟩, A340, H⟩ := H
                replace H : ((spec_ValueOf.f kj25 t321 t322 t323).bind fun bt342 => (if t339 = bt342.1 then (if t340 = bt342.2.1 then (laws_FnValue.j2 kj25 l0 t323 t327 t328 t329 t332 t339 t340 t341 (t341 != bt342.2.2) t321 t322) else (laws_FnValue.j2 kj25 l0 t323 t327 t328 t329 t332 t339 t340 t341 true t321 t322)) else (laws_FnValue.j2 kj25 l0 t323 t327 t328 t329 t332 t339 t340 t341 true t321 t322))) = some r := H
                have A34 := Aside0.mk A340
                clear A340
                replace H := Option.bind_eq_some_iff.mp H
                obtain ⟨⟨t342, t343, t344⟩, A350, H⟩ := H
                replace H : (if t339 = t342 then (if t340 = t343 then (laws_FnValue.j2 kj25 l0 t323 t327 t328 t329 t332 t339 t340 t341 (t341 != t344) t321 t322) else (laws_FnValue.j2 kj25 l0 t323 t327 t328 t329 t332 t339 t340 t341 true t321 t322)) else (laws_FnValue.j2 kj25 l0 t323 t327 t328 t329 t332 t339 t340 t341 true t321 t322)) = some r := H
                have A35 := Aside0.mk A350
                clear A350
                have HC36 := Aside0.mk H
                clear H
                have hcz37_0 : wc.cell? ⟨gb326, 0, none⟩ = some (.int .i64 t321) := (blk_cell BK326.out 0).trans rfl
                have hcz37_1 : wc.cell? ⟨gb326, 1, none⟩ = some (.int .i64 t322) := (blk_cell BK326.out 1).trans rfl
                have hfz37_0 := blk_frozen BK326.out 0
                have hfz37_1 := blk_frozen BK326.out 1
                go_upto_region 15 with (first | ((with_reducible refine gate_callee (f := 23) rfl ?_); refine goesL_ (some 113) rfl rfl Try.func23 (by kernel_rfl) rfl #[.agg #[.int .i64 t321, .int .i64 t322], .slice Ao13 t323.length co13] rfl (by (try simp only [List.map_toArray, List.map_cons, List.map_nil]); first | done | rfl | (simp only [List.length_drop, List.length_take]; rfl)) ?_; (with_reducible refine (impl_ValueOf.calls kj25 t321 t322 _ _ t323 t339 t340 t341 _ ?side1 ?side2 A34.out).mono ?_); (case side1 => repeat (first | exact (Kd.R_reads' HO_4.out).2.2 | (with_reducible refine Kd.C_alloc ?_ _) | (with_reducible refine Kd.C_drewN ?_ _) | (with_reducible refine Kd.C_drew ?_))); (case side2 => exact (Kd.R_reads' HO_4.out).2.1); rintro e w38 ⟨rfl, hb⟩; refine ⟨_, rfl, ?_⟩; have n0_ := Aside0.mk (Kd.R_below (by (with_reducible repeat (first | apply Kd.R_alloc | apply Kd.R_drewN | apply Kd.R_drew)); exact HO_4.out) hb); have n1_ := Aside0.mk (blk_below (g := gb326) (o := .cells #[.int .i64 t321, .int .i64 t322] 25 (0, 0)) (by (with_reducible repeat (first | refine blk_drewN ?_ _ | refine blk_drew ?_ | refine blk_alloc ?_ _)); exact BK326.out) hb); have n2_ := Aside0.mk (below_step (by repeat (first | (with_reducible first | exact HB.out | apply below_alloc | apply pw_below_drewN | apply below_drew1 | refine below_set ?_ GE326.out) | exact HB.out)) hb); clear HO_4; clear BK326; clear HB; have HO_4 := n0_; have BK326 := n1_; have HB := n2_; clear n0_ n1_ n2_; (try clear hb); (try clear hb2); (try clear hk); (try clear hi); have hcz39_0 : w38.cell? ⟨gb326, 0, none⟩ = some (.int .i64 t321) := (blk_cell BK326.out 0).trans rfl; have hcz39_1 : w38.cell? ⟨gb326, 1, none⟩ = some (.int .i64 t322) := (blk_cell BK326.out 1).trans rfl; have hfz39_0 := blk_frozen BK326.out 0; have hfz39_1 := blk_frozen BK326.out 1) | ((with_reducible refine gate_callee (f := 24) rfl ?_); refine goesL_ (some 120) rfl rfl Try.func24 (by kernel_rfl) rfl #[.agg #[.int .i64 t321, .int .i64 t322], .slice Ao13 t323.length co13] rfl (by (try simp only [List.map_toArray, List.map_cons, List.map_nil]); first | done | rfl | (simp only [List.length_drop, List.length_take]; rfl)) ?_; (with_reducible refine (spec_ValueOf.calls kj25 t321 t322 _ _ t323 t342 t343 t344 _ ?side1 ?side2 A35.out).mono ?_); (case side1 => repeat (first | exact (Kd.R_reads' HO_4.out).2.2 | (with_reducible refine Kd.C_alloc ?_ _) | (with_reducible refine Kd.C_drewN ?_ _) | (with_reducible refine Kd.C_drew ?_))); (case side2 => exact (Kd.R_reads' HO_4.out).2.1); rintro e w40 ⟨rfl, hb⟩; refine ⟨_, rfl, ?_⟩; have n0_ := Aside0.mk (Kd.R_below (by (with_reducible repeat (first | apply Kd.R_alloc | apply Kd.R_drewN | apply Kd.R_drew)); exact HO_4.out) hb); have n1_ := Aside0.mk (blk_below (g := gb326) (o := .cells #[.int .i64 t321, .int .i64 t322] 25 (0, 0)) (by (with_reducible repeat (first | refine blk_drewN ?_ _ | refine blk_drew ?_ | refine blk_alloc ?_ _)); exact BK326.out) hb); have n2_ := Aside0.mk (below_step (by repeat (first | (with_reducible first | exact HB.out | apply below_alloc | apply pw_below_drewN | apply below_drew1 | refine below_set ?_ GE326.out) | exact HB.out)) hb); clear HO_4; clear BK326; clear HB; have HO_4 := n0_; have BK326 := n1_; have HB := n2_; clear n0_ n1_ n2_; (try clear hb); (try clear hb2); (try clear hk); (try clear hi)))
                (try simp only [Act.put, List.setIfInBounds_toArray, List.set_cons_zero, List.set_cons_succ])
                go_cut [136] (fun v136 wc => ∃ (kq : Nat) (x136_35 : Bool), v136 = .bool x136_35 ∧ Aside0 (laws_FnValue.j2 kq l0 t323 t327 t328 t329 t332 t339 t340 t341 x136_35 t321 t322 = some r) ∧ Aside0 (kq ≤ kj25) ∧ Aside0 (Kd.R (Kd.int .i64) 3 wc w.heap.size (fun _ => True) (.slice Ao13 t323.length co13) t323) ∧ Aside0 (wc.heap[gb326]? = some (.cells #[.int .i64 t321, .int .i64 t322] 25 (0, 0))) ∧ Aside0 (Below w.heap.size w wc))
                case first =>
                  as_aux_lemma =>
                  have H := HC36.out
                  clear HC36
                  by_cases c41 : t339 = t342
                  · rw [if_pos c41] at H
                    have c41b0 : (t339 == t342) = true := beq_iff_eq.mpr c41
                    have c41b1 : (t339 != t342) = false := bne_eq_false_iff_eq.mpr c41
                    clear c41
                    (first | rw [c41b0] | (simp only [i64_w, i32_w]; rw [c41b0]) | skip)
                    by_cases c42 : t340 = t343
                    · rw [if_pos c42] at H
                      have c42b0 : (t340 == t343) = true := beq_iff_eq.mpr c42
                      have c42b1 : (t340 != t343) = false := bne_eq_false_iff_eq.mpr c42
                      clear c42
                      have H' := Aside0.mk H
                      clear H
                      go_wp2
                      go_meet
                      case rel => exact ⟨_, ((t341 != t344)), (by first | rfl | (simp; done) | (simp [*]; done)), H', ⟨by have := HJ8.out; have := HJ25.out; first | omega | exact Nat.le_refl _⟩, ⟨by (with_reducible repeat (first | apply Kd.R_alloc | apply Kd.R_drewN | apply Kd.R_drew)); exact HO_4.out⟩, ⟨by (with_reducible repeat (first | refine blk_drewN ?_ _ | refine blk_drew ?_ | refine blk_alloc ?_ _)); exact BK326.out⟩, ⟨by repeat (first | (with_reducible first | exact HB.out | apply below_alloc | apply pw_below_drewN | apply below_drew1 | refine below_set ?_ GE326.out) | exact HB.out)⟩⟩
                    · rw [if_neg c42] at H
                      have c42b0 : (t340 == t343) = false := beq_eq_false_iff_ne.mpr c42
                      have c42b1 : (t340 != t343) = true := bne_iff_ne.mpr c42
                      have H' := Aside0.mk H
                      clear H
                      go_wp2
                      go_meet
                      case rel => exact ⟨_, (true), (by first | rfl | (simp; done) | (simp [*]; done)), H', ⟨by have := HJ8.out; have := HJ25.out; first | omega | exact Nat.le_refl _⟩, ⟨by (with_reducible repeat (first | apply Kd.R_alloc | apply Kd.R_drewN | apply Kd.R_drew)); exact HO_4.out⟩, ⟨by (with_reducible repeat (first | refine blk_drewN ?_ _ | refine blk_drew ?_ | refine blk_alloc ?_ _)); exact BK326.out⟩, ⟨by repeat (first | (with_reducible first | exact HB.out | apply below_alloc | apply pw_below_drewN | apply below_drew1 | refine below_set ?_ GE326.out) | exact HB.out)⟩⟩
                  · rw [if_neg c41] at H
                    have c41b0 : (t339 == t342) = false := beq_eq_false_iff_ne.mpr c41
                    have c41b1 : (t339 != t342) = true := bne_iff_ne.mpr c41
                    (first | rw [c41b0] | (simp only [i64_w, i32_w]; rw [c41b0]) | skip)
                    have H' := Aside0.mk H
                    clear H
                    go_wp2
                    go_meet
                    case rel => exact ⟨_, (true), (by first | rfl | (simp; done) | (simp [*]; done)), H', ⟨by have := HJ8.out; have := HJ25.out; first | omega | exact Nat.le_refl _⟩, ⟨by (with_reducible repeat (first | apply Kd.R_alloc | apply Kd.R_drewN | apply Kd.R_drew)); exact HO_4.out⟩, ⟨by (with_reducible repeat (first | refine blk_drewN ?_ _ | refine blk_drew ?_ | refine blk_alloc ?_ _)); exact BK326.out⟩, ⟨by repeat (first | (with_reducible first | exact HB.out | apply below_alloc | apply pw_below_drewN | apply below_drew1 | refine below_set ?_ GE326.out) | exact HB.out)⟩⟩
                case rest =>
                  as_aux_lemma =>
                  clear HC36
                  try clear c1
                  try clear c2
                  try clear p2
                  try clear c3
                  try clear c4
                  try clear c9
                  try clear c17
                  try clear c18
                  try clear c19
                  try clear c20
                  try clear c21
                  try clear c21b0
                  try clear c21b1
                  try clear c22
                  try clear c22b0
                  try clear c22b1
                  try clear c22b2
                  try clear c23
                  try clear c23b0
                  try clear c23b1
                  try clear c23b2
                  try clear c24
                  try clear c29
                  try clear c29b0
                  try clear c29b1
                  try clear c30
                  try clear c30b0
                  try clear c30b1
                  try clear c30b2
                  try clear c31
                  try clear c32
                  try clear c32b0
                  try clear c33
                  try clear c41
                  try clear c41b0
                  try clear c41b1
                  try clear c42
                  try clear c42b0
                  try clear c42b1
                  try clear hcz12_0
                  try clear hcz12_1
                  try clear hcz15_0
                  try clear hcz15_1
                  try clear hcz17_0
                  try clear hcz17_1
                  try clear hcz19_0
                  try clear hcz19_1
                  try clear hcz27_0
                  try clear hcz27_1
                  try clear hcz37_0
                  try clear hcz37_1
                  try clear hcz39_0
                  try clear hcz39_1
                  try clear hfz12_0
                  try clear hfz12_1
                  try clear hfz15_0
                  try clear hfz15_1
                  try clear hfz17_0
                  try clear hfz17_1
                  try clear hfz19_0
                  try clear hfz19_1
                  try clear hfz27_0
                  try clear hfz27_1
                  try clear hfz37_0
                  try clear hfz37_1
                  try clear hfz39_0
                  try clear hfz39_1
                  try clear p2
                  obtain ⟨kq, x136_35, rfl, HA, HJ35, HO_4, BK326, HB⟩ := hcut
                  cases kq with
                  | zero => exact absurd HA.out (by simp [laws_FnValue.j2])
                  | succ kj35 =>
                    have H := HA.out
                    clear HA
                    simp only [laws_FnValue.j2] at H
                    by_cases c43 : x136_35 = true
                    · subst c43
                      have H1 : (some false) = some r := by rw [if_pos rfl] at H; exact H
                      clear H
                      have H := H1
                      clear H1
                      obtain rfl := Option.some.inj H
                      go_wp2
                      go_ret
                      exact ⟨by first | rfl | (simp [errW_none, errW_some] <;> rfl) | (simp [*, errW_none, errW_some] <;> rfl), by repeat (first | (with_reducible first | exact HB.out | apply below_alloc | apply pw_below_drewN | apply below_drew1 | refine below_set ?_ GE326.out) | exact HB.out)⟩
                    · replace c43 := Bool.eq_false_iff.mpr c43
                      subst c43
                      have H1 : ((impl_IsWorthless.f kj35 t321 t322 t323).bind fun bt345 => (if (bt345.2 != t328) = true then (laws_FnValue.j3 kj35 l0 true) else (if t328 = true then (if (bt345.1 != (decide (t327 ≥ t329))) = true then (laws_FnValue.j3 kj35 l0 true) else (if t341 = true then (if t339 > t340 then (laws_FnValue.j3 kj35 l0 true) else (if (bt345.1 != (decide (t339 ≤ 0))) = true then (laws_FnValue.j3 kj35 l0 true) else (laws_FnValue.j3 kj35 l0 (t341 != (decide (t329 > t332)))))) else (laws_FnValue.j3 kj35 l0 (t341 != (decide (t329 > t332)))))) else (if t341 = true then (if t339 > t340 then (laws_FnValue.j3 kj35 l0 true) else (if (bt345.1 != (decide (t339 ≤ 0))) = true then (laws_FnValue.j3 kj35 l0 true) else (laws_FnValue.j3 kj35 l0 false))) else (laws_FnValue.j3 kj35 l0 false))))) = some r := by rw [if_neg (show ¬ (false = true) by decide)] at H; exact H
                      clear H
                      have H := H1
                      clear H1
                      replace H := Option.bind_eq_some_iff.mp H
                      obtain ⟨⟨t345, t346⟩, A440, H⟩ := H
                      replace H : (if (t346 != t328) = true then (laws_FnValue.j3 kj35 l0 true) else (if t328 = true then (if (t345 != (decide (t327 ≥ t329))) = true then (laws_FnValue.j3 kj35 l0 true) else (if t341 = true then (if t339 > t340 then (laws_FnValue.j3 kj35 l0 true) else (if (t345 != (decide (t339 ≤ 0))) = true then (laws_FnValue.j3 kj35 l0 true) else (laws_FnValue.j3 kj35 l0 (t341 != (decide (t329 > t332)))))) else (laws_FnValue.j3 kj35 l0 (t341 != (decide (t329 > t332)))))) else (if t341 = true then (if t339 > t340 then (laws_FnValue.j3 kj35 l0 true) else (if (t345 != (decide (t339 ≤ 0))) = true then (laws_FnValue.j3 kj35 l0 true) else (laws_FnValue.j3 kj35 l0 false))) else (laws_FnValue.j3 kj35 l0 false)))) = some r := H
                      have A44 := Aside0.mk A440
                      clear A440
                      have HC45 := Aside0.mk H
                      clear H
                      have hcz46_0 : wc.cell? ⟨gb326, 0, none⟩ = some (.int .i64 t321) := (blk_cell BK326.out 0).trans rfl
                      have hcz46_1 : wc.cell? ⟨gb326, 1, none⟩ = some (.int .i64 t322) := (blk_cell BK326.out 1).trans rfl
                      have hfz46_0 := blk_frozen BK326.out 0
                      have hfz46_1 := blk_frozen BK326.out 1
                      go_upto_region 18 with (first | ((with_reducible refine gate_callee (f := 25) rfl ?_); refine goesL_ (some 140) rfl rfl Try.func25 (by kernel_rfl) rfl #[.agg #[.int .i64 t321, .int .i64 t322], .slice Ao13 t323.length co13] rfl (by (try simp only [List.map_toArray, List.map_cons, List.map_nil]); first | done | rfl | (simp only [List.length_drop, List.length_take]; rfl)) ?_; (with_reducible refine (impl_IsWorthless.calls kj35 t321 t322 _ _ t323 t345 t346 _ ?side1 ?side2 A44.out).mono ?_); (case side1 => repeat (first | exact (Kd.R_reads' HO_4.out).2.2 | (with_reducible refine Kd.C_alloc ?_ _) | (with_reducible refine Kd.C_drewN ?_ _) | (with_reducible refine Kd.C_drew ?_))); (case side2 => exact (Kd.R_reads' HO_4.out).2.1); rintro e w47 ⟨rfl, hb⟩; refine ⟨_, rfl, ?_⟩; have n0_ := Aside0.mk (Kd.R_below (by (with_reducible repeat (first | apply Kd.R_alloc | apply Kd.R_drewN | apply Kd.R_drew)); exact HO_4.out) hb); have n1_ := Aside0.mk (blk_below (g := gb326) (o := .cells #[.int .i64 t321, .int .i64 t322] 25 (0, 0)) (by (with_reducible repeat (first | refine blk_drewN ?_ _ | refine blk_drew ?_ | refine blk_alloc ?_ _)); exact BK326.out) hb); have n2_ := Aside0.mk (below_step (by repeat (first | (with_reducible first | exact HB.out | apply below_alloc | apply pw_below_drewN | apply below_drew1 | refine below_set ?_ GE326.out) | exact HB.out)) hb); clear HO_4; clear BK326; clear HB; have HO_4 := n0_; have BK326 := n1_; have HB := n2_; clear n0_ n1_ n2_; (try clear hb); (try clear hb2); (try clear hk); (try clear hi)))
                      (try simp only [Act.put, List.setIfInBounds_toArray, List.set_cons_zero, List.set_cons_succ])
                      go_cut [179] (fun v179 wc => ∃ (kq : Nat) (x179_44 : Bool), v179 = .bool x179_44 ∧ Aside0 (laws_FnValue.j3 kq l0 x179_44 = some r) ∧ Aside0 (kq ≤ kj35) ∧ Aside0 (wc.heap[gb326]? = some (.cells #[.int .i64 t321, .int .i64 t322] 25 (0, 0))) ∧ Aside0 (Below w.heap.size w wc))
                      case first =>
                        as_aux_lemma =>
                        have H := HC45.out
                        clear HC45
                        by_cases c48 : (t346 != t328) = true
                        · rw [if_pos c48] at H
                          have c48b0 : (t346 != t328) = true := c48
                          (try (have c48b1 : decide (t346 = t328) = false := by simpa using c48))
                          (try (have c48b2 : (t346 == t328) = false := by simpa using c48))
                          (try (have c48b3 : ¬ (t346 = t328) := by simpa using c48))
                          clear c48
                          (first | rw [c48b0] | (simp only [i64_w, i32_w]; rw [c48b0]) | skip)
                          have H' := Aside0.mk H
                          clear H
                          go_wp2
                          go_meet
                          case rel => exact ⟨_, (true), (by first | rfl | (simp; done) | (simp [*]; done)), H', ⟨by have := HJ8.out; have := HJ25.out; have := HJ35.out; first | omega | exact Nat.le_refl _⟩, ⟨by (with_reducible repeat (first | refine blk_drewN ?_ _ | refine blk_drew ?_ | refine blk_alloc ?_ _)); exact BK326.out⟩, ⟨by repeat (first | (with_reducible first | exact HB.out | apply below_alloc | apply pw_below_drewN | apply below_drew1 | refine below_set ?_ GE326.out) | exact HB.out)⟩⟩
                        · rw [if_neg c48] at H
                          have c48b0 : (t346 != t328) = false := by simpa using c48
                          (try (have c48b1 : decide (t346 = t328) = true := by simpa using c48))
                          (try (have c48b2 : (t346 == t328) = true := by simpa using c48))
                          clear c48
                          (first | rw [c48b0] | (simp only [i64_w, i32_w]; rw [c48b0]) | skip)
                          by_cases c49 : t328 = true
                          · subst c49
                            have H1 : (if (t345 != (decide (t327 ≥ t329))) = true then (laws_FnValue.j3 kj35 l0 true) else (if t341 = true then (if t339 > t340 then (laws_FnValue.j3 kj35 l0 true) else (if (t345 != (decide (t339 ≤ 0))) = true then (laws_FnValue.j3 kj35 l0 true) else (laws_FnValue.j3 kj35 l0 (t341 != (decide (t329 > t332)))))) else (laws_FnValue.j3 kj35 l0 (t341 != (decide (t329 > t332)))))) = some r := by rw [if_pos rfl] at H; exact H
                            clear H
                            have H := H1
                            clear H1
                            by_cases c50 : (t345 != (decide (t327 ≥ t329))) = true
                            · rw [if_pos c50] at H
                              have c50b0 : (t345 != (decide (t327 ≥ t329))) = true := c50
                              (try (have c50b1 : decide (t345 = (decide (t327 ≥ t329))) = false := by simpa using c50))
                              (try (have c50b2 : (t345 == (decide (t327 ≥ t329))) = false := by simpa using c50))
                              (try (have c50b3 : ¬ (t345 = (decide (t327 ≥ t329))) := by simpa using c50))
                              clear c50
                              have H' := Aside0.mk H
                              clear H
                              go_wp2
                              go_meet
                              case rel => exact ⟨_, (true), (by first | rfl | (simp; done) | (simp [*]; done)), H', ⟨by have := HJ8.out; have := HJ25.out; have := HJ35.out; first | omega | exact Nat.le_refl _⟩, ⟨by (with_reducible repeat (first | refine blk_drewN ?_ _ | refine blk_drew ?_ | refine blk_alloc ?_ _)); exact BK326.out⟩, ⟨by repeat (first | (with_reducible first | exact HB.out | apply below_alloc | apply pw_below_drewN | apply below_drew1 | refine below_set ?_ GE326.out) | exact HB.out)⟩⟩
                            · rw [if_neg c50] at H
                              have c50b0 : (t345 != (decide (t327 ≥ t329))) = false := by simpa using c50
                              (try (have c50b1 : decide (t345 = (decide (t327 ≥ t329))) = true := by simpa using c50))
                              (try (have c50b2 : (t345 == (decide (t327 ≥ t329))) = true := by simpa using c50))
                              clear c50
                              by_cases c51 : t341 = true
                              · subst c51
                                have H1 : (if t339 > t340 then (laws_FnValue.j3 kj35 l0 true) else (if (t345 != (decide (t339 ≤ 0))) = true then (laws_FnValue.j3 kj35 l0 true) else (laws_FnValue.j3 kj35 l0 (true != (decide (t329 > t332)))))) = some r := by rw [if_pos rfl] at H; exact H
                                clear H
                                have H := H1
                                clear H1
                                by_cases c52 : t339 > t340
                                · rw [if_pos c52] at H
                                  have c52b0 : decide (t340 < t339) = true := decide_eq_true c52
                                  clear c52
                                  have H' := Aside0.mk H
                                  clear H
                                  go_wp2
                                  go_meet
                                  case rel => exact ⟨_, (true), (by first | rfl | (simp; done) | (simp [*]; done)), H', ⟨by have := HJ8.out; have := HJ25.out; have := HJ35.out; first | omega | exact Nat.le_refl _⟩, ⟨by (with_reducible repeat (first | refine blk_drewN ?_ _ | refine blk_drew ?_ | refine blk_alloc ?_ _)); exact BK326.out⟩, ⟨by repeat (first | (with_reducible first | exact HB.out | apply below_alloc | apply pw_below_drewN | apply below_drew1 | refine below_set ?_ GE326.out) | exact HB.out)⟩⟩
                                · rw [if_neg c52] at H
                                  have c52b0 : decide (t340 < t339) = false := decide_eq_false c52
                                  clear c52
                                  by_cases c53 : (t345 != (decide (t339 ≤ 0))) = true
                                  · rw [if_pos c53] at H
                                    have c53b0 : (t345 != (decide (t339 ≤ 0))) = true := c53
                                    (try (have c53b1 : decide (t345 = (decide (t339 ≤ 0))) = false := by simpa using c53))
                                    (try (have c53b2 : (t345 == (decide (t339 ≤ 0))) = false := by simpa using c53))
                                    (try (have c53b3 : ¬ (t345 = (decide (t339 ≤ 0))) := by simpa using c53))
                                    clear c53
                                    have H' := Aside0.mk H
                                    clear H
                                    go_wp2
                                    go_meet
                                    case rel => exact ⟨_, (true), (by first | rfl | (simp; done) | (simp [*]; done)), H', ⟨by have := HJ8.out; have := HJ25.out; have := HJ35.out; first | omega | exact Nat.le_refl _⟩, ⟨by (with_reducible repeat (first | refine blk_drewN ?_ _ | refine blk_drew ?_ | refine blk_alloc ?_ _)); exact BK326.out⟩, ⟨by repeat (first | (with_reducible first | exact HB.out | apply below_alloc | apply pw_below_drewN | apply below_drew1 | refine below_set ?_ GE326.out) | exact HB.out)⟩⟩
                                  · rw [if_neg c53] at H
                                    have c53b0 : (t345 != (decide (t339 ≤ 0))) = false := by simpa using c53
                                    (try (have c53b1 : decide (t345 = (decide (t339 ≤ 0))) = true := by simpa using c53))
                                    (try (have c53b2 : (t345 == (decide (t339 ≤ 0))) = true := by simpa using c53))
                                    clear c53
                                    have H' := Aside0.mk H
                                    clear H
                                    go_wp2
                                    go_meet
                                    case rel => exact ⟨_, ((true != (decide (t329 > t332)))), (by first | rfl | (simp; done) | (simp [*]; done)), H', ⟨by have := HJ8.out; have := HJ25.out; have := HJ35.out; first | omega | exact Nat.le_refl _⟩, ⟨by (with_reducible repeat (first | refine blk_drewN ?_ _ | refine blk_drew ?_ | refine blk_alloc ?_ _)); exact BK326.out⟩, ⟨by repeat (first | (with_reducible first | exact HB.out | apply below_alloc | apply pw_below_drewN | apply below_drew1 | refine below_set ?_ GE326.out) | exact HB.out)⟩⟩
                              · replace c51 := Bool.eq_false_iff.mpr c51
                                subst c51
                                have H1 : (laws_FnValue.j3 kj35 l0 (false != (decide (t329 > t332)))) = some r := by rw [if_neg (show ¬ (false = true) by decide)] at H; exact H
                                clear H
                                have H := H1
                                clear H1
                                have H' := Aside0.mk H
                                clear H
                                go_wp2
                                go_meet
                                case rel => exact ⟨_, ((false != (decide (t329 > t332)))), (by first | rfl | (simp; done) | (simp [*]; done)), H', ⟨by have := HJ8.out; have := HJ25.out; have := HJ35.out; first | omega | exact Nat.le_refl _⟩, ⟨by (with_reducible repeat (first | refine blk_drewN ?_ _ | refine blk_drew ?_ | refine blk_alloc ?_ _)); exact BK326.out⟩, ⟨by repeat (first | (with_reducible first | exact HB.out | apply below_alloc | apply pw_below_drewN | apply below_drew1 | refine below_set ?_ GE326.out) | exact HB.out)⟩⟩
                          · replace c49 := Bool.eq_false_iff.mpr c49
                            subst c49
                            have H1 : (if t341 = true then (if t339 > t340 then (laws_FnValue.j3 kj35 l0 true) else (if (t345 != (decide (t339 ≤ 0))) = true then (laws_FnValue.j3 kj35 l0 true) else (laws_FnValue.j3 kj35 l0 false))) else (laws_FnValue.j3 kj35 l0 false)) = some r := by rw [if_neg (show ¬ (false = true) by decide)] at H; exact H
                            clear H
                            have H := H1
                            clear H1
                            by_cases c54 : t341 = true
                            · subst c54
                              have H1 : (if t339 > t340 then (laws_FnValue.j3 kj35 l0 true) else (if (t345 != (decide (t339 ≤ 0))) = true then (laws_FnValue.j3 kj35 l0 true) else (laws_FnValue.j3 kj35 l0 false))) = some r := by rw [if_pos rfl] at H; exact H
                              clear H
                              have H := H1
                              clear H1
                              by_cases c55 : t339 > t340
                              · rw [if_pos c55] at H
                                have c55b0 : decide (t340 < t339) = true := decide_eq_true c55
                                clear c55
                                have H' := Aside0.mk H
                                clear H
                                go_wp2
                                go_meet
                                case rel => exact ⟨_, (true), (by first | rfl | (simp; done) | (simp [*]; done)), H', ⟨by have := HJ8.out; have := HJ25.out; have := HJ35.out; first | omega | exact Nat.le_refl _⟩, ⟨by (with_reducible repeat (first | refine blk_drewN ?_ _ | refine blk_drew ?_ | refine blk_alloc ?_ _)); exact BK326.out⟩, ⟨by repeat (first | (with_reducible first | exact HB.out | apply below_alloc | apply pw_below_drewN | apply below_drew1 | refine below_set ?_ GE326.out) | exact HB.out)⟩⟩
                              · rw [if_neg c55] at H
                                have c55b0 : decide (t340 < t339) = false := decide_eq_false c55
                                clear c55
                                by_cases c56 : (t345 != (decide (t339 ≤ 0))) = true
                                · rw [if_pos c56] at H
                                  have c56b0 : (t345 != (decide (t339 ≤ 0))) = true := c56
                                  (try (have c56b1 : decide (t345 = (decide (t339 ≤ 0))) = false := by simpa using c56))
                                  (try (have c56b2 : (t345 == (decide (t339 ≤ 0))) = false := by simpa using c56))
                                  (try (have c56b3 : ¬ (t345 = (decide (t339 ≤ 0))) := by simpa using c56))
                                  clear c56
                                  have H' := Aside0.mk H
                                  clear H
                                  go_wp2
                                  go_meet
                                  case rel => exact ⟨_, (true), (by first | rfl | (simp; done) | (simp [*]; done)), H', ⟨by have := HJ8.out; have := HJ25.out; have := HJ35.out; first | omega | exact Nat.le_refl _⟩, ⟨by (with_reducible repeat (first | refine blk_drewN ?_ _ | refine blk_drew ?_ | refine blk_alloc ?_ _)); exact BK326.out⟩, ⟨by repeat (first | (with_reducible first | exact HB.out | apply below_alloc | apply pw_below_drewN | apply below_drew1 | refine below_set ?_ GE326.out) | exact HB.out)⟩⟩
                                · rw [if_neg c56] at H
                                  have c56b0 : (t345 != (decide (t339 ≤ 0))) = false := by simpa using c56
                                  (try (have c56b1 : decide (t345 = (decide (t339 ≤ 0))) = true := by simpa using c56))
                                  (try (have c56b2 : (t345 == (decide (t339 ≤ 0))) = true := by simpa using c56))
                                  clear c56
                                  have H' := Aside0.mk H
                                  clear H
                                  go_wp2
                                  go_meet
                                  case rel => exact ⟨_, (false), (by first | rfl | (simp; done) | (simp [*]; done)), H', ⟨by have := HJ8.out; have := HJ25.out; have := HJ35.out; first | omega | exact Nat.le_refl _⟩, ⟨by (with_reducible repeat (first | refine blk_drewN ?_ _ | refine blk_drew ?_ | refine blk_alloc ?_ _)); exact BK326.out⟩, ⟨by repeat (first | (with_reducible first | exact HB.out | apply below_alloc | apply pw_below_drewN | apply below_drew1 | refine below_set ?_ GE326.out) | exact HB.out)⟩⟩
                            · replace c54 := Bool.eq_false_iff.mpr c54
                              subst c54
                              have H1 : (laws_FnValue.j3 kj35 l0 false) = some r := by rw [if_neg (show ¬ (false = true) by decide)] at H; exact H
                              clear H
                              have H := H1
                              clear H1
                              have H' := Aside0.mk H
                              clear H
                              go_wp2
                              go_meet
                              case rel => exact ⟨_, (false), (by first | rfl | (simp; done) | (simp [*]; done)), H', ⟨by have := HJ8.out; have := HJ25.out; have := HJ35.out; first | omega | exact Nat.le_refl _⟩, ⟨by (with_reducible repeat (first | refine blk_drewN ?_ _ | refine blk_drew ?_ | refine blk_alloc ?_ _)); exact BK326.out⟩, ⟨by repeat (first | (with_reducible first | exact HB.out | apply below_alloc | apply pw_below_drewN | apply below_drew1 | refine below_set ?_ GE326.out) | exact HB.out)⟩⟩
                      case rest =>
                        as_aux_lemma =>
                        clear HC45
                        try clear c1
                        try clear c2
                        try clear p2
                        try clear c3
                        try clear c4
                        try clear c5
                        try clear c9
                        try clear c17
                        try clear c18
                        try clear c19
                        try clear c20
                        try clear c21
                        try clear c21b0
                        try clear c21b1
                        try clear c22
                        try clear c22b0
                        try clear c22b1
                        try clear c22b2
                        try clear c23
                        try clear c23b0
                        try clear c23b1
                        try clear c23b2
                        try clear c24
                        try clear c25
                        try clear c29
                        try clear c29b0
                        try clear c29b1
                        try clear c30
                        try clear c30b0
                        try clear c30b1
                        try clear c30b2
                        try clear c31
                        try clear c32
                        try clear c32b0
                        try clear c33
                        try clear c41
                        try clear c41b0
                        try clear c41b1
                        try clear c42
                        try clear c42b0
                        try clear c42b1
                        try clear c43
                        try clear c48
                        try clear c48b0
                        try clear c48b1
                        try clear c48b2
                        try clear c49
                        try clear c50
                        try clear c50b0
                        try clear c50b1
                        try clear c50b2
                        try clear c51
                        try clear c52
                        try clear c52b0
                        try clear c53
                        try clear c53b0
                        try clear c53b1
                        try clear c53b2
                        try clear c54
                        try clear c55
                        try clear c55b0
                        try clear c56
                        try clear c56b0
                        try clear c56b1
                        try clear c56b2
                        try clear hcz12_0
                        try clear hcz12_1
                        try clear hcz15_0
                        try clear hcz15_1
                        try clear hcz17_0
                        try clear hcz17_1
                        try clear hcz19_0
                        try clear hcz19_1
                        try clear hcz27_0
                        try clear hcz27_1
                        try clear hcz37_0
                        try clear hcz37_1
                        try clear hcz39_0
                        try clear hcz39_1
                        try clear hcz46_0
                        try clear hcz46_1
                        try clear hfz12_0
                        try clear hfz12_1
                        try clear hfz15_0
                        try clear hfz15_1
                        try clear hfz17_0
                        try clear hfz17_1
                        try clear hfz19_0
                        try clear hfz19_1
                        try clear hfz27_0
                        try clear hfz27_1
                        try clear hfz37_0
                        try clear hfz37_1
                        try clear hfz39_0
                        try clear hfz39_1
                        try clear hfz46_0
                        try clear hfz46_1
                        try clear p2
                        obtain ⟨kq, x179_44, rfl, HA, HJ44, BK326, HB⟩ := hcut
                        cases kq with
                        | zero => exact absurd HA.out (by simp [laws_FnValue.j3])
                        | succ kj44 =>
                          have H := HA.out
                          clear HA
                          simp only [laws_FnValue.j3] at H
                          by_cases c57 : x179_44 = true
                          · subst c57
                            have H1 : (some false) = some r := by rw [if_pos rfl] at H; exact H
                            clear H
                            have H := H1
                            clear H1
                            obtain rfl := Option.some.inj H
                            go_wp2
                            go_ret
                            exact ⟨by first | rfl | (simp [errW_none, errW_some] <;> rfl) | (simp [*, errW_none, errW_some] <;> rfl), by repeat (first | (with_reducible first | exact HB.out | apply below_alloc | apply pw_below_drewN | apply below_drew1 | refine below_set ?_ GE326.out) | exact HB.out)⟩
                          · replace c57 := Bool.eq_false_iff.mpr c57
                            subst c57
                            have H1 : ((spec_DrawShouldProtect.f l0).bind fun bt347 => ((impl_ShouldProtect.f bt347.1 bt347.2.1 bt347.2.2.1 bt347.2.2.2).bind fun bt352 => ((spec_ShouldProtect.f bt347.1 bt347.2.1 bt347.2.2.1 bt347.2.2.2).bind fun bt354 => (if (bt352.1 == bt354.1) = true then (some (bt352.2 == bt354.2)) else (some false))))) = some r := by rw [if_neg (show ¬ (false = true) by decide)] at H; exact H
                            clear H
                            have H := H1
                            clear H1
                            replace H := Option.bind_eq_some_iff.mp H
                            obtain ⟨⟨t347, t348, t349, t350⟩, A580, H⟩ := H
                            replace H : ((impl_ShouldProtect.f t347 t348 t349 t350).bind fun bt352 => ((spec_ShouldProtect.f t347 t348 t349 t350).bind fun bt354 => (if (bt352.1 == bt354.1) = true then (some (bt352.2 == bt354.2)) else (some false)))) = some r := H
                            have A58 := Aside0.mk A580
                            clear A580
                            replace H := Option.bind_eq_some_iff.mp H
                            obtain ⟨⟨t352, t353⟩, A590, H⟩ := H
                            replace H : ((spec_ShouldProtect.f t347 t348 t349 t350).bind fun bt354 => (if (t352 == bt354.1) = true then (some (t353 == bt354.2)) else (some false))) = some r := H
                            have A59 := Aside0.mk A590
                            clear A590
                            replace H := Option.bind_eq_some_iff.mp H
                            obtain ⟨⟨t354, t355⟩, A600, H⟩ := H
                            replace H : (if (t352 == t354) = true then (some (t353 == t355)) else (some false)) = some r := H
                            have A60 := Aside0.mk A600
                            clear A600
                            by_cases c61 : (t352 == t354) = true
                            · rw [if_pos c61] at H
                              have c61b0 : (t352 == t354) = true := c61
                              (try (have c61b1 : decide (t352 = t354) = true := by simpa using c61))
                              (try (have c61b2 : (t352 == t354) = true := by simpa using c61))
                              clear c61
                              obtain rfl := Option.some.inj H
                              go_wp2_with (first | ((with_reducible refine gate_callee (f := 26) rfl ?_); refine goesL_ (some 182) rfl rfl Try.func26 (by kernel_rfl) rfl #[.slice A0 l0.length c0] rfl (by (try simp only [List.map_toArray, List.map_cons, List.map_nil]); first | done | rfl | (simp only [List.length_drop, List.length_take]; rfl)) ?_; (with_reducible refine (spec_DrawShouldProtect.calls _ _ l0 t347 t348 t349 t350 _ ?side1 ?side2 A58.out).mono ?_); (case side1 => repeat (first | exact (Kd.C_below HR0.out HB.out) | (with_reducible refine Kd.C_alloc ?_ _) | (with_reducible refine Kd.C_drewN ?_ _) | (with_reducible refine Kd.C_drew ?_))); (case side2 => exact HC0.out); rintro e w62 ⟨rfl, hb⟩; refine ⟨_, rfl, ?_⟩; have n0_ := Aside0.mk (blk_below (g := gb326) (o := .cells #[.int .i64 t321, .int .i64 t322] 25 (0, 0)) (by (with_reducible repeat (first | refine blk_drewN ?_ _ | refine blk_drew ?_ | refine blk_alloc ?_ _)); exact BK326.out) hb); have n1_ := Aside0.mk (below_step (by repeat (first | (with_reducible first | exact HB.out | apply below_alloc | apply pw_below_drewN | apply below_drew1 | refine below_set ?_ GE326.out) | exact HB.out)) hb); clear BK326; clear HB; have BK326 := n0_; have HB := n1_; clear n0_ n1_; (try clear hb); (try clear hb2); (try clear hk); (try clear hi)) | ((with_reducible refine gate_dst (N := 25) rfl ?_); refine box_event ?hg (N := 25) ?hd (cs := #[.int .i64 0, .int .i64 0]) (t := 25) ?hr ?_; (case hd => rfl); (case hg => rfl); (case hr => first | (go_simp; done) | (go_simp; rfl)); intro gb351 hg w63 hbox hb; have n0_ := Aside0.mk (blk_below (g := gb326) (o := .cells #[.int .i64 t321, .int .i64 t322] 25 (0, 0)) (by (with_reducible repeat (first | refine blk_drewN ?_ _ | refine blk_drew ?_ | refine blk_alloc ?_ _)); exact BK326.out) hb); have n1_ := Aside0.mk (below_step (by repeat (first | (with_reducible first | exact HB.out | apply below_alloc | apply pw_below_drewN | apply below_drew1 | refine below_set ?_ GE326.out) | exact HB.out)) hb); have n2_ := Aside0.mk (hbox); have n3_ := Aside0.mk ((by rw [hg]; exact (below_size (by repeat (first | (with_reducible first | exact HB.out | apply below_alloc | apply pw_below_drewN | apply below_drew1 | refine below_set ?_ GE326.out) | exact HB.out))) : w.heap.size ≤ gb351)); have n4_ := Aside0.mk ((by rw [hg]; exact (below_size (by repeat (first | (with_reducible first | exact HB.out | apply below_alloc | apply pw_below_drewN | apply below_drew1 | refine below_set ?_ GE326.out) | exact HB.out))) : w.heap.size ≤ gb351)); have n5_ := Aside0.mk ((by rw [hg]; exact Nat.ne_of_lt (blk_lt (g := gb326) (o := .cells #[.int .i64 t321, .int .i64 t322] 25 (0, 0)) (by (with_reducible repeat (first | refine blk_drewN ?_ _ | refine blk_drew ?_ | refine blk_alloc ?_ _)); exact BK326.out)) : gb326 ≠ gb351)); have n6_ := Aside0.mk ((by rw [hg]; exact Nat.ne_of_gt (blk_lt (g := gb326) (o := .cells #[.int .i64 t321, .int .i64 t322] 25 (0, 0)) (by (with_reducible repeat (first | refine blk_drewN ?_ _ | refine blk_drew ?_ | refine blk_alloc ?_ _)); exact BK326.out)) : gb351 ≠ gb326)); clear BK326; clear HB; have BK326 := n0_; have HB := n1_; have BK351 := n2_; have GW351 := n3_; have GE351 := n4_; have NB326_351 := n5_; have NB351_326 := n6_; clear n0_ n1_ n2_ n3_ n4_ n5_ n6_; clear hb hbox hg; have hnb64 := NB351_326.out; have hnc64 := NB326_351.out; have hcz65_0 : w63.cell? ⟨gb351, 0, none⟩ = some (.int .i64 0) := (blk_cell BK351.out 0).trans rfl; have hcz65_1 : w63.cell? ⟨gb351, 1, none⟩ = some (.int .i64 0) := (blk_cell BK351.out 1).trans rfl; have hfz65_0 := blk_frozen BK351.out 0; have hfz65_1 := blk_frozen BK351.out 1) | ((with_reducible refine gate_callee (f := 27) rfl ?_); refine goesL_ (some 190) rfl rfl Try.func27 (by kernel_rfl) rfl #[.agg #[.int .i64 t347, .int .i64 t348], .int .i64 t349, .int .i64 t350] rfl (by (try simp only [List.map_toArray, List.map_cons, List.map_nil]); first | done | rfl | (simp only [List.length_drop, List.length_take]; rfl)) ?_; (with_reducible refine (impl_ShouldProtect.calls t347 t348 t349 t350 t352 t353 _ A59.out).mono ?_); rintro e w66 ⟨rfl, hb⟩; refine ⟨_, rfl, ?_⟩; have n0_ := Aside0.mk (blk_below (g := gb326) (o := .cells #[.int .i64 t321, .int .i64 t322] 25 (0, 0)) (by (with_reducible repeat (first | refine blk_drewN ?_ _ | refine blk_drew ?_ | refine blk_alloc ?_ _)); refine blk_far ?_ NB326_351.out _; (with_reducible repeat (first | refine blk_drewN ?_ _ | refine blk_drew ?_ | refine blk_alloc ?_ _)); refine blk_far ?_ NB326_351.out _; (with_reducible repeat (first | refine blk_drewN ?_ _ | refine blk_drew ?_ | refine blk_alloc ?_ _)); exact BK326.out) hb); have n1_ := Aside0.mk (blk_below (g := gb351) (o := .cells #[.int .i64 t347, .int .i64 t348] 25 (0, 0)) (by (with_reducible repeat (first | refine blk_drewN ?_ _ | refine blk_drew ?_ | refine blk_alloc ?_ _)); refine blk_put (cs := #[.int .i64 t347, .int .i64 0]) ?_ 1 _ rfl; (with_reducible repeat (first | refine blk_drewN ?_ _ | refine blk_drew ?_ | refine blk_alloc ?_ _)); refine blk_put (cs := #[.int .i64 0, .int .i64 0]) ?_ 0 _ rfl; (with_reducible repeat (first | refine blk_drewN ?_ _ | refine blk_drew ?_ | refine blk_alloc ?_ _)); exact BK351.out) hb); have n2_ := Aside0.mk (below_step (by repeat (first | (with_reducible first | exact HB.out | apply below_alloc | apply pw_below_drewN | apply below_drew1 | refine below_set ?_ GE326.out | refine below_set ?_ GE351.out) | exact HB.out)) hb); clear BK326; clear BK351; clear HB; have BK326 := n0_; have BK351 := n1_; have HB := n2_; clear n0_ n1_ n2_; (try clear hb); (try clear hb2); (try clear hk); (try clear hi); have hcz67_0 : w66.cell? ⟨gb351, 0, none⟩ = some (.int .i64 t347) := (blk_cell BK351.out 0).trans rfl; have hcz67_1 : w66.cell? ⟨gb351, 1, none⟩ = some (.int .i64 t348) := (blk_cell BK351.out 1).trans rfl; have hfz67_0 := blk_frozen BK351.out 0; have hfz67_1 := blk_frozen BK351.out 1) | ((with_reducible refine gate_callee (f := 28) rfl ?_); refine goesL_ (some 197) rfl rfl Try.func28 (by kernel_rfl) rfl #[.agg #[.int .i64 t347, .int .i64 t348], .int .i64 t349, .int .i64 t350] rfl (by (try simp only [List.map_toArray, List.map_cons, List.map_nil]); first | done | rfl | (simp only [List.length_drop, List.length_take]; rfl)) ?_; (with_reducible refine (spec_ShouldProtect.calls t347 t348 t349 t350 t354 t355 _ A60.out).mono ?_); rintro e w68 ⟨rfl, hb⟩; refine ⟨_, rfl, ?_⟩; have n0_ := Aside0.mk (blk_below (g := gb326) (o := .cells #[.int .i64 t321, .int .i64 t322] 25 (0, 0)) (by (with_reducible repeat (first | refine blk_drewN ?_ _ | refine blk_drew ?_ | refine blk_alloc ?_ _)); exact BK326.out) hb); have n1_ := Aside0.mk (blk_below (g := gb351) (o := .cells #[.int .i64 t347, .int .i64 t348] 25 (0, 0)) (by (with_reducible repeat (first | refine blk_drewN ?_ _ | refine blk_drew ?_ | refine blk_alloc ?_ _)); exact BK351.out) hb); have n2_ := Aside0.mk (below_step (by repeat (first | (with_reducible first | exact HB.out | apply below_alloc | apply pw_below_drewN | apply below_drew1 | refine below_set ?_ GE326.out | refine below_set ?_ GE351.out) | exact HB.out)) hb); clear BK326; clear BK351; clear HB; have BK326 := n0_; have BK351 := n1_; have HB := n2_; clear n0_ n1_ n2_; (try clear hb); (try clear hb2); (try clear hk); (try clear hi)))
                              go_ret
                              exact ⟨by first | rfl | (simp [errW_none, errW_some] <;> rfl) | (simp [*, errW_none, errW_some] <;> rfl), by repeat (first | (with_reducible first | exact HB.out | apply below_alloc | apply pw_below_drewN | apply below_drew1 | refine below_set ?_ GE326.out | refine below_set ?_ GE351.out) | exact HB.out)⟩
                            · rw [if_neg c61] at H
                              have c61b0 : (t352 == t354) = false := by simpa using c61
                              (try (have c61b1 : decide (t352 = t354) = false := by simpa using c61))
                              (try (have c61b2 : (t352 == t354) = false := by simpa using c61))
                              (try (have c61b3 : ¬ (t352 = t354) := by simpa using c61))
                              clear c61
                              obtain rfl := Option.some.inj H
                              go_wp2_with (first | ((with_reducible refine gate_callee (f := 26) rfl ?_); refine goesL_ (some 182) rfl rfl Try.func26 (by kernel_rfl) rfl #[.slice A0 l0.length c0] rfl (by (try simp only [List.map_toArray, List.map_cons, List.map_nil]); first | done | rfl | (simp only [List.length_drop, List.length_take]; rfl)) ?_; (with_reducible refine (spec_DrawShouldProtect.calls _ _ l0 t347 t348 t349 t350 _ ?side1 ?side2 A58.out).mono ?_); (case side1 => repeat (first | exact (Kd.C_below HR0.out HB.out) | (with_reducible refine Kd.C_alloc ?_ _) | (with_reducible refine Kd.C_drewN ?_ _) | (with_reducible refine Kd.C_drew ?_))); (case side2 => exact HC0.out); rintro e w69 ⟨rfl, hb⟩; refine ⟨_, rfl, ?_⟩; have n0_ := Aside0.mk (blk_below (g := gb326) (o := .cells #[.int .i64 t321, .int .i64 t322] 25 (0, 0)) (by (with_reducible repeat (first | refine blk_drewN ?_ _ | refine blk_drew ?_ | refine blk_alloc ?_ _)); exact BK326.out) hb); have n1_ := Aside0.mk (below_step (by repeat (first | (with_reducible first | exact HB.out | apply below_alloc | apply pw_below_drewN | apply below_drew1 | refine below_set ?_ GE326.out) | exact HB.out)) hb); clear BK326; clear HB; have BK326 := n0_; have HB := n1_; clear n0_ n1_; (try clear hb); (try clear hb2); (try clear hk); (try clear hi)) | ((with_reducible refine gate_dst (N := 25) rfl ?_); refine box_event ?hg (N := 25) ?hd (cs := #[.int .i64 0, .int .i64 0]) (t := 25) ?hr ?_; (case hd => rfl); (case hg => rfl); (case hr => first | (go_simp; done) | (go_simp; rfl)); intro gb351 hg w70 hbox hb; have n0_ := Aside0.mk (blk_below (g := gb326) (o := .cells #[.int .i64 t321, .int .i64 t322] 25 (0, 0)) (by (with_reducible repeat (first | refine blk_drewN ?_ _ | refine blk_drew ?_ | refine blk_alloc ?_ _)); exact BK326.out) hb); have n1_ := Aside0.mk (below_step (by repeat (first | (with_reducible first | exact HB.out | apply below_alloc | apply pw_below_drewN | apply below_drew1 | refine below_set ?_ GE326.out) | exact HB.out)) hb); have n2_ := Aside0.mk (hbox); have n3_ := Aside0.mk ((by rw [hg]; exact (below_size (by repeat (first | (with_reducible first | exact HB.out | apply below_alloc | apply pw_below_drewN | apply below_drew1 | refine below_set ?_ GE326.out) | exact HB.out))) : w.heap.size ≤ gb351)); have n4_ := Aside0.mk ((by rw [hg]; exact (below_size (by repeat (first | (with_reducible first | exact HB.out | apply below_alloc | apply pw_below_drewN | apply below_drew1 | refine below_set ?_ GE326.out) | exact HB.out))) : w.heap.size ≤ gb351)); have n5_ := Aside0.mk ((by rw [hg]; exact Nat.ne_of_lt (blk_lt (g := gb326) (o := .cells #[.int .i64 t321, .int .i64 t322] 25 (0, 0)) (by (with_reducible repeat (first | refine blk_drewN ?_ _ | refine blk_drew ?_ | refine blk_alloc ?_ _)); exact BK326.out)) : gb326 ≠ gb351)); have n6_ := Aside0.mk ((by rw [hg]; exact Nat.ne_of_gt (blk_lt (g := gb326) (o := .cells #[.int .i64 t321, .int .i64 t322] 25 (0, 0)) (by (with_reducible repeat (first | refine blk_drewN ?_ _ | refine blk_drew ?_ | refine blk_alloc ?_ _)); exact BK326.out)) : gb351 ≠ gb326)); clear BK326; clear HB; have BK326 := n0_; have HB := n1_; have BK351 := n2_; have GW351 := n3_; have GE351 := n4_; have NB326_351 := n5_; have NB351_326 := n6_; clear n0_ n1_ n2_ n3_ n4_ n5_ n6_; clear hb hbox hg; have hnb71 := NB351_326.out; have hnc71 := NB326_351.out; have hcz72_0 : w70.cell? ⟨gb351, 0, none⟩ = some (.int .i64 0) := (blk_cell BK351.out 0).trans rfl; have hcz72_1 : w70.cell? ⟨gb351, 1, none⟩ = some (.int .i64 0) := (blk_cell BK351.out 1).trans rfl; have hfz72_0 := blk_frozen BK351.out 0; have hfz72_1 := blk_frozen BK351.out 1) | ((with_reducible refine gate_callee (f := 27) rfl ?_); refine goesL_ (some 190) rfl rfl Try.func27 (by kernel_rfl) rfl #[.agg #[.int .i64 t347, .int .i64 t348], .int .i64 t349, .int .i64 t350] rfl (by (try simp only [List.map_toArray, List.map_cons, List.map_nil]); first | done | rfl | (simp only [List.length_drop, List.length_take]; rfl)) ?_; (with_reducible refine (impl_ShouldProtect.calls t347 t348 t349 t350 t352 t353 _ A59.out).mono ?_); rintro e w73 ⟨rfl, hb⟩; refine ⟨_, rfl, ?_⟩; have n0_ := Aside0.mk (blk_below (g := gb326) (o := .cells #[.int .i64 t321, .int .i64 t322] 25 (0, 0)) (by (with_reducible repeat (first | refine blk_drewN ?_ _ | refine blk_drew ?_ | refine blk_alloc ?_ _)); refine blk_far ?_ NB326_351.out _; (with_reducible repeat (first | refine blk_drewN ?_ _ | refine blk_drew ?_ | refine blk_alloc ?_ _)); refine blk_far ?_ NB326_351.out _; (with_reducible repeat (first | refine blk_drewN ?_ _ | refine blk_drew ?_ | refine blk_alloc ?_ _)); exact BK326.out) hb); have n1_ := Aside0.mk (blk_below (g := gb351) (o := .cells #[.int .i64 t347, .int .i64 t348] 25 (0, 0)) (by (with_reducible repeat (first | refine blk_drewN ?_ _ | refine blk_drew ?_ | refine blk_alloc ?_ _)); refine blk_put (cs := #[.int .i64 t347, .int .i64 0]) ?_ 1 _ rfl; (with_reducible repeat (first | refine blk_drewN ?_ _ | refine blk_drew ?_ | refine blk_alloc ?_ _)); refine blk_put (cs := #[.int .i64 0, .int .i64 0]) ?_ 0 _ rfl; (with_reducible repeat (first | refine blk_drewN ?_ _ | refine blk_drew ?_ | refine blk_alloc ?_ _)); exact BK351.out) hb); have n2_ := Aside0.mk (below_step (by repeat (first | (with_reducible first | exact HB.out | apply below_alloc | apply pw_below_drewN | apply below_drew1 | refine below_set ?_ GE326.out | refine below_set ?_ GE351.out) | exact HB.out)) hb); clear BK326; clear BK351; clear HB; have BK326 := n0_; have BK351 := n1_; have HB := n2_; clear n0_ n1_ n2_; (try clear hb); (try clear hb2); (try clear hk); (try clear hi); have hcz74_0 : w73.cell? ⟨gb351, 0, none⟩ = some (.int .i64 t347) := (blk_cell BK351.out 0).trans rfl; have hcz74_1 : w73.cell? ⟨gb351, 1, none⟩ = some (.int .i64 t348) := (blk_cell BK351.out 1).trans rfl; have hfz74_0 := blk_frozen BK351.out 0; have hfz74_1 := blk_frozen BK351.out 1) | ((with_reducible refine gate_callee (f := 28) rfl ?_); refine goesL_ (some 197) rfl rfl Try.func28 (by kernel_rfl) rfl #[.agg #[.int .i64 t347, .int .i64 t348], .int .i64 t349, .int .i64 t350] rfl (by (try simp only [List.map_toArray, List.map_cons, List.map_nil]); first | done | rfl | (simp only [List.length_drop, List.length_take]; rfl)) ?_; (with_reducible refine (spec_ShouldProtect.calls t347 t348 t349 t350 t354 t355 _ A60.out).mono ?_); rintro e w75 ⟨rfl, hb⟩; refine ⟨_, rfl, ?_⟩; have n0_ := Aside0.mk (blk_below (g := gb326) (o := .cells #[.int .i64 t321, .int .i64 t322] 25 (0, 0)) (by (with_reducible repeat (first | refine blk_drewN ?_ _ | refine blk_drew ?_ | refine blk_alloc ?_ _)); exact BK326.out) hb); have n1_ := Aside0.mk (blk_below (g := gb351) (o := .cells #[.int .i64 t347, .int .i64 t348] 25 (0, 0)) (by (with_reducible repeat (first | refine blk_drewN ?_ _ | refine blk_drew ?_ | refine blk_alloc ?_ _)); exact BK351.out) hb); have n2_ := Aside0.mk (below_step (by repeat (first | (with_reducible first | exact HB.out | apply below_alloc | apply pw_below_drewN | apply below_drew1 | refine below_set ?_ GE326.out | refine below_set ?_ GE351.out) | exact HB.out)) hb); clear BK326; clear BK351; clear HB; have BK326 := n0_; have BK351 := n1_; have HB := n2_; clear n0_ n1_ n2_; (try clear hb); (try clear hb2); (try clear hk); (try clear hi)))
                              go_ret
                              exact ⟨by first | rfl | (simp [errW_none, errW_some] <;> rfl) | (simp [*, errW_none, errW_some] <;> rfl), by repeat (first | (with_reducible first | exact HB.out | apply below_alloc | apply pw_below_drewN | apply below_drew1 | refine below_set ?_ GE326.out | refine below_set ?_ GE351.out) | exact HB.out)⟩

/-- THE ONE PURE STATEMENT of laws_FnValue: yours. -/
def laws_FnValue.Pure : Prop := ∀ (l0 : List Int), l0.length ≤ maxLen → l0.length * 1 ≤ 140737488351232 → (∀ x ∈ l0, (Lit.int .u8 x).wf = true) → ∃ k, laws_FnValue.f k l0 = some true
theorem laws_FnValue.walk (P : laws_FnValue.Pure) (a0 : Option Addr) (len0 cap0 : Nat) (z0 : List Int) (w : World) (w0 : (a0 = none ∧ len0 = 0 ∧ cap0 = 0 ∧ z0 = []) ∨ ∃ x, a0 = some x ∧ len0 ≤ cap0 ∧ cap0 ≤ maxLen ∧ z0.length = cap0 ∧ (∀ i, i < z0.length → w.cell? (x.add i) = some (.int .u8 (z0.getD i 0))) ∧ ∀ n ∈ z0, (Lit.int .u8 n).wf = true) (y0 : len0 * 1 ≤ 140737488351232) :
    Calls Try.prog 4 #[.slice a0 len0 cap0] w fun e w' => e = .returned (.bool true) ∧ Below w.heap.size w w' := by
  obtain ⟨l0, rfl, hr0, hm0, hw0, hc0⟩ := ReadsInt.ofRowC w0
  obtain ⟨k, h⟩ := P l0 hm0 y0 hw0
  refine (laws_FnValue.calls k _ _ l0 true w (Kd.C_of_reads (d := (0 : Int)) (h1 := fun _ => rfl) hr0) hc0 h).mono ?_
  rintro e w' ⟨rfl, hd⟩
  exact ⟨rfl, hd⟩

end Go.Proofs.Ytmgckbjdhjbciaa.XFnValue
