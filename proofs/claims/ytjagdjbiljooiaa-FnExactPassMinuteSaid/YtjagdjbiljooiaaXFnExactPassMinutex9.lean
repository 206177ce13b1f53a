-- written by wip/tools/xprint.py (a program of this project) out of the translation
import Derived.Test.YtjagdjbiljooiaaXFnExactPassMinutex0
import Derived.Test.YtjagdjbiljooiaaXFnExactPassMinutex1
import Derived.Test.YtjagdjbiljooiaaXFnExactPassMinutex2
import Derived.Test.YtjagdjbiljooiaaXFnExactPassMinutex4
import Derived.Test.YtjagdjbiljooiaaXFnExactPassMinutex7
import Derived.Test.YtjagdjbiljooiaaXFnExactPassMinutex8
namespace Go.Proofs.Ytjagdjbiljooiaa.XFnExactPassMinute
open Go.RowKit Go.Proofs.YtjagdjbiljooiaaW.PrintWords Go.Proofs.YtjagdjbiljooiaaW.PrintLast Go.Proofs.YtjagdjbiljooiaaW.PrintMore
attribute [local go_sem] max2_int min2_int max_two min_two max_three min_three max_four min_four   -- for this text's walks alone
set_option linter.unusedVariables false
set_option linter.unusedSimpArgs false

/-! ### laws_FnExactPassMinute: function 9 -/
mutual
def laws_FnExactPassMinute.j0 : Nat → List (S96) → Int → List (S94) → List Int → Bool → List (S94) → List (S94) → List Int → Bool → Bool → Option (Bool)
  | 0, _, _, _, _, _, _, _, _, _, _ => none
  | k + 1, x0, x1, x6, x7, x8, x9, x10, x11, x12, x55 => if x55 = true then (some false) else ((laws_toDeliveryS.f k x0).bind fun t221 => ((laws_eqDeliveryS.f k x9 t221).bind fun t224 => (if t224 = true then ((laws_markDeliveryS.f k x9 1).bind fun bt225 => (if bt225.1 < 0 then (laws_FnExactPassMinute.j1 k x0 x1 x6 x7 x8 x10 x11 true) else ((laws_eqDeliveryS.f k x10 x6).bind fun t227 => (if t227 = true then ((laws_eqIntS.f k x11 x7).bind fun t228 => (if t228 = true then (laws_FnExactPassMinute.j1 k x0 x1 x6 x7 x8 x10 x11 (x12 != x8)) else (laws_FnExactPassMinute.j1 k x0 x1 x6 x7 x8 x10 x11 true))) else (laws_FnExactPassMinute.j1 k x0 x1 x6 x7 x8 x10 x11 true))))) else (some false))))
def laws_FnExactPassMinute.j1 : Nat → List (S96) → Int → List (S94) → List Int → Bool → List (S94) → List Int → Bool → Option (Bool)
  | 0, _, _, _, _, _, _, _, _ => none
  | k + 1, x0, x1, x6, x7, x8, x10, x11, x82 => if x82 = true then (some false) else ((laws_markDeliveryS.f k x10 1).bind fun bt229 => ((laws_markIntS.f k x11 bt229.1).bind fun bt231 => ((laws_heldDeliveryS.f k bt229.2 1).bind fun t233 => (if t233 < 0 then (some false) else ((laws_heldIntS.f k bt231.2 t233).bind fun t234 => (if t234 < 0 then (some false) else (if t234 = bt231.1 then ((laws_toDeliveryS.f k x0).bind fun t235 => ((impl_PassMinute.f k t235 x1).bind fun bt238 => ((laws_eqDeliveryS.f k bt238.1 x6).bind fun t245 => (if t245 = true then ((laws_eqIntS.f k bt238.2.1 x7).bind fun t246 => (if t246 = true then (laws_FnExactPassMinute.j2 k bt229.2 bt231.2 bt231.1 (bt238.2.2 != x8)) else (laws_FnExactPassMinute.j2 k bt229.2 bt231.2 bt231.1 true))) else (laws_FnExactPassMinute.j2 k bt229.2 bt231.2 bt231.1 true))))) else (some false))))))))
def laws_FnExactPassMinute.j2 : Nat → List (S94) → List Int → Int → Bool → Option (Bool)
  | 0, _, _, _, _ => none
  | k + 1, x10, x11, x14, x124 => if x124 = true then (some false) else ((laws_heldDeliveryS.f k x10 1).bind fun t247 => (if t247 < 0 then (some false) else ((laws_heldIntS.f k x11 t247).bind fun t248 => (if t248 < 0 then (some false) else (if t248 = x14 then (some true) else (some false))))))
end
def laws_FnExactPassMinute.f (k : Nat) (l0 : List (S96)) (a1 : Int) : Option (Bool) := (laws_szDeliveryS.f l0 1048576).bind fun t198 => (if t198 < 0 then (some true) else ((laws_toDeliveryS.f k l0).bind fun t199 => ((spec_PassMinute.f k t199 a1).bind fun bt202 => ((laws_toDeliveryS.f k l0).bind fun t209 => ((impl_PassMinute.f k t209 a1).bind fun bt212 => ((laws_eqDeliveryS.f k bt212.1 bt202.1).bind fun t219 => (if t219 = true then ((laws_eqIntS.f k bt212.2.1 bt202.2.1).bind fun t220 => (if t220 = true then (laws_FnExactPassMinute.j0 k l0 a1 bt202.1 bt202.2.1 bt202.2.2 t209 bt212.1 bt212.2.1 bt212.2.2 (bt212.2.2 != bt202.2.2)) else (laws_FnExactPassMinute.j0 k l0 a1 bt202.1 bt202.2.1 bt202.2.2 t209 bt212.1 bt212.2.1 bt212.2.2 true))) else (laws_FnExactPassMinute.j0 k l0 a1 bt202.1 bt202.2.1 bt202.2.2 t209 bt212.1 bt212.2.1 bt212.2.2 true))))))))
theorem laws_FnExactPassMinute.mono_l : ∀ k, (∀ y0 y1 y2 y3 y4 y5 y6 y7 y8 y9, LeO (laws_FnExactPassMinute.j0 k y0 y1 y2 y3 y4 y5 y6 y7 y8 y9) (laws_FnExactPassMinute.j0 (k + 1) y0 y1 y2 y3 y4 y5 y6 y7 y8 y9)) ∧ (∀ y0 y1 y2 y3 y4 y5 y6 y7, LeO (laws_FnExactPassMinute.j1 k y0 y1 y2 y3 y4 y5 y6 y7) (laws_FnExactPassMinute.j1 (k + 1) y0 y1 y2 y3 y4 y5 y6 y7)) ∧ (∀ y0 y1 y2 y3, LeO (laws_FnExactPassMinute.j2 k y0 y1 y2 y3) (laws_FnExactPassMinute.j2 (k + 1) y0 y1 y2 y3))
  | 0 => ⟨fun _ _ _ _ _ _ _ _ _ _ r h => by simp [laws_FnExactPassMinute.j0] at h, fun _ _ _ _ _ _ _ _ r h => by simp [laws_FnExactPassMinute.j1] at h, fun _ _ _ _ r h => by simp [laws_FnExactPassMinute.j2] at h⟩
  | k + 1 => by
    obtain ⟨ih0, ih1, ih2⟩ := laws_FnExactPassMinute.mono_l k
    refine ⟨?_, ?_, ?_⟩
    · intro y0 y1 y2 y3 y4 y5 y6 y7 y8 y9
      unfold laws_FnExactPassMinute.j0
      repeat' first
      | (with_reducible exact ih0 _ _ _ _ _ _ _ _ _ _)
      | (with_reducible exact ih1 _ _ _ _ _ _ _ _)
      | (with_reducible exact ih2 _ _ _ _)
      | (with_reducible exact impl_PassMinute.mono _ _ _)
      | (with_reducible exact laws_eqDeliveryS.mono _ _ _)
      | (with_reducible exact laws_eqIntS.mono _ _ _)
      | (with_reducible exact laws_heldDeliveryS.mono _ _ _)
      | (with_reducible exact laws_heldIntS.mono _ _ _)
      | (with_reducible exact laws_markDeliveryS.mono _ _ _)
      | (with_reducible exact laws_markIntS.mono _ _ _)
      | (with_reducible exact laws_toDeliveryS.mono _ _)
      | (with_reducible exact spec_PassMinute.mono _ _ _)
      | (with_reducible exact LeO.refl _)
      | (with_reducible exact LeO.none _)
      | (with_reducible refine LeO.ite ?_ ?_)
      | (with_reducible refine LeO.bind ?_ (fun _ => ?_))
      | exact ih0 _ _ _ _ _ _ _ _ _ _
      | exact ih1 _ _ _ _ _ _ _ _
      | exact ih2 _ _ _ _
      | exact impl_PassMinute.mono _ _ _
      | exact laws_eqDeliveryS.mono _ _ _
      | exact laws_eqIntS.mono _ _ _
      | exact laws_heldDeliveryS.mono _ _ _
      | exact laws_heldIntS.mono _ _ _
      | exact laws_markDeliveryS.mono _ _ _
      | exact laws_markIntS.mono _ _ _
      | exact laws_toDeliveryS.mono _ _
      | exact spec_PassMinute.mono _ _ _
      | exact LeO.none _
      | refine LeO.ite ?_ ?_
      | refine LeO.bind ?_ (fun _ => ?_)
    · intro y0 y1 y2 y3 y4 y5 y6 y7
      unfold laws_FnExactPassMinute.j1
      repeat' first
      | (with_reducible exact ih0 _ _ _ _ _ _ _ _ _ _)
      | (with_reducible exact ih1 _ _ _ _ _ _ _ _)
      | (with_reducible exact ih2 _ _ _ _)
      | (with_reducible exact impl_PassMinute.mono _ _ _)
      | (with_reducible exact laws_eqDeliveryS.mono _ _ _)
      | (with_reducible exact laws_eqIntS.mono _ _ _)
      | (with_reducible exact laws_heldDeliveryS.mono _ _ _)
      | (with_reducible exact laws_heldIntS.mono _ _ _)
      | (with_reducible exact laws_markDeliveryS.mono _ _ _)
      | (with_reducible exact laws_markIntS.mono _ _ _)
      | (with_reducible exact laws_toDeliveryS.mono _ _)
      | (with_reducible exact spec_PassMinute.mono _ _ _)
      | (with_reducible exact LeO.refl _)
      | (with_reducible exact LeO.none _)
      | (with_reducible refine LeO.ite ?_ ?_)
      | (with_reducible refine LeO.bind ?_ (fun _ => ?_))
      | exact ih0 _ _ _ _ _ _ _ _ _ _
      | exact ih1 _ _ _ _ _ _ _ _
      | exact ih2 _ _ _ _
      | exact impl_PassMinute.mono _ _ _
      | exact laws_eqDeliveryS.mono _ _ _
      | exact laws_eqIntS.mono _ _ _
      | exact laws_heldDeliveryS.mono _ _ _
      | exact laws_heldIntS.mono _ _ _
      | exact laws_markDeliveryS.mono _ _ _
      | exact laws_markIntS.mono _ _ _
      | exact laws_toDeliveryS.mono _ _
      | exact spec_PassMinute.mono _ _ _
      | exact LeO.none _
      | refine LeO.ite ?_ ?_
      | refine LeO.bind ?_ (fun _ => ?_)
    · intro y0 y1 y2 y3
      unfold laws_FnExactPassMinute.j2
      repeat' first
      | (with_reducible exact ih0 _ _ _ _ _ _ _ _ _ _)
      | (with_reducible exact ih1 _ _ _ _ _ _ _ _)
      | (with_reducible exact ih2 _ _ _ _)
      | (with_reducible exact impl_PassMinute.mono _ _ _)
      | (with_reducible exact laws_eqDeliveryS.mono _ _ _)
      | (with_reducible exact laws_eqIntS.mono _ _ _)
      | (with_reducible exact laws_heldDeliveryS.mono _ _ _)
      | (with_reducible exact laws_heldIntS.mono _ _ _)
      | (with_reducible exact laws_markDeliveryS.mono _ _ _)
      | (with_reducible exact laws_markIntS.mono _ _ _)
      | (with_reducible exact laws_toDeliveryS.mono _ _)
      | (with_reducible exact spec_PassMinute.mono _ _ _)
      | (with_reducible exact LeO.refl _)
      | (with_reducible exact LeO.none _)
      | (with_reducible refine LeO.ite ?_ ?_)
      | (with_reducible refine LeO.bind ?_ (fun _ => ?_))
      | exact ih0 _ _ _ _ _ _ _ _ _ _
      | exact ih1 _ _ _ _ _ _ _ _
      | exact ih2 _ _ _ _
      | exact impl_PassMinute.mono _ _ _
      | exact laws_eqDeliveryS.mono _ _ _
      | exact laws_eqIntS.mono _ _ _
      | exact laws_heldDeliveryS.mono _ _ _
      | exact laws_heldIntS.mono _ _ _
      | exact laws_markDeliveryS.mono _ _ _
      | exact laws_markIntS.mono _ _ _
      | exact laws_toDeliveryS.mono _ _
      | exact spec_PassMinute.mono _ _ _
      | exact LeO.none _
      | refine LeO.ite ?_ ?_
      | refine LeO.bind ?_ (fun _ => ?_)
theorem laws_FnExactPassMinute.mono : ∀ a0 a1 k, LeO (laws_FnExactPassMinute.f k a0 a1) (laws_FnExactPassMinute.f (k + 1) a0 a1) := by
  intro a0 a1 k
  obtain ⟨ih0, ih1, ih2⟩ := laws_FnExactPassMinute.mono_l k
  unfold laws_FnExactPassMinute.f
  repeat' first
      | (with_reducible exact ih0 _ _ _ _ _ _ _ _ _ _)
      | (with_reducible exact ih1 _ _ _ _ _ _ _ _)
      | (with_reducible exact ih2 _ _ _ _)
      | (with_reducible exact impl_PassMinute.mono _ _ _)
      | (with_reducible exact laws_eqDeliveryS.mono _ _ _)
      | (with_reducible exact laws_eqIntS.mono _ _ _)
      | (with_reducible exact laws_heldDeliveryS.mono _ _ _)
      | (with_reducible exact laws_heldIntS.mono _ _ _)
      | (with_reducible exact laws_markDeliveryS.mono _ _ _)
      | (with_reducible exact laws_markIntS.mono _ _ _)
      | (with_reducible exact laws_toDeliveryS.mono _ _)
      | (with_reducible exact spec_PassMinute.mono _ _ _)
      | (with_reducible exact LeO.refl _)
      | (with_reducible exact LeO.none _)
      | (with_reducible refine LeO.ite ?_ ?_)
      | (with_reducible refine LeO.bind ?_ (fun _ => ?_))
      | exact ih0 _ _ _ _ _ _ _ _ _ _
      | exact ih1 _ _ _ _ _ _ _ _
      | exact ih2 _ _ _ _
      | exact impl_PassMinute.mono _ _ _
      | exact laws_eqDeliveryS.mono _ _ _
      | exact laws_eqIntS.mono _ _ _
      | exact laws_heldDeliveryS.mono _ _ _
      | exact laws_heldIntS.mono _ _ _
      | exact laws_markDeliveryS.mono _ _ _
      | exact laws_markIntS.mono _ _ _
      | exact laws_toDeliveryS.mono _ _
      | exact spec_PassMinute.mono _ _ _
      | exact LeO.none _
      | refine LeO.ite ?_ ?_
      | refine LeO.bind ?_ (fun _ => ?_)
set_option maxHeartbeats 8000000 in
set_option maxRecDepth 100000 in
theorem laws_FnExactPassMinute.calls (k : Nat) (A0 : Option Addr) (c0 : Nat) (l0 : List (S96)) (a1 : Int) (r : Bool) (w : World) (hr0 : Kd.C k96 w A0 l0.length l0) (hc0 : l0.length ≤ c0) (h : laws_FnExactPassMinute.f k l0 a1 = some r) (hr_ : r = true) :
    Calls Try.prog 9 #[.slice A0 l0.length c0, .int .i64 a1] w fun e w' => e = .returned (.bool r) ∧ Below w.heap.size w w' := by
  have HR0 := Aside0.mk hr0
  have HC0 := Aside0.mk hc0
  clear hr0 hc0
  have HB := Aside0.mk (Below.refl w.heap.size w)
  have H : ((laws_szDeliveryS.f l0 1048576).bind fun t198 => (if t198 < 0 then (some true) else ((laws_toDeliveryS.f k l0).bind fun t199 => ((spec_PassMinute.f k t199 a1).bind fun bt202 => ((laws_toDeliveryS.f k l0).bind fun t209 => ((impl_PassMinute.f k t209 a1).bind fun bt212 => ((laws_eqDeliveryS.f k bt212.1 bt202.1).bind fun t219 => (if t219 = true then ((laws_eqIntS.f k bt212.2.1 bt202.2.1).bind fun t220 => (if t220 = true then (laws_FnExactPassMinute.j0 k l0 a1 bt202.1 bt202.2.1 bt202.2.2 t209 bt212.1 bt212.2.1 bt212.2.2 (bt212.2.2 != bt202.2.2)) else (laws_FnExactPassMinute.j0 k l0 a1 bt202.1 bt202.2.1 bt202.2.2 t209 bt212.1 bt212.2.1 bt212.2.2 true))) else (laws_FnExactPassMinute.j0 k l0 a1 bt202.1 bt202.2.1 bt202.2.2 t209 bt212.1 bt212.2.1 bt212.2.2 true))))))))) = some r := h
  clear h
  replace H := Option.bind_eq_some_iff.mp H
  obtain ⟨t198, A30, H⟩ := H
  replace H : (if t198 < 0 then (some true) else ((laws_toDeliveryS.f k l0).bind fun t199 => ((spec_PassMinute.f k t199 a1).bind fun bt202 => ((laws_toDeliveryS.f k l0).bind fun t209 => ((impl_PassMinute.f k t209 a1).bind fun bt212 => ((laws_eqDeliveryS.f k bt212.1 bt202.1).bind fun t219 => (if t219 = true then ((laws_eqIntS.f k bt212.2.1 bt202.2.1).bind fun t220 => (if t220 = true then (laws_FnExactPassMinute.j0 k l0 a1 bt202.1 bt202.2.1 bt202.2.2 t209 bt212.1 bt212.2.1 bt212.2.2 (bt212.2.2 != bt202.2.2)) else (laws_FnExactPassMinute.j0 k l0 a1 bt202.1 bt202.2.1 bt202.2.2 t209 bt212.1 bt212.2.1 bt212.2.2 true))) else (laws_FnExactPassMinute.j0 k l0 a1 bt202.1 bt202.2.1 bt202.2.2 t209 bt212.1 bt212.2.1 bt212.2.2 true)))))))) = some r := H
  have A3 := Aside0.mk A30
  clear A30
  by_cases c4 : t198 < 0
  · rw [if_pos c4] at H
    have c4b0 : decide (t198 < 0) = true := decide_eq_true c4
    clear c4
    obtain rfl := Option.some.inj H
    go_enter Try.func9, Try.ntmps9
    go_wp2_with (first | ((with_reducible refine gate_callee (f := 31) rfl ?_); refine goesL_ (some 21) rfl rfl Try.func31 (by kernel_rfl) rfl #[.slice A0 l0.length c0, .int .i64 1048576] rfl zlx ?_; (with_reducible refine (laws_szDeliveryS.calls _ _ l0 1048576 t198 _ ?side1 ?side2 A3.out).mono ?_); (case side1 => exact zCx HR0.out); (case side2 => exact HC0.out); rintro e w' ⟨rfl, ⟨nd, rfl⟩⟩; refine ⟨_, rfl, ?_⟩))
    go_ret
    exact ⟨by first | rfl | (simp [errW_none, errW_some] <;> rfl) | (simp [*, errW_none, errW_some] <;> rfl), by exact zBx HB.out⟩
  · rw [if_neg c4] at H
    have c4b0 : decide (t198 < 0) = false := decide_eq_false c4
    clear c4
    replace H := Option.bind_eq_some_iff.mp H
    obtain ⟨t199, A50, H⟩ := H
    replace H : ((spec_PassMinute.f k t199 a1).bind fun bt202 => ((laws_toDeliveryS.f k l0).bind fun t209 => ((impl_PassMinute.f k t209 a1).bind fun bt212 => ((laws_eqDeliveryS.f k bt212.1 bt202.1).bind fun t219 => (if t219 = true then ((laws_eqIntS.f k bt212.2.1 bt202.2.1).bind fun t220 => (if t220 = true then (laws_FnExactPassMinute.j0 k l0 a1 bt202.1 bt202.2.1 bt202.2.2 t209 bt212.1 bt212.2.1 bt212.2.2 (bt212.2.2 != bt202.2.2)) else (laws_FnExactPassMinute.j0 k l0 a1 bt202.1 bt202.2.1 bt202.2.2 t209 bt212.1 bt212.2.1 bt212.2.2 true))) else (laws_FnExactPassMinute.j0 k l0 a1 bt202.1 bt202.2.1 bt202.2.2 t209 bt212.1 bt212.2.1 bt212.2.2 true)))))) = some r := H
    have A5 := Aside0.mk A50
    clear A50
    replace H := Option.bind_eq_some_iff.mp H
    obtain ⟨⟨t202, t203, t204⟩, A60, H⟩ := H
    replace H : ((laws_toDeliveryS.f k l0).bind fun t209 => ((impl_PassMinute.f k t209 a1).bind fun bt212 => ((laws_eqDeliveryS.f k bt212.1 t202).bind fun t219 => (if t219 = true then ((laws_eqIntS.f k bt212.2.1 t203).bind fun t220 => (if t220 = true then (laws_FnExactPassMinute.j0 k l0 a1 t202 t203 t204 t209 bt212.1 bt212.2.1 bt212.2.2 (bt212.2.2 != t204)) else (laws_FnExactPassMinute.j0 k l0 a1 t202 t203 t204 t209 bt212.1 bt212.2.1 bt212.2.2 true))) else (laws_FnExactPassMinute.j0 k l0 a1 t202 t203 t204 t209 bt212.1 bt212.2.1 bt212.2.2 true))))) = some r := H
    have A6 := Aside0.mk A60
    clear A60
    replace H := Option.bind_eq_some_iff.mp H
    obtain ⟨t209, A70, H⟩ := H
    replace H : ((impl_PassMinute.f k t209 a1).bind fun bt212 => ((laws_eqDeliveryS.f k bt212.1 t202).bind fun t219 => (if t219 = true then ((laws_eqIntS.f k bt212.2.1 t203).bind fun t220 => (if t220 = true then (laws_FnExactPassMinute.j0 k l0 a1 t202 t203 t204 t209 bt212.1 bt212.2.1 bt212.2.2 (bt212.2.2 != t204)) else (laws_FnExactPassMinute.j0 k l0 a1 t202 t203 t204 t209 bt212.1 bt212.2.1 bt212.2.2 true))) else (laws_FnExactPassMinute.j0 k l0 a1 t202 t203 t204 t209 bt212.1 bt212.2.1 bt212.2.2 true)))) = some r := H
    have A7 := Aside0.mk A70
    clear A70
    replace H := Option.bind_eq_some_iff.mp H
    obtain ⟨⟨t212, t213, t214⟩, A80, H⟩ := H
    replace H : ((laws_eqDeliveryS.f k t212 t202).bind fun t219 => (if t219 = true then ((laws_eqIntS.f k t213 t203).bind fun t220 => (if t220 = true then (laws_FnExactPassMinute.j0 k l0 a1 t202 t203 t204 t209 t212 t213 t214 (t214 != t204)) else (laws_FnExactPassMinute.j0 k l0 a1 t202 t203 t204 t209 t212 t213 t214 true))) else (laws_FnExactPassMinute.j0 k l0 a1 t202 t203 t204 t209 t212 t213 t214 true))) = some r := H
    have A8 := Aside0.mk A80
    clear A80
    have HC9 := Aside0.mk H
    clear H
    go_enter Try.func9, Try.ntmps9
    go_upto_region 8 with (first | ((with_reducible refine gate_callee (f := 31) rfl ?_); refine goesL_ (some 21) rfl rfl Try.func31 (by kernel_rfl) rfl #[.slice A0 l0.length c0, .int .i64 1048576] rfl zlx ?_; (with_reducible refine (laws_szDeliveryS.calls _ _ l0 1048576 t198 _ ?side1 ?side2 A3.out).mono ?_); (case side1 => exact zCx HR0.out); (case side2 => exact HC0.out); rintro e w' ⟨rfl, ⟨nd, rfl⟩⟩; refine ⟨_, rfl, ?_⟩) | ((with_reducible refine gate_callee (f := 33) rfl ?_); refine goesL_ (some 26) rfl rfl Try.func33 (by kernel_rfl) rfl #[.slice A0 l0.length c0] rfl zlx ?_; (with_reducible refine (laws_toDeliveryS.calls k _ _ l0 t199 _ ?side1 ?side2 A5.out).mono ?_); (case side1 => exact zCx HR0.out); (case side2 => exact HC0.out); rintro e w10 ⟨v200, rfl, ho0, hb⟩; refine ⟨_, rfl, ?_⟩; have n0_ := Aside0.mk (Kd.R_lower ho0 (below_size (zBx HB.out))); have n1_ := Aside0.mk (below_step (zBx HB.out) hb); clear HB; have HO201 := n0_; have HB := n1_; clear n0_ n1_; (try clear hb); (try clear hb2); (try clear hk); (try clear hi); (try clear ho0); obtain ⟨Ao11, co11, eo11⟩ := Kd.R_slice HO201.out; subst eo11) | ((with_reducible refine gate_callee (f := 40) rfl ?_); refine goesL_ (some 28) rfl rfl Try.func40 (by kernel_rfl) rfl #[.slice Ao11 t199.length co11, .int .i64 a1] rfl zlx ?_; (with_reducible refine (spec_PassMinute.calls k _ _ t199 a1 t202 t203 t204 _ ?side1 ?side2 A6.out).mono ?_); (case side1 => repeat (first | exact (Kd.R_reads' HO201.out).2.2 | (with_reducible refine Kd.C_alloc ?_ _) | (with_reducible refine Kd.C_drewN ?_ _) | (with_reducible refine Kd.C_drew ?_))); (case side2 => exact (Kd.R_reads' HO201.out).2.1); rintro e w12 ⟨v205, v207, rfl, ho0, ho1, hb⟩; refine ⟨_, rfl, ?_⟩; have n0_ := Aside0.mk (Kd.R_elder' (zRx HO201.out) (Kd.R_base ho0) hb); have n1_ := Aside0.mk (Kd.R_lower (Kd.R_new' ho0 (Kd.R_lt (zRx HO201.out))) (below_size (zBx HB.out))); have n2_ := Aside0.mk (Kd.R_lower ho1 (below_size (zBx HB.out))); have n3_ := Aside0.mk (below_step (zBx HB.out) hb); clear HO201; clear HB; have HO201 := n0_; have HO206 := n1_; have HO208 := n2_; have HB := n3_; clear n0_ n1_ n2_ n3_; (try clear hb); (try clear hb2); (try clear hk); (try clear hi); (try clear ho0); (try clear ho1)) | ((with_reducible refine gate_callee (f := 33) rfl ?_); refine goesL_ (some 33) rfl rfl Try.func33 (by kernel_rfl) rfl #[.slice A0 l0.length c0] rfl zlx ?_; (with_reducible refine (laws_toDeliveryS.calls k _ _ l0 t209 _ ?side1 ?side2 A7.out).mono ?_); (case side1 => repeat (first | exact (Kd.C_below HR0.out HB.out) | (with_reducible refine Kd.C_alloc ?_ _) | (with_reducible refine Kd.C_drewN ?_ _) | (with_reducible refine Kd.C_drew ?_))); (case side2 => exact HC0.out); rintro e w13 ⟨v210, rfl, ho0, hb⟩; refine ⟨_, rfl, ?_⟩; have n0_ := Aside0.mk (Kd.R_elder' (zRx HO201.out) (Kd.R_base ho0) hb); have n1_ := Aside0.mk (Kd.R_elder' (zRx HO206.out) (Kd.R_base ho0) hb); have n2_ := Aside0.mk (Kd.R_below (zRx HO208.out) hb); have n3_ := Aside0.mk (Kd.R_lower (Kd.R_new' (Kd.R_new' ho0 (Kd.R_lt (zRx HO201.out))) (Kd.R_lt (zRx HO206.out))) (below_size (zBx HB.out))); have n4_ := Aside0.mk (below_step (zBx HB.out) hb); clear HO201; clear HO206; clear HO208; clear HB; have HO201 := n0_; have HO206 := n1_; have HO208 := n2_; have HO211 := n3_; have HB := n4_; clear n0_ n1_ n2_ n3_ n4_; (try clear hb); (try clear hb2); (try clear hk); (try clear hi); (try clear ho0); obtain ⟨Ao14, co14, eo14⟩ := Kd.R_slice HO211.out; subst eo14) | ((with_reducible refine gate_callee (f := 41) rfl ?_); refine goesL_ (some 37) rfl rfl Try.func41 (by kernel_rfl) rfl #[.slice Ao14 t209.length co14, .int .i64 a1] rfl zlx ?_; (with_reducible refine (impl_PassMinute.calls k _ _ t209 a1 t212 t213 t214 _ ?side1 ?side2 A8.out).mono ?_); (case side1 => repeat (first | exact (Kd.R_reads' HO211.out).2.2 | (with_reducible refine Kd.C_alloc ?_ _) | (with_reducible refine Kd.C_drewN ?_ _) | (with_reducible refine Kd.C_drew ?_))); (case side2 => exact (Kd.R_reads' HO211.out).2.1); rintro e w15 ⟨v215, v217, rfl, ho0, ho1, hb⟩; refine ⟨_, rfl, ?_⟩; have n0_ := Aside0.mk (Kd.R_elder' (zRx HO201.out) (Kd.R_base ho0) hb); have n1_ := Aside0.mk (Kd.R_elder' (zRx HO206.out) (Kd.R_base ho0) hb); have n2_ := Aside0.mk (Kd.R_elder' (zRx HO208.out) (Kd.R_base ho1) hb); have n3_ := Aside0.mk (Kd.R_elder' (zRx HO211.out) (Kd.R_base ho0) hb); have n4_ := Aside0.mk (Kd.R_lower (Kd.R_new' (Kd.R_new' (Kd.R_new' ho0 (Kd.R_lt (zRx HO201.out))) (Kd.R_lt (zRx HO206.out))) (Kd.R_lt (zRx HO211.out))) (below_size (zBx HB.out))); have n5_ := Aside0.mk (Kd.R_lower (Kd.R_new' ho1 (Kd.R_lt (zRx HO208.out))) (below_size (zBx HB.out))); have n6_ := Aside0.mk (below_step (zBx HB.out) hb); clear HO201; clear HO206; clear HO208; clear HO211; clear HB; have HO201 := n0_; have HO206 := n1_; have HO208 := n2_; have HO211 := n3_; have HO216 := n4_; have HO218 := n5_; have HB := n6_; clear n0_ n1_ n2_ n3_ n4_ n5_ n6_; (try clear hb); (try clear hb2); (try clear hk); (try clear hi); (try clear ho0); (try clear ho1)))
    (try simp only [Act.put, List.setIfInBounds_toArray, List.set_cons_zero, List.set_cons_succ])
    go_cut [55] (fun v55 wc => ∃ (kq : Nat) (x55_8 : Bool), v55 = .bool x55_8 ∧ Aside0 (laws_FnExactPassMinute.j0 kq l0 a1 t202 t203 t204 t209 t212 t213 t214 x55_8 = some r) ∧ Aside0 (kq ≤ k) ∧ Aside0 (Kd.R k94 94 wc w.heap.size (fun k_ => some k_ ≠ ((.slice Ao14 t209.length co14) : Value).ownBlock ∧ some k_ ≠ (v215 : Value).ownBlock) v205 t202) ∧ Aside0 (Kd.R (Kd.int .i64) 3 wc w.heap.size (fun k_ => some k_ ≠ (v217 : Value).ownBlock) v207 t203) ∧ Aside0 (Kd.R k94 94 wc w.heap.size (fun k_ => some k_ ≠ (v205 : Value).ownBlock ∧ some k_ ≠ (v215 : Value).ownBlock) (.slice Ao14 t209.length co14) t209) ∧ Aside0 (Kd.R k94 94 wc w.heap.size (fun k_ => some k_ ≠ (v205 : Value).ownBlock ∧ some k_ ≠ ((.slice Ao14 t209.length co14) : Value).ownBlock) v215 t212) ∧ Aside0 (Kd.R (Kd.int .i64) 3 wc w.heap.size (fun k_ => some k_ ≠ (v207 : Value).ownBlock) v217 t213) ∧ Aside0 (Below w.heap.size w wc))
    case first =>
      have H := HC9.out
      clear HC9
      replace H := Option.bind_eq_some_iff.mp H
      obtain ⟨t219, A160, H⟩ := H
      replace H : (if t219 = true then ((laws_eqIntS.f k t213 t203).bind fun t220 => (if t220 = true then (laws_FnExactPassMinute.j0 k l0 a1 t202 t203 t204 t209 t212 t213 t214 (t214 != t204)) else (laws_FnExactPassMinute.j0 k l0 a1 t202 t203 t204 t209 t212 t213 t214 true))) else (laws_FnExactPassMinute.j0 k l0 a1 t202 t203 t204 t209 t212 t213 t214 true)) = some r := H
      have A16 := Aside0.mk A160
      clear A160
      by_cases c17 : t219 = true
      · subst c17
        have H1 : ((laws_eqIntS.f k t213 t203).bind fun t220 => (if t220 = true then (laws_FnExactPassMinute.j0 k l0 a1 t202 t203 t204 t209 t212 t213 t214 (t214 != t204)) else (laws_FnExactPassMinute.j0 k l0 a1 t202 t203 t204 t209 t212 t213 t214 true))) = some r := by rw [if_pos rfl] at H; exact H
        clear H
        have H := H1
        clear H1
        replace H := Option.bind_eq_some_iff.mp H
        obtain ⟨t220, A180, H⟩ := H
        replace H : (if t220 = true then (laws_FnExactPassMinute.j0 k l0 a1 t202 t203 t204 t209 t212 t213 t214 (t214 != t204)) else (laws_FnExactPassMinute.j0 k l0 a1 t202 t203 t204 t209 t212 t213 t214 true)) = some r := H
        have A18 := Aside0.mk A180
        clear A180
        by_cases c19 : t220 = true
        · subst c19
          have H1 : (laws_FnExactPassMinute.j0 k l0 a1 t202 t203 t204 t209 t212 t213 t214 (t214 != t204)) = some r := by rw [if_pos rfl] at H; exact H
          clear H
          have H := H1
          clear H1
          have H' := Aside0.mk H
          clear H
          obtain ⟨Ao20, co20, eo20⟩ := Kd.R_slice HO216.out
          subst eo20
          obtain ⟨Ao21, co21, eo21⟩ := Kd.R_slice HO206.out
          subst eo21
          go_wp2_with (first | ((with_reducible refine gate_callee (f := 35) rfl ?_); refine goesL_ (some 43) rfl rfl Try.func35 (by kernel_rfl) rfl #[.slice Ao20 t212.length co20, .slice Ao21 t202.length co21] rfl zlx ?_; (with_reducible refine (laws_eqDeliveryS.calls k _ _ t212 _ _ t202 true _ ?side1 ?side2 ?side3 ?side4 A16.out).mono ?_); (case side1 => repeat (first | exact (Kd.R_reads' HO216.out).2.2 | (with_reducible refine Kd.C_alloc ?_ _) | (with_reducible refine Kd.C_drewN ?_ _) | (with_reducible refine Kd.C_drew ?_))); (case side2 => exact (Kd.R_reads' HO216.out).2.1); (case side3 => repeat (first | exact (Kd.R_reads' HO206.out).2.2 | (with_reducible refine Kd.C_alloc ?_ _) | (with_reducible refine Kd.C_drewN ?_ _) | (with_reducible refine Kd.C_drew ?_))); (case side4 => exact (Kd.R_reads' HO206.out).2.1); rintro e w22 ⟨rfl, hb⟩; refine ⟨_, rfl, ?_⟩; have n0_ := Aside0.mk (Kd.R_below (zRx HO201.out) hb); have n1_ := Aside0.mk (Kd.R_below (zRx HO206.out) hb); have n2_ := Aside0.mk (Kd.R_below (zRx HO208.out) hb); have n3_ := Aside0.mk (Kd.R_below (zRx HO211.out) hb); have n4_ := Aside0.mk (Kd.R_below (zRx HO216.out) hb); have n5_ := Aside0.mk (Kd.R_below (zRx HO218.out) hb); have n6_ := Aside0.mk (below_step (zBx HB.out) hb); clear HO201; clear HO206; clear HO208; clear HO211; clear HO216; clear HO218; clear HB; have HO201 := n0_; have HO206 := n1_; have HO208 := n2_; have HO211 := n3_; have HO216 := n4_; have HO218 := n5_; have HB := n6_; clear n0_ n1_ n2_ n3_ n4_ n5_ n6_; (try clear hb); (try clear hb2); (try clear hk); (try clear hi); obtain ⟨Ao23, co23, eo23⟩ := Kd.R_slice HO218.out; subst eo23; obtain ⟨Ao24, co24, eo24⟩ := Kd.R_slice HO208.out; subst eo24) | (go_at_call 42; (with_reducible refine (laws_eqIntS.calls k _ _ t213 _ _ t203 true _ ?side1 ?side2 ?side3 ?side4 A18.out).mono ?_); (case side1 => repeat (first | exact (Kd.R_reads' HO218.out).2.2 | (with_reducible refine Kd.C_alloc ?_ _) | (with_reducible refine Kd.C_drewN ?_ _) | (with_reducible refine Kd.C_drew ?_))); (case side2 => exact (Kd.R_reads' HO218.out).2.1); (case side3 => repeat (first | exact (Kd.R_reads' HO208.out).2.2 | (with_reducible refine Kd.C_alloc ?_ _) | (with_reducible refine Kd.C_drewN ?_ _) | (with_reducible refine Kd.C_drew ?_))); (case side4 => exact (Kd.R_reads' HO208.out).2.1); rintro e w' ⟨rfl, ⟨nd, rfl⟩⟩))
          go_meet
          case rel => exact ⟨_, ((t214 != t204)), zrx, H', ⟨by first | omega | exact Nat.le_refl _⟩, ⟨by (with_reducible repeat (first | apply Kd.R_alloc | apply Kd.R_drewN | apply Kd.R_drew)); exact Kd.R_mono HO206.out (fun _ hk => by first | exact ⟨hk.1.2, hk.2⟩ | exact ⟨hk.2, hk.1.2⟩ | grind)⟩, ⟨by (with_reducible repeat (first | apply Kd.R_alloc | apply Kd.R_drewN | apply Kd.R_drew)); exact Kd.R_mono HO208.out (fun _ hk => hk.2)⟩, ⟨by (with_reducible repeat (first | apply Kd.R_alloc | apply Kd.R_drewN | apply Kd.R_drew)); exact Kd.R_mono HO211.out (fun _ hk => by first | exact ⟨hk.1.2, hk.2⟩ | exact ⟨hk.2, hk.1.2⟩ | grind)⟩, ⟨by (with_reducible repeat (first | apply Kd.R_alloc | apply Kd.R_drewN | apply Kd.R_drew)); exact Kd.R_mono HO216.out (fun _ hk => by first | exact ⟨hk.1.2, hk.2⟩ | exact ⟨hk.2, hk.1.2⟩ | grind)⟩, ⟨by (with_reducible repeat (first | apply Kd.R_alloc | apply Kd.R_drewN | apply Kd.R_drew)); exact Kd.R_mono HO218.out (fun _ hk => hk.2)⟩, ⟨by exact zBx HB.out⟩⟩
        · replace c19 := Bool.eq_false_iff.mpr c19
          subst c19
          have H1 : (laws_FnExactPassMinute.j0 k l0 a1 t202 t203 t204 t209 t212 t213 t214 true) = some r := by rw [if_neg (show ¬ (false = true) by decide)] at H; exact H
          clear H
          have H := H1
          clear H1
          have H' := Aside0.mk H
          clear H
          obtain ⟨Ao25, co25, eo25⟩ := Kd.R_slice HO216.out
          subst eo25
          obtain ⟨Ao26, co26, eo26⟩ := Kd.R_slice HO206.out
          subst eo26
          go_wp2_with (first | ((with_reducible refine gate_callee (f := 35) rfl ?_); refine goesL_ (some 43) rfl rfl Try.func35 (by kernel_rfl) rfl #[.slice Ao25 t212.length co25, .slice Ao26 t202.length co26] rfl zlx ?_; (with_reducible refine (laws_eqDeliveryS.calls k _ _ t212 _ _ t202 true _ ?side1 ?side2 ?side3 ?side4 A16.out).mono ?_); (case side1 => repeat (first | exact (Kd.R_reads' HO216.out).2.2 | (with_reducible refine Kd.C_alloc ?_ _) | (with_reducible refine Kd.C_drewN ?_ _) | (with_reducible refine Kd.C_drew ?_))); (case side2 => exact (Kd.R_reads' HO216.out).2.1); (case side3 => repeat (first | exact (Kd.R_reads' HO206.out).2.2 | (with_reducible refine Kd.C_alloc ?_ _) | (with_reducible refine Kd.C_drewN ?_ _) | (with_reducible refine Kd.C_drew ?_))); (case side4 => exact (Kd.R_reads' HO206.out).2.1); rintro e w27 ⟨rfl, hb⟩; refine ⟨_, rfl, ?_⟩; have n0_ := Aside0.mk (Kd.R_below (zRx HO201.out) hb); have n1_ := Aside0.mk (Kd.R_below (zRx HO206.out) hb); have n2_ := Aside0.mk (Kd.R_below (zRx HO208.out) hb); have n3_ := Aside0.mk (Kd.R_below (zRx HO211.out) hb); have n4_ := Aside0.mk (Kd.R_below (zRx HO216.out) hb); have n5_ := Aside0.mk (Kd.R_below (zRx HO218.out) hb); have n6_ := Aside0.mk (below_step (zBx HB.out) hb); clear HO201; clear HO206; clear HO208; clear HO211; clear HO216; clear HO218; clear HB; have HO201 := n0_; have HO206 := n1_; have HO208 := n2_; have HO211 := n3_; have HO216 := n4_; have HO218 := n5_; have HB := n6_; clear n0_ n1_ n2_ n3_ n4_ n5_ n6_; (try clear hb); (try clear hb2); (try clear hk); (try clear hi); obtain ⟨Ao28, co28, eo28⟩ := Kd.R_slice HO218.out; subst eo28; obtain ⟨Ao29, co29, eo29⟩ := Kd.R_slice HO208.out; subst eo29) | (go_at_call 42; (with_reducible refine (laws_eqIntS.calls k _ _ t213 _ _ t203 false _ ?side1 ?side2 ?side3 ?side4 A18.out).mono ?_); (case side1 => repeat (first | exact (Kd.R_reads' HO218.out).2.2 | (with_reducible refine Kd.C_alloc ?_ _) | (with_reducible refine Kd.C_drewN ?_ _) | (with_reducible refine Kd.C_drew ?_))); (case side2 => exact (Kd.R_reads' HO218.out).2.1); (case side3 => repeat (first | exact (Kd.R_reads' HO208.out).2.2 | (with_reducible refine Kd.C_alloc ?_ _) | (with_reducible refine Kd.C_drewN ?_ _) | (with_reducible refine Kd.C_drew ?_))); (case side4 => exact (Kd.R_reads' HO208.out).2.1); rintro e w' ⟨rfl, ⟨nd, rfl⟩⟩))
          go_meet
          case rel => exact ⟨_, (true), zrx, H', ⟨by first | omega | exact Nat.le_refl _⟩, ⟨by (with_reducible repeat (first | apply Kd.R_alloc | apply Kd.R_drewN | apply Kd.R_drew)); exact Kd.R_mono HO206.out (fun _ hk => by first | exact ⟨hk.1.2, hk.2⟩ | exact ⟨hk.2, hk.1.2⟩ | grind)⟩, ⟨by (with_reducible repeat (first | apply Kd.R_alloc | apply Kd.R_drewN | apply Kd.R_drew)); exact Kd.R_mono HO208.out (fun _ hk => hk.2)⟩, ⟨by (with_reducible repeat (first | apply Kd.R_alloc | apply Kd.R_drewN | apply Kd.R_drew)); exact Kd.R_mono HO211.out (fun _ hk => by first | exact ⟨hk.1.2, hk.2⟩ | exact ⟨hk.2, hk.1.2⟩ | grind)⟩, ⟨by (with_reducible repeat (first | apply Kd.R_alloc | apply Kd.R_drewN | apply Kd.R_drew)); exact Kd.R_mono HO216.out (fun _ hk => by first | exact ⟨hk.1.2, hk.2⟩ | exact ⟨hk.2, hk.1.2⟩ | grind)⟩, ⟨by (with_reducible repeat (first | apply Kd.R_alloc | apply Kd.R_drewN | apply Kd.R_drew)); exact Kd.R_mono HO218.out (fun _ hk => hk.2)⟩, ⟨by exact zBx HB.out⟩⟩
      · replace c17 := Bool.eq_false_iff.mpr c17
        subst c17
        have H1 : (laws_FnExactPassMinute.j0 k l0 a1 t202 t203 t204 t209 t212 t213 t214 true) = some r := by rw [if_neg (show ¬ (false = true) by decide)] at H; exact H
        clear H
        have H := H1
        clear H1
        have H' := Aside0.mk H
        clear H
        obtain ⟨Ao30, co30, eo30⟩ := Kd.R_slice HO216.out
        subst eo30
        obtain ⟨Ao31, co31, eo31⟩ := Kd.R_slice HO206.out
        subst eo31
        go_wp2_with (first | ((with_reducible refine gate_callee (f := 35) rfl ?_); refine goesL_ (some 43) rfl rfl Try.func35 (by kernel_rfl) rfl #[.slice Ao30 t212.length co30, .slice Ao31 t202.length co31] rfl zlx ?_; (with_reducible refine (laws_eqDeliveryS.calls k _ _ t212 _ _ t202 false _ ?side1 ?side2 ?side3 ?side4 A16.out).mono ?_); (case side1 => repeat (first | exact (Kd.R_reads' HO216.out).2.2 | (with_reducible refine Kd.C_alloc ?_ _) | (with_reducible refine Kd.C_drewN ?_ _) | (with_reducible refine Kd.C_drew ?_))); (case side2 => exact (Kd.R_reads' HO216.out).2.1); (case side3 => repeat (first | exact (Kd.R_reads' HO206.out).2.2 | (with_reducible refine Kd.C_alloc ?_ _) | (with_reducible refine Kd.C_drewN ?_ _) | (with_reducible refine Kd.C_drew ?_))); (case side4 => exact (Kd.R_reads' HO206.out).2.1); rintro e w32 ⟨rfl, hb⟩; refine ⟨_, rfl, ?_⟩; have n0_ := Aside0.mk (Kd.R_below (zRx HO201.out) hb); have n1_ := Aside0.mk (Kd.R_below (zRx HO206.out) hb); have n2_ := Aside0.mk (Kd.R_below (zRx HO208.out) hb); have n3_ := Aside0.mk (Kd.R_below (zRx HO211.out) hb); have n4_ := Aside0.mk (Kd.R_below (zRx HO216.out) hb); have n5_ := Aside0.mk (Kd.R_below (zRx HO218.out) hb); have n6_ := Aside0.mk (below_step (zBx HB.out) hb); clear HO201; clear HO206; clear HO208; clear HO211; clear HO216; clear HO218; clear HB; have HO201 := n0_; have HO206 := n1_; have HO208 := n2_; have HO211 := n3_; have HO216 := n4_; have HO218 := n5_; have HB := n6_; clear n0_ n1_ n2_ n3_ n4_ n5_ n6_; (try clear hb); (try clear hb2); (try clear hk); (try clear hi)))
        go_meet
        case rel => exact ⟨_, (true), zrx, H', ⟨by first | omega | exact Nat.le_refl _⟩, ⟨by (with_reducible repeat (first | apply Kd.R_alloc | apply Kd.R_drewN | apply Kd.R_drew)); exact Kd.R_mono HO206.out (fun _ hk => by first | exact ⟨hk.1.2, hk.2⟩ | exact ⟨hk.2, hk.1.2⟩ | grind)⟩, ⟨by (with_reducible repeat (first | apply Kd.R_alloc | apply Kd.R_drewN | apply Kd.R_drew)); exact Kd.R_mono HO208.out (fun _ hk => hk.2)⟩, ⟨by (with_reducible repeat (first | apply Kd.R_alloc | apply Kd.R_drewN | apply Kd.R_drew)); exact Kd.R_mono HO211.out (fun _ hk => by first | exact ⟨hk.1.2, hk.2⟩ | exact ⟨hk.2, hk.1.2⟩ | grind)⟩, ⟨by (with_reducible repeat (first | apply Kd.R_alloc | apply Kd.R_drewN | apply Kd.R_drew)); exact Kd.R_mono HO216.out (fun _ hk => by first | exact ⟨hk.1.2, hk.2⟩ | exact ⟨hk.2, hk.1.2⟩ | grind)⟩, ⟨by (with_reducible repeat (first | apply Kd.R_alloc | apply Kd.R_drewN | apply Kd.R_drew)); exact Kd.R_mono HO218.out (fun _ hk => hk.2)⟩, ⟨by exact zBx HB.out⟩⟩
    case rest =>
      clear HC9
      try clear c1
      try clear p2
      try clear c3
      try clear c4
      try clear c4b0
      try clear c9
      try clear c17
      try clear c19
      try clear c31
      obtain ⟨kq, x55_8, rfl, HA, HJ8, HO_6, HO_7, HO_9, HO_10, HO_11, HB⟩ := hcut
      cases kq with
      | zero => exact absurd HA.out (by simp [laws_FnExactPassMinute.j0])
      | succ kj8 =>
        have H := HA.out
        clear HA
        simp only [laws_FnExactPassMinute.j0] at H
        by_cases c33 : x55_8 = true
        · subst c33
          have H1 : (some false) = some r := by rw [if_pos rfl] at H; exact H
          clear H
          have H := H1
          clear H1
          exact absurd (Option.some.inj H) (by rw [hr_]; decide)
        · replace c33 := Bool.eq_false_iff.mpr c33
          subst c33
          have H1 : ((laws_toDeliveryS.f kj8 l0).bind fun t221 => ((laws_eqDeliveryS.f kj8 t209 t221).bind fun t224 => (if t224 = true then ((laws_markDeliveryS.f kj8 t209 1).bind fun bt225 => (if bt225.1 < 0 then (laws_FnExactPassMinute.j1 kj8 l0 a1 t202 t203 t204 t212 t213 true) else ((laws_eqDeliveryS.f kj8 t212 t202).bind fun t227 => (if t227 = true then ((laws_eqIntS.f kj8 t213 t203).bind fun t228 => (if t228 = true then (laws_FnExactPassMinute.j1 kj8 l0 a1 t202 t203 t204 t212 t213 (t214 != t204)) else (laws_FnExactPassMinute.j1 kj8 l0 a1 t202 t203 t204 t212 t213 true))) else (laws_FnExactPassMinute.j1 kj8 l0 a1 t202 t203 t204 t212 t213 true))))) else (some false)))) = some r := by rw [if_neg (show ¬ (false = true) by decide)] at H; exact H
          clear H
          have H := H1
          clear H1
          replace H := Option.bind_eq_some_iff.mp H
          obtain ⟨t221, A340, H⟩ := H
          replace H : ((laws_eqDeliveryS.f kj8 t209 t221).bind fun t224 => (if t224 = true then ((laws_markDeliveryS.f kj8 t209 1).bind fun bt225 => (if bt225.1 < 0 then (laws_FnExactPassMinute.j1 kj8 l0 a1 t202 t203 t204 t212 t213 true) else ((laws_eqDeliveryS.f kj8 t212 t202).bind fun t227 => (if t227 = true then ((laws_eqIntS.f kj8 t213 t203).bind fun t228 => (if t228 = true then (laws_FnExactPassMinute.j1 kj8 l0 a1 t202 t203 t204 t212 t213 (t214 != t204)) else (laws_FnExactPassMinute.j1 kj8 l0 a1 t202 t203 t204 t212 t213 true))) else (laws_FnExactPassMinute.j1 kj8 l0 a1 t202 t203 t204 t212 t213 true))))) else (some false))) = some r := H
          have A34 := Aside0.mk A340
          clear A340
          replace H := Option.bind_eq_some_iff.mp H
          obtain ⟨t224, A350, H⟩ := H
          replace H : (if t224 = true then ((laws_markDeliveryS.f kj8 t209 1).bind fun bt225 => (if bt225.1 < 0 then (laws_FnExactPassMinute.j1 kj8 l0 a1 t202 t203 t204 t212 t213 true) else ((laws_eqDeliveryS.f kj8 t212 t202).bind fun t227 => (if t227 = true then ((laws_eqIntS.f kj8 t213 t203).bind fun t228 => (if t228 = true then (laws_FnExactPassMinute.j1 kj8 l0 a1 t202 t203 t204 t212 t213 (t214 != t204)) else (laws_FnExactPassMinute.j1 kj8 l0 a1 t202 t203 t204 t212 t213 true))) else (laws_FnExactPassMinute.j1 kj8 l0 a1 t202 t203 t204 t212 t213 true))))) else (some false)) = some r := H
          have A35 := Aside0.mk A350
          clear A350
          by_cases c36 : t224 = true
          · subst c36
            have H1 : ((laws_markDeliveryS.f kj8 t209 1).bind fun bt225 => (if bt225.1 < 0 then (laws_FnExactPassMinute.j1 kj8 l0 a1 t202 t203 t204 t212 t213 true) else ((laws_eqDeliveryS.f kj8 t212 t202).bind fun t227 => (if t227 = true then ((laws_eqIntS.f kj8 t213 t203).bind fun t228 => (if t228 = true then (laws_FnExactPassMinute.j1 kj8 l0 a1 t202 t203 t204 t212 t213 (t214 != t204)) else (laws_FnExactPassMinute.j1 kj8 l0 a1 t202 t203 t204 t212 t213 true))) else (laws_FnExactPassMinute.j1 kj8 l0 a1 t202 t203 t204 t212 t213 true))))) = some r := by rw [if_pos rfl] at H; exact H
            clear H
            have H := H1
            clear H1
            replace H := Option.bind_eq_some_iff.mp H
            obtain ⟨⟨t225, t226⟩, A370, H⟩ := H
            replace H : (if t225 < 0 then (laws_FnExactPassMinute.j1 kj8 l0 a1 t202 t203 t204 t212 t213 true) else ((laws_eqDeliveryS.f kj8 t212 t202).bind fun t227 => (if t227 = true then ((laws_eqIntS.f kj8 t213 t203).bind fun t228 => (if t228 = true then (laws_FnExactPassMinute.j1 kj8 l0 a1 t202 t203 t204 t212 t213 (t214 != t204)) else (laws_FnExactPassMinute.j1 kj8 l0 a1 t202 t203 t204 t212 t213 true))) else (laws_FnExactPassMinute.j1 kj8 l0 a1 t202 t203 t204 t212 t213 true)))) = some r := H
            have A37 := Aside0.mk A370
            clear A370
            have HC38 := Aside0.mk H
            clear H
            go_upto_region 14 with (first | ((with_reducible refine gate_callee (f := 33) rfl ?_); refine goesL_ (some 58) rfl rfl Try.func33 (by kernel_rfl) rfl #[.slice A0 l0.length c0] rfl zlx ?_; (with_reducible refine (laws_toDeliveryS.calls kj8 _ _ l0 t221 _ ?side1 ?side2 A34.out).mono ?_); (case side1 => repeat (first | exact (Kd.C_below HR0.out HB.out) | (with_reducible refine Kd.C_alloc ?_ _) | (with_reducible refine Kd.C_drewN ?_ _) | (with_reducible refine Kd.C_drew ?_))); (case side2 => exact HC0.out); rintro e w39 ⟨v222, rfl, ho0, hb⟩; refine ⟨_, rfl, ?_⟩; have n0_ := Aside0.mk (Kd.R_elder' (zRx HO_6.out) (Kd.R_base ho0) hb); have n1_ := Aside0.mk (Kd.R_below (zRx HO_7.out) hb); have n2_ := Aside0.mk (Kd.R_elder' (zRx HO_9.out) (Kd.R_base ho0) hb); have n3_ := Aside0.mk (Kd.R_elder' (zRx HO_10.out) (Kd.R_base ho0) hb); have n4_ := Aside0.mk (Kd.R_below (zRx HO_11.out) hb); have n5_ := Aside0.mk (Kd.R_lower (Kd.R_new' (Kd.R_new' (Kd.R_new' ho0 (Kd.R_lt (zRx HO_6.out))) (Kd.R_lt (zRx HO_9.out))) (Kd.R_lt (zRx HO_10.out))) (below_size (zBx HB.out))); have n6_ := Aside0.mk (below_step (zBx HB.out) hb); clear HO_6; clear HO_7; clear HO_9; clear HO_10; clear HO_11; clear HB; have HO_6 := n0_; have HO_7 := n1_; have HO_9 := n2_; have HO_10 := n3_; have HO_11 := n4_; have HO223 := n5_; have HB := n6_; clear n0_ n1_ n2_ n3_ n4_ n5_ n6_; (try clear hb); (try clear hb2); (try clear hk); (try clear hi); (try clear ho0); obtain ⟨Ao40, co40, eo40⟩ := Kd.R_slice HO223.out; subst eo40) | ((with_reducible refine gate_callee (f := 35) rfl ?_); refine goesL_ (some 59) rfl rfl Try.func35 (by kernel_rfl) rfl #[.slice Ao14 t209.length co14, .slice Ao40 t221.length co40] rfl zlx ?_; (with_reducible refine (laws_eqDeliveryS.calls kj8 _ _ t209 _ _ t221 true _ ?side1 ?side2 ?side3 ?side4 A35.out).mono ?_); (case side1 => repeat (first | exact (Kd.R_reads' HO_9.out).2.2 | (with_reducible refine Kd.C_alloc ?_ _) | (with_reducible refine Kd.C_drewN ?_ _) | (with_reducible refine Kd.C_drew ?_))); (case side2 => exact (Kd.R_reads' HO_9.out).2.1); (case side3 => repeat (first | exact (Kd.R_reads' HO223.out).2.2 | (with_reducible refine Kd.C_alloc ?_ _) | (with_reducible refine Kd.C_drewN ?_ _) | (with_reducible refine Kd.C_drew ?_))); (case side4 => exact (Kd.R_reads' HO223.out).2.1); rintro e w41 ⟨rfl, hb⟩; refine ⟨_, rfl, ?_⟩; have n0_ := Aside0.mk (Kd.R_below (zRx HO_6.out) hb); have n1_ := Aside0.mk (Kd.R_below (zRx HO_7.out) hb); have n2_ := Aside0.mk (Kd.R_below (zRx HO_9.out) hb); have n3_ := Aside0.mk (Kd.R_below (zRx HO_10.out) hb); have n4_ := Aside0.mk (Kd.R_below (zRx HO_11.out) hb); have n5_ := Aside0.mk (Kd.R_below (zRx HO223.out) hb); have n6_ := Aside0.mk (below_step (zBx HB.out) hb); clear HO_6; clear HO_7; clear HO_9; clear HO_10; clear HO_11; clear HO223; clear HB; have HO_6 := n0_; have HO_7 := n1_; have HO_9 := n2_; have HO_10 := n3_; have HO_11 := n4_; have HO223 := n5_; have HB := n6_; clear n0_ n1_ n2_ n3_ n4_ n5_ n6_; (try clear hb); (try clear hb2); (try clear hk); (try clear hi)) | ((with_reducible refine gate_callee (f := 36) rfl ?_); refine goesL_ (some 63) rfl rfl Try.func36 (by kernel_rfl) rfl #[.slice Ao14 t209.length co14, .int .i64 1] rfl zlx ?_; (with_reducible refine (laws_markDeliveryS.calls kj8 (fun k_ => some k_ = (.slice Ao14 t209.length co14 : Value).ownBlock) (.slice Ao14 t209.length co14) t209 1 t225 t226 w _ ?side1 ?side2 A37.out).mono ?_); (case side1 => exact zBx HB.out); (case side2 => exact Kd.R_tight rfl HO_9.out); rintro e w42 ⟨rfl, hy0, hb, hkp⟩; refine ⟨_, rfl, ?_⟩; have n0_ := Aside0.mk (Kd.R_mono (ok' := fun k_ => some k_ ≠ (.slice Ao14 t209.length co14 : Value).ownBlock ∧ some k_ ≠ (v215 : Value).ownBlock ∧ some k_ ≠ (.slice Ao40 t221.length co40 : Value).ownBlock) (Kd.R_keptB (HO_6.out) hkp (fun k_ hk_ hs_ => (hk_.1.1) hs_)) (fun k_ hk_ => ⟨hk_.1.1.1, hk_.1.1.2, hk_.1.2⟩)); have n1_ := Aside0.mk (Kd.R_mono (ok' := fun k_ => some k_ ≠ (v217 : Value).ownBlock) (Kd.R_keptB ((Kd.R_apart' HO_7.out (Kd.R_typed HO_9.out) (by decide))) hkp (fun k_ hk_ hs_ => (hk_.2) hs_)) (fun k_ hk_ => hk_.1.1)); have n2_ := Aside0.mk (Kd.R_reok rfl hy0 (fun k_ e_ => HO_9.out.1 k_ e_)); have n3_ := Aside0.mk (Kd.R_mono (ok' := fun k_ => some k_ ≠ (v205 : Value).ownBlock ∧ some k_ ≠ (.slice Ao14 t209.length co14 : Value).ownBlock ∧ some k_ ≠ (.slice Ao40 t221.length co40 : Value).ownBlock) (Kd.R_keptB (HO_10.out) hkp (fun k_ hk_ hs_ => (hk_.1.2) hs_)) (fun k_ hk_ => ⟨hk_.1.1.1, hk_.1.1.2, hk_.1.2⟩)); have n4_ := Aside0.mk (Kd.R_mono (ok' := fun k_ => some k_ ≠ (v207 : Value).ownBlock) (Kd.R_keptB ((Kd.R_apart' HO_11.out (Kd.R_typed HO_9.out) (by decide))) hkp (fun k_ hk_ hs_ => (hk_.2) hs_)) (fun k_ hk_ => hk_.1.1)); have n5_ := Aside0.mk (Kd.R_mono (ok' := fun k_ => some k_ ≠ (v205 : Value).ownBlock ∧ some k_ ≠ (.slice Ao14 t209.length co14 : Value).ownBlock ∧ some k_ ≠ (v215 : Value).ownBlock) (Kd.R_keptB (HO223.out) hkp (fun k_ hk_ hs_ => (hk_.1.2) hs_)) (fun k_ hk_ => ⟨hk_.1.1.1.2, hk_.1.1.2, hk_.1.2⟩)); have n6_ := Aside0.mk (hb); clear HO_6; clear HO_7; clear HO_9; clear HO_10; clear HO_11; clear HO223; clear HB; have HO_6 := n0_; have HO_7 := n1_; have HO_9 := n2_; have HO_10 := n3_; have HO_11 := n4_; have HO223 := n5_; have HB := n6_; clear n0_ n1_ n2_ n3_ n4_ n5_ n6_; (try clear hb); (try clear hkp); (try clear hy0)))
            (try simp only [Act.put, List.setIfInBounds_toArray, List.set_cons_zero, List.set_cons_succ])
            go_cut [82] (fun v82 wc => ∃ (kq : Nat) (x82_37 : Bool), v82 = .bool x82_37 ∧ Aside0 (laws_FnExactPassMinute.j1 kq l0 a1 t202 t203 t204 t212 t213 x82_37 = some r) ∧ Aside0 (kq ≤ kj8) ∧ Aside0 (Kd.R k94 94 wc w.heap.size (fun k_ => some k_ ≠ (v215 : Value).ownBlock) v205 t202) ∧ Aside0 (Kd.R (Kd.int .i64) 3 wc w.heap.size (fun k_ => some k_ ≠ (v217 : Value).ownBlock) v207 t203) ∧ Aside0 (Kd.R k94 94 wc w.heap.size (fun k_ => some k_ ≠ (v205 : Value).ownBlock) v215 t212) ∧ Aside0 (Kd.R (Kd.int .i64) 3 wc w.heap.size (fun k_ => some k_ ≠ (v207 : Value).ownBlock) v217 t213) ∧ Aside0 (Below w.heap.size w wc))
            case first =>
              have H := HC38.out
              clear HC38
              by_cases c43 : t225 < 0
              · rw [if_pos c43] at H
                have c43b0 : decide (t225 < 0) = true := decide_eq_true c43
                clear c43
                (first | rw [c43b0] | (simp only [i64_w, i32_w]; rw [c43b0]) | skip)
                have H' := Aside0.mk H
                clear H
                go_wp2
                go_meet
                case rel => exact ⟨_, (true), zrx, H', ⟨by have := HJ8.out; first | omega | exact Nat.le_refl _⟩, ⟨by (with_reducible repeat (first | apply Kd.R_alloc | apply Kd.R_drewN | apply Kd.R_drew)); exact Kd.R_mono HO_6.out (fun _ hk => hk.2.1)⟩, ⟨by (with_reducible repeat (first | apply Kd.R_alloc | apply Kd.R_drewN | apply Kd.R_drew)); exact HO_7.out⟩, ⟨by (with_reducible repeat (first | apply Kd.R_alloc | apply Kd.R_drewN | apply Kd.R_drew)); exact Kd.R_mono HO_10.out (fun _ hk => hk.1)⟩, ⟨by (with_reducible repeat (first | apply Kd.R_alloc | apply Kd.R_drewN | apply Kd.R_drew)); exact HO_11.out⟩, ⟨by exact zBx HB.out⟩⟩
              · rw [if_neg c43] at H
                have c43b0 : decide (t225 < 0) = false := decide_eq_false c43
                clear c43
                (first | rw [c43b0] | (simp only [i64_w, i32_w]; rw [c43b0]) | skip)
                replace H := Option.bind_eq_some_iff.mp H
                obtain ⟨t227, A440, H⟩ := H
                replace H : (if t227 = true then ((laws_eqIntS.f kj8 t213 t203).bind fun t228 => (if t228 = true then (laws_FnExactPassMinute.j1 kj8 l0 a1 t202 t203 t204 t212 t213 (t214 != t204)) else (laws_FnExactPassMinute.j1 kj8 l0 a1 t202 t203 t204 t212 t213 true))) else (laws_FnExactPassMinute.j1 kj8 l0 a1 t202 t203 t204 t212 t213 true)) = some r := H
                have A44 := Aside0.mk A440
                clear A440
                by_cases c45 : t227 = true
                · subst c45
                  have H1 : ((laws_eqIntS.f kj8 t213 t203).bind fun t228 => (if t228 = true then (laws_FnExactPassMinute.j1 kj8 l0 a1 t202 t203 t204 t212 t213 (t214 != t204)) else (laws_FnExactPassMinute.j1 kj8 l0 a1 t202 t203 t204 t212 t213 true))) = some r := by rw [if_pos rfl] at H; exact H
                  clear H
                  have H := H1
                  clear H1
                  replace H := Option.bind_eq_some_iff.mp H
                  obtain ⟨t228, A460, H⟩ := H
                  replace H : (if t228 = true then (laws_FnExactPassMinute.j1 kj8 l0 a1 t202 t203 t204 t212 t213 (t214 != t204)) else (laws_FnExactPassMinute.j1 kj8 l0 a1 t202 t203 t204 t212 t213 true)) = some r := H
                  have A46 := Aside0.mk A460
                  clear A460
                  by_cases c47 : t228 = true
                  · subst c47
                    have H1 : (laws_FnExactPassMinute.j1 kj8 l0 a1 t202 t203 t204 t212 t213 (t214 != t204)) = some r := by rw [if_pos rfl] at H; exact H
                    clear H
                    have H := H1
                    clear H1
                    have H' := Aside0.mk H
                    clear H
                    obtain ⟨Ao48, co48, eo48⟩ := Kd.R_slice HO_10.out
                    subst eo48
                    obtain ⟨Ao49, co49, eo49⟩ := Kd.R_slice HO_6.out
                    subst eo49
                    go_wp2_with (first | (go_at_call 35; (with_reducible refine (laws_eqDeliveryS.calls kj8 _ _ t212 _ _ t202 true _ ?side1 ?side2 ?side3 ?side4 A44.out).mono ?_); (case side1 => repeat (first | exact (Kd.R_reads' HO_10.out).2.2 | (with_reducible refine Kd.C_alloc ?_ _) | (with_reducible refine Kd.C_drewN ?_ _) | (with_reducible refine Kd.C_drew ?_))); (case side2 => exact (Kd.R_reads' HO_10.out).2.1); (case side3 => repeat (first | exact (Kd.R_reads' HO_6.out).2.2 | (with_reducible refine Kd.C_alloc ?_ _) | (with_reducible refine Kd.C_drewN ?_ _) | (with_reducible refine Kd.C_drew ?_))); (case side4 => exact (Kd.R_reads' HO_6.out).2.1); rintro e w50 ⟨rfl, hb⟩; have n0_ := Aside0.mk (Kd.R_below (zRx HO_6.out) hb); have n1_ := Aside0.mk (Kd.R_below (zRx HO_7.out) hb); have n2_ := Aside0.mk (Kd.R_below (zRx HO_9.out) hb); have n3_ := Aside0.mk (Kd.R_below (zRx HO_10.out) hb); have n4_ := Aside0.mk (Kd.R_below (zRx HO_11.out) hb); have n5_ := Aside0.mk (Kd.R_below (zRx HO223.out) hb); have n6_ := Aside0.mk (below_step (zBx HB.out) hb); clear HO_6; clear HO_7; clear HO_9; clear HO_10; clear HO_11; clear HO223; clear HB; have HO_6 := n0_; have HO_7 := n1_; have HO_9 := n2_; have HO_10 := n3_; have HO_11 := n4_; have HO223 := n5_; have HB := n6_; clear n0_ n1_ n2_ n3_ n4_ n5_ n6_; (try clear hb); (try clear hb2); (try clear hk); (try clear hi); obtain ⟨Ao51, co51, eo51⟩ := Kd.R_slice HO_11.out; subst eo51; obtain ⟨Ao52, co52, eo52⟩ := Kd.R_slice HO_7.out; subst eo52) | (go_at_call 42; (with_reducible refine (laws_eqIntS.calls kj8 _ _ t213 _ _ t203 true _ ?side1 ?side2 ?side3 ?side4 A46.out).mono ?_); (case side1 => repeat (first | exact (Kd.R_reads' HO_11.out).2.2 | (with_reducible refine Kd.C_alloc ?_ _) | (with_reducible refine Kd.C_drewN ?_ _) | (with_reducible refine Kd.C_drew ?_))); (case side2 => exact (Kd.R_reads' HO_11.out).2.1); (case side3 => repeat (first | exact (Kd.R_reads' HO_7.out).2.2 | (with_reducible refine Kd.C_alloc ?_ _) | (with_reducible refine Kd.C_drewN ?_ _) | (with_reducible refine Kd.C_drew ?_))); (case side4 => exact (Kd.R_reads' HO_7.out).2.1); rintro e w' ⟨rfl, ⟨nd, rfl⟩⟩))
                    go_meet
                    case rel => exact ⟨_, ((t214 != t204)), zrx, H', ⟨by have := HJ8.out; first | omega | exact Nat.le_refl _⟩, ⟨by (with_reducible repeat (first | apply Kd.R_alloc | apply Kd.R_drewN | apply Kd.R_drew)); exact Kd.R_mono HO_6.out (fun _ hk => hk.2.1)⟩, ⟨by (with_reducible repeat (first | apply Kd.R_alloc | apply Kd.R_drewN | apply Kd.R_drew)); exact HO_7.out⟩, ⟨by (with_reducible repeat (first | apply Kd.R_alloc | apply Kd.R_drewN | apply Kd.R_drew)); exact Kd.R_mono HO_10.out (fun _ hk => hk.1)⟩, ⟨by (with_reducible repeat (first | apply Kd.R_alloc | apply Kd.R_drewN | apply Kd.R_drew)); exact HO_11.out⟩, ⟨by exact zBx HB.out⟩⟩
                  · replace c47 := Bool.eq_false_iff.mpr c47
                    subst c47
                    have H1 : (laws_FnExactPassMinute.j1 kj8 l0 a1 t202 t203 t204 t212 t213 true) = some r := by rw [if_neg (show ¬ (false = true) by decide)] at H; exact H
                    clear H
                    have H := H1
                    clear H1
                    have H' := Aside0.mk H
                    clear H
                    obtain ⟨Ao53, co53, eo53⟩ := Kd.R_slice HO_10.out
                    subst eo53
                    obtain ⟨Ao54, co54, eo54⟩ := Kd.R_slice HO_6.out
                    subst eo54
                    go_wp2_with (first | (go_at_call 35; (with_reducible refine (laws_eqDeliveryS.calls kj8 _ _ t212 _ _ t202 true _ ?side1 ?side2 ?side3 ?side4 A44.out).mono ?_); (case side1 => repeat (first | exact (Kd.R_reads' HO_10.out).2.2 | (with_reducible refine Kd.C_alloc ?_ _) | (with_reducible refine Kd.C_drewN ?_ _) | (with_reducible refine Kd.C_drew ?_))); (case side2 => exact (Kd.R_reads' HO_10.out).2.1); (case side3 => repeat (first | exact (Kd.R_reads' HO_6.out).2.2 | (with_reducible refine Kd.C_alloc ?_ _) | (with_reducible refine Kd.C_drewN ?_ _) | (with_reducible refine Kd.C_drew ?_))); (case side4 => exact (Kd.R_reads' HO_6.out).2.1); rintro e w55 ⟨rfl, hb⟩; have n0_ := Aside0.mk (Kd.R_below (zRx HO_6.out) hb); have n1_ := Aside0.mk (Kd.R_below (zRx HO_7.out) hb); have n2_ := Aside0.mk (Kd.R_below (zRx HO_9.out) hb); have n3_ := Aside0.mk (Kd.R_below (zRx HO_10.out) hb); have n4_ := Aside0.mk (Kd.R_below (zRx HO_11.out) hb); have n5_ := Aside0.mk (Kd.R_below (zRx HO223.out) hb); have n6_ := Aside0.mk (below_step (zBx HB.out) hb); clear HO_6; clear HO_7; clear HO_9; clear HO_10; clear HO_11; clear HO223; clear HB; have HO_6 := n0_; have HO_7 := n1_; have HO_9 := n2_; have HO_10 := n3_; have HO_11 := n4_; have HO223 := n5_; have HB := n6_; clear n0_ n1_ n2_ n3_ n4_ n5_ n6_; (try clear hb); (try clear hb2); (try clear hk); (try clear hi); obtain ⟨Ao56, co56, eo56⟩ := Kd.R_slice HO_11.out; subst eo56; obtain ⟨Ao57, co57, eo57⟩ := Kd.R_slice HO_7.out; subst eo57) | (go_at_call 42; (with_reducible refine (laws_eqIntS.calls kj8 _ _ t213 _ _ t203 false _ ?side1 ?side2 ?side3 ?side4 A46.out).mono ?_); (case side1 => repeat (first | exact (Kd.R_reads' HO_11.out).2.2 | (with_reducible refine Kd.C_alloc ?_ _) | (with_reducible refine Kd.C_drewN ?_ _) | (with_reducible refine Kd.C_drew ?_))); (case side2 => exact (Kd.R_reads' HO_11.out).2.1); (case side3 => repeat (first | exact (Kd.R_reads' HO_7.out).2.2 | (with_reducible refine Kd.C_alloc ?_ _) | (with_reducible refine Kd.C_drewN ?_ _) | (with_reducible refine Kd.C_drew ?_))); (case side4 => exact (Kd.R_reads' HO_7.out).2.1); rintro e w' ⟨rfl, ⟨nd, rfl⟩⟩))
                    go_meet
                    case rel => exact ⟨_, (true), zrx, H', ⟨by have := HJ8.out; first | omega | exact Nat.le_refl _⟩, ⟨by (with_reducible repeat (first | apply Kd.R_alloc | apply Kd.R_drewN | apply Kd.R_drew)); exact Kd.R_mono HO_6.out (fun _ hk => hk.2.1)⟩, ⟨by (with_reducible repeat (first | apply Kd.R_alloc | apply Kd.R_drewN | apply Kd.R_drew)); exact HO_7.out⟩, ⟨by (with_reducible repeat (first | apply Kd.R_alloc | apply Kd.R_drewN | apply Kd.R_drew)); exact Kd.R_mono HO_10.out (fun _ hk => hk.1)⟩, ⟨by (with_reducible repeat (first | apply Kd.R_alloc | apply Kd.R_drewN | apply Kd.R_drew)); exact HO_11.out⟩, ⟨by exact zBx HB.out⟩⟩
                · replace c45 := Bool.eq_false_iff.mpr c45
                  subst c45
                  have H1 : (laws_FnExactPassMinute.j1 kj8 l0 a1 t202 t203 t204 t212 t213 true) = some r := by rw [if_neg (show ¬ (false = true) by decide)] at H; exact H
                  clear H
                  have H := H1
                  clear H1
                  have H' := Aside0.mk H
                  clear H
                  obtain ⟨Ao58, co58, eo58⟩ := Kd.R_slice HO_10.out
                  subst eo58
                  obtain ⟨Ao59, co59, eo59⟩ := Kd.R_slice HO_6.out
                  subst eo59
                  go_wp2_with (first | (go_at_call 35; (with_reducible refine (laws_eqDeliveryS.calls kj8 _ _ t212 _ _ t202 false _ ?side1 ?side2 ?side3 ?side4 A44.out).mono ?_); (case side1 => repeat (first | exact (Kd.R_reads' HO_10.out).2.2 | (with_reducible refine Kd.C_alloc ?_ _) | (with_reducible refine Kd.C_drewN ?_ _) | (with_reducible refine Kd.C_drew ?_))); (case side2 => exact (Kd.R_reads' HO_10.out).2.1); (case side3 => repeat (first | exact (Kd.R_reads' HO_6.out).2.2 | (with_reducible refine Kd.C_alloc ?_ _) | (with_reducible refine Kd.C_drewN ?_ _) | (with_reducible refine Kd.C_drew ?_))); (case side4 => exact (Kd.R_reads' HO_6.out).2.1); rintro e w60 ⟨rfl, hb⟩; have n0_ := Aside0.mk (Kd.R_below (zRx HO_6.out) hb); have n1_ := Aside0.mk (Kd.R_below (zRx HO_7.out) hb); have n2_ := Aside0.mk (Kd.R_below (zRx HO_9.out) hb); have n3_ := Aside0.mk (Kd.R_below (zRx HO_10.out) hb); have n4_ := Aside0.mk (Kd.R_below (zRx HO_11.out) hb); have n5_ := Aside0.mk (Kd.R_below (zRx HO223.out) hb); have n6_ := Aside0.mk (below_step (zBx HB.out) hb); clear HO_6; clear HO_7; clear HO_9; clear HO_10; clear HO_11; clear HO223; clear HB; have HO_6 := n0_; have HO_7 := n1_; have HO_9 := n2_; have HO_10 := n3_; have HO_11 := n4_; have HO223 := n5_; have HB := n6_; clear n0_ n1_ n2_ n3_ n4_ n5_ n6_; (try clear hb); (try clear hb2); (try clear hk); (try clear hi)))
                  go_meet
                  case rel => exact ⟨_, (true), zrx, H', ⟨by have := HJ8.out; first | omega | exact Nat.le_refl _⟩, ⟨by (with_reducible repeat (first | apply Kd.R_alloc | apply Kd.R_drewN | apply Kd.R_drew)); exact Kd.R_mono HO_6.out (fun _ hk => hk.2.1)⟩, ⟨by (with_reducible repeat (first | apply Kd.R_alloc | apply Kd.R_drewN | apply Kd.R_drew)); exact HO_7.out⟩, ⟨by (with_reducible repeat (first | apply Kd.R_alloc | apply Kd.R_drewN | apply Kd.R_drew)); exact Kd.R_mono HO_10.out (fun _ hk => hk.1)⟩, ⟨by (with_reducible repeat (first | apply Kd.R_alloc | apply Kd.R_drewN | apply Kd.R_drew)); exact HO_11.out⟩, ⟨by exact zBx HB.out⟩⟩
            case rest =>
              clear HC38
              try clear c1
              try clear p2
              try clear c3
              try clear c4
              try clear c4b0
              try clear c9
              try clear c17
              try clear c19
              try clear c31
              try clear c33
              try clear c35
              try clear c36
              try clear c40
              try clear c41
              try clear c43
              try clear c43b0
              try clear c45
              try clear c47
              try clear p2
              obtain ⟨kq, x82_37, rfl, HA, HJ37, HO_6, HO_7, HO_10, HO_11, HB⟩ := hcut
              cases kq with
              | zero => exact absurd HA.out (by simp [laws_FnExactPassMinute.j1])
              | succ kj37 =>
                have H := HA.out
                clear HA
                simp only [laws_FnExactPassMinute.j1] at H
                by_cases c61 : x82_37 = true
                · subst c61
                  have H1 : (some false) = some r := by rw [if_pos rfl] at H; exact H
                  clear H
                  have H := H1
                  clear H1
                  exact absurd (Option.some.inj H) (by rw [hr_]; decide)
                · replace c61 := Bool.eq_false_iff.mpr c61
                  subst c61
                  have H1 : ((laws_markDeliveryS.f kj37 t212 1).bind fun bt229 => ((laws_markIntS.f kj37 t213 bt229.1).bind fun bt231 => ((laws_heldDeliveryS.f kj37 bt229.2 1).bind fun t233 => (if t233 < 0 then (some false) else ((laws_heldIntS.f kj37 bt231.2 t233).bind fun t234 => (if t234 < 0 then (some false) else (if t234 = bt231.1 then ((laws_toDeliveryS.f kj37 l0).bind fun t235 => ((impl_PassMinute.f kj37 t235 a1).bind fun bt238 => ((laws_eqDeliveryS.f kj37 bt238.1 t202).bind fun t245 => (if t245 = true then ((laws_eqIntS.f kj37 bt238.2.1 t203).bind fun t246 => (if t246 = true then (laws_FnExactPassMinute.j2 kj37 bt229.2 bt231.2 bt231.1 (bt238.2.2 != t204)) else (laws_FnExactPassMinute.j2 kj37 bt229.2 bt231.2 bt231.1 true))) else (laws_FnExactPassMinute.j2 kj37 bt229.2 bt231.2 bt231.1 true))))) else (some false)))))))) = some r := by rw [if_neg (show ¬ (false = true) by decide)] at H; exact H
                  clear H
                  have H := H1
                  clear H1
                  replace H := Option.bind_eq_some_iff.mp H
                  obtain ⟨⟨t229, t230⟩, A620, H⟩ := H
                  replace H : ((laws_markIntS.f kj37 t213 t229).bind fun bt231 => ((laws_heldDeliveryS.f kj37 t230 1).bind fun t233 => (if t233 < 0 then (some false) else ((laws_heldIntS.f kj37 bt231.2 t233).bind fun t234 => (if t234 < 0 then (some false) else (if t234 = bt231.1 then ((laws_toDeliveryS.f kj37 l0).bind fun t235 => ((impl_PassMinute.f kj37 t235 a1).bind fun bt238 => ((laws_eqDeliveryS.f kj37 bt238.1 t202).bind fun t245 => (if t245 = true then ((laws_eqIntS.f kj37 bt238.2.1 t203).bind fun t246 => (if t246 = true then (laws_FnExactPassMinute.j2 kj37 t230 bt231.2 bt231.1 (bt238.2.2 != t204)) else (laws_FnExactPassMinute.j2 kj37 t230 bt231.2 bt231.1 true))) else (laws_FnExactPassMinute.j2 kj37 t230 bt231.2 bt231.1 true))))) else (some false))))))) = some r := H
                  have A62 := Aside0.mk A620
                  clear A620
                  replace H := Option.bind_eq_some_iff.mp H
                  obtain ⟨⟨t231, t232⟩, A630, H⟩ := H
                  replace H : ((laws_heldDeliveryS.f kj37 t230 1).bind fun t233 => (if t233 < 0 then (some false) else ((laws_heldIntS.f kj37 t232 t233).bind fun t234 => (if t234 < 0 then (some false) else (if t234 = t231 then ((laws_toDeliveryS.f kj37 l0).bind fun t235 => ((impl_PassMinute.f kj37 t235 a1).bind fun bt238 => ((laws_eqDeliveryS.f kj37 bt238.1 t202).bind fun t245 => (if t245 = true then ((laws_eqIntS.f kj37 bt238.2.1 t203).bind fun t246 => (if t246 = true then (laws_FnExactPassMinute.j2 kj37 t230 t232 t231 (bt238.2.2 != t204)) else (laws_FnExactPassMinute.j2 kj37 t230 t232 t231 true))) else (laws_FnExactPassMinute.j2 kj37 t230 t232 t231 true))))) else (some false)))))) = some r := H
                  have A63 := Aside0.mk A630
                  clear A630
                  replace H := Option.bind_eq_some_iff.mp H
                  obtain ⟨t233, A640, H⟩ := H
                  replace H : (if t233 < 0 then (some false) else ((laws_heldIntS.f kj37 t232 t233).bind fun t234 => (if t234 < 0 then (some false) else (if t234 = t231 then ((laws_toDeliveryS.f kj37 l0).bind fun t235 => ((impl_PassMinute.f kj37 t235 a1).bind fun bt238 => ((laws_eqDeliveryS.f kj37 bt238.1 t202).bind fun t245 => (if t245 = true then ((laws_eqIntS.f kj37 bt238.2.1 t203).bind fun t246 => (if t246 = true then (laws_FnExactPassMinute.j2 kj37 t230 t232 t231 (bt238.2.2 != t204)) else (laws_FnExactPassMinute.j2 kj37 t230 t232 t231 true))) else (laws_FnExactPassMinute.j2 kj37 t230 t232 t231 true))))) else (some false))))) = some r := H
                  have A64 := Aside0.mk A640
                  clear A640
                  by_cases c65 : t233 < 0
                  · rw [if_pos c65] at H
                    have c65b0 : decide (t233 < 0) = true := decide_eq_true c65
                    clear c65
                    exact absurd (Option.some.inj H) (by rw [hr_]; decide)
                  · rw [if_neg c65] at H
                    have c65b0 : decide (t233 < 0) = false := decide_eq_false c65
                    clear c65
                    replace H := Option.bind_eq_some_iff.mp H
                    obtain ⟨t234, A700, H⟩ := H
                    replace H : (if t234 < 0 then (some false) else (if t234 = t231 then ((laws_toDeliveryS.f kj37 l0).bind fun t235 => ((impl_PassMinute.f kj37 t235 a1).bind fun bt238 => ((laws_eqDeliveryS.f kj37 bt238.1 t202).bind fun t245 => (if t245 = true then ((laws_eqIntS.f kj37 bt238.2.1 t203).bind fun t246 => (if t246 = true then (laws_FnExactPassMinute.j2 kj37 t230 t232 t231 (bt238.2.2 != t204)) else (laws_FnExactPassMinute.j2 kj37 t230 t232 t231 true))) else (laws_FnExactPassMinute.j2 kj37 t230 t232 t231 true))))) else (some false))) = some r := H
                    have A70 := Aside0.mk A700
                    clear A700
                    by_cases c71 : t234 < 0
                    · rw [if_pos c71] at H
                      have c71b0 : decide (t234 < 0) = true := decide_eq_true c71
                      clear c71
                      exact absurd (Option.some.inj H) (by rw [hr_]; decide)
                    · rw [if_neg c71] at H
                      have c71b0 : decide (t234 < 0) = false := decide_eq_false c71
                      clear c71
                      by_cases c76 : t234 = t231
                      · rw [if_pos c76] at H
                        have c76b0 : (t234 == t231) = true := beq_iff_eq.mpr c76
                        have c76b1 : (t234 != t231) = false := bne_eq_false_iff_eq.mpr c76
                        clear c76
                        replace H := Option.bind_eq_some_iff.mp H
                        obtain ⟨t235, A770, H⟩ := H
                        replace H : ((impl_PassMinute.f kj37 t235 a1).bind fun bt238 => ((laws_eqDeliveryS.f kj37 bt238.1 t202).bind fun t245 => (if t245 = true then ((laws_eqIntS.f kj37 bt238.2.1 t203).bind fun t246 => (if t246 = true then (laws_FnExactPassMinute.j2 kj37 t230 t232 t231 (bt238.2.2 != t204)) else (laws_FnExactPassMinute.j2 kj37 t230 t232 t231 true))) else (laws_FnExactPassMinute.j2 kj37 t230 t232 t231 true)))) = some r := H
                        have A77 := Aside0.mk A770
                        clear A770
                        replace H := Option.bind_eq_some_iff.mp H
                        obtain ⟨⟨t238, t239, t240⟩, A780, H⟩ := H
                        replace H : ((laws_eqDeliveryS.f kj37 t238 t202).bind fun t245 => (if t245 = true then ((laws_eqIntS.f kj37 t239 t203).bind fun t246 => (if t246 = true then (laws_FnExactPassMinute.j2 kj37 t230 t232 t231 (t240 != t204)) else (laws_FnExactPassMinute.j2 kj37 t230 t232 t231 true))) else (laws_FnExactPassMinute.j2 kj37 t230 t232 t231 true))) = some r := H
                        have A78 := Aside0.mk A780
                        clear A780
                        have HC79 := Aside0.mk H
                        clear H
                        obtain ⟨Ao80, co80, eo80⟩ := Kd.R_slice HO_10.out
                        subst eo80
                        go_upto_region 29 with (first | ((with_reducible refine gate_callee (f := 36) rfl ?_); refine goesL_ (some 85) rfl rfl Try.func36 (by kernel_rfl) rfl #[.slice Ao80 t212.length co80, .int .i64 1] rfl zlx ?_; (with_reducible refine (laws_markDeliveryS.calls kj37 (fun k_ => some k_ = (.slice Ao80 t212.length co80 : Value).ownBlock) (.slice Ao80 t212.length co80) t212 1 t229 t230 w _ ?side1 ?side2 A62.out).mono ?_); (case side1 => exact zBx HB.out); (case side2 => exact Kd.R_tight rfl HO_10.out); rintro e w81 ⟨rfl, hy0, hb, hkp⟩; refine ⟨_, rfl, ?_⟩; have n0_ := Aside0.mk (Kd.R_mono (ok' := fun k_ => some k_ ≠ (.slice Ao80 t212.length co80 : Value).ownBlock) (Kd.R_keptB (HO_6.out) hkp (fun k_ hk_ hs_ => (hk_) hs_)) (fun k_ hk_ => hk_.1)); have n1_ := Aside0.mk (Kd.R_mono (ok' := fun k_ => some k_ ≠ (v217 : Value).ownBlock) (Kd.R_keptB ((Kd.R_apart' HO_7.out (Kd.R_typed HO_10.out) (by decide))) hkp (fun k_ hk_ hs_ => (hk_.2) hs_)) (fun k_ hk_ => hk_.1.1)); have n2_ := Aside0.mk (Kd.R_reok rfl hy0 (fun k_ e_ => HO_10.out.1 k_ e_)); have n3_ := Aside0.mk (Kd.R_mono (ok' := fun k_ => some k_ ≠ (v207 : Value).ownBlock) (Kd.R_keptB ((Kd.R_apart' HO_11.out (Kd.R_typed HO_10.out) (by decide))) hkp (fun k_ hk_ hs_ => (hk_.2) hs_)) (fun k_ hk_ => hk_.1.1)); have n4_ := Aside0.mk (hb); clear HO_6; clear HO_7; clear HO_10; clear HO_11; clear HB; have HO_6 := n0_; have HO_7 := n1_; have HO_10 := n2_; have HO_11 := n3_; have HB := n4_; clear n0_ n1_ n2_ n3_ n4_; (try clear hb); (try clear hkp); (try clear hy0); obtain ⟨Ao82, co82, eo82⟩ := Kd.R_slice HO_11.out; subst eo82) | ((with_reducible refine gate_callee (f := 43) rfl ?_); refine goesL_ (some 88) rfl rfl Try.func43 (by kernel_rfl) rfl #[.slice Ao82 t213.length co82, .int .i64 t229] rfl zlx ?_; (with_reducible refine (laws_markIntS.calls kj37 (fun k_ => some k_ = (.slice Ao82 t213.length co82 : Value).ownBlock) (.slice Ao82 t213.length co82) t213 t229 t231 t232 w _ ?side1 ?side2 A63.out).mono ?_); (case side1 => exact zBx HB.out); (case side2 => exact Kd.R_tight rfl HO_11.out); rintro e w83 ⟨rfl, hy0, hb, hkp⟩; refine ⟨_, rfl, ?_⟩; have n0_ := Aside0.mk (Kd.R_mono (ok' := fun k_ => some k_ ≠ (.slice Ao80 t212.length co80 : Value).ownBlock) (Kd.R_keptB ((Kd.R_apart' HO_6.out (Kd.R_typed HO_11.out) (by decide))) hkp (fun k_ hk_ hs_ => (hk_.2) hs_)) (fun k_ hk_ => hk_.1.1)); have n1_ := Aside0.mk (Kd.R_mono (ok' := fun k_ => some k_ ≠ (.slice Ao82 t213.length co82 : Value).ownBlock) (Kd.R_keptB (HO_7.out) hkp (fun k_ hk_ hs_ => (hk_) hs_)) (fun k_ hk_ => hk_.1)); have n2_ := Aside0.mk (Kd.R_mono (ok' := fun k_ => some k_ ≠ (v205 : Value).ownBlock) (Kd.R_keptB ((Kd.R_apart' HO_10.out (Kd.R_typed HO_11.out) (by decide))) hkp (fun k_ hk_ hs_ => (hk_.2) hs_)) (fun k_ hk_ => hk_.1.1)); have n3_ := Aside0.mk (Kd.R_reok rfl hy0 (fun k_ e_ => HO_11.out.1 k_ e_)); have n4_ := Aside0.mk (hb); clear HO_6; clear HO_7; clear HO_10; clear HO_11; clear HB; have HO_6 := n0_; have HO_7 := n1_; have HO_10 := n2_; have HO_11 := n3_; have HB := n4_; clear n0_ n1_ n2_ n3_ n4_; (try clear hb); (try clear hkp); (try clear hy0)) | ((with_reducible refine gate_callee (f := 37) rfl ?_); refine goesL_ (some 91) rfl rfl Try.func37 (by kernel_rfl) rfl #[.slice Ao80 t230.length co80, .int .i64 1] rfl (by (try simp only [List.map_toArray, List.map_cons, List.map_nil]); first | done | (rw [show t230.length = t212.length from (Kd.R_reads' HO_10.out).1.symm] <;> rfl) | rfl | (simp only [List.length_drop, List.length_take]; rfl)) ?_; (with_reducible refine (laws_heldDeliveryS.calls kj37 _ _ t230 1 t233 _ ?side1 ?side2 A64.out).mono ?_); (case side1 => repeat (first | exact (Kd.R_reads' HO_10.out).2.2 | (with_reducible refine Kd.C_alloc ?_ _) | (with_reducible refine Kd.C_drewN ?_ _) | (with_reducible refine Kd.C_drew ?_))); (case side2 => rw [show t230.length = t212.length from (Kd.R_reads' HO_10.out).1.symm]; exact (Kd.R_reads' HO_10.out).2.1); rintro e w' ⟨rfl, ⟨nd, rfl⟩⟩; refine ⟨_, rfl, ?_⟩) | ((with_reducible refine gate_callee (f := 44) rfl ?_); refine goesL_ (some 96) rfl rfl Try.func44 (by kernel_rfl) rfl #[.slice Ao82 t232.length co82, .int .i64 t233] rfl (by (try simp only [List.map_toArray, List.map_cons, List.map_nil]); first | done | (rw [show t232.length = t213.length from (Kd.R_reads' HO_11.out).1.symm] <;> rfl) | rfl | (simp only [List.length_drop, List.length_take]; rfl)) ?_; (with_reducible refine (laws_heldIntS.calls kj37 _ _ t232 t233 t234 _ ?side1 ?side2 A70.out).mono ?_); (case side1 => repeat (first | exact (Kd.R_reads' HO_11.out).2.2 | (with_reducible refine Kd.C_alloc ?_ _) | (with_reducible refine Kd.C_drewN ?_ _) | (with_reducible refine Kd.C_drew ?_))); (case side2 => rw [show t232.length = t213.length from (Kd.R_reads' HO_11.out).1.symm]; exact (Kd.R_reads' HO_11.out).2.1); rintro e w' ⟨rfl, ⟨nd, rfl⟩⟩; refine ⟨_, rfl, ?_⟩) | ((with_reducible refine gate_callee (f := 33) rfl ?_); refine goesL_ (some 104) rfl rfl Try.func33 (by kernel_rfl) rfl #[.slice A0 l0.length c0] rfl zlx ?_; (with_reducible refine (laws_toDeliveryS.calls kj37 _ _ l0 t235 _ ?side1 ?side2 A77.out).mono ?_); (case side1 => repeat (first | exact (Kd.C_below HR0.out (zBx HB.out)) | (with_reducible refine Kd.C_alloc ?_ _) | (with_reducible refine Kd.C_drewN ?_ _) | (with_reducible refine Kd.C_drew ?_))); (case side2 => exact HC0.out); rintro e w84 ⟨v236, rfl, ho0, hb⟩; refine ⟨_, rfl, ?_⟩; have n0_ := Aside0.mk (Kd.R_elder' (zRx HO_6.out) (Kd.R_base ho0) hb); have n1_ := Aside0.mk (Kd.R_below (zRx HO_7.out) hb); have n2_ := Aside0.mk (Kd.R_elder' (zRx HO_10.out) (Kd.R_base ho0) hb); have n3_ := Aside0.mk (Kd.R_below (zRx HO_11.out) hb); have n4_ := Aside0.mk (Kd.R_lower (Kd.R_new' (Kd.R_new' ho0 (Kd.R_lt (zRx HO_6.out))) (Kd.R_lt (zRx HO_10.out))) (below_size (zBx HB.out))); have n5_ := Aside0.mk (below_step (zBx HB.out) hb); clear HO_6; clear HO_7; clear HO_10; clear HO_11; clear HB; have HO_6 := n0_; have HO_7 := n1_; have HO_10 := n2_; have HO_11 := n3_; have HO237 := n4_; have HB := n5_; clear n0_ n1_ n2_ n3_ n4_ n5_; (try clear hb); (try clear hb2); (try clear hk); (try clear hi); (try clear ho0); obtain ⟨Ao85, co85, eo85⟩ := Kd.R_slice HO237.out; subst eo85) | ((with_reducible refine gate_callee (f := 41) rfl ?_); refine goesL_ (some 106) rfl rfl Try.func41 (by kernel_rfl) rfl #[.slice Ao85 t235.length co85, .int .i64 a1] rfl zlx ?_; (with_reducible refine (impl_PassMinute.calls kj37 _ _ t235 a1 t238 t239 t240 _ ?side1 ?side2 A78.out).mono ?_); (case side1 => repeat (first | exact (Kd.R_reads' HO237.out).2.2 | (with_reducible refine Kd.C_alloc ?_ _) | (with_reducible refine Kd.C_drewN ?_ _) | (with_reducible refine Kd.C_drew ?_))); (case side2 => exact (Kd.R_reads' HO237.out).2.1); rintro e w86 ⟨v241, v243, rfl, ho0, ho1, hb⟩; refine ⟨_, rfl, ?_⟩; have n0_ := Aside0.mk (Kd.R_elder' (zRx HO_6.out) (Kd.R_base ho0) hb); have n1_ := Aside0.mk (Kd.R_elder' (zRx HO_7.out) (Kd.R_base ho1) hb); have n2_ := Aside0.mk (Kd.R_elder' (zRx HO_10.out) (Kd.R_base ho0) hb); have n3_ := Aside0.mk (Kd.R_elder' (zRx HO_11.out) (Kd.R_base ho1) hb); have n4_ := Aside0.mk (Kd.R_elder' (zRx HO237.out) (Kd.R_base ho0) hb); have n5_ := Aside0.mk (Kd.R_lower (Kd.R_new' (Kd.R_new' (Kd.R_new' ho0 (Kd.R_lt (zRx HO_6.out))) (Kd.R_lt (zRx HO_10.out))) (Kd.R_lt (zRx HO237.out))) (below_size (zBx HB.out))); have n6_ := Aside0.mk (Kd.R_lower (Kd.R_new' (Kd.R_new' ho1 (Kd.R_lt (zRx HO_7.out))) (Kd.R_lt (zRx HO_11.out))) (below_size (zBx HB.out))); have n7_ := Aside0.mk (below_step (zBx HB.out) hb); clear HO_6; clear HO_7; clear HO_10; clear HO_11; clear HO237; clear HB; have HO_6 := n0_; have HO_7 := n1_; have HO_10 := n2_; have HO_11 := n3_; have HO237 := n4_; have HO242 := n5_; have HO244 := n6_; have HB := n7_; clear n0_ n1_ n2_ n3_ n4_ n5_ n6_ n7_; (try clear hb); (try clear hb2); (try clear hk); (try clear hi); (try clear ho0); (try clear ho1)))
                        (try simp only [Act.put, List.setIfInBounds_toArray, List.set_cons_zero, List.set_cons_succ])
                        go_cut [124] (fun v124 wc => ∃ (kq : Nat) (x124_78 : Bool), v124 = .bool x124_78 ∧ Aside0 (laws_FnExactPassMinute.j2 kq t230 t232 t231 x124_78 = some r) ∧ Aside0 (kq ≤ kj37) ∧ Aside0 (Kd.R k94 94 wc w.heap.size (fun _ => True) (.slice Ao80 t212.length co80) t230) ∧ Aside0 (Kd.R (Kd.int .i64) 3 wc w.heap.size (fun _ => True) (.slice Ao82 t213.length co82) t232) ∧ Aside0 (Below w.heap.size w wc))
                        case first =>
                          have H := HC79.out
                          clear HC79
                          replace H := Option.bind_eq_some_iff.mp H
                          obtain ⟨t245, A870, H⟩ := H
                          replace H : (if t245 = true then ((laws_eqIntS.f kj37 t239 t203).bind fun t246 => (if t246 = true then (laws_FnExactPassMinute.j2 kj37 t230 t232 t231 (t240 != t204)) else (laws_FnExactPassMinute.j2 kj37 t230 t232 t231 true))) else (laws_FnExactPassMinute.j2 kj37 t230 t232 t231 true)) = some r := H
                          have A87 := Aside0.mk A870
                          clear A870
                          by_cases c88 : t245 = true
                          · subst c88
                            have H1 : ((laws_eqIntS.f kj37 t239 t203).bind fun t246 => (if t246 = true then (laws_FnExactPassMinute.j2 kj37 t230 t232 t231 (t240 != t204)) else (laws_FnExactPassMinute.j2 kj37 t230 t232 t231 true))) = some r := by rw [if_pos rfl] at H; exact H
                            clear H
                            have H := H1
                            clear H1
                            replace H := Option.bind_eq_some_iff.mp H
                            obtain ⟨t246, A890, H⟩ := H
                            replace H : (if t246 = true then (laws_FnExactPassMinute.j2 kj37 t230 t232 t231 (t240 != t204)) else (laws_FnExactPassMinute.j2 kj37 t230 t232 t231 true)) = some r := H
                            have A89 := Aside0.mk A890
                            clear A890
                            by_cases c90 : t246 = true
                            · subst c90
                              have H1 : (laws_FnExactPassMinute.j2 kj37 t230 t232 t231 (t240 != t204)) = some r := by rw [if_pos rfl] at H; exact H
                              clear H
                              have H := H1
                              clear H1
                              have H' := Aside0.mk H
                              clear H
                              obtain ⟨Ao91, co91, eo91⟩ := Kd.R_slice HO242.out
                              subst eo91
                              obtain ⟨Ao92, co92, eo92⟩ := Kd.R_slice HO_6.out
                              subst eo92
                              go_wp2_with (first | ((with_reducible refine gate_callee (f := 35) rfl ?_); refine goesL_ (some 112) rfl rfl Try.func35 (by kernel_rfl) rfl #[.slice Ao91 t238.length co91, .slice Ao92 t202.length co92] rfl zlx ?_; (with_reducible refine (laws_eqDeliveryS.calls kj37 _ _ t238 _ _ t202 true _ ?side1 ?side2 ?side3 ?side4 A87.out).mono ?_); (case side1 => repeat (first | exact (Kd.R_reads' HO242.out).2.2 | (with_reducible refine Kd.C_alloc ?_ _) | (with_reducible refine Kd.C_drewN ?_ _) | (with_reducible refine Kd.C_drew ?_))); (case side2 => exact (Kd.R_reads' HO242.out).2.1); (case side3 => repeat (first | exact (Kd.R_reads' HO_6.out).2.2 | (with_reducible refine Kd.C_alloc ?_ _) | (with_reducible refine Kd.C_drewN ?_ _) | (with_reducible refine Kd.C_drew ?_))); (case side4 => exact (Kd.R_reads' HO_6.out).2.1); rintro e w93 ⟨rfl, hb⟩; refine ⟨_, rfl, ?_⟩; have n0_ := Aside0.mk (Kd.R_below (zRx HO_6.out) hb); have n1_ := Aside0.mk (Kd.R_below (zRx HO_7.out) hb); have n2_ := Aside0.mk (Kd.R_below (zRx HO_10.out) hb); have n3_ := Aside0.mk (Kd.R_below (zRx HO_11.out) hb); have n4_ := Aside0.mk (Kd.R_below (zRx HO237.out) hb); have n5_ := Aside0.mk (Kd.R_below (zRx HO242.out) hb); have n6_ := Aside0.mk (Kd.R_below (zRx HO244.out) hb); have n7_ := Aside0.mk (below_step (zBx HB.out) hb); clear HO_6; clear HO_7; clear HO_10; clear HO_11; clear HO237; clear HO242; clear HO244; clear HB; have HO_6 := n0_; have HO_7 := n1_; have HO_10 := n2_; have HO_11 := n3_; have HO237 := n4_; have HO242 := n5_; have HO244 := n6_; have HB := n7_; clear n0_ n1_ n2_ n3_ n4_ n5_ n6_ n7_; (try clear hb); (try clear hb2); (try clear hk); (try clear hi); obtain ⟨Ao94, co94, eo94⟩ := Kd.R_slice HO244.out; subst eo94; obtain ⟨Ao95, co95, eo95⟩ := Kd.R_slice HO_7.out; subst eo95) | (go_at_call 42; (with_reducible refine (laws_eqIntS.calls kj37 _ _ t239 _ _ t203 true _ ?side1 ?side2 ?side3 ?side4 A89.out).mono ?_); (case side1 => repeat (first | exact (Kd.R_reads' HO244.out).2.2 | (with_reducible refine Kd.C_alloc ?_ _) | (with_reducible refine Kd.C_drewN ?_ _) | (with_reducible refine Kd.C_drew ?_))); (case side2 => exact (Kd.R_reads' HO244.out).2.1); (case side3 => repeat (first | exact (Kd.R_reads' HO_7.out).2.2 | (with_reducible refine Kd.C_alloc ?_ _) | (with_reducible refine Kd.C_drewN ?_ _) | (with_reducible refine Kd.C_drew ?_))); (case side4 => exact (Kd.R_reads' HO_7.out).2.1); rintro e w' ⟨rfl, ⟨nd, rfl⟩⟩))
                              go_meet
                              case rel => exact ⟨_, ((t240 != t204)), zrx, H', ⟨by have := HJ8.out; have := HJ37.out; first | omega | exact Nat.le_refl _⟩, ⟨by (with_reducible repeat (first | apply Kd.R_alloc | apply Kd.R_drewN | apply Kd.R_drew)); exact Kd.R_mono HO_10.out (fun _ hk => trivial)⟩, ⟨by (with_reducible repeat (first | apply Kd.R_alloc | apply Kd.R_drewN | apply Kd.R_drew)); exact Kd.R_mono HO_11.out (fun _ hk => trivial)⟩, ⟨by exact zBx HB.out⟩⟩
                            · replace c90 := Bool.eq_false_iff.mpr c90
                              subst c90
                              have H1 : (laws_FnExactPassMinute.j2 kj37 t230 t232 t231 true) = some r := by rw [if_neg (show ¬ (false = true) by decide)] at H; exact H
                              clear H
                              have H := H1
                              clear H1
                              have H' := Aside0.mk H
                              clear H
                              obtain ⟨Ao96, co96, eo96⟩ := Kd.R_slice HO242.out
                              subst eo96
                              obtain ⟨Ao97, co97, eo97⟩ := Kd.R_slice HO_6.out
                              subst eo97
                              go_wp2_with (first | ((with_reducible refine gate_callee (f := 35) rfl ?_); refine goesL_ (some 112) rfl rfl Try.func35 (by kernel_rfl) rfl #[.slice Ao96 t238.length co96, .slice Ao97 t202.length co97] rfl zlx ?_; (with_reducible refine (laws_eqDeliveryS.calls kj37 _ _ t238 _ _ t202 true _ ?side1 ?side2 ?side3 ?side4 A87.out).mono ?_); (case side1 => repeat (first | exact (Kd.R_reads' HO242.out).2.2 | (with_reducible refine Kd.C_alloc ?_ _) | (with_reducible refine Kd.C_drewN ?_ _) | (with_reducible refine Kd.C_drew ?_))); (case side2 => exact (Kd.R_reads' HO242.out).2.1); (case side3 => repeat (first | exact (Kd.R_reads' HO_6.out).2.2 | (with_reducible refine Kd.C_alloc ?_ _) | (with_reducible refine Kd.C_drewN ?_ _) | (with_reducible refine Kd.C_drew ?_))); (case side4 => exact (Kd.R_reads' HO_6.out).2.1); rintro e w98 ⟨rfl, hb⟩; refine ⟨_, rfl, ?_⟩; have n0_ := Aside0.mk (Kd.R_below (zRx HO_6.out) hb); have n1_ := Aside0.mk (Kd.R_below (zRx HO_7.out) hb); have n2_ := Aside0.mk (Kd.R_below (zRx HO_10.out) hb); have n3_ := Aside0.mk (Kd.R_below (zRx HO_11.out) hb); have n4_ := Aside0.mk (Kd.R_below (zRx HO237.out) hb); have n5_ := Aside0.mk (Kd.R_below (zRx HO242.out) hb); have n6_ := Aside0.mk (Kd.R_below (zRx HO244.out) hb); have n7_ := Aside0.mk (below_step (zBx HB.out) hb); clear HO_6; clear HO_7; clear HO_10; clear HO_11; clear HO237; clear HO242; clear HO244; clear HB; have HO_6 := n0_; have HO_7 := n1_; have HO_10 := n2_; have HO_11 := n3_; have HO237 := n4_; have HO242 := n5_; have HO244 := n6_; have HB := n7_; clear n0_ n1_ n2_ n3_ n4_ n5_ n6_ n7_; (try clear hb); (try clear hb2); (try clear hk); (try clear hi); obtain ⟨Ao99, co99, eo99⟩ := Kd.R_slice HO244.out; subst eo99; obtain ⟨Ao100, co100, eo100⟩ := Kd.R_slice HO_7.out; subst eo100) | (go_at_call 42; (with_reducible refine (laws_eqIntS.calls kj37 _ _ t239 _ _ t203 false _ ?side1 ?side2 ?side3 ?side4 A89.out).mono ?_); (case side1 => repeat (first | exact (Kd.R_reads' HO244.out).2.2 | (with_reducible refine Kd.C_alloc ?_ _) | (with_reducible refine Kd.C_drewN ?_ _) | (with_reducible refine Kd.C_drew ?_))); (case side2 => exact (Kd.R_reads' HO244.out).2.1); (case side3 => repeat (first | exact (Kd.R_reads' HO_7.out).2.2 | (with_reducible refine Kd.C_alloc ?_ _) | (with_reducible refine Kd.C_drewN ?_ _) | (with_reducible refine Kd.C_drew ?_))); (case side4 => exact (Kd.R_reads' HO_7.out).2.1); rintro e w' ⟨rfl, ⟨nd, rfl⟩⟩))
                              go_meet
                              case rel => exact ⟨_, (true), zrx, H', ⟨by have := HJ8.out; have := HJ37.out; first | omega | exact Nat.le_refl _⟩, ⟨by (with_reducible repeat (first | apply Kd.R_alloc | apply Kd.R_drewN | apply Kd.R_drew)); exact Kd.R_mono HO_10.out (fun _ hk => trivial)⟩, ⟨by (with_reducible repeat (first | apply Kd.R_alloc | apply Kd.R_drewN | apply Kd.R_drew)); exact Kd.R_mono HO_11.out (fun _ hk => trivial)⟩, ⟨by exact zBx HB.out⟩⟩
                          · replace c88 := Bool.eq_false_iff.mpr c88
                            subst c88
                            have H1 : (laws_FnExactPassMinute.j2 kj37 t230 t232 t231 true) = some r := by rw [if_neg (show ¬ (false = true) by decide)] at H; exact H
                            clear H
                            have H := H1
                            clear H1
                            have H' := Aside0.mk H
                            clear H
                            obtain ⟨Ao101, co101, eo101⟩ := Kd.R_slice HO242.out
                            subst eo101
                            obtain ⟨Ao102, co102, eo102⟩ := Kd.R_slice HO_6.out
                            subst eo102
                            go_wp2_with (first | ((with_reducible refine gate_callee (f := 35) rfl ?_); refine goesL_ (some 112) rfl rfl Try.func35 (by kernel_rfl) rfl #[.slice Ao101 t238.length co101, .slice Ao102 t202.length co102] rfl zlx ?_; (with_reducible refine (laws_eqDeliveryS.calls kj37 _ _ t238 _ _ t202 false _ ?side1 ?side2 ?side3 ?side4 A87.out).mono ?_); (case side1 => repeat (first | exact (Kd.R_reads' HO242.out).2.2 | (with_reducible refine Kd.C_alloc ?_ _) | (with_reducible refine Kd.C_drewN ?_ _) | (with_reducible refine Kd.C_drew ?_))); (case side2 => exact (Kd.R_reads' HO242.out).2.1); (case side3 => repeat (first | exact (Kd.R_reads' HO_6.out).2.2 | (with_reducible refine Kd.C_alloc ?_ _) | (with_reducible refine Kd.C_drewN ?_ _) | (with_reducible refine Kd.C_drew ?_))); (case side4 => exact (Kd.R_reads' HO_6.out).2.1); rintro e w103 ⟨rfl, hb⟩; refine ⟨_, rfl, ?_⟩; have n0_ := Aside0.mk (Kd.R_below (zRx HO_6.out) hb); have n1_ := Aside0.mk (Kd.R_below (zRx HO_7.out) hb); have n2_ := Aside0.mk (Kd.R_below (zRx HO_10.out) hb); have n3_ := Aside0.mk (Kd.R_below (zRx HO_11.out) hb); have n4_ := Aside0.mk (Kd.R_below (zRx HO237.out) hb); have n5_ := Aside0.mk (Kd.R_below (zRx HO242.out) hb); have n6_ := Aside0.mk (Kd.R_below (zRx HO244.out) hb); have n7_ := Aside0.mk (below_step (zBx HB.out) hb); clear HO_6; clear HO_7; clear HO_10; clear HO_11; clear HO237; clear HO242; clear HO244; clear HB; have HO_6 := n0_; have HO_7 := n1_; have HO_10 := n2_; have HO_11 := n3_; have HO237 := n4_; have HO242 := n5_; have HO244 := n6_; have HB := n7_; clear n0_ n1_ n2_ n3_ n4_ n5_ n6_ n7_; (try clear hb); (try clear hb2); (try clear hk); (try clear hi)))
                            go_meet
                            case rel => exact ⟨_, (true), zrx, H', ⟨by have := HJ8.out; have := HJ37.out; first | omega | exact Nat.le_refl _⟩, ⟨by (with_reducible repeat (first | apply Kd.R_alloc | apply Kd.R_drewN | apply Kd.R_drew)); exact Kd.R_mono HO_10.out (fun _ hk => trivial)⟩, ⟨by (with_reducible repeat (first | apply Kd.R_alloc | apply Kd.R_drewN | apply Kd.R_drew)); exact Kd.R_mono HO_11.out (fun _ hk => trivial)⟩, ⟨by exact zBx HB.out⟩⟩
                        case rest =>
                          clear HC79
                          try clear c1
                          try clear p2
                          try clear c3
                          try clear c4
                          try clear c4b0
                          try clear c6
                          try clear c7
                          try clear c8
                          try clear c9
                          try clear c17
                          try clear c19
                          try clear c31
                          try clear c33
                          try clear c35
                          try clear c36
                          try clear c37
                          try clear c40
                          try clear c41
                          try clear c43
                          try clear c43b0
                          try clear c44
                          try clear c45
                          try clear c47
                          try clear c61
                          try clear c65
                          try clear c65b0
                          try clear c71
                          try clear c71b0
                          try clear c76
                          try clear c76b0
                          try clear c76b1
                          try clear c88
                          try clear c90
                          try clear p2
                          obtain ⟨kq, x124_78, rfl, HA, HJ78, HO_10, HO_11, HB⟩ := hcut
                          have hl10_78 := (Kd.R_reads' HO_10.out).1
                          rw [hl10_78] at HO_10
                          (try simp only [hl10_78])
                          (try simp only [hl10_78] at HO_11)
                          have hl11_78 := (Kd.R_reads' HO_11.out).1
                          rw [hl11_78] at HO_11
                          (try simp only [hl11_78])
                          (try simp only [hl11_78] at HO_10)
                          cases kq with
                          | zero => exact absurd HA.out (by simp [laws_FnExactPassMinute.j2])
                          | succ kj78 =>
                            have H := HA.out
                            clear HA
                            simp only [laws_FnExactPassMinute.j2] at H
                            by_cases c104 : x124_78 = true
                            · subst c104
                              have H1 : (some false) = some r := by rw [if_pos rfl] at H; exact H
                              clear H
                              have H := H1
                              clear H1
                              exact absurd (Option.some.inj H) (by rw [hr_]; decide)
                            · replace c104 := Bool.eq_false_iff.mpr c104
                              subst c104
                              have H1 : ((laws_heldDeliveryS.f kj78 t230 1).bind fun t247 => (if t247 < 0 then (some false) else ((laws_heldIntS.f kj78 t232 t247).bind fun t248 => (if t248 < 0 then (some false) else (if t248 = t231 then (some true) else (some false)))))) = some r := by rw [if_neg (show ¬ (false = true) by decide)] at H; exact H
                              clear H
                              have H := H1
                              clear H1
                              replace H := Option.bind_eq_some_iff.mp H
                              obtain ⟨t247, A1050, H⟩ := H
                              replace H : (if t247 < 0 then (some false) else ((laws_heldIntS.f kj78 t232 t247).bind fun t248 => (if t248 < 0 then (some false) else (if t248 = t231 then (some true) else (some false))))) = some r := H
                              have A105 := Aside0.mk A1050
                              clear A1050
                              by_cases c106 : t247 < 0
                              · rw [if_pos c106] at H
                                have c106b0 : decide (t247 < 0) = true := decide_eq_true c106
                                clear c106
                                exact absurd (Option.some.inj H) (by rw [hr_]; decide)
                              · rw [if_neg c106] at H
                                have c106b0 : decide (t247 < 0) = false := decide_eq_false c106
                                (try rw [hl11_78] at c106b0)
                                clear c106
                                replace H := Option.bind_eq_some_iff.mp H
                                obtain ⟨t248, A1070, H⟩ := H
                                replace H : (if t248 < 0 then (some false) else (if t248 = t231 then (some true) else (some false))) = some r := H
                                have A107 := Aside0.mk A1070
                                clear A1070
                                by_cases c108 : t248 < 0
                                · rw [if_pos c108] at H
                                  have c108b0 : decide (t248 < 0) = true := decide_eq_true c108
                                  clear c108
                                  exact absurd (Option.some.inj H) (by rw [hr_]; decide)
                                · rw [if_neg c108] at H
                                  have c108b0 : decide (t248 < 0) = false := decide_eq_false c108
                                  (try rw [hl11_78] at c108b0)
                                  clear c108
                                  by_cases c109 : t248 = t231
                                  · rw [if_pos c109] at H
                                    have c109b0 : (t248 == t231) = true := beq_iff_eq.mpr c109
                                    have c109b1 : (t248 != t231) = false := bne_eq_false_iff_eq.mpr c109
                                    clear c109
                                    obtain rfl := Option.some.inj H
                                    go_wp2_with (first | ((with_reducible refine gate_callee (f := 37) rfl ?_); refine goesL_ (some 127) rfl rfl Try.func37 (by kernel_rfl) rfl #[.slice Ao80 t230.length co80, .int .i64 1] rfl zlx ?_; (with_reducible refine (laws_heldDeliveryS.calls kj78 _ _ t230 1 t247 _ ?side1 ?side2 A105.out).mono ?_); (case side1 => repeat (first | exact (Kd.R_reads' HO_10.out).2.2 | (with_reducible refine Kd.C_alloc ?_ _) | (with_reducible refine Kd.C_drewN ?_ _) | (with_reducible refine Kd.C_drew ?_))); (case side2 => exact (Kd.R_reads' HO_10.out).2.1); rintro e w' ⟨rfl, ⟨nd, rfl⟩⟩; refine ⟨_, rfl, ?_⟩) | ((with_reducible refine gate_callee (f := 44) rfl ?_); refine goesL_ (some 132) rfl rfl Try.func44 (by kernel_rfl) rfl #[.slice Ao82 t232.length co82, .int .i64 t247] rfl zlx ?_; (with_reducible refine (laws_heldIntS.calls kj78 _ _ t232 t247 t248 _ ?side1 ?side2 A107.out).mono ?_); (case side1 => repeat (first | exact (Kd.R_reads' HO_11.out).2.2 | (with_reducible refine Kd.C_alloc ?_ _) | (with_reducible refine Kd.C_drewN ?_ _) | (with_reducible refine Kd.C_drew ?_))); (case side2 => exact (Kd.R_reads' HO_11.out).2.1); rintro e w' ⟨rfl, ⟨nd, rfl⟩⟩; refine ⟨_, rfl, ?_⟩))
                                    go_ret
                                    exact ⟨by first | rfl | (simp [errW_none, errW_some] <;> rfl) | (simp [*, errW_none, errW_some] <;> rfl), by exact zBx HB.out⟩
                                  · rw [if_neg c109] at H
                                    have c109b0 : (t248 == t231) = false := beq_eq_false_iff_ne.mpr c109
                                    have c109b1 : (t248 != t231) = true := bne_iff_ne.mpr c109
                                    exact absurd (Option.some.inj H) (by rw [hr_]; decide)
                      · rw [if_neg c76] at H
                        have c76b0 : (t234 == t231) = false := beq_eq_false_iff_ne.mpr c76
                        have c76b1 : (t234 != t231) = true := bne_iff_ne.mpr c76
                        exact absurd (Option.some.inj H) (by rw [hr_]; decide)
          · replace c36 := Bool.eq_false_iff.mpr c36
            subst c36
            have H1 : (some false) = some r := by rw [if_neg (show ¬ (false = true) by decide)] at H; exact H
            clear H
            have H := H1
            clear H1
            exact absurd (Option.some.inj H) (by rw [hr_]; decide)

end Go.Proofs.Ytjagdjbiljooiaa.XFnExactPassMinute
