-- written by wip/tools/xprint.py (a program of this project) out of the translation
import Derived.Test.YtppjagpjlcbhpaaXFnExactAddDeliveryx0
import Derived.Test.YtppjagpjlcbhpaaXFnExactAddDeliveryx1
import Derived.Test.YtppjagpjlcbhpaaXFnExactAddDeliveryx4
import Derived.Test.YtppjagpjlcbhpaaXFnExactAddDeliveryx5
import Derived.Test.YtppjagpjlcbhpaaXFnExactAddDeliveryx7
import Derived.Test.YtppjagpjlcbhpaaXFnExactAddDeliveryx8
namespace Go.Proofs.Ytppjagpjlcbhpaa.XFnExactAddDelivery
open Go.RowKit Go.Proofs.YtppjagpjlcbhpaaW.PrintWords Go.Proofs.YtppjagpjlcbhpaaW.PrintLast Go.Proofs.YtppjagpjlcbhpaaW.PrintMore
attribute [local go_sem] max2_int min2_int max_two min_two max_three min_three max_four min_four   -- for this text's walks alone
set_option linter.unusedVariables false
set_option linter.unusedSimpArgs false

/-! ### laws_FnExactAddDelivery: function 5 -/
mutual
def laws_FnExactAddDelivery.j0 : Nat → List (S87) → Int → Int → List (S84) → Bool → List (S84) → List (S84) → Bool → Bool → Option (Bool)
  | 0, _, _, _, _, _, _, _, _, _ => none
  | k + 1, x0, x1, x2, x8, x9, x10, x11, x12, x48 => if x48 = true then (some false) else ((laws_toDeliveryS.f k x0).bind fun t229 => ((laws_eqDeliveryS.f k x10 t229).bind fun t232 => (if t232 = true then ((laws_markDeliveryS.f k x10 1).bind fun bt233 => (if bt233.1 < 0 then (laws_FnExactAddDelivery.j1 k x0 x1 x2 x8 x9 x11 true) else ((laws_eqDeliveryS.f k x11 x8).bind fun t235 => (if t235 = true then (laws_FnExactAddDelivery.j1 k x0 x1 x2 x8 x9 x11 (x12 != x9)) else (laws_FnExactAddDelivery.j1 k x0 x1 x2 x8 x9 x11 true))))) else (some false))))
def laws_FnExactAddDelivery.j1 : Nat → List (S87) → Int → Int → List (S84) → Bool → List (S84) → Bool → Option (Bool)
  | 0, _, _, _, _, _, _, _ => none
  | k + 1, x0, x1, x2, x8, x9, x11, x69 => if x69 = true then (some false) else ((laws_markDeliveryS.f k x11 1).bind fun bt236 => ((laws_heldDeliveryS.f k bt236.2 1).bind fun t238 => (if t238 < 0 then (some false) else (if t238 = bt236.1 then ((laws_toDeliveryS.f k x0).bind fun t239 => ((impl_AddDelivery.f k t239 x1 x2).bind fun bt242 => ((laws_eqDeliveryS.f k bt242.1 x8).bind fun t246 => (if t246 = true then (laws_FnExactAddDelivery.j2 k bt236.2 bt236.1 (bt242.2 != x9)) else (laws_FnExactAddDelivery.j2 k bt236.2 bt236.1 true))))) else (some false)))))
def laws_FnExactAddDelivery.j2 : Nat → List (S84) → Int → Bool → Option (Bool)
  | 0, _, _, _ => none
  | k + 1, x11, x14, x97 => if x97 = true then (some false) else ((laws_heldDeliveryS.f k x11 1).bind fun t247 => (if t247 < 0 then (some false) else (if t247 = x14 then (some true) else (some false))))
end
def laws_FnExactAddDelivery.f (k : Nat) (l0 : List (S87)) (a1 : Int) (a2 : Int) : Option (Bool) := (laws_szDeliveryS.f l0 1048576).bind fun t213 => (if t213 < 0 then (some true) else ((laws_toDeliveryS.f k l0).bind fun t214 => ((spec_AddDelivery.f k t214 a1 a2).bind fun bt217 => ((laws_toDeliveryS.f k l0).bind fun t221 => ((impl_AddDelivery.f k t221 a1 a2).bind fun bt224 => ((laws_eqDeliveryS.f k bt224.1 bt217.1).bind fun t228 => (if t228 = true then (laws_FnExactAddDelivery.j0 k l0 a1 a2 bt217.1 bt217.2 t221 bt224.1 bt224.2 (bt224.2 != bt217.2)) else (laws_FnExactAddDelivery.j0 k l0 a1 a2 bt217.1 bt217.2 t221 bt224.1 bt224.2 true))))))))
theorem laws_FnExactAddDelivery.mono_l : ∀ k, (∀ y0 y1 y2 y3 y4 y5 y6 y7 y8, LeO (laws_FnExactAddDelivery.j0 k y0 y1 y2 y3 y4 y5 y6 y7 y8) (laws_FnExactAddDelivery.j0 (k + 1) y0 y1 y2 y3 y4 y5 y6 y7 y8)) ∧ (∀ y0 y1 y2 y3 y4 y5 y6, LeO (laws_FnExactAddDelivery.j1 k y0 y1 y2 y3 y4 y5 y6) (laws_FnExactAddDelivery.j1 (k + 1) y0 y1 y2 y3 y4 y5 y6)) ∧ (∀ y0 y1 y2, LeO (laws_FnExactAddDelivery.j2 k y0 y1 y2) (laws_FnExactAddDelivery.j2 (k + 1) y0 y1 y2))
  | 0 => ⟨fun _ _ _ _ _ _ _ _ _ r h => by simp [laws_FnExactAddDelivery.j0] at h, fun _ _ _ _ _ _ _ r h => by simp [laws_FnExactAddDelivery.j1] at h, fun _ _ _ r h => by simp [laws_FnExactAddDelivery.j2] at h⟩
  | k + 1 => by
    obtain ⟨ih0, ih1, ih2⟩ := laws_FnExactAddDelivery.mono_l k
    refine ⟨?_, ?_, ?_⟩
    · intro y0 y1 y2 y3 y4 y5 y6 y7 y8
      unfold laws_FnExactAddDelivery.j0
      repeat' first
      | (with_reducible exact ih0 _ _ _ _ _ _ _ _ _)
      | (with_reducible exact ih1 _ _ _ _ _ _ _)
      | (with_reducible exact ih2 _ _ _)
      | (with_reducible exact impl_AddDelivery.mono _ _ _ _)
      | (with_reducible exact laws_eqDeliveryS.mono _ _ _)
      | (with_reducible exact laws_heldDeliveryS.mono _ _ _)
      | (with_reducible exact laws_markDeliveryS.mono _ _ _)
      | (with_reducible exact laws_toDeliveryS.mono _ _)
      | (with_reducible exact spec_AddDelivery.mono _ _ _ _)
      | (with_reducible exact LeO.refl _)
      | (with_reducible exact LeO.none _)
      | (with_reducible refine LeO.ite ?_ ?_)
      | (with_reducible refine LeO.bind ?_ (fun _ => ?_))
      | exact ih0 _ _ _ _ _ _ _ _ _
      | exact ih1 _ _ _ _ _ _ _
      | exact ih2 _ _ _
      | exact impl_AddDelivery.mono _ _ _ _
      | exact laws_eqDeliveryS.mono _ _ _
      | exact laws_heldDeliveryS.mono _ _ _
      | exact laws_markDeliveryS.mono _ _ _
      | exact laws_toDeliveryS.mono _ _
      | exact spec_AddDelivery.mono _ _ _ _
      | exact LeO.none _
      | refine LeO.ite ?_ ?_
      | refine LeO.bind ?_ (fun _ => ?_)
    · intro y0 y1 y2 y3 y4 y5 y6
      unfold laws_FnExactAddDelivery.j1
      repeat' first
      | (with_reducible exact ih0 _ _ _ _ _ _ _ _ _)
      | (with_reducible exact ih1 _ _ _ _ _ _ _)
      | (with_reducible exact ih2 _ _ _)
      | (with_reducible exact impl_AddDelivery.mono _ _ _ _)
      | (with_reducible exact laws_eqDeliveryS.mono _ _ _)
      | (with_reducible exact laws_heldDeliveryS.mono _ _ _)
      | (with_reducible exact laws_markDeliveryS.mono _ _ _)
      | (with_reducible exact laws_toDeliveryS.mono _ _)
      | (with_reducible exact spec_AddDelivery.mono _ _ _ _)
      | (with_reducible exact LeO.refl _)
      | (with_reducible exact LeO.none _)
      | (with_reducible refine LeO.ite ?_ ?_)
      | (with_reducible refine LeO.bind ?_ (fun _ => ?_))
      | exact ih0 _ _ _ _ _ _ _ _ _
      | exact ih1 _ _ _ _ _ _ _
      | exact ih2 _ _ _
      | exact impl_AddDelivery.mono _ _ _ _
      | exact laws_eqDeliveryS.mono _ _ _
      | exact laws_heldDeliveryS.mono _ _ _
      | exact laws_markDeliveryS.mono _ _ _
      | exact laws_toDeliveryS.mono _ _
      | exact spec_AddDelivery.mono _ _ _ _
      | exact LeO.none _
      | refine LeO.ite ?_ ?_
      | refine LeO.bind ?_ (fun _ => ?_)
    · intro y0 y1 y2
      unfold laws_FnExactAddDelivery.j2
      repeat' first
      | (with_reducible exact ih0 _ _ _ _ _ _ _ _ _)
      | (with_reducible exact ih1 _ _ _ _ _ _ _)
      | (with_reducible exact ih2 _ _ _)
      | (with_reducible exact impl_AddDelivery.mono _ _ _ _)
      | (with_reducible exact laws_eqDeliveryS.mono _ _ _)
      | (with_reducible exact laws_heldDeliveryS.mono _ _ _)
      | (with_reducible exact laws_markDeliveryS.mono _ _ _)
      | (with_reducible exact laws_toDeliveryS.mono _ _)
      | (with_reducible exact spec_AddDelivery.mono _ _ _ _)
      | (with_reducible exact LeO.refl _)
      | (with_reducible exact LeO.none _)
      | (with_reducible refine LeO.ite ?_ ?_)
      | (with_reducible refine LeO.bind ?_ (fun _ => ?_))
      | exact ih0 _ _ _ _ _ _ _ _ _
      | exact ih1 _ _ _ _ _ _ _
      | exact ih2 _ _ _
      | exact impl_AddDelivery.mono _ _ _ _
      | exact laws_eqDeliveryS.mono _ _ _
      | exact laws_heldDeliveryS.mono _ _ _
      | exact laws_markDeliveryS.mono _ _ _
      | exact laws_toDeliveryS.mono _ _
      | exact spec_AddDelivery.mono _ _ _ _
      | exact LeO.none _
      | refine LeO.ite ?_ ?_
      | refine LeO.bind ?_ (fun _ => ?_)
theorem laws_FnExactAddDelivery.mono : ∀ a0 a1 a2 k, LeO (laws_FnExactAddDelivery.f k a0 a1 a2) (laws_FnExactAddDelivery.f (k + 1) a0 a1 a2) := by
  intro a0 a1 a2 k
  obtain ⟨ih0, ih1, ih2⟩ := laws_FnExactAddDelivery.mono_l k
  unfold laws_FnExactAddDelivery.f
  repeat' first
      | (with_reducible exact ih0 _ _ _ _ _ _ _ _ _)
      | (with_reducible exact ih1 _ _ _ _ _ _ _)
      | (with_reducible exact ih2 _ _ _)
      | (with_reducible exact impl_AddDelivery.mono _ _ _ _)
      | (with_reducible exact laws_eqDeliveryS.mono _ _ _)
      | (with_reducible exact laws_heldDeliveryS.mono _ _ _)
      | (with_reducible exact laws_markDeliveryS.mono _ _ _)
      | (with_reducible exact laws_toDeliveryS.mono _ _)
      | (with_reducible exact spec_AddDelivery.mono _ _ _ _)
      | (with_reducible exact LeO.refl _)
      | (with_reducible exact LeO.none _)
      | (with_reducible refine LeO.ite ?_ ?_)
      | (with_reducible refine LeO.bind ?_ (fun _ => ?_))
      | exact ih0 _ _ _ _ _ _ _ _ _
      | exact ih1 _ _ _ _ _ _ _
      | exact ih2 _ _ _
      | exact impl_AddDelivery.mono _ _ _ _
      | exact laws_eqDeliveryS.mono _ _ _
      | exact laws_heldDeliveryS.mono _ _ _
      | exact laws_markDeliveryS.mono _ _ _
      | exact laws_toDeliveryS.mono _ _
      | exact spec_AddDelivery.mono _ _ _ _
      | exact LeO.none _
      | refine LeO.ite ?_ ?_
      | refine LeO.bind ?_ (fun _ => ?_)
set_option maxHeartbeats 8000000 in
set_option maxRecDepth 100000 in
theorem laws_FnExactAddDelivery.calls (k : Nat) (A0 : Option Addr) (c0 : Nat) (l0 : List (S87)) (a1 : Int) (a2 : Int) (r : Bool) (w : World) (hr0 : Kd.C k87 w A0 l0.length l0) (hc0 : l0.length ≤ c0) (h : laws_FnExactAddDelivery.f k l0 a1 a2 = some r) (hr_ : r = true) :
    Calls Try.prog 5 #[.slice A0 l0.length c0, .int .i64 a1, .int .i64 a2] w fun e w' => e = .returned (.bool r) ∧ Below w.heap.size w w' := by
  have HR0 := Aside0.mk hr0
  have HC0 := Aside0.mk hc0
  clear hr0 hc0
  have HB := Aside0.mk (Below.refl w.heap.size w)
  have H : ((laws_szDeliveryS.f l0 1048576).bind fun t213 => (if t213 < 0 then (some true) else ((laws_toDeliveryS.f k l0).bind fun t214 => ((spec_AddDelivery.f k t214 a1 a2).bind fun bt217 => ((laws_toDeliveryS.f k l0).bind fun t221 => ((impl_AddDelivery.f k t221 a1 a2).bind fun bt224 => ((laws_eqDeliveryS.f k bt224.1 bt217.1).bind fun t228 => (if t228 = true then (laws_FnExactAddDelivery.j0 k l0 a1 a2 bt217.1 bt217.2 t221 bt224.1 bt224.2 (bt224.2 != bt217.2)) else (laws_FnExactAddDelivery.j0 k l0 a1 a2 bt217.1 bt217.2 t221 bt224.1 bt224.2 true))))))))) = some r := h
  clear h
  replace H := Option.bind_eq_some_iff.mp H
  obtain ⟨t213, A40, H⟩ := H
  replace H : (if t213 < 0 then (some true) else ((laws_toDeliveryS.f k l0).bind fun t214 => ((spec_AddDelivery.f k t214 a1 a2).bind fun bt217 => ((laws_toDeliveryS.f k l0).bind fun t221 => ((impl_AddDelivery.f k t221 a1 a2).bind fun bt224 => ((laws_eqDeliveryS.f k bt224.1 bt217.1).bind fun t228 => (if t228 = true then (laws_FnExactAddDelivery.j0 k l0 a1 a2 bt217.1 bt217.2 t221 bt224.1 bt224.2 (bt224.2 != bt217.2)) else (laws_FnExactAddDelivery.j0 k l0 a1 a2 bt217.1 bt217.2 t221 bt224.1 bt224.2 true)))))))) = some r := H
  have A4 := Aside0.mk A40
  clear A40
  by_cases c5 : t213 < 0
  · rw [if_pos c5] at H
    have c5b0 : decide (t213 < 0) = true := decide_eq_true c5
    clear c5
    as_aux_lemma =>
      obtain rfl := Option.some.inj H
      go_enter Try.func5, Try.ntmps5
      go_wp2_with (first | ((with_reducible refine gate_callee (f := 22) rfl ?_); refine goesL_ (some 20) rfl rfl Try.func22 (by kernel_rfl) rfl #[.slice A0 l0.length c0, .int .i64 1048576] rfl zlx ?_; (with_reducible refine (laws_szDeliveryS.calls _ _ l0 1048576 t213 _ ?side1 ?side2 A4.out).mono ?_); (case side1 => exact zCx HR0.out); (case side2 => exact HC0.out); rintro e w' ⟨rfl, ⟨nd, rfl⟩⟩; refine ⟨_, rfl, ?_⟩))
      go_ret
      exact ⟨by first | rfl | (simp [errW_none, errW_some] <;> rfl) | (simp [*, errW_none, errW_some] <;> rfl), by exact zBx HB.out⟩
  · rw [if_neg c5] at H
    have c5b0 : decide (t213 < 0) = false := decide_eq_false c5
    clear c5
    replace H := Option.bind_eq_some_iff.mp H
    obtain ⟨t214, A60, H⟩ := H
    replace H : ((spec_AddDelivery.f k t214 a1 a2).bind fun bt217 => ((laws_toDeliveryS.f k l0).bind fun t221 => ((impl_AddDelivery.f k t221 a1 a2).bind fun bt224 => ((laws_eqDeliveryS.f k bt224.1 bt217.1).bind fun t228 => (if t228 = true then (laws_FnExactAddDelivery.j0 k l0 a1 a2 bt217.1 bt217.2 t221 bt224.1 bt224.2 (bt224.2 != bt217.2)) else (laws_FnExactAddDelivery.j0 k l0 a1 a2 bt217.1 bt217.2 t221 bt224.1 bt224.2 true)))))) = some r := H
    have A6 := Aside0.mk A60
    clear A60
    replace H := Option.bind_eq_some_iff.mp H
    obtain ⟨⟨t217, t218⟩, A70, H⟩ := H
    replace H : ((laws_toDeliveryS.f k l0).bind fun t221 => ((impl_AddDelivery.f k t221 a1 a2).bind fun bt224 => ((laws_eqDeliveryS.f k bt224.1 t217).bind fun t228 => (if t228 = true then (laws_FnExactAddDelivery.j0 k l0 a1 a2 t217 t218 t221 bt224.1 bt224.2 (bt224.2 != t218)) else (laws_FnExactAddDelivery.j0 k l0 a1 a2 t217 t218 t221 bt224.1 bt224.2 true))))) = some r := H
    have A7 := Aside0.mk A70
    clear A70
    replace H := Option.bind_eq_some_iff.mp H
    obtain ⟨t221, A80, H⟩ := H
    replace H : ((impl_AddDelivery.f k t221 a1 a2).bind fun bt224 => ((laws_eqDeliveryS.f k bt224.1 t217).bind fun t228 => (if t228 = true then (laws_FnExactAddDelivery.j0 k l0 a1 a2 t217 t218 t221 bt224.1 bt224.2 (bt224.2 != t218)) else (laws_FnExactAddDelivery.j0 k l0 a1 a2 t217 t218 t221 bt224.1 bt224.2 true)))) = some r := H
    have A8 := Aside0.mk A80
    clear A80
    replace H := Option.bind_eq_some_iff.mp H
    obtain ⟨⟨t224, t225⟩, A90, H⟩ := H
    replace H : ((laws_eqDeliveryS.f k t224 t217).bind fun t228 => (if t228 = true then (laws_FnExactAddDelivery.j0 k l0 a1 a2 t217 t218 t221 t224 t225 (t225 != t218)) else (laws_FnExactAddDelivery.j0 k l0 a1 a2 t217 t218 t221 t224 t225 true))) = some r := H
    have A9 := Aside0.mk A90
    clear A90
    have HC10 := Aside0.mk H
    clear H
    go_enter Try.func5, Try.ntmps5
    go_upto_region 8 with (first | ((with_reducible refine gate_callee (f := 22) rfl ?_); refine goesL_ (some 20) rfl rfl Try.func22 (by kernel_rfl) rfl #[.slice A0 l0.length c0, .int .i64 1048576] rfl zlx ?_; (with_reducible refine (laws_szDeliveryS.calls _ _ l0 1048576 t213 _ ?side1 ?side2 A4.out).mono ?_); (case side1 => exact zCx HR0.out); (case side2 => exact HC0.out); rintro e w' ⟨rfl, ⟨nd, rfl⟩⟩; refine ⟨_, rfl, ?_⟩) | ((with_reducible refine gate_callee (f := 24) rfl ?_); refine goesL_ (some 25) rfl rfl Try.func24 (by kernel_rfl) rfl #[.slice A0 l0.length c0] rfl zlx ?_; (with_reducible refine (laws_toDeliveryS.calls k _ _ l0 t214 _ ?side1 ?side2 A6.out).mono ?_); (case side1 => exact zCx HR0.out); (case side2 => exact HC0.out); rintro e w11 ⟨v215, rfl, ho0, hb⟩; refine ⟨_, rfl, ?_⟩; have n0_ := Aside0.mk (Kd.R_lower ho0 (below_size (zBx HB.out))); have n1_ := Aside0.mk (below_step (zBx HB.out) hb); clear HB; have HO216 := n0_; have HB := n1_; clear n0_ n1_; (try clear hb); (try clear hb2); (try clear hk); (try clear hi); (try clear ho0); obtain ⟨Ao12, co12, eo12⟩ := Kd.R_slice HO216.out; subst eo12) | ((with_reducible refine gate_callee (f := 23) rfl ?_); refine goesL_ (some 28) rfl rfl Try.func23 (by kernel_rfl) rfl #[.slice Ao12 t214.length co12, .int .i64 a1, .int .i64 a2] rfl zlx ?_; (with_reducible refine (spec_AddDelivery.calls k _ _ t214 a1 a2 t217 t218 _ ?side1 ?side2 A7.out).mono ?_); (case side1 => repeat (first | exact (Kd.R_reads' HO216.out).2.2 | (with_reducible refine Kd.C_alloc ?_ _) | (with_reducible refine Kd.C_drewN ?_ _) | (with_reducible refine Kd.C_drew ?_))); (case side2 => exact (Kd.R_reads' HO216.out).2.1); rintro e w13 ⟨v219, rfl, ho0, hb⟩; refine ⟨_, rfl, ?_⟩; have n0_ := Aside0.mk (Kd.R_elder' (zRx HO216.out) (Kd.R_base ho0) hb); have n1_ := Aside0.mk (Kd.R_lower (Kd.R_new' ho0 (Kd.R_lt (zRx HO216.out))) (below_size (zBx HB.out))); have n2_ := Aside0.mk (below_step (zBx HB.out) hb); clear HO216; clear HB; have HO216 := n0_; have HO220 := n1_; have HB := n2_; clear n0_ n1_ n2_; (try clear hb); (try clear hb2); (try clear hk); (try clear hi); (try clear ho0)) | ((with_reducible refine gate_callee (f := 24) rfl ?_); refine goesL_ (some 32) rfl rfl Try.func24 (by kernel_rfl) rfl #[.slice A0 l0.length c0] rfl zlx ?_; (with_reducible refine (laws_toDeliveryS.calls k _ _ l0 t221 _ ?side1 ?side2 A8.out).mono ?_); (case side1 => repeat (first | exact (Kd.C_below HR0.out HB.out) | (with_reducible refine Kd.C_alloc ?_ _) | (with_reducible refine Kd.C_drewN ?_ _) | (with_reducible refine Kd.C_drew ?_))); (case side2 => exact HC0.out); rintro e w14 ⟨v222, rfl, ho0, hb⟩; refine ⟨_, rfl, ?_⟩; have n0_ := Aside0.mk (Kd.R_elder' (zRx HO216.out) (Kd.R_base ho0) hb); have n1_ := Aside0.mk (Kd.R_elder' (zRx HO220.out) (Kd.R_base ho0) hb); have n2_ := Aside0.mk (Kd.R_lower (Kd.R_new' (Kd.R_new' ho0 (Kd.R_lt (zRx HO216.out))) (Kd.R_lt (zRx HO220.out))) (below_size (zBx HB.out))); have n3_ := Aside0.mk (below_step (zBx HB.out) hb); clear HO216; clear HO220; clear HB; have HO216 := n0_; have HO220 := n1_; have HO223 := n2_; have HB := n3_; clear n0_ n1_ n2_ n3_; (try clear hb); (try clear hb2); (try clear hk); (try clear hi); (try clear ho0); obtain ⟨Ao15, co15, eo15⟩ := Kd.R_slice HO223.out; subst eo15) | ((with_reducible refine gate_callee (f := 25) rfl ?_); refine goesL_ (some 37) rfl rfl Try.func25 (by kernel_rfl) rfl #[.slice Ao15 t221.length co15, .int .i64 a1, .int .i64 a2] rfl zlx ?_; (with_reducible refine (impl_AddDelivery.calls k _ _ t221 a1 a2 t224 t225 _ ?side1 ?side2 A9.out).mono ?_); (case side1 => repeat (first | exact (Kd.R_reads' HO223.out).2.2 | (with_reducible refine Kd.C_alloc ?_ _) | (with_reducible refine Kd.C_drewN ?_ _) | (with_reducible refine Kd.C_drew ?_))); (case side2 => exact (Kd.R_reads' HO223.out).2.1); rintro e w16 ⟨v226, rfl, ho0, hb⟩; refine ⟨_, rfl, ?_⟩; have n0_ := Aside0.mk (Kd.R_elder' (zRx HO216.out) (Kd.R_base ho0) hb); have n1_ := Aside0.mk (Kd.R_elder' (zRx HO220.out) (Kd.R_base ho0) hb); have n2_ := Aside0.mk (Kd.R_elder' (zRx HO223.out) (Kd.R_base ho0) hb); have n3_ := Aside0.mk (Kd.R_lower (Kd.R_new' (Kd.R_new' (Kd.R_new' ho0 (Kd.R_lt (zRx HO216.out))) (Kd.R_lt (zRx HO220.out))) (Kd.R_lt (zRx HO223.out))) (below_size (zBx HB.out))); have n4_ := Aside0.mk (below_step (zBx HB.out) hb); clear HO216; clear HO220; clear HO223; clear HB; have HO216 := n0_; have HO220 := n1_; have HO223 := n2_; have HO227 := n3_; have HB := n4_; clear n0_ n1_ n2_ n3_ n4_; (try clear hb); (try clear hb2); (try clear hk); (try clear hi); (try clear ho0)))
    (try simp only [Act.put, List.setIfInBounds_toArray, List.set_cons_zero, List.set_cons_succ])
    go_cut [48] (fun v48 wc => ∃ (kq : Nat) (x48_9 : Bool), v48 = .bool x48_9 ∧ Aside0 (laws_FnExactAddDelivery.j0 kq l0 a1 a2 t217 t218 t221 t224 t225 x48_9 = some r) ∧ Aside0 (kq ≤ k) ∧ Aside0 (Kd.R k84 84 wc w.heap.size (fun k_ => some k_ ≠ ((.slice Ao15 t221.length co15) : Value).ownBlock ∧ some k_ ≠ (v226 : Value).ownBlock) v219 t217) ∧ Aside0 (Kd.R k84 84 wc w.heap.size (fun k_ => some k_ ≠ (v219 : Value).ownBlock ∧ some k_ ≠ (v226 : Value).ownBlock) (.slice Ao15 t221.length co15) t221) ∧ Aside0 (Kd.R k84 84 wc w.heap.size (fun k_ => some k_ ≠ (v219 : Value).ownBlock ∧ some k_ ≠ ((.slice Ao15 t221.length co15) : Value).ownBlock) v226 t224) ∧ Aside0 (Below w.heap.size w wc))
    case first =>
      as_aux_lemma =>
      have H := HC10.out
      clear HC10
      replace H := Option.bind_eq_some_iff.mp H
      obtain ⟨t228, A170, H⟩ := H
      replace H : (if t228 = true then (laws_FnExactAddDelivery.j0 k l0 a1 a2 t217 t218 t221 t224 t225 (t225 != t218)) else (laws_FnExactAddDelivery.j0 k l0 a1 a2 t217 t218 t221 t224 t225 true)) = some r := H
      have A17 := Aside0.mk A170
      clear A170
      by_cases c18 : t228 = true
      · subst c18
        have H1 : (laws_FnExactAddDelivery.j0 k l0 a1 a2 t217 t218 t221 t224 t225 (t225 != t218)) = some r := by rw [if_pos rfl] at H; exact H
        clear H
        have H := H1
        clear H1
        as_aux_lemma =>
          have H' := Aside0.mk H
          clear H
          obtain ⟨Ao19, co19, eo19⟩ := Kd.R_slice HO227.out
          subst eo19
          obtain ⟨Ao20, co20, eo20⟩ := Kd.R_slice HO220.out
          subst eo20
          go_wp2_with (first | ((with_reducible refine gate_callee (f := 26) rfl ?_); refine goesL_ (some 42) rfl rfl Try.func26 (by kernel_rfl) rfl #[.slice Ao19 t224.length co19, .slice Ao20 t217.length co20] rfl zlx ?_; (with_reducible refine (laws_eqDeliveryS.calls k _ _ t224 _ _ t217 true _ ?side1 ?side2 ?side3 ?side4 A17.out).mono ?_); (case side1 => repeat (first | exact (Kd.R_reads' HO227.out).2.2 | (with_reducible refine Kd.C_alloc ?_ _) | (with_reducible refine Kd.C_drewN ?_ _) | (with_reducible refine Kd.C_drew ?_))); (case side2 => exact (Kd.R_reads' HO227.out).2.1); (case side3 => repeat (first | exact (Kd.R_reads' HO220.out).2.2 | (with_reducible refine Kd.C_alloc ?_ _) | (with_reducible refine Kd.C_drewN ?_ _) | (with_reducible refine Kd.C_drew ?_))); (case side4 => exact (Kd.R_reads' HO220.out).2.1); rintro e w21 ⟨rfl, hb⟩; refine ⟨_, rfl, ?_⟩; have n0_ := Aside0.mk (Kd.R_below (zRx HO216.out) hb); have n1_ := Aside0.mk (Kd.R_below (zRx HO220.out) hb); have n2_ := Aside0.mk (Kd.R_below (zRx HO223.out) hb); have n3_ := Aside0.mk (Kd.R_below (zRx HO227.out) hb); have n4_ := Aside0.mk (below_step (zBx HB.out) hb); clear HO216; clear HO220; clear HO223; clear HO227; clear HB; have HO216 := n0_; have HO220 := n1_; have HO223 := n2_; have HO227 := n3_; have HB := n4_; clear n0_ n1_ n2_ n3_ n4_; (try clear hb); (try clear hb2); (try clear hk); (try clear hi)))
          go_meet
          case rel => exact ⟨_, ((t225 != t218)), zrx, H', ⟨by first | omega | exact Nat.le_refl _⟩, ⟨by (with_reducible repeat (first | apply Kd.R_alloc | apply Kd.R_drewN | apply Kd.R_drew)); exact Kd.R_mono HO220.out (fun _ hk => by first | exact ⟨hk.1.2, hk.2⟩ | exact ⟨hk.2, hk.1.2⟩ | grind)⟩, ⟨by (with_reducible repeat (first | apply Kd.R_alloc | apply Kd.R_drewN | apply Kd.R_drew)); exact Kd.R_mono HO223.out (fun _ hk => by first | exact ⟨hk.1.2, hk.2⟩ | exact ⟨hk.2, hk.1.2⟩ | grind)⟩, ⟨by (with_reducible repeat (first | apply Kd.R_alloc | apply Kd.R_drewN | apply Kd.R_drew)); exact Kd.R_mono HO227.out (fun _ hk => by first | exact ⟨hk.1.2, hk.2⟩ | exact ⟨hk.2, hk.1.2⟩ | grind)⟩, ⟨by exact zBx HB.out⟩⟩
      · replace c18 := Bool.eq_false_iff.mpr c18
        subst c18
        have H1 : (laws_FnExactAddDelivery.j0 k l0 a1 a2 t217 t218 t221 t224 t225 true) = some r := by rw [if_neg (show ¬ (false = true) by decide)] at H; exact H
        clear H
        have H := H1
        clear H1
        as_aux_lemma =>
          have H' := Aside0.mk H
          clear H
          obtain ⟨Ao22, co22, eo22⟩ := Kd.R_slice HO227.out
          subst eo22
          obtain ⟨Ao23, co23, eo23⟩ := Kd.R_slice HO220.out
          subst eo23
          go_wp2_with (first | ((with_reducible refine gate_callee (f := 26) rfl ?_); refine goesL_ (some 42) rfl rfl Try.func26 (by kernel_rfl) rfl #[.slice Ao22 t224.length co22, .slice Ao23 t217.length co23] rfl zlx ?_; (with_reducible refine (laws_eqDeliveryS.calls k _ _ t224 _ _ t217 false _ ?side1 ?side2 ?side3 ?side4 A17.out).mono ?_); (case side1 => repeat (first | exact (Kd.R_reads' HO227.out).2.2 | (with_reducible refine Kd.C_alloc ?_ _) | (with_reducible refine Kd.C_drewN ?_ _) | (with_reducible refine Kd.C_drew ?_))); (case side2 => exact (Kd.R_reads' HO227.out).2.1); (case side3 => repeat (first | exact (Kd.R_reads' HO220.out).2.2 | (with_reducible refine Kd.C_alloc ?_ _) | (with_reducible refine Kd.C_drewN ?_ _) | (with_reducible refine Kd.C_drew ?_))); (case side4 => exact (Kd.R_reads' HO220.out).2.1); rintro e w24 ⟨rfl, hb⟩; refine ⟨_, rfl, ?_⟩; have n0_ := Aside0.mk (Kd.R_below (zRx HO216.out) hb); have n1_ := Aside0.mk (Kd.R_below (zRx HO220.out) hb); have n2_ := Aside0.mk (Kd.R_below (zRx HO223.out) hb); have n3_ := Aside0.mk (Kd.R_below (zRx HO227.out) hb); have n4_ := Aside0.mk (below_step (zBx HB.out) hb); clear HO216; clear HO220; clear HO223; clear HO227; clear HB; have HO216 := n0_; have HO220 := n1_; have HO223 := n2_; have HO227 := n3_; have HB := n4_; clear n0_ n1_ n2_ n3_ n4_; (try clear hb); (try clear hb2); (try clear hk); (try clear hi)))
          go_meet
          case rel => exact ⟨_, (true), zrx, H', ⟨by first | omega | exact Nat.le_refl _⟩, ⟨by (with_reducible repeat (first | apply Kd.R_alloc | apply Kd.R_drewN | apply Kd.R_drew)); exact Kd.R_mono HO220.out (fun _ hk => by first | exact ⟨hk.1.2, hk.2⟩ | exact ⟨hk.2, hk.1.2⟩ | grind)⟩, ⟨by (with_reducible repeat (first | apply Kd.R_alloc | apply Kd.R_drewN | apply Kd.R_drew)); exact Kd.R_mono HO223.out (fun _ hk => by first | exact ⟨hk.1.2, hk.2⟩ | exact ⟨hk.2, hk.1.2⟩ | grind)⟩, ⟨by (with_reducible repeat (first | apply Kd.R_alloc | apply Kd.R_drewN | apply Kd.R_drew)); exact Kd.R_mono HO227.out (fun _ hk => by first | exact ⟨hk.1.2, hk.2⟩ | exact ⟨hk.2, hk.1.2⟩ | grind)⟩, ⟨by exact zBx HB.out⟩⟩
    case rest =>
      as_aux_lemma =>
      clear HC10
      try clear c1
      try clear c2
      try clear p2
      try clear c5
      try clear c5b0
      try clear c18
      try clear c22
      try clear c23
      try clear c24
      obtain ⟨kq, x48_9, rfl, HA, HJ9, HO_8, HO_10, HO_11, HB⟩ := hcut
      cases kq with
      | zero => exact absurd HA.out (by simp [laws_FnExactAddDelivery.j0])
      | succ kj9 =>
        have H := HA.out
        clear HA
        simp only [laws_FnExactAddDelivery.j0] at H
        by_cases c25 : x48_9 = true
        · subst c25
          have H1 : (some false) = some r := by rw [if_pos rfl] at H; exact H
          clear H
          have H := H1
          clear H1
          as_aux_lemma =>
            exact absurd (Option.some.inj H) (by rw [hr_]; decide)
        · replace c25 := Bool.eq_false_iff.mpr c25
          subst c25
          have H1 : ((laws_toDeliveryS.f kj9 l0).bind fun t229 => ((laws_eqDeliveryS.f kj9 t221 t229).bind fun t232 => (if t232 = true then ((laws_markDeliveryS.f kj9 t221 1).bind fun bt233 => (if bt233.1 < 0 then (laws_FnExactAddDelivery.j1 kj9 l0 a1 a2 t217 t218 t224 true) else ((laws_eqDeliveryS.f kj9 t224 t217).bind fun t235 => (if t235 = true then (laws_FnExactAddDelivery.j1 kj9 l0 a1 a2 t217 t218 t224 (t225 != t218)) else (laws_FnExactAddDelivery.j1 kj9 l0 a1 a2 t217 t218 t224 true))))) else (some false)))) = some r := by rw [if_neg (show ¬ (false = true) by decide)] at H; exact H
          clear H
          have H := H1
          clear H1
          replace H := Option.bind_eq_some_iff.mp H
          obtain ⟨t229, A260, H⟩ := H
          replace H : ((laws_eqDeliveryS.f kj9 t221 t229).bind fun t232 => (if t232 = true then ((laws_markDeliveryS.f kj9 t221 1).bind fun bt233 => (if bt233.1 < 0 then (laws_FnExactAddDelivery.j1 kj9 l0 a1 a2 t217 t218 t224 true) else ((laws_eqDeliveryS.f kj9 t224 t217).bind fun t235 => (if t235 = true then (laws_FnExactAddDelivery.j1 kj9 l0 a1 a2 t217 t218 t224 (t225 != t218)) else (laws_FnExactAddDelivery.j1 kj9 l0 a1 a2 t217 t218 t224 true))))) else (some false))) = some r := H
          have A26 := Aside0.mk A260
          clear A260
          replace H := Option.bind_eq_some_iff.mp H
          obtain ⟨t232, A270, H⟩ := H
          replace H : (if t232 = true then ((laws_markDeliveryS.f kj9 t221 1).bind fun bt233 => (if bt233.1 < 0 then (laws_FnExactAddDelivery.j1 kj9 l0 a1 a2 t217 t218 t224 true) else ((laws_eqDeliveryS.f kj9 t224 t217).bind fun t235 => (if t235 = true then (laws_FnExactAddDelivery.j1 kj9 l0 a1 a2 t217 t218 t224 (t225 != t218)) else (laws_FnExactAddDelivery.j1 kj9 l0 a1 a2 t217 t218 t224 true))))) else (some false)) = some r := H
          have A27 := Aside0.mk A270
          clear A270
          by_cases c28 : t232 = true
          · subst c28
            have H1 : ((laws_markDeliveryS.f kj9 t221 1).bind fun bt233 => (if bt233.1 < 0 then (laws_FnExactAddDelivery.j1 kj9 l0 a1 a2 t217 t218 t224 true) else ((laws_eqDeliveryS.f kj9 t224 t217).bind fun t235 => (if t235 = true then (laws_FnExactAddDelivery.j1 kj9 l0 a1 a2 t217 t218 t224 (t225 != t218)) else (laws_FnExactAddDelivery.j1 kj9 l0 a1 a2 t217 t218 t224 true))))) = some r := by rw [if_pos rfl] at H; exact H
            clear H
            have H := H1
            clear H1
            replace H := Option.bind_eq_some_iff.mp H
            obtain ⟨⟨t233, t234⟩, A290, H⟩ := H
            replace H : (if t233 < 0 then (laws_FnExactAddDelivery.j1 kj9 l0 a1 a2 t217 t218 t224 true) else ((laws_eqDeliveryS.f kj9 t224 t217).bind fun t235 => (if t235 = true then (laws_FnExactAddDelivery.j1 kj9 l0 a1 a2 t217 t218 t224 (t225 != t218)) else (laws_FnExactAddDelivery.j1 kj9 l0 a1 a2 t217 t218 t224 true)))) = some r := H
            have A29 := Aside0.mk A290
            clear A290
            have HC30 := Aside0.mk H
            clear H
            go_upto_region 14 with (first | ((with_reducible refine gate_callee (f := 24) rfl ?_); refine goesL_ (some 51) rfl rfl Try.func24 (by kernel_rfl) rfl #[.slice A0 l0.length c0] rfl zlx ?_; (with_reducible refine (laws_toDeliveryS.calls kj9 _ _ l0 t229 _ ?side1 ?side2 A26.out).mono ?_); (case side1 => repeat (first | exact (Kd.C_below HR0.out HB.out) | (with_reducible refine Kd.C_alloc ?_ _) | (with_reducible refine Kd.C_drewN ?_ _) | (with_reducible refine Kd.C_drew ?_))); (case side2 => exact HC0.out); rintro e w31 ⟨v230, rfl, ho0, hb⟩; refine ⟨_, rfl, ?_⟩; have n0_ := Aside0.mk (Kd.R_elder' (zRx HO_8.out) (Kd.R_base ho0) hb); have n1_ := Aside0.mk (Kd.R_elder' (zRx HO_10.out) (Kd.R_base ho0) hb); have n2_ := Aside0.mk (Kd.R_elder' (zRx HO_11.out) (Kd.R_base ho0) hb); have n3_ := Aside0.mk (Kd.R_lower (Kd.R_new' (Kd.R_new' (Kd.R_new' ho0 (Kd.R_lt (zRx HO_8.out))) (Kd.R_lt (zRx HO_10.out))) (Kd.R_lt (zRx HO_11.out))) (below_size (zBx HB.out))); have n4_ := Aside0.mk (below_step (zBx HB.out) hb); clear HO_8; clear HO_10; clear HO_11; clear HB; have HO_8 := n0_; have HO_10 := n1_; have HO_11 := n2_; have HO231 := n3_; have HB := n4_; clear n0_ n1_ n2_ n3_ n4_; (try clear hb); (try clear hb2); (try clear hk); (try clear hi); (try clear ho0); obtain ⟨Ao32, co32, eo32⟩ := Kd.R_slice HO231.out; subst eo32) | ((with_reducible refine gate_callee (f := 26) rfl ?_); refine goesL_ (some 52) rfl rfl Try.func26 (by kernel_rfl) rfl #[.slice Ao15 t221.length co15, .slice Ao32 t229.length co32] rfl zlx ?_; (with_reducible refine (laws_eqDeliveryS.calls kj9 _ _ t221 _ _ t229 true _ ?side1 ?side2 ?side3 ?side4 A27.out).mono ?_); (case side1 => repeat (first | exact (Kd.R_reads' HO_10.out).2.2 | (with_reducible refine Kd.C_alloc ?_ _) | (with_reducible refine Kd.C_drewN ?_ _) | (with_reducible refine Kd.C_drew ?_))); (case side2 => exact (Kd.R_reads' HO_10.out).2.1); (case side3 => repeat (first | exact (Kd.R_reads' HO231.out).2.2 | (with_reducible refine Kd.C_alloc ?_ _) | (with_reducible refine Kd.C_drewN ?_ _) | (with_reducible refine Kd.C_drew ?_))); (case side4 => exact (Kd.R_reads' HO231.out).2.1); rintro e w33 ⟨rfl, hb⟩; refine ⟨_, rfl, ?_⟩; have n0_ := Aside0.mk (Kd.R_below (zRx HO_8.out) hb); have n1_ := Aside0.mk (Kd.R_below (zRx HO_10.out) hb); have n2_ := Aside0.mk (Kd.R_below (zRx HO_11.out) hb); have n3_ := Aside0.mk (Kd.R_below (zRx HO231.out) hb); have n4_ := Aside0.mk (below_step (zBx HB.out) hb); clear HO_8; clear HO_10; clear HO_11; clear HO231; clear HB; have HO_8 := n0_; have HO_10 := n1_; have HO_11 := n2_; have HO231 := n3_; have HB := n4_; clear n0_ n1_ n2_ n3_ n4_; (try clear hb); (try clear hb2); (try clear hk); (try clear hi)) | ((with_reducible refine gate_callee (f := 27) rfl ?_); refine goesL_ (some 56) rfl rfl Try.func27 (by kernel_rfl) rfl #[.slice Ao15 t221.length co15, .int .i64 1] rfl zlx ?_; (with_reducible refine (laws_markDeliveryS.calls kj9 (fun k_ => some k_ = (.slice Ao15 t221.length co15 : Value).ownBlock) (.slice Ao15 t221.length co15) t221 1 t233 t234 w _ ?side1 ?side2 A29.out).mono ?_); (case side1 => exact zBx HB.out); (case side2 => exact Kd.R_tight rfl HO_10.out); rintro e w34 ⟨rfl, hy0, hb, hkp⟩; refine ⟨_, rfl, ?_⟩; have n0_ := Aside0.mk (Kd.R_mono (ok' := fun k_ => some k_ ≠ (.slice Ao15 t221.length co15 : Value).ownBlock ∧ some k_ ≠ (v226 : Value).ownBlock ∧ some k_ ≠ (.slice Ao32 t229.length co32 : Value).ownBlock) (Kd.R_keptB (HO_8.out) hkp (fun k_ hk_ hs_ => (hk_.1.1) hs_)) (fun k_ hk_ => ⟨hk_.1.1.1, hk_.1.1.2, hk_.1.2⟩)); have n1_ := Aside0.mk (Kd.R_reok rfl hy0 (fun k_ e_ => HO_10.out.1 k_ e_)); have n2_ := Aside0.mk (Kd.R_mono (ok' := fun k_ => some k_ ≠ (v219 : Value).ownBlock ∧ some k_ ≠ (.slice Ao15 t221.length co15 : Value).ownBlock ∧ some k_ ≠ (.slice Ao32 t229.length co32 : Value).ownBlock) (Kd.R_keptB (HO_11.out) hkp (fun k_ hk_ hs_ => (hk_.1.2) hs_)) (fun k_ hk_ => ⟨hk_.1.1.1, hk_.1.1.2, hk_.1.2⟩)); have n3_ := Aside0.mk (Kd.R_mono (ok' := fun k_ => some k_ ≠ (v219 : Value).ownBlock ∧ some k_ ≠ (.slice Ao15 t221.length co15 : Value).ownBlock ∧ some k_ ≠ (v226 : Value).ownBlock) (Kd.R_keptB (HO231.out) hkp (fun k_ hk_ hs_ => (hk_.1.2) hs_)) (fun k_ hk_ => ⟨hk_.1.1.1.2, hk_.1.1.2, hk_.1.2⟩)); have n4_ := Aside0.mk (hb); clear HO_8; clear HO_10; clear HO_11; clear HO231; clear HB; have HO_8 := n0_; have HO_10 := n1_; have HO_11 := n2_; have HO231 := n3_; have HB := n4_; clear n0_ n1_ n2_ n3_ n4_; (try clear hb); (try clear hkp); (try clear hy0)))
            (try simp only [Act.put, List.setIfInBounds_toArray, List.set_cons_zero, List.set_cons_succ])
            go_cut [69] (fun v69 wc => ∃ (kq : Nat) (x69_29 : Bool), v69 = .bool x69_29 ∧ Aside0 (laws_FnExactAddDelivery.j1 kq l0 a1 a2 t217 t218 t224 x69_29 = some r) ∧ Aside0 (kq ≤ kj9) ∧ Aside0 (Kd.R k84 84 wc w.heap.size (fun k_ => some k_ ≠ (v226 : Value).ownBlock) v219 t217) ∧ Aside0 (Kd.R k84 84 wc w.heap.size (fun k_ => some k_ ≠ (v219 : Value).ownBlock) v226 t224) ∧ Aside0 (Below w.heap.size w wc))
            case first =>
              as_aux_lemma =>
              have H := HC30.out
              clear HC30
              by_cases c35 : t233 < 0
              · rw [if_pos c35] at H
                have c35b0 : decide (t233 < 0) = true := decide_eq_true c35
                clear c35
                (first | rw [c35b0] | (simp only [i64_w, i32_w]; rw [c35b0]) | skip)
                as_aux_lemma =>
                  have H' := Aside0.mk H
                  clear H
                  go_wp2
                  go_meet
                  case rel => exact ⟨_, (true), zrx, H', ⟨by have := HJ9.out; first | omega | exact Nat.le_refl _⟩, ⟨by (with_reducible repeat (first | apply Kd.R_alloc | apply Kd.R_drewN | apply Kd.R_drew)); exact Kd.R_mono HO_8.out (fun _ hk => hk.2.1)⟩, ⟨by (with_reducible repeat (first | apply Kd.R_alloc | apply Kd.R_drewN | apply Kd.R_drew)); exact Kd.R_mono HO_11.out (fun _ hk => hk.1)⟩, ⟨by exact zBx HB.out⟩⟩
              · rw [if_neg c35] at H
                have c35b0 : decide (t233 < 0) = false := decide_eq_false c35
                clear c35
                (first | rw [c35b0] | (simp only [i64_w, i32_w]; rw [c35b0]) | skip)
                replace H := Option.bind_eq_some_iff.mp H
                obtain ⟨t235, A360, H⟩ := H
                replace H : (if t235 = true then (laws_FnExactAddDelivery.j1 kj9 l0 a1 a2 t217 t218 t224 (t225 != t218)) else (laws_FnExactAddDelivery.j1 kj9 l0 a1 a2 t217 t218 t224 true)) = some r := H
                have A36 := Aside0.mk A360
                clear A360
                by_cases c37 : t235 = true
                · subst c37
                  have H1 : (laws_FnExactAddDelivery.j1 kj9 l0 a1 a2 t217 t218 t224 (t225 != t218)) = some r := by rw [if_pos rfl] at H; exact H
                  clear H
                  have H := H1
                  clear H1
                  as_aux_lemma =>
                    have H' := Aside0.mk H
                    clear H
                    obtain ⟨Ao38, co38, eo38⟩ := Kd.R_slice HO_11.out
                    subst eo38
                    obtain ⟨Ao39, co39, eo39⟩ := Kd.R_slice HO_8.out
                    subst eo39
                    go_wp2_with (first | (go_at_call 26; (with_reducible refine (laws_eqDeliveryS.calls kj9 _ _ t224 _ _ t217 true _ ?side1 ?side2 ?side3 ?side4 A36.out).mono ?_); (case side1 => repeat (first | exact (Kd.R_reads' HO_11.out).2.2 | (with_reducible refine Kd.C_alloc ?_ _) | (with_reducible refine Kd.C_drewN ?_ _) | (with_reducible refine Kd.C_drew ?_))); (case side2 => exact (Kd.R_reads' HO_11.out).2.1); (case side3 => repeat (first | exact (Kd.R_reads' HO_8.out).2.2 | (with_reducible refine Kd.C_alloc ?_ _) | (with_reducible refine Kd.C_drewN ?_ _) | (with_reducible refine Kd.C_drew ?_))); (case side4 => exact (Kd.R_reads' HO_8.out).2.1); rintro e w40 ⟨rfl, hb⟩; have n0_ := Aside0.mk (Kd.R_below (zRx HO_8.out) hb); have n1_ := Aside0.mk (Kd.R_below (zRx HO_10.out) hb); have n2_ := Aside0.mk (Kd.R_below (zRx HO_11.out) hb); have n3_ := Aside0.mk (Kd.R_below (zRx HO231.out) hb); have n4_ := Aside0.mk (below_step (zBx HB.out) hb); clear HO_8; clear HO_10; clear HO_11; clear HO231; clear HB; have HO_8 := n0_; have HO_10 := n1_; have HO_11 := n2_; have HO231 := n3_; have HB := n4_; clear n0_ n1_ n2_ n3_ n4_; (try clear hb); (try clear hb2); (try clear hk); (try clear hi)))
                    go_meet
                    case rel => exact ⟨_, ((t225 != t218)), zrx, H', ⟨by have := HJ9.out; first | omega | exact Nat.le_refl _⟩, ⟨by (with_reducible repeat (first | apply Kd.R_alloc | apply Kd.R_drewN | apply Kd.R_drew)); exact Kd.R_mono HO_8.out (fun _ hk => hk.2.1)⟩, ⟨by (with_reducible repeat (first | apply Kd.R_alloc | apply Kd.R_drewN | apply Kd.R_drew)); exact Kd.R_mono HO_11.out (fun _ hk => hk.1)⟩, ⟨by exact zBx HB.out⟩⟩
                · replace c37 := Bool.eq_false_iff.mpr c37
                  subst c37
                  have H1 : (laws_FnExactAddDelivery.j1 kj9 l0 a1 a2 t217 t218 t224 true) = some r := by rw [if_neg (show ¬ (false = true) by decide)] at H; exact H
                  clear H
                  have H := H1
                  clear H1
                  as_aux_lemma =>
                    have H' := Aside0.mk H
                    clear H
                    obtain ⟨Ao41, co41, eo41⟩ := Kd.R_slice HO_11.out
                    subst eo41
                    obtain ⟨Ao42, co42, eo42⟩ := Kd.R_slice HO_8.out
                    subst eo42
                    go_wp2_with (first | (go_at_call 26; (with_reducible refine (laws_eqDeliveryS.calls kj9 _ _ t224 _ _ t217 false _ ?side1 ?side2 ?side3 ?side4 A36.out).mono ?_); (case side1 => repeat (first | exact (Kd.R_reads' HO_11.out).2.2 | (with_reducible refine Kd.C_alloc ?_ _) | (with_reducible refine Kd.C_drewN ?_ _) | (with_reducible refine Kd.C_drew ?_))); (case side2 => exact (Kd.R_reads' HO_11.out).2.1); (case side3 => repeat (first | exact (Kd.R_reads' HO_8.out).2.2 | (with_reducible refine Kd.C_alloc ?_ _) | (with_reducible refine Kd.C_drewN ?_ _) | (with_reducible refine Kd.C_drew ?_))); (case side4 => exact (Kd.R_reads' HO_8.out).2.1); rintro e w43 ⟨rfl, hb⟩; have n0_ := Aside0.mk (Kd.R_below (zRx HO_8.out) hb); have n1_ := Aside0.mk (Kd.R_below (zRx HO_10.out) hb); have n2_ := Aside0.mk (Kd.R_below (zRx HO_11.out) hb); have n3_ := Aside0.mk (Kd.R_below (zRx HO231.out) hb); have n4_ := Aside0.mk (below_step (zBx HB.out) hb); clear HO_8; clear HO_10; clear HO_11; clear HO231; clear HB; have HO_8 := n0_; have HO_10 := n1_; have HO_11 := n2_; have HO231 := n3_; have HB := n4_; clear n0_ n1_ n2_ n3_ n4_; (try clear hb); (try clear hb2); (try clear hk); (try clear hi)))
                    go_meet
                    case rel => exact ⟨_, (true), zrx, H', ⟨by have := HJ9.out; first | omega | exact Nat.le_refl _⟩, ⟨by (with_reducible repeat (first | apply Kd.R_alloc | apply Kd.R_drewN | apply Kd.R_drew)); exact Kd.R_mono HO_8.out (fun _ hk => hk.2.1)⟩, ⟨by (with_reducible repeat (first | apply Kd.R_alloc | apply Kd.R_drewN | apply Kd.R_drew)); exact Kd.R_mono HO_11.out (fun _ hk => hk.1)⟩, ⟨by exact zBx HB.out⟩⟩
            case rest =>
              as_aux_lemma =>
              clear HC30
              try clear c1
              try clear c2
              try clear p2
              try clear c3
              try clear c5
              try clear c5b0
              try clear c18
              try clear c22
              try clear c23
              try clear c24
              try clear c25
              try clear c26
              try clear c27
              try clear c28
              try clear c35
              try clear c35b0
              try clear c37
              try clear p2
              obtain ⟨kq, x69_29, rfl, HA, HJ29, HO_8, HO_11, HB⟩ := hcut
              cases kq with
              | zero => exact absurd HA.out (by simp [laws_FnExactAddDelivery.j1])
              | succ kj29 =>
                have H := HA.out
                clear HA
                simp only [laws_FnExactAddDelivery.j1] at H
                by_cases c44 : x69_29 = true
                · subst c44
                  have H1 : (some false) = some r := by rw [if_pos rfl] at H; exact H
                  clear H
                  have H := H1
                  clear H1
                  as_aux_lemma =>
                    exact absurd (Option.some.inj H) (by rw [hr_]; decide)
                · replace c44 := Bool.eq_false_iff.mpr c44
                  subst c44
                  have H1 : ((laws_markDeliveryS.f kj29 t224 1).bind fun bt236 => ((laws_heldDeliveryS.f kj29 bt236.2 1).bind fun t238 => (if t238 < 0 then (some false) else (if t238 = bt236.1 then ((laws_toDeliveryS.f kj29 l0).bind fun t239 => ((impl_AddDelivery.f kj29 t239 a1 a2).bind fun bt242 => ((laws_eqDeliveryS.f kj29 bt242.1 t217).bind fun t246 => (if t246 = true then (laws_FnExactAddDelivery.j2 kj29 bt236.2 bt236.1 (bt242.2 != t218)) else (laws_FnExactAddDelivery.j2 kj29 bt236.2 bt236.1 true))))) else (some false))))) = some r := by rw [if_neg (show ¬ (false = true) by decide)] at H; exact H
                  clear H
                  have H := H1
                  clear H1
                  replace H := Option.bind_eq_some_iff.mp H
                  obtain ⟨⟨t236, t237⟩, A450, H⟩ := H
                  replace H : ((laws_heldDeliveryS.f kj29 t237 1).bind fun t238 => (if t238 < 0 then (some false) else (if t238 = t236 then ((laws_toDeliveryS.f kj29 l0).bind fun t239 => ((impl_AddDelivery.f kj29 t239 a1 a2).bind fun bt242 => ((laws_eqDeliveryS.f kj29 bt242.1 t217).bind fun t246 => (if t246 = true then (laws_FnExactAddDelivery.j2 kj29 t237 t236 (bt242.2 != t218)) else (laws_FnExactAddDelivery.j2 kj29 t237 t236 true))))) else (some false)))) = some r := H
                  have A45 := Aside0.mk A450
                  clear A450
                  replace H := Option.bind_eq_some_iff.mp H
                  obtain ⟨t238, A460, H⟩ := H
                  replace H : (if t238 < 0 then (some false) else (if t238 = t236 then ((laws_toDeliveryS.f kj29 l0).bind fun t239 => ((impl_AddDelivery.f kj29 t239 a1 a2).bind fun bt242 => ((laws_eqDeliveryS.f kj29 bt242.1 t217).bind fun t246 => (if t246 = true then (laws_FnExactAddDelivery.j2 kj29 t237 t236 (bt242.2 != t218)) else (laws_FnExactAddDelivery.j2 kj29 t237 t236 true))))) else (some false))) = some r := H
                  have A46 := Aside0.mk A460
                  clear A460
                  by_cases c47 : t238 < 0
                  · rw [if_pos c47] at H
                    have c47b0 : decide (t238 < 0) = true := decide_eq_true c47
                    clear c47
                    as_aux_lemma =>
                      exact absurd (Option.some.inj H) (by rw [hr_]; decide)
                  · rw [if_neg c47] at H
                    have c47b0 : decide (t238 < 0) = false := decide_eq_false c47
                    clear c47
                    by_cases c50 : t238 = t236
                    · rw [if_pos c50] at H
                      have c50b0 : (t238 == t236) = true := beq_iff_eq.mpr c50
                      have c50b1 : (t238 != t236) = false := bne_eq_false_iff_eq.mpr c50
                      clear c50
                      replace H := Option.bind_eq_some_iff.mp H
                      obtain ⟨t239, A510, H⟩ := H
                      replace H : ((impl_AddDelivery.f kj29 t239 a1 a2).bind fun bt242 => ((laws_eqDeliveryS.f kj29 bt242.1 t217).bind fun t246 => (if t246 = true then (laws_FnExactAddDelivery.j2 kj29 t237 t236 (bt242.2 != t218)) else (laws_FnExactAddDelivery.j2 kj29 t237 t236 true)))) = some r := H
                      have A51 := Aside0.mk A510
                      clear A510
                      replace H := Option.bind_eq_some_iff.mp H
                      obtain ⟨⟨t242, t243⟩, A520, H⟩ := H
                      replace H : ((laws_eqDeliveryS.f kj29 t242 t217).bind fun t246 => (if t246 = true then (laws_FnExactAddDelivery.j2 kj29 t237 t236 (t243 != t218)) else (laws_FnExactAddDelivery.j2 kj29 t237 t236 true))) = some r := H
                      have A52 := Aside0.mk A520
                      clear A520
                      have HC53 := Aside0.mk H
                      clear H
                      obtain ⟨Ao54, co54, eo54⟩ := Kd.R_slice HO_11.out
                      subst eo54
                      go_upto_region 25 with (first | ((with_reducible refine gate_callee (f := 27) rfl ?_); refine goesL_ (some 72) rfl rfl Try.func27 (by kernel_rfl) rfl #[.slice Ao54 t224.length co54, .int .i64 1] rfl zlx ?_; (with_reducible refine (laws_markDeliveryS.calls kj29 (fun k_ => some k_ = (.slice Ao54 t224.length co54 : Value).ownBlock) (.slice Ao54 t224.length co54) t224 1 t236 t237 w _ ?side1 ?side2 A45.out).mono ?_); (case side1 => exact zBx HB.out); (case side2 => exact Kd.R_tight rfl HO_11.out); rintro e w55 ⟨rfl, hy0, hb, hkp⟩; refine ⟨_, rfl, ?_⟩; have n0_ := Aside0.mk (Kd.R_mono (ok' := fun k_ => some k_ ≠ (.slice Ao54 t224.length co54 : Value).ownBlock) (Kd.R_keptB (HO_8.out) hkp (fun k_ hk_ hs_ => (hk_) hs_)) (fun k_ hk_ => hk_.1)); have n1_ := Aside0.mk (Kd.R_reok rfl hy0 (fun k_ e_ => HO_11.out.1 k_ e_)); have n2_ := Aside0.mk (hb); clear HO_8; clear HO_11; clear HB; have HO_8 := n0_; have HO_11 := n1_; have HB := n2_; clear n0_ n1_ n2_; (try clear hb); (try clear hkp); (try clear hy0)) | ((with_reducible refine gate_callee (f := 28) rfl ?_); refine goesL_ (some 75) rfl rfl Try.func28 (by kernel_rfl) rfl #[.slice Ao54 t237.length co54, .int .i64 1] rfl (by (try simp only [List.map_toArray, List.map_cons, List.map_nil]); first | done | (rw [show t237.length = t224.length from (Kd.R_reads' HO_11.out).1.symm] <;> rfl) | rfl | (simp only [List.length_drop, List.length_take]; rfl)) ?_; (with_reducible refine (laws_heldDeliveryS.calls kj29 _ _ t237 1 t238 _ ?side1 ?side2 A46.out).mono ?_); (case side1 => repeat (first | exact (Kd.R_reads' HO_11.out).2.2 | (with_reducible refine Kd.C_alloc ?_ _) | (with_reducible refine Kd.C_drewN ?_ _) | (with_reducible refine Kd.C_drew ?_))); (case side2 => rw [show t237.length = t224.length from (Kd.R_reads' HO_11.out).1.symm]; exact (Kd.R_reads' HO_11.out).2.1); rintro e w' ⟨rfl, ⟨nd, rfl⟩⟩; refine ⟨_, rfl, ?_⟩) | ((with_reducible refine gate_callee (f := 24) rfl ?_); refine goesL_ (some 83) rfl rfl Try.func24 (by kernel_rfl) rfl #[.slice A0 l0.length c0] rfl zlx ?_; (with_reducible refine (laws_toDeliveryS.calls kj29 _ _ l0 t239 _ ?side1 ?side2 A51.out).mono ?_); (case side1 => repeat (first | exact (Kd.C_below HR0.out (zBx HB.out)) | (with_reducible refine Kd.C_alloc ?_ _) | (with_reducible refine Kd.C_drewN ?_ _) | (with_reducible refine Kd.C_drew ?_))); (case side2 => exact HC0.out); rintro e w56 ⟨v240, rfl, ho0, hb⟩; refine ⟨_, rfl, ?_⟩; have n0_ := Aside0.mk (Kd.R_elder' (zRx HO_8.out) (Kd.R_base ho0) hb); have n1_ := Aside0.mk (Kd.R_elder' (zRx HO_11.out) (Kd.R_base ho0) hb); have n2_ := Aside0.mk (Kd.R_lower (Kd.R_new' (Kd.R_new' ho0 (Kd.R_lt (zRx HO_8.out))) (Kd.R_lt (zRx HO_11.out))) (below_size (zBx HB.out))); have n3_ := Aside0.mk (below_step (zBx HB.out) hb); clear HO_8; clear HO_11; clear HB; have HO_8 := n0_; have HO_11 := n1_; have HO241 := n2_; have HB := n3_; clear n0_ n1_ n2_ n3_; (try clear hb); (try clear hb2); (try clear hk); (try clear hi); (try clear ho0); obtain ⟨Ao57, co57, eo57⟩ := Kd.R_slice HO241.out; subst eo57) | ((with_reducible refine gate_callee (f := 25) rfl ?_); refine goesL_ (some 86) rfl rfl Try.func25 (by kernel_rfl) rfl #[.slice Ao57 t239.length co57, .int .i64 a1, .int .i64 a2] rfl zlx ?_; (with_reducible refine (impl_AddDelivery.calls kj29 _ _ t239 a1 a2 t242 t243 _ ?side1 ?side2 A52.out).mono ?_); (case side1 => repeat (first | exact (Kd.R_reads' HO241.out).2.2 | (with_reducible refine Kd.C_alloc ?_ _) | (with_reducible refine Kd.C_drewN ?_ _) | (with_reducible refine Kd.C_drew ?_))); (case side2 => exact (Kd.R_reads' HO241.out).2.1); rintro e w58 ⟨v244, rfl, ho0, hb⟩; refine ⟨_, rfl, ?_⟩; have n0_ := Aside0.mk (Kd.R_elder' (zRx HO_8.out) (Kd.R_base ho0) hb); have n1_ := Aside0.mk (Kd.R_elder' (zRx HO_11.out) (Kd.R_base ho0) hb); have n2_ := Aside0.mk (Kd.R_elder' (zRx HO241.out) (Kd.R_base ho0) hb); have n3_ := Aside0.mk (Kd.R_lower (Kd.R_new' (Kd.R_new' (Kd.R_new' ho0 (Kd.R_lt (zRx HO_8.out))) (Kd.R_lt (zRx HO_11.out))) (Kd.R_lt (zRx HO241.out))) (below_size (zBx HB.out))); have n4_ := Aside0.mk (below_step (zBx HB.out) hb); clear HO_8; clear HO_11; clear HO241; clear HB; have HO_8 := n0_; have HO_11 := n1_; have HO241 := n2_; have HO245 := n3_; have HB := n4_; clear n0_ n1_ n2_ n3_ n4_; (try clear hb); (try clear hb2); (try clear hk); (try clear hi); (try clear ho0)))
                      (try simp only [Act.put, List.setIfInBounds_toArray, List.set_cons_zero, List.set_cons_succ])
                      go_cut [97] (fun v97 wc => ∃ (kq : Nat) (x97_52 : Bool), v97 = .bool x97_52 ∧ Aside0 (laws_FnExactAddDelivery.j2 kq t237 t236 x97_52 = some r) ∧ Aside0 (kq ≤ kj29) ∧ Aside0 (Kd.R k84 84 wc w.heap.size (fun _ => True) (.slice Ao54 t224.length co54) t237) ∧ Aside0 (Below w.heap.size w wc))
                      case first =>
                        as_aux_lemma =>
                        have H := HC53.out
                        clear HC53
                        replace H := Option.bind_eq_some_iff.mp H
                        obtain ⟨t246, A590, H⟩ := H
                        replace H : (if t246 = true then (laws_FnExactAddDelivery.j2 kj29 t237 t236 (t243 != t218)) else (laws_FnExactAddDelivery.j2 kj29 t237 t236 true)) = some r := H
                        have A59 := Aside0.mk A590
                        clear A590
                        by_cases c60 : t246 = true
                        · subst c60
                          have H1 : (laws_FnExactAddDelivery.j2 kj29 t237 t236 (t243 != t218)) = some r := by rw [if_pos rfl] at H; exact H
                          clear H
                          have H := H1
                          clear H1
                          as_aux_lemma =>
                            have H' := Aside0.mk H
                            clear H
                            obtain ⟨Ao61, co61, eo61⟩ := Kd.R_slice HO245.out
                            subst eo61
                            obtain ⟨Ao62, co62, eo62⟩ := Kd.R_slice HO_8.out
                            subst eo62
                            go_wp2_with (first | ((with_reducible refine gate_callee (f := 26) rfl ?_); refine goesL_ (some 91) rfl rfl Try.func26 (by kernel_rfl) rfl #[.slice Ao61 t242.length co61, .slice Ao62 t217.length co62] rfl zlx ?_; (with_reducible refine (laws_eqDeliveryS.calls kj29 _ _ t242 _ _ t217 true _ ?side1 ?side2 ?side3 ?side4 A59.out).mono ?_); (case side1 => repeat (first | exact (Kd.R_reads' HO245.out).2.2 | (with_reducible refine Kd.C_alloc ?_ _) | (with_reducible refine Kd.C_drewN ?_ _) | (with_reducible refine Kd.C_drew ?_))); (case side2 => exact (Kd.R_reads' HO245.out).2.1); (case side3 => repeat (first | exact (Kd.R_reads' HO_8.out).2.2 | (with_reducible refine Kd.C_alloc ?_ _) | (with_reducible refine Kd.C_drewN ?_ _) | (with_reducible refine Kd.C_drew ?_))); (case side4 => exact (Kd.R_reads' HO_8.out).2.1); rintro e w63 ⟨rfl, hb⟩; refine ⟨_, rfl, ?_⟩; have n0_ := Aside0.mk (Kd.R_below (zRx HO_8.out) hb); have n1_ := Aside0.mk (Kd.R_below (zRx HO_11.out) hb); have n2_ := Aside0.mk (Kd.R_below (zRx HO241.out) hb); have n3_ := Aside0.mk (Kd.R_below (zRx HO245.out) hb); have n4_ := Aside0.mk (below_step (zBx HB.out) hb); clear HO_8; clear HO_11; clear HO241; clear HO245; clear HB; have HO_8 := n0_; have HO_11 := n1_; have HO241 := n2_; have HO245 := n3_; have HB := n4_; clear n0_ n1_ n2_ n3_ n4_; (try clear hb); (try clear hb2); (try clear hk); (try clear hi)))
                            go_meet
                            case rel => exact ⟨_, ((t243 != t218)), zrx, H', ⟨by have := HJ9.out; have := HJ29.out; first | omega | exact Nat.le_refl _⟩, ⟨by (with_reducible repeat (first | apply Kd.R_alloc | apply Kd.R_drewN | apply Kd.R_drew)); exact Kd.R_mono HO_11.out (fun _ hk => trivial)⟩, ⟨by exact zBx HB.out⟩⟩
                        · replace c60 := Bool.eq_false_iff.mpr c60
                          subst c60
                          have H1 : (laws_FnExactAddDelivery.j2 kj29 t237 t236 true) = some r := by rw [if_neg (show ¬ (false = true) by decide)] at H; exact H
                          clear H
                          have H := H1
                          clear H1
                          as_aux_lemma =>
                            have H' := Aside0.mk H
                            clear H
                            obtain ⟨Ao64, co64, eo64⟩ := Kd.R_slice HO245.out
                            subst eo64
                            obtain ⟨Ao65, co65, eo65⟩ := Kd.R_slice HO_8.out
                            subst eo65
                            go_wp2_with (first | ((with_reducible refine gate_callee (f := 26) rfl ?_); refine goesL_ (some 91) rfl rfl Try.func26 (by kernel_rfl) rfl #[.slice Ao64 t242.length co64, .slice Ao65 t217.length co65] rfl zlx ?_; (with_reducible refine (laws_eqDeliveryS.calls kj29 _ _ t242 _ _ t217 false _ ?side1 ?side2 ?side3 ?side4 A59.out).mono ?_); (case side1 => repeat (first | exact (Kd.R_reads' HO245.out).2.2 | (with_reducible refine Kd.C_alloc ?_ _) | (with_reducible refine Kd.C_drewN ?_ _) | (with_reducible refine Kd.C_drew ?_))); (case side2 => exact (Kd.R_reads' HO245.out).2.1); (case side3 => repeat (first | exact (Kd.R_reads' HO_8.out).2.2 | (with_reducible refine Kd.C_alloc ?_ _) | (with_reducible refine Kd.C_drewN ?_ _) | (with_reducible refine Kd.C_drew ?_))); (case side4 => exact (Kd.R_reads' HO_8.out).2.1); rintro e w66 ⟨rfl, hb⟩; refine ⟨_, rfl, ?_⟩; have n0_ := Aside0.mk (Kd.R_below (zRx HO_8.out) hb); have n1_ := Aside0.mk (Kd.R_below (zRx HO_11.out) hb); have n2_ := Aside0.mk (Kd.R_below (zRx HO241.out) hb); have n3_ := Aside0.mk (Kd.R_below (zRx HO245.out) hb); have n4_ := Aside0.mk (below_step (zBx HB.out) hb); clear HO_8; clear HO_11; clear HO241; clear HO245; clear HB; have HO_8 := n0_; have HO_11 := n1_; have HO241 := n2_; have HO245 := n3_; have HB := n4_; clear n0_ n1_ n2_ n3_ n4_; (try clear hb); (try clear hb2); (try clear hk); (try clear hi)))
                            go_meet
                            case rel => exact ⟨_, (true), zrx, H', ⟨by have := HJ9.out; have := HJ29.out; first | omega | exact Nat.le_refl _⟩, ⟨by (with_reducible repeat (first | apply Kd.R_alloc | apply Kd.R_drewN | apply Kd.R_drew)); exact Kd.R_mono HO_11.out (fun _ hk => trivial)⟩, ⟨by exact zBx HB.out⟩⟩
                      case rest =>
                        as_aux_lemma =>
                        clear HC53
                        try clear c1
                        try clear c2
                        try clear p2
                        try clear c3
                        try clear c4
                        try clear c5
                        try clear c5b0
                        try clear c6
                        try clear c18
                        try clear c22
                        try clear c23
                        try clear c24
                        try clear c25
                        try clear c26
                        try clear c27
                        try clear c28
                        try clear c35
                        try clear c35b0
                        try clear c37
                        try clear c44
                        try clear c47
                        try clear c47b0
                        try clear c50
                        try clear c50b0
                        try clear c50b1
                        try clear c60
                        try clear p2
                        obtain ⟨kq, x97_52, rfl, HA, HJ52, HO_11, HB⟩ := hcut
                        have hl11_52 := (Kd.R_reads' HO_11.out).1
                        rw [hl11_52] at HO_11
                        (try simp only [hl11_52])
                        cases kq with
                        | zero => exact absurd HA.out (by simp [laws_FnExactAddDelivery.j2])
                        | succ kj52 =>
                          have H := HA.out
                          clear HA
                          simp only [laws_FnExactAddDelivery.j2] at H
                          by_cases c67 : x97_52 = true
                          · subst c67
                            have H1 : (some false) = some r := by rw [if_pos rfl] at H; exact H
                            clear H
                            have H := H1
                            clear H1
                            as_aux_lemma =>
                              exact absurd (Option.some.inj H) (by rw [hr_]; decide)
                          · replace c67 := Bool.eq_false_iff.mpr c67
                            subst c67
                            have H1 : ((laws_heldDeliveryS.f kj52 t237 1).bind fun t247 => (if t247 < 0 then (some false) else (if t247 = t236 then (some true) else (some false)))) = some r := by rw [if_neg (show ¬ (false = true) by decide)] at H; exact H
                            clear H
                            have H := H1
                            clear H1
                            replace H := Option.bind_eq_some_iff.mp H
                            obtain ⟨t247, A680, H⟩ := H
                            replace H : (if t247 < 0 then (some false) else (if t247 = t236 then (some true) else (some false))) = some r := H
                            have A68 := Aside0.mk A680
                            clear A680
                            by_cases c69 : t247 < 0
                            · rw [if_pos c69] at H
                              have c69b0 : decide (t247 < 0) = true := decide_eq_true c69
                              clear c69
                              as_aux_lemma =>
                                exact absurd (Option.some.inj H) (by rw [hr_]; decide)
                            · rw [if_neg c69] at H
                              have c69b0 : decide (t247 < 0) = false := decide_eq_false c69
                              (try rw [hl11_52] at c69b0)
                              clear c69
                              by_cases c70 : t247 = t236
                              · rw [if_pos c70] at H
                                have c70b0 : (t247 == t236) = true := beq_iff_eq.mpr c70
                                have c70b1 : (t247 != t236) = false := bne_eq_false_iff_eq.mpr c70
                                clear c70
                                as_aux_lemma =>
                                  obtain rfl := Option.some.inj H
                                  go_wp2_with (first | ((with_reducible refine gate_callee (f := 28) rfl ?_); refine goesL_ (some 100) rfl rfl Try.func28 (by kernel_rfl) rfl #[.slice Ao54 t237.length co54, .int .i64 1] rfl zlx ?_; (with_reducible refine (laws_heldDeliveryS.calls kj52 _ _ t237 1 t247 _ ?side1 ?side2 A68.out).mono ?_); (case side1 => repeat (first | exact (Kd.R_reads' HO_11.out).2.2 | (with_reducible refine Kd.C_alloc ?_ _) | (with_reducible refine Kd.C_drewN ?_ _) | (with_reducible refine Kd.C_drew ?_))); (case side2 => exact (Kd.R_reads' HO_11.out).2.1); rintro e w' ⟨rfl, ⟨nd, rfl⟩⟩; refine ⟨_, rfl, ?_⟩))
                                  go_ret
                                  exact ⟨by first | rfl | (simp [errW_none, errW_some] <;> rfl) | (simp [*, errW_none, errW_some] <;> rfl), by exact zBx HB.out⟩
                              · rw [if_neg c70] at H
                                have c70b0 : (t247 == t236) = false := beq_eq_false_iff_ne.mpr c70
                                have c70b1 : (t247 != t236) = true := bne_iff_ne.mpr c70
                                as_aux_lemma =>
                                  exact absurd (Option.some.inj H) (by rw [hr_]; decide)
                    · rw [if_neg c50] at H
                      have c50b0 : (t238 == t236) = false := beq_eq_false_iff_ne.mpr c50
                      have c50b1 : (t238 != t236) = true := bne_iff_ne.mpr c50
                      as_aux_lemma =>
                        exact absurd (Option.some.inj H) (by rw [hr_]; decide)
          · replace c28 := Bool.eq_false_iff.mpr c28
            subst c28
            have H1 : (some false) = some r := by rw [if_neg (show ¬ (false = true) by decide)] at H; exact H
            clear H
            have H := H1
            clear H1
            as_aux_lemma =>
              exact absurd (Option.some.inj H) (by rw [hr_]; decide)

end Go.Proofs.Ytppjagpjlcbhpaa.XFnExactAddDelivery
