-- written by wip/tools/xprint.py (a program of this project) out of the translation
import Derived.Test.YtjagdjbiljooiaaXFnExactTakeReceiptx0
import Derived.Test.YtjagdjbiljooiaaXFnExactTakeReceiptx1
import Derived.Test.YtjagdjbiljooiaaXFnExactTakeReceiptx3
import Derived.Test.YtjagdjbiljooiaaXFnExactTakeReceiptx5
import Derived.Test.YtjagdjbiljooiaaXFnExactTakeReceiptx6
namespace Go.Proofs.Ytjagdjbiljooiaa.XFnExactTakeReceipt
open Go.RowKit Go.Proofs.YtjagdjbiljooiaaW.PrintWords Go.Proofs.YtjagdjbiljooiaaW.PrintLast Go.Proofs.YtjagdjbiljooiaaW.PrintMore
attribute [local go_sem] max2_int min2_int max_two min_two max_three min_three max_four min_four   -- for this text's walks alone
set_option linter.unusedVariables false
set_option linter.unusedSimpArgs false

/-! ### laws_FnExactTakeReceipt: function 7 -/
mutual
def laws_FnExactTakeReceipt.j0 : Nat → List (S96) → Int → List (S94) → Bool → List (S94) → List (S94) → Bool → Bool → Option (Bool)
  | 0, _, _, _, _, _, _, _, _ => none
  | k + 1, x0, x1, x6, x7, x8, x9, x10, x44 => if x44 = true then (some false) else ((laws_toDeliveryS.f k x0).bind fun t208 => ((laws_eqDeliveryS.f k x8 t208).bind fun t211 => (if t211 = true then ((laws_markDeliveryS.f k x8 1).bind fun bt212 => (if bt212.1 < 0 then (laws_FnExactTakeReceipt.j1 k x0 x1 x6 x7 x9 true) else ((laws_eqDeliveryS.f k x9 x6).bind fun t214 => (if t214 = true then (laws_FnExactTakeReceipt.j1 k x0 x1 x6 x7 x9 (x10 != x7)) else (laws_FnExactTakeReceipt.j1 k x0 x1 x6 x7 x9 true))))) else (some false))))
def laws_FnExactTakeReceipt.j1 : Nat → List (S96) → Int → List (S94) → Bool → List (S94) → Bool → Option (Bool)
  | 0, _, _, _, _, _, _ => none
  | k + 1, x0, x1, x6, x7, x9, x65 => if x65 = true then (some false) else ((laws_markDeliveryS.f k x9 1).bind fun bt215 => ((laws_heldDeliveryS.f k bt215.2 1).bind fun t217 => (if t217 < 0 then (some false) else (if t217 = bt215.1 then ((laws_toDeliveryS.f k x0).bind fun t218 => ((impl_TakeReceipt.f k t218 x1).bind fun bt221 => ((laws_eqDeliveryS.f k bt221.1 x6).bind fun t225 => (if t225 = true then (laws_FnExactTakeReceipt.j2 k bt215.2 bt215.1 (bt221.2 != x7)) else (laws_FnExactTakeReceipt.j2 k bt215.2 bt215.1 true))))) else (some false)))))
def laws_FnExactTakeReceipt.j2 : Nat → List (S94) → Int → Bool → Option (Bool)
  | 0, _, _, _ => none
  | k + 1, x9, x12, x92 => if x92 = true then (some false) else ((laws_heldDeliveryS.f k x9 1).bind fun t226 => (if t226 < 0 then (some false) else (if t226 = x12 then (some true) else (some false))))
end
def laws_FnExactTakeReceipt.f (k : Nat) (l0 : List (S96)) (a1 : Int) : Option (Bool) := (laws_szDeliveryS.f l0 1048576).bind fun t192 => (if t192 < 0 then (some true) else ((laws_toDeliveryS.f k l0).bind fun t193 => ((spec_TakeReceipt.f k t193 a1).bind fun bt196 => ((laws_toDeliveryS.f k l0).bind fun t200 => ((impl_TakeReceipt.f k t200 a1).bind fun bt203 => ((laws_eqDeliveryS.f k bt203.1 bt196.1).bind fun t207 => (if t207 = true then (laws_FnExactTakeReceipt.j0 k l0 a1 bt196.1 bt196.2 t200 bt203.1 bt203.2 (bt203.2 != bt196.2)) else (laws_FnExactTakeReceipt.j0 k l0 a1 bt196.1 bt196.2 t200 bt203.1 bt203.2 true))))))))
theorem laws_FnExactTakeReceipt.mono_l : ∀ k, (∀ y0 y1 y2 y3 y4 y5 y6 y7, LeO (laws_FnExactTakeReceipt.j0 k y0 y1 y2 y3 y4 y5 y6 y7) (laws_FnExactTakeReceipt.j0 (k + 1) y0 y1 y2 y3 y4 y5 y6 y7)) ∧ (∀ y0 y1 y2 y3 y4 y5, LeO (laws_FnExactTakeReceipt.j1 k y0 y1 y2 y3 y4 y5) (laws_FnExactTakeReceipt.j1 (k + 1) y0 y1 y2 y3 y4 y5)) ∧ (∀ y0 y1 y2, LeO (laws_FnExactTakeReceipt.j2 k y0 y1 y2) (laws_FnExactTakeReceipt.j2 (k + 1) y0 y1 y2))
  | 0 => ⟨fun _ _ _ _ _ _ _ _ r h => by simp [laws_FnExactTakeReceipt.j0] at h, fun _ _ _ _ _ _ r h => by simp [laws_FnExactTakeReceipt.j1] at h, fun _ _ _ r h => by simp [laws_FnExactTakeReceipt.j2] at h⟩
  | k + 1 => by
    obtain ⟨ih0, ih1, ih2⟩ := laws_FnExactTakeReceipt.mono_l k
    refine ⟨?_, ?_, ?_⟩
    · intro y0 y1 y2 y3 y4 y5 y6 y7
      unfold laws_FnExactTakeReceipt.j0
      repeat' first
      | (with_reducible exact ih0 _ _ _ _ _ _ _ _)
      | (with_reducible exact ih1 _ _ _ _ _ _)
      | (with_reducible exact ih2 _ _ _)
      | (with_reducible exact impl_TakeReceipt.mono _ _ _)
      | (with_reducible exact laws_eqDeliveryS.mono _ _ _)
      | (with_reducible exact laws_heldDeliveryS.mono _ _ _)
      | (with_reducible exact laws_markDeliveryS.mono _ _ _)
      | (with_reducible exact laws_toDeliveryS.mono _ _)
      | (with_reducible exact spec_TakeReceipt.mono _ _ _)
      | (with_reducible exact LeO.refl _)
      | (with_reducible exact LeO.none _)
      | (with_reducible refine LeO.ite ?_ ?_)
      | (with_reducible refine LeO.bind ?_ (fun _ => ?_))
      | exact ih0 _ _ _ _ _ _ _ _
      | exact ih1 _ _ _ _ _ _
      | exact ih2 _ _ _
      | exact impl_TakeReceipt.mono _ _ _
      | exact laws_eqDeliveryS.mono _ _ _
      | exact laws_heldDeliveryS.mono _ _ _
      | exact laws_markDeliveryS.mono _ _ _
      | exact laws_toDeliveryS.mono _ _
      | exact spec_TakeReceipt.mono _ _ _
      | exact LeO.none _
      | refine LeO.ite ?_ ?_
      | refine LeO.bind ?_ (fun _ => ?_)
    · intro y0 y1 y2 y3 y4 y5
      unfold laws_FnExactTakeReceipt.j1
      repeat' first
      | (with_reducible exact ih0 _ _ _ _ _ _ _ _)
      | (with_reducible exact ih1 _ _ _ _ _ _)
      | (with_reducible exact ih2 _ _ _)
      | (with_reducible exact impl_TakeReceipt.mono _ _ _)
      | (with_reducible exact laws_eqDeliveryS.mono _ _ _)
      | (with_reducible exact laws_heldDeliveryS.mono _ _ _)
      | (with_reducible exact laws_markDeliveryS.mono _ _ _)
      | (with_reducible exact laws_toDeliveryS.mono _ _)
      | (with_reducible exact spec_TakeReceipt.mono _ _ _)
      | (with_reducible exact LeO.refl _)
      | (with_reducible exact LeO.none _)
      | (with_reducible refine LeO.ite ?_ ?_)
      | (with_reducible refine LeO.bind ?_ (fun _ => ?_))
      | exact ih0 _ _ _ _ _ _ _ _
      | exact ih1 _ _ _ _ _ _
      | exact ih2 _ _ _
      | exact impl_TakeReceipt.mono _ _ _
      | exact laws_eqDeliveryS.mono _ _ _
      | exact laws_heldDeliveryS.mono _ _ _
      | exact laws_markDeliveryS.mono _ _ _
      | exact laws_toDeliveryS.mono _ _
      | exact spec_TakeReceipt.mono _ _ _
      | exact LeO.none _
      | refine LeO.ite ?_ ?_
      | refine LeO.bind ?_ (fun _ => ?_)
    · intro y0 y1 y2
      unfold laws_FnExactTakeReceipt.j2
      repeat' first
      | (with_reducible exact ih0 _ _ _ _ _ _ _ _)
      | (with_reducible exact ih1 _ _ _ _ _ _)
      | (with_reducible exact ih2 _ _ _)
      | (with_reducible exact impl_TakeReceipt.mono _ _ _)
      | (with_reducible exact laws_eqDeliveryS.mono _ _ _)
      | (with_reducible exact laws_heldDeliveryS.mono _ _ _)
      | (with_reducible exact laws_markDeliveryS.mono _ _ _)
      | (with_reducible exact laws_toDeliveryS.mono _ _)
      | (with_reducible exact spec_TakeReceipt.mono _ _ _)
      | (with_reducible exact LeO.refl _)
      | (with_reducible exact LeO.none _)
      | (with_reducible refine LeO.ite ?_ ?_)
      | (with_reducible refine LeO.bind ?_ (fun _ => ?_))
      | exact ih0 _ _ _ _ _ _ _ _
      | exact ih1 _ _ _ _ _ _
      | exact ih2 _ _ _
      | exact impl_TakeReceipt.mono _ _ _
      | exact laws_eqDeliveryS.mono _ _ _
      | exact laws_heldDeliveryS.mono _ _ _
      | exact laws_markDeliveryS.mono _ _ _
      | exact laws_toDeliveryS.mono _ _
      | exact spec_TakeReceipt.mono _ _ _
      | exact LeO.none _
      | refine LeO.ite ?_ ?_
      | refine LeO.bind ?_ (fun _ => ?_)
theorem laws_FnExactTakeReceipt.mono : ∀ a0 a1 k, LeO (laws_FnExactTakeReceipt.f k a0 a1) (laws_FnExactTakeReceipt.f (k + 1) a0 a1) := by
  intro a0 a1 k
  obtain ⟨ih0, ih1, ih2⟩ := laws_FnExactTakeReceipt.mono_l k
  unfold laws_FnExactTakeReceipt.f
  repeat' first
      | (with_reducible exact ih0 _ _ _ _ _ _ _ _)
      | (with_reducible exact ih1 _ _ _ _ _ _)
      | (with_reducible exact ih2 _ _ _)
      | (with_reducible exact impl_TakeReceipt.mono _ _ _)
      | (with_reducible exact laws_eqDeliveryS.mono _ _ _)
      | (with_reducible exact laws_heldDeliveryS.mono _ _ _)
      | (with_reducible exact laws_markDeliveryS.mono _ _ _)
      | (with_reducible exact laws_toDeliveryS.mono _ _)
      | (with_reducible exact spec_TakeReceipt.mono _ _ _)
      | (with_reducible exact LeO.refl _)
      | (with_reducible exact LeO.none _)
      | (with_reducible refine LeO.ite ?_ ?_)
      | (with_reducible refine LeO.bind ?_ (fun _ => ?_))
      | exact ih0 _ _ _ _ _ _ _ _
      | exact ih1 _ _ _ _ _ _
      | exact ih2 _ _ _
      | exact impl_TakeReceipt.mono _ _ _
      | exact laws_eqDeliveryS.mono _ _ _
      | exact laws_heldDeliveryS.mono _ _ _
      | exact laws_markDeliveryS.mono _ _ _
      | exact laws_toDeliveryS.mono _ _
      | exact spec_TakeReceipt.mono _ _ _
      | exact LeO.none _
      | refine LeO.ite ?_ ?_
      | refine LeO.bind ?_ (fun _ => ?_)
set_option maxHeartbeats 8000000 in
set_option maxRecDepth 100000 in
theorem laws_FnExactTakeReceipt.calls (k : Nat) (A0 : Option Addr) (c0 : Nat) (l0 : List (S96)) (a1 : Int) (r : Bool) (w : World) (hr0 : Kd.C k96 w A0 l0.length l0) (hc0 : l0.length ≤ c0) (h : laws_FnExactTakeReceipt.f k l0 a1 = some r) (hr_ : r = true) :
    Calls Try.prog 7 #[.slice A0 l0.length c0, .int .i64 a1] w fun e w' => e = .returned (.bool r) ∧ Below w.heap.size w w' := by
  have HR0 := Aside0.mk hr0
  have HC0 := Aside0.mk hc0
  clear hr0 hc0
  have HB := Aside0.mk (Below.refl w.heap.size w)
  have H : ((laws_szDeliveryS.f l0 1048576).bind fun t192 => (if t192 < 0 then (some true) else ((laws_toDeliveryS.f k l0).bind fun t193 => ((spec_TakeReceipt.f k t193 a1).bind fun bt196 => ((laws_toDeliveryS.f k l0).bind fun t200 => ((impl_TakeReceipt.f k t200 a1).bind fun bt203 => ((laws_eqDeliveryS.f k bt203.1 bt196.1).bind fun t207 => (if t207 = true then (laws_FnExactTakeReceipt.j0 k l0 a1 bt196.1 bt196.2 t200 bt203.1 bt203.2 (bt203.2 != bt196.2)) else (laws_FnExactTakeReceipt.j0 k l0 a1 bt196.1 bt196.2 t200 bt203.1 bt203.2 true))))))))) = some r := h
  clear h
  replace H := Option.bind_eq_some_iff.mp H
  obtain ⟨t192, A30, H⟩ := H
  replace H : (if t192 < 0 then (some true) else ((laws_toDeliveryS.f k l0).bind fun t193 => ((spec_TakeReceipt.f k t193 a1).bind fun bt196 => ((laws_toDeliveryS.f k l0).bind fun t200 => ((impl_TakeReceipt.f k t200 a1).bind fun bt203 => ((laws_eqDeliveryS.f k bt203.1 bt196.1).bind fun t207 => (if t207 = true then (laws_FnExactTakeReceipt.j0 k l0 a1 bt196.1 bt196.2 t200 bt203.1 bt203.2 (bt203.2 != bt196.2)) else (laws_FnExactTakeReceipt.j0 k l0 a1 bt196.1 bt196.2 t200 bt203.1 bt203.2 true)))))))) = some r := H
  have A3 := Aside0.mk A30
  clear A30
  by_cases c4 : t192 < 0
  · rw [if_pos c4] at H
    have c4b0 : decide (t192 < 0) = true := decide_eq_true c4
    clear c4
    obtain rfl := Option.some.inj H
    go_enter Try.func7, Try.ntmps7
    go_wp2_with (first | ((with_reducible refine gate_callee (f := 31) rfl ?_); refine goesL_ (some 18) rfl rfl Try.func31 (by kernel_rfl) rfl #[.slice A0 l0.length c0, .int .i64 1048576] rfl zlx ?_; (with_reducible refine (laws_szDeliveryS.calls _ _ l0 1048576 t192 _ ?side1 ?side2 A3.out).mono ?_); (case side1 => exact zCx HR0.out); (case side2 => exact HC0.out); rintro e w' ⟨rfl, ⟨nd, rfl⟩⟩; refine ⟨_, rfl, ?_⟩))
    go_ret
    exact ⟨by first | rfl | (simp [errW_none, errW_some] <;> rfl) | (simp [*, errW_none, errW_some] <;> rfl), by exact zBx HB.out⟩
  · rw [if_neg c4] at H
    have c4b0 : decide (t192 < 0) = false := decide_eq_false c4
    clear c4
    replace H := Option.bind_eq_some_iff.mp H
    obtain ⟨t193, A50, H⟩ := H
    replace H : ((spec_TakeReceipt.f k t193 a1).bind fun bt196 => ((laws_toDeliveryS.f k l0).bind fun t200 => ((impl_TakeReceipt.f k t200 a1).bind fun bt203 => ((laws_eqDeliveryS.f k bt203.1 bt196.1).bind fun t207 => (if t207 = true then (laws_FnExactTakeReceipt.j0 k l0 a1 bt196.1 bt196.2 t200 bt203.1 bt203.2 (bt203.2 != bt196.2)) else (laws_FnExactTakeReceipt.j0 k l0 a1 bt196.1 bt196.2 t200 bt203.1 bt203.2 true)))))) = some r := H
    have A5 := Aside0.mk A50
    clear A50
    replace H := Option.bind_eq_some_iff.mp H
    obtain ⟨⟨t196, t197⟩, A60, H⟩ := H
    replace H : ((laws_toDeliveryS.f k l0).bind fun t200 => ((impl_TakeReceipt.f k t200 a1).bind fun bt203 => ((laws_eqDeliveryS.f k bt203.1 t196).bind fun t207 => (if t207 = true then (laws_FnExactTakeReceipt.j0 k l0 a1 t196 t197 t200 bt203.1 bt203.2 (bt203.2 != t197)) else (laws_FnExactTakeReceipt.j0 k l0 a1 t196 t197 t200 bt203.1 bt203.2 true))))) = some r := H
    have A6 := Aside0.mk A60
    clear A60
    replace H := Option.bind_eq_some_iff.mp H
    obtain ⟨t200, A70, H⟩ := H
    replace H : ((impl_TakeReceipt.f k t200 a1).bind fun bt203 => ((laws_eqDeliveryS.f k bt203.1 t196).bind fun t207 => (if t207 = true then (laws_FnExactTakeReceipt.j0 k l0 a1 t196 t197 t200 bt203.1 bt203.2 (bt203.2 != t197)) else (laws_FnExactTakeReceipt.j0 k l0 a1 t196 t197 t200 bt203.1 bt203.2 true)))) = some r := H
    have A7 := Aside0.mk A70
    clear A70
    replace H := Option.bind_eq_some_iff.mp H
    obtain ⟨⟨t203, t204⟩, A80, H⟩ := H
    replace H : ((laws_eqDeliveryS.f k t203 t196).bind fun t207 => (if t207 = true then (laws_FnExactTakeReceipt.j0 k l0 a1 t196 t197 t200 t203 t204 (t204 != t197)) else (laws_FnExactTakeReceipt.j0 k l0 a1 t196 t197 t200 t203 t204 true))) = some r := H
    have A8 := Aside0.mk A80
    clear A80
    have HC9 := Aside0.mk H
    clear H
    go_enter Try.func7, Try.ntmps7
    go_upto_region 8 with (first | ((with_reducible refine gate_callee (f := 31) rfl ?_); refine goesL_ (some 18) rfl rfl Try.func31 (by kernel_rfl) rfl #[.slice A0 l0.length c0, .int .i64 1048576] rfl zlx ?_; (with_reducible refine (laws_szDeliveryS.calls _ _ l0 1048576 t192 _ ?side1 ?side2 A3.out).mono ?_); (case side1 => exact zCx HR0.out); (case side2 => exact HC0.out); rintro e w' ⟨rfl, ⟨nd, rfl⟩⟩; refine ⟨_, rfl, ?_⟩) | ((with_reducible refine gate_callee (f := 33) rfl ?_); refine goesL_ (some 23) rfl rfl Try.func33 (by kernel_rfl) rfl #[.slice A0 l0.length c0] rfl zlx ?_; (with_reducible refine (laws_toDeliveryS.calls k _ _ l0 t193 _ ?side1 ?side2 A5.out).mono ?_); (case side1 => exact zCx HR0.out); (case side2 => exact HC0.out); rintro e w10 ⟨v194, rfl, ho0, hb⟩; refine ⟨_, rfl, ?_⟩; have n0_ := Aside0.mk (Kd.R_lower ho0 (below_size (zBx HB.out))); have n1_ := Aside0.mk (below_step (zBx HB.out) hb); clear HB; have HO195 := n0_; have HB := n1_; clear n0_ n1_; (try clear hb); (try clear hb2); (try clear hk); (try clear hi); (try clear ho0); obtain ⟨Ao11, co11, eo11⟩ := Kd.R_slice HO195.out; subst eo11) | ((with_reducible refine gate_callee (f := 32) rfl ?_); refine goesL_ (some 25) rfl rfl Try.func32 (by kernel_rfl) rfl #[.slice Ao11 t193.length co11, .int .i64 a1] rfl zlx ?_; (with_reducible refine (spec_TakeReceipt.calls k _ _ t193 a1 t196 t197 _ ?side1 ?side2 A6.out).mono ?_); (case side1 => repeat (first | exact (Kd.R_reads' HO195.out).2.2 | (with_reducible refine Kd.C_alloc ?_ _) | (with_reducible refine Kd.C_drewN ?_ _) | (with_reducible refine Kd.C_drew ?_))); (case side2 => exact (Kd.R_reads' HO195.out).2.1); rintro e w12 ⟨v198, rfl, ho0, hb⟩; refine ⟨_, rfl, ?_⟩; have n0_ := Aside0.mk (Kd.R_elder' (zRx HO195.out) (Kd.R_base ho0) hb); have n1_ := Aside0.mk (Kd.R_lower (Kd.R_new' ho0 (Kd.R_lt (zRx HO195.out))) (below_size (zBx HB.out))); have n2_ := Aside0.mk (below_step (zBx HB.out) hb); clear HO195; clear HB; have HO195 := n0_; have HO199 := n1_; have HB := n2_; clear n0_ n1_ n2_; (try clear hb); (try clear hb2); (try clear hk); (try clear hi); (try clear ho0)) | ((with_reducible refine gate_callee (f := 33) rfl ?_); refine goesL_ (some 29) rfl rfl Try.func33 (by kernel_rfl) rfl #[.slice A0 l0.length c0] rfl zlx ?_; (with_reducible refine (laws_toDeliveryS.calls k _ _ l0 t200 _ ?side1 ?side2 A7.out).mono ?_); (case side1 => repeat (first | exact (Kd.C_below HR0.out HB.out) | (with_reducible refine Kd.C_alloc ?_ _) | (with_reducible refine Kd.C_drewN ?_ _) | (with_reducible refine Kd.C_drew ?_))); (case side2 => exact HC0.out); rintro e w13 ⟨v201, rfl, ho0, hb⟩; refine ⟨_, rfl, ?_⟩; have n0_ := Aside0.mk (Kd.R_elder' (zRx HO195.out) (Kd.R_base ho0) hb); have n1_ := Aside0.mk (Kd.R_elder' (zRx HO199.out) (Kd.R_base ho0) hb); have n2_ := Aside0.mk (Kd.R_lower (Kd.R_new' (Kd.R_new' ho0 (Kd.R_lt (zRx HO195.out))) (Kd.R_lt (zRx HO199.out))) (below_size (zBx HB.out))); have n3_ := Aside0.mk (below_step (zBx HB.out) hb); clear HO195; clear HO199; clear HB; have HO195 := n0_; have HO199 := n1_; have HO202 := n2_; have HB := n3_; clear n0_ n1_ n2_ n3_; (try clear hb); (try clear hb2); (try clear hk); (try clear hi); (try clear ho0); obtain ⟨Ao14, co14, eo14⟩ := Kd.R_slice HO202.out; subst eo14) | ((with_reducible refine gate_callee (f := 34) rfl ?_); refine goesL_ (some 33) rfl rfl Try.func34 (by kernel_rfl) rfl #[.slice Ao14 t200.length co14, .int .i64 a1] rfl zlx ?_; (with_reducible refine (impl_TakeReceipt.calls k _ _ t200 a1 t203 t204 _ ?side1 ?side2 A8.out).mono ?_); (case side1 => repeat (first | exact (Kd.R_reads' HO202.out).2.2 | (with_reducible refine Kd.C_alloc ?_ _) | (with_reducible refine Kd.C_drewN ?_ _) | (with_reducible refine Kd.C_drew ?_))); (case side2 => exact (Kd.R_reads' HO202.out).2.1); rintro e w15 ⟨v205, rfl, ho0, hb⟩; refine ⟨_, rfl, ?_⟩; have n0_ := Aside0.mk (Kd.R_elder' (zRx HO195.out) (Kd.R_base ho0) hb); have n1_ := Aside0.mk (Kd.R_elder' (zRx HO199.out) (Kd.R_base ho0) hb); have n2_ := Aside0.mk (Kd.R_elder' (zRx HO202.out) (Kd.R_base ho0) hb); have n3_ := Aside0.mk (Kd.R_lower (Kd.R_new' (Kd.R_new' (Kd.R_new' ho0 (Kd.R_lt (zRx HO195.out))) (Kd.R_lt (zRx HO199.out))) (Kd.R_lt (zRx HO202.out))) (below_size (zBx HB.out))); have n4_ := Aside0.mk (below_step (zBx HB.out) hb); clear HO195; clear HO199; clear HO202; clear HB; have HO195 := n0_; have HO199 := n1_; have HO202 := n2_; have HO206 := n3_; have HB := n4_; clear n0_ n1_ n2_ n3_ n4_; (try clear hb); (try clear hb2); (try clear hk); (try clear hi); (try clear ho0)))
    (try simp only [Act.put, List.setIfInBounds_toArray, List.set_cons_zero, List.set_cons_succ])
    go_cut [44] (fun v44 wc => ∃ (kq : Nat) (x44_8 : Bool), v44 = .bool x44_8 ∧ Aside0 (laws_FnExactTakeReceipt.j0 kq l0 a1 t196 t197 t200 t203 t204 x44_8 = some r) ∧ Aside0 (kq ≤ k) ∧ Aside0 (Kd.R k94 94 wc w.heap.size (fun k_ => some k_ ≠ ((.slice Ao14 t200.length co14) : Value).ownBlock ∧ some k_ ≠ (v205 : Value).ownBlock) v198 t196) ∧ Aside0 (Kd.R k94 94 wc w.heap.size (fun k_ => some k_ ≠ (v198 : Value).ownBlock ∧ some k_ ≠ (v205 : Value).ownBlock) (.slice Ao14 t200.length co14) t200) ∧ Aside0 (Kd.R k94 94 wc w.heap.size (fun k_ => some k_ ≠ (v198 : Value).ownBlock ∧ some k_ ≠ ((.slice Ao14 t200.length co14) : Value).ownBlock) v205 t203) ∧ Aside0 (Below w.heap.size w wc))
    case first =>
      have H := HC9.out
      clear HC9
      replace H := Option.bind_eq_some_iff.mp H
      obtain ⟨t207, A160, H⟩ := H
      replace H : (if t207 = true then (laws_FnExactTakeReceipt.j0 k l0 a1 t196 t197 t200 t203 t204 (t204 != t197)) else (laws_FnExactTakeReceipt.j0 k l0 a1 t196 t197 t200 t203 t204 true)) = some r := H
      have A16 := Aside0.mk A160
      clear A160
      by_cases c17 : t207 = true
      · subst c17
        have H1 : (laws_FnExactTakeReceipt.j0 k l0 a1 t196 t197 t200 t203 t204 (t204 != t197)) = some r := by rw [if_pos rfl] at H; exact H
        clear H
        have H := H1
        clear H1
        have H' := Aside0.mk H
        clear H
        obtain ⟨Ao18, co18, eo18⟩ := Kd.R_slice HO206.out
        subst eo18
        obtain ⟨Ao19, co19, eo19⟩ := Kd.R_slice HO199.out
        subst eo19
        go_wp2_with (first | ((with_reducible refine gate_callee (f := 35) rfl ?_); refine goesL_ (some 38) rfl rfl Try.func35 (by kernel_rfl) rfl #[.slice Ao18 t203.length co18, .slice Ao19 t196.length co19] rfl zlx ?_; (with_reducible refine (laws_eqDeliveryS.calls k _ _ t203 _ _ t196 true _ ?side1 ?side2 ?side3 ?side4 A16.out).mono ?_); (case side1 => repeat (first | exact (Kd.R_reads' HO206.out).2.2 | (with_reducible refine Kd.C_alloc ?_ _) | (with_reducible refine Kd.C_drewN ?_ _) | (with_reducible refine Kd.C_drew ?_))); (case side2 => exact (Kd.R_reads' HO206.out).2.1); (case side3 => repeat (first | exact (Kd.R_reads' HO199.out).2.2 | (with_reducible refine Kd.C_alloc ?_ _) | (with_reducible refine Kd.C_drewN ?_ _) | (with_reducible refine Kd.C_drew ?_))); (case side4 => exact (Kd.R_reads' HO199.out).2.1); rintro e w20 ⟨rfl, hb⟩; refine ⟨_, rfl, ?_⟩; have n0_ := Aside0.mk (Kd.R_below (zRx HO195.out) hb); have n1_ := Aside0.mk (Kd.R_below (zRx HO199.out) hb); have n2_ := Aside0.mk (Kd.R_below (zRx HO202.out) hb); have n3_ := Aside0.mk (Kd.R_below (zRx HO206.out) hb); have n4_ := Aside0.mk (below_step (zBx HB.out) hb); clear HO195; clear HO199; clear HO202; clear HO206; clear HB; have HO195 := n0_; have HO199 := n1_; have HO202 := n2_; have HO206 := n3_; have HB := n4_; clear n0_ n1_ n2_ n3_ n4_; (try clear hb); (try clear hb2); (try clear hk); (try clear hi)))
        go_meet
        case rel => exact ⟨_, ((t204 != t197)), zrx, H', ⟨by first | omega | exact Nat.le_refl _⟩, ⟨by (with_reducible repeat (first | apply Kd.R_alloc | apply Kd.R_drewN | apply Kd.R_drew)); exact Kd.R_mono HO199.out (fun _ hk => by first | exact ⟨hk.1.2, hk.2⟩ | exact ⟨hk.2, hk.1.2⟩ | grind)⟩, ⟨by (with_reducible repeat (first | apply Kd.R_alloc | apply Kd.R_drewN | apply Kd.R_drew)); exact Kd.R_mono HO202.out (fun _ hk => by first | exact ⟨hk.1.2, hk.2⟩ | exact ⟨hk.2, hk.1.2⟩ | grind)⟩, ⟨by (with_reducible repeat (first | apply Kd.R_alloc | apply Kd.R_drewN | apply Kd.R_drew)); exact Kd.R_mono HO206.out (fun _ hk => by first | exact ⟨hk.1.2, hk.2⟩ | exact ⟨hk.2, hk.1.2⟩ | grind)⟩, ⟨by exact zBx HB.out⟩⟩
      · replace c17 := Bool.eq_false_iff.mpr c17
        subst c17
        have H1 : (laws_FnExactTakeReceipt.j0 k l0 a1 t196 t197 t200 t203 t204 true) = some r := by rw [if_neg (show ¬ (false = true) by decide)] at H; exact H
        clear H
        have H := H1
        clear H1
        have H' := Aside0.mk H
        clear H
        obtain ⟨Ao21, co21, eo21⟩ := Kd.R_slice HO206.out
        subst eo21
        obtain ⟨Ao22, co22, eo22⟩ := Kd.R_slice HO199.out
        subst eo22
        go_wp2_with (first | ((with_reducible refine gate_callee (f := 35) rfl ?_); refine goesL_ (some 38) rfl rfl Try.func35 (by kernel_rfl) rfl #[.slice Ao21 t203.length co21, .slice Ao22 t196.length co22] rfl zlx ?_; (with_reducible refine (laws_eqDeliveryS.calls k _ _ t203 _ _ t196 false _ ?side1 ?side2 ?side3 ?side4 A16.out).mono ?_); (case side1 => repeat (first | exact (Kd.R_reads' HO206.out).2.2 | (with_reducible refine Kd.C_alloc ?_ _) | (with_reducible refine Kd.C_drewN ?_ _) | (with_reducible refine Kd.C_drew ?_))); (case side2 => exact (Kd.R_reads' HO206.out).2.1); (case side3 => repeat (first | exact (Kd.R_reads' HO199.out).2.2 | (with_reducible refine Kd.C_alloc ?_ _) | (with_reducible refine Kd.C_drewN ?_ _) | (with_reducible refine Kd.C_drew ?_))); (case side4 => exact (Kd.R_reads' HO199.out).2.1); rintro e w23 ⟨rfl, hb⟩; refine ⟨_, rfl, ?_⟩; have n0_ := Aside0.mk (Kd.R_below (zRx HO195.out) hb); have n1_ := Aside0.mk (Kd.R_below (zRx HO199.out) hb); have n2_ := Aside0.mk (Kd.R_below (zRx HO202.out) hb); have n3_ := Aside0.mk (Kd.R_below (zRx HO206.out) hb); have n4_ := Aside0.mk (below_step (zBx HB.out) hb); clear HO195; clear HO199; clear HO202; clear HO206; clear HB; have HO195 := n0_; have HO199 := n1_; have HO202 := n2_; have HO206 := n3_; have HB := n4_; clear n0_ n1_ n2_ n3_ n4_; (try clear hb); (try clear hb2); (try clear hk); (try clear hi)))
        go_meet
        case rel => exact ⟨_, (true), zrx, H', ⟨by first | omega | exact Nat.le_refl _⟩, ⟨by (with_reducible repeat (first | apply Kd.R_alloc | apply Kd.R_drewN | apply Kd.R_drew)); exact Kd.R_mono HO199.out (fun _ hk => by first | exact ⟨hk.1.2, hk.2⟩ | exact ⟨hk.2, hk.1.2⟩ | grind)⟩, ⟨by (with_reducible repeat (first | apply Kd.R_alloc | apply Kd.R_drewN | apply Kd.R_drew)); exact Kd.R_mono HO202.out (fun _ hk => by first | exact ⟨hk.1.2, hk.2⟩ | exact ⟨hk.2, hk.1.2⟩ | grind)⟩, ⟨by (with_reducible repeat (first | apply Kd.R_alloc | apply Kd.R_drewN | apply Kd.R_drew)); exact Kd.R_mono HO206.out (fun _ hk => by first | exact ⟨hk.1.2, hk.2⟩ | exact ⟨hk.2, hk.1.2⟩ | grind)⟩, ⟨by exact zBx HB.out⟩⟩
    case rest =>
      clear HC9
      try clear c1
      try clear p2
      try clear c3
      try clear c4
      try clear c4b0
      try clear c7
      try clear c17
      obtain ⟨kq, x44_8, rfl, HA, HJ8, HO_6, HO_8, HO_9, HB⟩ := hcut
      cases kq with
      | zero => exact absurd HA.out (by simp [laws_FnExactTakeReceipt.j0])
      | succ kj8 =>
        have H := HA.out
        clear HA
        simp only [laws_FnExactTakeReceipt.j0] at H
        by_cases c24 : x44_8 = true
        · subst c24
          have H1 : (some false) = some r := by rw [if_pos rfl] at H; exact H
          clear H
          have H := H1
          clear H1
          exact absurd (Option.some.inj H) (by rw [hr_]; decide)
        · replace c24 := Bool.eq_false_iff.mpr c24
          subst c24
          have H1 : ((laws_toDeliveryS.f kj8 l0).bind fun t208 => ((laws_eqDeliveryS.f kj8 t200 t208).bind fun t211 => (if t211 = true then ((laws_markDeliveryS.f kj8 t200 1).bind fun bt212 => (if bt212.1 < 0 then (laws_FnExactTakeReceipt.j1 kj8 l0 a1 t196 t197 t203 true) else ((laws_eqDeliveryS.f kj8 t203 t196).bind fun t214 => (if t214 = true then (laws_FnExactTakeReceipt.j1 kj8 l0 a1 t196 t197 t203 (t204 != t197)) else (laws_FnExactTakeReceipt.j1 kj8 l0 a1 t196 t197 t203 true))))) else (some false)))) = some r := by rw [if_neg (show ¬ (false = true) by decide)] at H; exact H
          clear H
          have H := H1
          clear H1
          replace H := Option.bind_eq_some_iff.mp H
          obtain ⟨t208, A250, H⟩ := H
          replace H : ((laws_eqDeliveryS.f kj8 t200 t208).bind fun t211 => (if t211 = true then ((laws_markDeliveryS.f kj8 t200 1).bind fun bt212 => (if bt212.1 < 0 then (laws_FnExactTakeReceipt.j1 kj8 l0 a1 t196 t197 t203 true) else ((laws_eqDeliveryS.f kj8 t203 t196).bind fun t214 => (if t214 = true then (laws_FnExactTakeReceipt.j1 kj8 l0 a1 t196 t197 t203 (t204 != t197)) else (laws_FnExactTakeReceipt.j1 kj8 l0 a1 t196 t197 t203 true))))) else (some false))) = some r := H
          have A25 := Aside0.mk A250
          clear A250
          replace H := Option.bind_eq_some_iff.mp H
          obtain ⟨t211, A260, H⟩ := H
          replace H : (if t211 = true then ((laws_markDeliveryS.f kj8 t200 1).bind fun bt212 => (if bt212.1 < 0 then (laws_FnExactTakeReceipt.j1 kj8 l0 a1 t196 t197 t203 true) else ((laws_eqDeliveryS.f kj8 t203 t196).bind fun t214 => (if t214 = true then (laws_FnExactTakeReceipt.j1 kj8 l0 a1 t196 t197 t203 (t204 != t197)) else (laws_FnExactTakeReceipt.j1 kj8 l0 a1 t196 t197 t203 true))))) else (some false)) = some r := H
          have A26 := Aside0.mk A260
          clear A260
          by_cases c27 : t211 = true
          · subst c27
            have H1 : ((laws_markDeliveryS.f kj8 t200 1).bind fun bt212 => (if bt212.1 < 0 then (laws_FnExactTakeReceipt.j1 kj8 l0 a1 t196 t197 t203 true) else ((laws_eqDeliveryS.f kj8 t203 t196).bind fun t214 => (if t214 = true then (laws_FnExactTakeReceipt.j1 kj8 l0 a1 t196 t197 t203 (t204 != t197)) else (laws_FnExactTakeReceipt.j1 kj8 l0 a1 t196 t197 t203 true))))) = some r := by rw [if_pos rfl] at H; exact H
            clear H
            have H := H1
            clear H1
            replace H := Option.bind_eq_some_iff.mp H
            obtain ⟨⟨t212, t213⟩, A280, H⟩ := H
            replace H : (if t212 < 0 then (laws_FnExactTakeReceipt.j1 kj8 l0 a1 t196 t197 t203 true) else ((laws_eqDeliveryS.f kj8 t203 t196).bind fun t214 => (if t214 = true then (laws_FnExactTakeReceipt.j1 kj8 l0 a1 t196 t197 t203 (t204 != t197)) else (laws_FnExactTakeReceipt.j1 kj8 l0 a1 t196 t197 t203 true)))) = some r := H
            have A28 := Aside0.mk A280
            clear A280
            have HC29 := Aside0.mk H
            clear H
            go_upto_region 14 with (first | ((with_reducible refine gate_callee (f := 33) rfl ?_); refine goesL_ (some 47) rfl rfl Try.func33 (by kernel_rfl) rfl #[.slice A0 l0.length c0] rfl zlx ?_; (with_reducible refine (laws_toDeliveryS.calls kj8 _ _ l0 t208 _ ?side1 ?side2 A25.out).mono ?_); (case side1 => repeat (first | exact (Kd.C_below HR0.out HB.out) | (with_reducible refine Kd.C_alloc ?_ _) | (with_reducible refine Kd.C_drewN ?_ _) | (with_reducible refine Kd.C_drew ?_))); (case side2 => exact HC0.out); rintro e w30 ⟨v209, rfl, ho0, hb⟩; refine ⟨_, rfl, ?_⟩; have n0_ := Aside0.mk (Kd.R_elder' (zRx HO_6.out) (Kd.R_base ho0) hb); have n1_ := Aside0.mk (Kd.R_elder' (zRx HO_8.out) (Kd.R_base ho0) hb); have n2_ := Aside0.mk (Kd.R_elder' (zRx HO_9.out) (Kd.R_base ho0) hb); have n3_ := Aside0.mk (Kd.R_lower (Kd.R_new' (Kd.R_new' (Kd.R_new' ho0 (Kd.R_lt (zRx HO_6.out))) (Kd.R_lt (zRx HO_8.out))) (Kd.R_lt (zRx HO_9.out))) (below_size (zBx HB.out))); have n4_ := Aside0.mk (below_step (zBx HB.out) hb); clear HO_6; clear HO_8; clear HO_9; clear HB; have HO_6 := n0_; have HO_8 := n1_; have HO_9 := n2_; have HO210 := n3_; have HB := n4_; clear n0_ n1_ n2_ n3_ n4_; (try clear hb); (try clear hb2); (try clear hk); (try clear hi); (try clear ho0); obtain ⟨Ao31, co31, eo31⟩ := Kd.R_slice HO210.out; subst eo31) | ((with_reducible refine gate_callee (f := 35) rfl ?_); refine goesL_ (some 48) rfl rfl Try.func35 (by kernel_rfl) rfl #[.slice Ao14 t200.length co14, .slice Ao31 t208.length co31] rfl zlx ?_; (with_reducible refine (laws_eqDeliveryS.calls kj8 _ _ t200 _ _ t208 true _ ?side1 ?side2 ?side3 ?side4 A26.out).mono ?_); (case side1 => repeat (first | exact (Kd.R_reads' HO_8.out).2.2 | (with_reducible refine Kd.C_alloc ?_ _) | (with_reducible refine Kd.C_drewN ?_ _) | (with_reducible refine Kd.C_drew ?_))); (case side2 => exact (Kd.R_reads' HO_8.out).2.1); (case side3 => repeat (first | exact (Kd.R_reads' HO210.out).2.2 | (with_reducible refine Kd.C_alloc ?_ _) | (with_reducible refine Kd.C_drewN ?_ _) | (with_reducible refine Kd.C_drew ?_))); (case side4 => exact (Kd.R_reads' HO210.out).2.1); rintro e w32 ⟨rfl, hb⟩; refine ⟨_, rfl, ?_⟩; have n0_ := Aside0.mk (Kd.R_below (zRx HO_6.out) hb); have n1_ := Aside0.mk (Kd.R_below (zRx HO_8.out) hb); have n2_ := Aside0.mk (Kd.R_below (zRx HO_9.out) hb); have n3_ := Aside0.mk (Kd.R_below (zRx HO210.out) hb); have n4_ := Aside0.mk (below_step (zBx HB.out) hb); clear HO_6; clear HO_8; clear HO_9; clear HO210; clear HB; have HO_6 := n0_; have HO_8 := n1_; have HO_9 := n2_; have HO210 := n3_; have HB := n4_; clear n0_ n1_ n2_ n3_ n4_; (try clear hb); (try clear hb2); (try clear hk); (try clear hi)) | ((with_reducible refine gate_callee (f := 36) rfl ?_); refine goesL_ (some 52) rfl rfl Try.func36 (by kernel_rfl) rfl #[.slice Ao14 t200.length co14, .int .i64 1] rfl zlx ?_; (with_reducible refine (laws_markDeliveryS.calls kj8 (fun k_ => some k_ = (.slice Ao14 t200.length co14 : Value).ownBlock) (.slice Ao14 t200.length co14) t200 1 t212 t213 w _ ?side1 ?side2 A28.out).mono ?_); (case side1 => exact zBx HB.out); (case side2 => exact Kd.R_tight rfl HO_8.out); rintro e w33 ⟨rfl, hy0, hb, hkp⟩; refine ⟨_, rfl, ?_⟩; have n0_ := Aside0.mk (Kd.R_mono (ok' := fun k_ => some k_ ≠ (.slice Ao14 t200.length co14 : Value).ownBlock ∧ some k_ ≠ (v205 : Value).ownBlock ∧ some k_ ≠ (.slice Ao31 t208.length co31 : Value).ownBlock) (Kd.R_keptB (HO_6.out) hkp (fun k_ hk_ hs_ => (hk_.1.1) hs_)) (fun k_ hk_ => ⟨hk_.1.1.1, hk_.1.1.2, hk_.1.2⟩)); have n1_ := Aside0.mk (Kd.R_reok rfl hy0 (fun k_ e_ => HO_8.out.1 k_ e_)); have n2_ := Aside0.mk (Kd.R_mono (ok' := fun k_ => some k_ ≠ (v198 : Value).ownBlock ∧ some k_ ≠ (.slice Ao14 t200.length co14 : Value).ownBlock ∧ some k_ ≠ (.slice Ao31 t208.length co31 : Value).ownBlock) (Kd.R_keptB (HO_9.out) hkp (fun k_ hk_ hs_ => (hk_.1.2) hs_)) (fun k_ hk_ => ⟨hk_.1.1.1, hk_.1.1.2, hk_.1.2⟩)); have n3_ := Aside0.mk (Kd.R_mono (ok' := fun k_ => some k_ ≠ (v198 : Value).ownBlock ∧ some k_ ≠ (.slice Ao14 t200.length co14 : Value).ownBlock ∧ some k_ ≠ (v205 : Value).ownBlock) (Kd.R_keptB (HO210.out) hkp (fun k_ hk_ hs_ => (hk_.1.2) hs_)) (fun k_ hk_ => ⟨hk_.1.1.1.2, hk_.1.1.2, hk_.1.2⟩)); have n4_ := Aside0.mk (hb); clear HO_6; clear HO_8; clear HO_9; clear HO210; clear HB; have HO_6 := n0_; have HO_8 := n1_; have HO_9 := n2_; have HO210 := n3_; have HB := n4_; clear n0_ n1_ n2_ n3_ n4_; (try clear hb); (try clear hkp); (try clear hy0)))
            (try simp only [Act.put, List.setIfInBounds_toArray, List.set_cons_zero, List.set_cons_succ])
            go_cut [65] (fun v65 wc => ∃ (kq : Nat) (x65_28 : Bool), v65 = .bool x65_28 ∧ Aside0 (laws_FnExactTakeReceipt.j1 kq l0 a1 t196 t197 t203 x65_28 = some r) ∧ Aside0 (kq ≤ kj8) ∧ Aside0 (Kd.R k94 94 wc w.heap.size (fun k_ => some k_ ≠ (v205 : Value).ownBlock) v198 t196) ∧ Aside0 (Kd.R k94 94 wc w.heap.size (fun k_ => some k_ ≠ (v198 : Value).ownBlock) v205 t203) ∧ Aside0 (Below w.heap.size w wc))
            case first =>
              have H := HC29.out
              clear HC29
              by_cases c34 : t212 < 0
              · rw [if_pos c34] at H
                have c34b0 : decide (t212 < 0) = true := decide_eq_true c34
                clear c34
                (first | rw [c34b0] | (simp only [i64_w, i32_w]; rw [c34b0]) | skip)
                have H' := Aside0.mk H
                clear H
                go_wp2
                go_meet
                case rel => exact ⟨_, (true), zrx, H', ⟨by have := HJ8.out; first | omega | exact Nat.le_refl _⟩, ⟨by (with_reducible repeat (first | apply Kd.R_alloc | apply Kd.R_drewN | apply Kd.R_drew)); exact Kd.R_mono HO_6.out (fun _ hk => hk.2.1)⟩, ⟨by (with_reducible repeat (first | apply Kd.R_alloc | apply Kd.R_drewN | apply Kd.R_drew)); exact Kd.R_mono HO_9.out (fun _ hk => hk.1)⟩, ⟨by exact zBx HB.out⟩⟩
              · rw [if_neg c34] at H
                have c34b0 : decide (t212 < 0) = false := decide_eq_false c34
                clear c34
                (first | rw [c34b0] | (simp only [i64_w, i32_w]; rw [c34b0]) | skip)
                replace H := Option.bind_eq_some_iff.mp H
                obtain ⟨t214, A350, H⟩ := H
                replace H : (if t214 = true then (laws_FnExactTakeReceipt.j1 kj8 l0 a1 t196 t197 t203 (t204 != t197)) else (laws_FnExactTakeReceipt.j1 kj8 l0 a1 t196 t197 t203 true)) = some r := H
                have A35 := Aside0.mk A350
                clear A350
                by_cases c36 : t214 = true
                · subst c36
                  have H1 : (laws_FnExactTakeReceipt.j1 kj8 l0 a1 t196 t197 t203 (t204 != t197)) = some r := by rw [if_pos rfl] at H; exact H
                  clear H
                  have H := H1
                  clear H1
                  have H' := Aside0.mk H
                  clear H
                  obtain ⟨Ao37, co37, eo37⟩ := Kd.R_slice HO_9.out
                  subst eo37
                  obtain ⟨Ao38, co38, eo38⟩ := Kd.R_slice HO_6.out
                  subst eo38
                  go_wp2_with (first | (go_at_call 35; (with_reducible refine (laws_eqDeliveryS.calls kj8 _ _ t203 _ _ t196 true _ ?side1 ?side2 ?side3 ?side4 A35.out).mono ?_); (case side1 => repeat (first | exact (Kd.R_reads' HO_9.out).2.2 | (with_reducible refine Kd.C_alloc ?_ _) | (with_reducible refine Kd.C_drewN ?_ _) | (with_reducible refine Kd.C_drew ?_))); (case side2 => exact (Kd.R_reads' HO_9.out).2.1); (case side3 => repeat (first | exact (Kd.R_reads' HO_6.out).2.2 | (with_reducible refine Kd.C_alloc ?_ _) | (with_reducible refine Kd.C_drewN ?_ _) | (with_reducible refine Kd.C_drew ?_))); (case side4 => exact (Kd.R_reads' HO_6.out).2.1); rintro e w39 ⟨rfl, hb⟩; have n0_ := Aside0.mk (Kd.R_below (zRx HO_6.out) hb); have n1_ := Aside0.mk (Kd.R_below (zRx HO_8.out) hb); have n2_ := Aside0.mk (Kd.R_below (zRx HO_9.out) hb); have n3_ := Aside0.mk (Kd.R_below (zRx HO210.out) hb); have n4_ := Aside0.mk (below_step (zBx HB.out) hb); clear HO_6; clear HO_8; clear HO_9; clear HO210; clear HB; have HO_6 := n0_; have HO_8 := n1_; have HO_9 := n2_; have HO210 := n3_; have HB := n4_; clear n0_ n1_ n2_ n3_ n4_; (try clear hb); (try clear hb2); (try clear hk); (try clear hi)))
                  go_meet
                  case rel => exact ⟨_, ((t204 != t197)), zrx, H', ⟨by have := HJ8.out; first | omega | exact Nat.le_refl _⟩, ⟨by (with_reducible repeat (first | apply Kd.R_alloc | apply Kd.R_drewN | apply Kd.R_drew)); exact Kd.R_mono HO_6.out (fun _ hk => hk.2.1)⟩, ⟨by (with_reducible repeat (first | apply Kd.R_alloc | apply Kd.R_drewN | apply Kd.R_drew)); exact Kd.R_mono HO_9.out (fun _ hk => hk.1)⟩, ⟨by exact zBx HB.out⟩⟩
                · replace c36 := Bool.eq_false_iff.mpr c36
                  subst c36
                  have H1 : (laws_FnExactTakeReceipt.j1 kj8 l0 a1 t196 t197 t203 true) = some r := by rw [if_neg (show ¬ (false = true) by decide)] at H; exact H
                  clear H
                  have H := H1
                  clear H1
                  have H' := Aside0.mk H
                  clear H
                  obtain ⟨Ao40, co40, eo40⟩ := Kd.R_slice HO_9.out
                  subst eo40
                  obtain ⟨Ao41, co41, eo41⟩ := Kd.R_slice HO_6.out
                  subst eo41
                  go_wp2_with (first | (go_at_call 35; (with_reducible refine (laws_eqDeliveryS.calls kj8 _ _ t203 _ _ t196 false _ ?side1 ?side2 ?side3 ?side4 A35.out).mono ?_); (case side1 => repeat (first | exact (Kd.R_reads' HO_9.out).2.2 | (with_reducible refine Kd.C_alloc ?_ _) | (with_reducible refine Kd.C_drewN ?_ _) | (with_reducible refine Kd.C_drew ?_))); (case side2 => exact (Kd.R_reads' HO_9.out).2.1); (case side3 => repeat (first | exact (Kd.R_reads' HO_6.out).2.2 | (with_reducible refine Kd.C_alloc ?_ _) | (with_reducible refine Kd.C_drewN ?_ _) | (with_reducible refine Kd.C_drew ?_))); (case side4 => exact (Kd.R_reads' HO_6.out).2.1); rintro e w42 ⟨rfl, hb⟩; have n0_ := Aside0.mk (Kd.R_below (zRx HO_6.out) hb); have n1_ := Aside0.mk (Kd.R_below (zRx HO_8.out) hb); have n2_ := Aside0.mk (Kd.R_below (zRx HO_9.out) hb); have n3_ := Aside0.mk (Kd.R_below (zRx HO210.out) hb); have n4_ := Aside0.mk (below_step (zBx HB.out) hb); clear HO_6; clear HO_8; clear HO_9; clear HO210; clear HB; have HO_6 := n0_; have HO_8 := n1_; have HO_9 := n2_; have HO210 := n3_; have HB := n4_; clear n0_ n1_ n2_ n3_ n4_; (try clear hb); (try clear hb2); (try clear hk); (try clear hi)))
                  go_meet
                  case rel => exact ⟨_, (true), zrx, H', ⟨by have := HJ8.out; first | omega | exact Nat.le_refl _⟩, ⟨by (with_reducible repeat (first | apply Kd.R_alloc | apply Kd.R_drewN | apply Kd.R_drew)); exact Kd.R_mono HO_6.out (fun _ hk => hk.2.1)⟩, ⟨by (with_reducible repeat (first | apply Kd.R_alloc | apply Kd.R_drewN | apply Kd.R_drew)); exact Kd.R_mono HO_9.out (fun _ hk => hk.1)⟩, ⟨by exact zBx HB.out⟩⟩
            case rest =>
              clear HC29
              try clear c1
              try clear c2
              try clear p2
              try clear c3
              try clear c4
              try clear c4b0
              try clear c7
              try clear c17
              try clear c24
              try clear c27
              try clear c31
              try clear c32
              try clear c33
              try clear c34
              try clear c34b0
              try clear c35
              try clear c36
              try clear p2
              obtain ⟨kq, x65_28, rfl, HA, HJ28, HO_6, HO_9, HB⟩ := hcut
              cases kq with
              | zero => exact absurd HA.out (by simp [laws_FnExactTakeReceipt.j1])
              | succ kj28 =>
                have H := HA.out
                clear HA
                simp only [laws_FnExactTakeReceipt.j1] at H
                by_cases c43 : x65_28 = true
                · subst c43
                  have H1 : (some false) = some r := by rw [if_pos rfl] at H; exact H
                  clear H
                  have H := H1
                  clear H1
                  exact absurd (Option.some.inj H) (by rw [hr_]; decide)
                · replace c43 := Bool.eq_false_iff.mpr c43
                  subst c43
                  have H1 : ((laws_markDeliveryS.f kj28 t203 1).bind fun bt215 => ((laws_heldDeliveryS.f kj28 bt215.2 1).bind fun t217 => (if t217 < 0 then (some false) else (if t217 = bt215.1 then ((laws_toDeliveryS.f kj28 l0).bind fun t218 => ((impl_TakeReceipt.f kj28 t218 a1).bind fun bt221 => ((laws_eqDeliveryS.f kj28 bt221.1 t196).bind fun t225 => (if t225 = true then (laws_FnExactTakeReceipt.j2 kj28 bt215.2 bt215.1 (bt221.2 != t197)) else (laws_FnExactTakeReceipt.j2 kj28 bt215.2 bt215.1 true))))) else (some false))))) = some r := by rw [if_neg (show ¬ (false = true) by decide)] at H; exact H
                  clear H
                  have H := H1
                  clear H1
                  replace H := Option.bind_eq_some_iff.mp H
                  obtain ⟨⟨t215, t216⟩, A440, H⟩ := H
                  replace H : ((laws_heldDeliveryS.f kj28 t216 1).bind fun t217 => (if t217 < 0 then (some false) else (if t217 = t215 then ((laws_toDeliveryS.f kj28 l0).bind fun t218 => ((impl_TakeReceipt.f kj28 t218 a1).bind fun bt221 => ((laws_eqDeliveryS.f kj28 bt221.1 t196).bind fun t225 => (if t225 = true then (laws_FnExactTakeReceipt.j2 kj28 t216 t215 (bt221.2 != t197)) else (laws_FnExactTakeReceipt.j2 kj28 t216 t215 true))))) else (some false)))) = some r := H
                  have A44 := Aside0.mk A440
                  clear A440
                  replace H := Option.bind_eq_some_iff.mp H
                  obtain ⟨t217, A450, H⟩ := H
                  replace H : (if t217 < 0 then (some false) else (if t217 = t215 then ((laws_toDeliveryS.f kj28 l0).bind fun t218 => ((impl_TakeReceipt.f kj28 t218 a1).bind fun bt221 => ((laws_eqDeliveryS.f kj28 bt221.1 t196).bind fun t225 => (if t225 = true then (laws_FnExactTakeReceipt.j2 kj28 t216 t215 (bt221.2 != t197)) else (laws_FnExactTakeReceipt.j2 kj28 t216 t215 true))))) else (some false))) = some r := H
                  have A45 := Aside0.mk A450
                  clear A450
                  by_cases c46 : t217 < 0
                  · rw [if_pos c46] at H
                    have c46b0 : decide (t217 < 0) = true := decide_eq_true c46
                    clear c46
                    exact absurd (Option.some.inj H) (by rw [hr_]; decide)
                  · rw [if_neg c46] at H
                    have c46b0 : decide (t217 < 0) = false := decide_eq_false c46
                    clear c46
                    by_cases c49 : t217 = t215
                    · rw [if_pos c49] at H
                      have c49b0 : (t217 == t215) = true := beq_iff_eq.mpr c49
                      have c49b1 : (t217 != t215) = false := bne_eq_false_iff_eq.mpr c49
                      clear c49
                      replace H := Option.bind_eq_some_iff.mp H
                      obtain ⟨t218, A500, H⟩ := H
                      replace H : ((impl_TakeReceipt.f kj28 t218 a1).bind fun bt221 => ((laws_eqDeliveryS.f kj28 bt221.1 t196).bind fun t225 => (if t225 = true then (laws_FnExactTakeReceipt.j2 kj28 t216 t215 (bt221.2 != t197)) else (laws_FnExactTakeReceipt.j2 kj28 t216 t215 true)))) = some r := H
                      have A50 := Aside0.mk A500
                      clear A500
                      replace H := Option.bind_eq_some_iff.mp H
                      obtain ⟨⟨t221, t222⟩, A510, H⟩ := H
                      replace H : ((laws_eqDeliveryS.f kj28 t221 t196).bind fun t225 => (if t225 = true then (laws_FnExactTakeReceipt.j2 kj28 t216 t215 (t222 != t197)) else (laws_FnExactTakeReceipt.j2 kj28 t216 t215 true))) = some r := H
                      have A51 := Aside0.mk A510
                      clear A510
                      have HC52 := Aside0.mk H
                      clear H
                      obtain ⟨Ao53, co53, eo53⟩ := Kd.R_slice HO_9.out
                      subst eo53
                      go_upto_region 25 with (first | ((with_reducible refine gate_callee (f := 36) rfl ?_); refine goesL_ (some 68) rfl rfl Try.func36 (by kernel_rfl) rfl #[.slice Ao53 t203.length co53, .int .i64 1] rfl zlx ?_; (with_reducible refine (laws_markDeliveryS.calls kj28 (fun k_ => some k_ = (.slice Ao53 t203.length co53 : Value).ownBlock) (.slice Ao53 t203.length co53) t203 1 t215 t216 w _ ?side1 ?side2 A44.out).mono ?_); (case side1 => exact zBx HB.out); (case side2 => exact Kd.R_tight rfl HO_9.out); rintro e w54 ⟨rfl, hy0, hb, hkp⟩; refine ⟨_, rfl, ?_⟩; have n0_ := Aside0.mk (Kd.R_mono (ok' := fun k_ => some k_ ≠ (.slice Ao53 t203.length co53 : Value).ownBlock) (Kd.R_keptB (HO_6.out) hkp (fun k_ hk_ hs_ => (hk_) hs_)) (fun k_ hk_ => hk_.1)); have n1_ := Aside0.mk (Kd.R_reok rfl hy0 (fun k_ e_ => HO_9.out.1 k_ e_)); have n2_ := Aside0.mk (hb); clear HO_6; clear HO_9; clear HB; have HO_6 := n0_; have HO_9 := n1_; have HB := n2_; clear n0_ n1_ n2_; (try clear hb); (try clear hkp); (try clear hy0)) | ((with_reducible refine gate_callee (f := 37) rfl ?_); refine goesL_ (some 71) rfl rfl Try.func37 (by kernel_rfl) rfl #[.slice Ao53 t216.length co53, .int .i64 1] rfl (by (try simp only [List.map_toArray, List.map_cons, List.map_nil]); first | done | (rw [show t216.length = t203.length from (Kd.R_reads' HO_9.out).1.symm] <;> rfl) | rfl | (simp only [List.length_drop, List.length_take]; rfl)) ?_; (with_reducible refine (laws_heldDeliveryS.calls kj28 _ _ t216 1 t217 _ ?side1 ?side2 A45.out).mono ?_); (case side1 => repeat (first | exact (Kd.R_reads' HO_9.out).2.2 | (with_reducible refine Kd.C_alloc ?_ _) | (with_reducible refine Kd.C_drewN ?_ _) | (with_reducible refine Kd.C_drew ?_))); (case side2 => rw [show t216.length = t203.length from (Kd.R_reads' HO_9.out).1.symm]; exact (Kd.R_reads' HO_9.out).2.1); rintro e w' ⟨rfl, ⟨nd, rfl⟩⟩; refine ⟨_, rfl, ?_⟩) | ((with_reducible refine gate_callee (f := 33) rfl ?_); refine goesL_ (some 79) rfl rfl Try.func33 (by kernel_rfl) rfl #[.slice A0 l0.length c0] rfl zlx ?_; (with_reducible refine (laws_toDeliveryS.calls kj28 _ _ l0 t218 _ ?side1 ?side2 A50.out).mono ?_); (case side1 => repeat (first | exact (Kd.C_below HR0.out (zBx HB.out)) | (with_reducible refine Kd.C_alloc ?_ _) | (with_reducible refine Kd.C_drewN ?_ _) | (with_reducible refine Kd.C_drew ?_))); (case side2 => exact HC0.out); rintro e w55 ⟨v219, rfl, ho0, hb⟩; refine ⟨_, rfl, ?_⟩; have n0_ := Aside0.mk (Kd.R_elder' (zRx HO_6.out) (Kd.R_base ho0) hb); have n1_ := Aside0.mk (Kd.R_elder' (zRx HO_9.out) (Kd.R_base ho0) hb); have n2_ := Aside0.mk (Kd.R_lower (Kd.R_new' (Kd.R_new' ho0 (Kd.R_lt (zRx HO_6.out))) (Kd.R_lt (zRx HO_9.out))) (below_size (zBx HB.out))); have n3_ := Aside0.mk (below_step (zBx HB.out) hb); clear HO_6; clear HO_9; clear HB; have HO_6 := n0_; have HO_9 := n1_; have HO220 := n2_; have HB := n3_; clear n0_ n1_ n2_ n3_; (try clear hb); (try clear hb2); (try clear hk); (try clear hi); (try clear ho0); obtain ⟨Ao56, co56, eo56⟩ := Kd.R_slice HO220.out; subst eo56) | ((with_reducible refine gate_callee (f := 34) rfl ?_); refine goesL_ (some 81) rfl rfl Try.func34 (by kernel_rfl) rfl #[.slice Ao56 t218.length co56, .int .i64 a1] rfl zlx ?_; (with_reducible refine (impl_TakeReceipt.calls kj28 _ _ t218 a1 t221 t222 _ ?side1 ?side2 A51.out).mono ?_); (case side1 => repeat (first | exact (Kd.R_reads' HO220.out).2.2 | (with_reducible refine Kd.C_alloc ?_ _) | (with_reducible refine Kd.C_drewN ?_ _) | (with_reducible refine Kd.C_drew ?_))); (case side2 => exact (Kd.R_reads' HO220.out).2.1); rintro e w57 ⟨v223, rfl, ho0, hb⟩; refine ⟨_, rfl, ?_⟩; have n0_ := Aside0.mk (Kd.R_elder' (zRx HO_6.out) (Kd.R_base ho0) hb); have n1_ := Aside0.mk (Kd.R_elder' (zRx HO_9.out) (Kd.R_base ho0) hb); have n2_ := Aside0.mk (Kd.R_elder' (zRx HO220.out) (Kd.R_base ho0) hb); have n3_ := Aside0.mk (Kd.R_lower (Kd.R_new' (Kd.R_new' (Kd.R_new' ho0 (Kd.R_lt (zRx HO_6.out))) (Kd.R_lt (zRx HO_9.out))) (Kd.R_lt (zRx HO220.out))) (below_size (zBx HB.out))); have n4_ := Aside0.mk (below_step (zBx HB.out) hb); clear HO_6; clear HO_9; clear HO220; clear HB; have HO_6 := n0_; have HO_9 := n1_; have HO220 := n2_; have HO224 := n3_; have HB := n4_; clear n0_ n1_ n2_ n3_ n4_; (try clear hb); (try clear hb2); (try clear hk); (try clear hi); (try clear ho0)))
                      (try simp only [Act.put, List.setIfInBounds_toArray, List.set_cons_zero, List.set_cons_succ])
                      go_cut [92] (fun v92 wc => ∃ (kq : Nat) (x92_51 : Bool), v92 = .bool x92_51 ∧ Aside0 (laws_FnExactTakeReceipt.j2 kq t216 t215 x92_51 = some r) ∧ Aside0 (kq ≤ kj28) ∧ Aside0 (Kd.R k94 94 wc w.heap.size (fun _ => True) (.slice Ao53 t203.length co53) t216) ∧ Aside0 (Below w.heap.size w wc))
                      case first =>
                        have H := HC52.out
                        clear HC52
                        replace H := Option.bind_eq_some_iff.mp H
                        obtain ⟨t225, A580, H⟩ := H
                        replace H : (if t225 = true then (laws_FnExactTakeReceipt.j2 kj28 t216 t215 (t222 != t197)) else (laws_FnExactTakeReceipt.j2 kj28 t216 t215 true)) = some r := H
                        have A58 := Aside0.mk A580
                        clear A580
                        by_cases c59 : t225 = true
                        · subst c59
                          have H1 : (laws_FnExactTakeReceipt.j2 kj28 t216 t215 (t222 != t197)) = some r := by rw [if_pos rfl] at H; exact H
                          clear H
                          have H := H1
                          clear H1
                          have H' := Aside0.mk H
                          clear H
                          obtain ⟨Ao60, co60, eo60⟩ := Kd.R_slice HO224.out
                          subst eo60
                          obtain ⟨Ao61, co61, eo61⟩ := Kd.R_slice HO_6.out
                          subst eo61
                          go_wp2_with (first | ((with_reducible refine gate_callee (f := 35) rfl ?_); refine goesL_ (some 86) rfl rfl Try.func35 (by kernel_rfl) rfl #[.slice Ao60 t221.length co60, .slice Ao61 t196.length co61] rfl zlx ?_; (with_reducible refine (laws_eqDeliveryS.calls kj28 _ _ t221 _ _ t196 true _ ?side1 ?side2 ?side3 ?side4 A58.out).mono ?_); (case side1 => repeat (first | exact (Kd.R_reads' HO224.out).2.2 | (with_reducible refine Kd.C_alloc ?_ _) | (with_reducible refine Kd.C_drewN ?_ _) | (with_reducible refine Kd.C_drew ?_))); (case side2 => exact (Kd.R_reads' HO224.out).2.1); (case side3 => repeat (first | exact (Kd.R_reads' HO_6.out).2.2 | (with_reducible refine Kd.C_alloc ?_ _) | (with_reducible refine Kd.C_drewN ?_ _) | (with_reducible refine Kd.C_drew ?_))); (case side4 => exact (Kd.R_reads' HO_6.out).2.1); rintro e w62 ⟨rfl, hb⟩; refine ⟨_, rfl, ?_⟩; have n0_ := Aside0.mk (Kd.R_below (zRx HO_6.out) hb); have n1_ := Aside0.mk (Kd.R_below (zRx HO_9.out) hb); have n2_ := Aside0.mk (Kd.R_below (zRx HO220.out) hb); have n3_ := Aside0.mk (Kd.R_below (zRx HO224.out) hb); have n4_ := Aside0.mk (below_step (zBx HB.out) hb); clear HO_6; clear HO_9; clear HO220; clear HO224; clear HB; have HO_6 := n0_; have HO_9 := n1_; have HO220 := n2_; have HO224 := n3_; have HB := n4_; clear n0_ n1_ n2_ n3_ n4_; (try clear hb); (try clear hb2); (try clear hk); (try clear hi)))
                          go_meet
                          case rel => exact ⟨_, ((t222 != t197)), zrx, H', ⟨by have := HJ8.out; have := HJ28.out; first | omega | exact Nat.le_refl _⟩, ⟨by (with_reducible repeat (first | apply Kd.R_alloc | apply Kd.R_drewN | apply Kd.R_drew)); exact Kd.R_mono HO_9.out (fun _ hk => trivial)⟩, ⟨by exact zBx HB.out⟩⟩
                        · replace c59 := Bool.eq_false_iff.mpr c59
                          subst c59
                          have H1 : (laws_FnExactTakeReceipt.j2 kj28 t216 t215 true) = some r := by rw [if_neg (show ¬ (false = true) by decide)] at H; exact H
                          clear H
                          have H := H1
                          clear H1
                          have H' := Aside0.mk H
                          clear H
                          obtain ⟨Ao63, co63, eo63⟩ := Kd.R_slice HO224.out
                          subst eo63
                          obtain ⟨Ao64, co64, eo64⟩ := Kd.R_slice HO_6.out
                          subst eo64
                          go_wp2_with (first | ((with_reducible refine gate_callee (f := 35) rfl ?_); refine goesL_ (some 86) rfl rfl Try.func35 (by kernel_rfl) rfl #[.slice Ao63 t221.length co63, .slice Ao64 t196.length co64] rfl zlx ?_; (with_reducible refine (laws_eqDeliveryS.calls kj28 _ _ t221 _ _ t196 false _ ?side1 ?side2 ?side3 ?side4 A58.out).mono ?_); (case side1 => repeat (first | exact (Kd.R_reads' HO224.out).2.2 | (with_reducible refine Kd.C_alloc ?_ _) | (with_reducible refine Kd.C_drewN ?_ _) | (with_reducible refine Kd.C_drew ?_))); (case side2 => exact (Kd.R_reads' HO224.out).2.1); (case side3 => repeat (first | exact (Kd.R_reads' HO_6.out).2.2 | (with_reducible refine Kd.C_alloc ?_ _) | (with_reducible refine Kd.C_drewN ?_ _) | (with_reducible refine Kd.C_drew ?_))); (case side4 => exact (Kd.R_reads' HO_6.out).2.1); rintro e w65 ⟨rfl, hb⟩; refine ⟨_, rfl, ?_⟩; have n0_ := Aside0.mk (Kd.R_below (zRx HO_6.out) hb); have n1_ := Aside0.mk (Kd.R_below (zRx HO_9.out) hb); have n2_ := Aside0.mk (Kd.R_below (zRx HO220.out) hb); have n3_ := Aside0.mk (Kd.R_below (zRx HO224.out) hb); have n4_ := Aside0.mk (below_step (zBx HB.out) hb); clear HO_6; clear HO_9; clear HO220; clear HO224; clear HB; have HO_6 := n0_; have HO_9 := n1_; have HO220 := n2_; have HO224 := n3_; have HB := n4_; clear n0_ n1_ n2_ n3_ n4_; (try clear hb); (try clear hb2); (try clear hk); (try clear hi)))
                          go_meet
                          case rel => exact ⟨_, (true), zrx, H', ⟨by have := HJ8.out; have := HJ28.out; first | omega | exact Nat.le_refl _⟩, ⟨by (with_reducible repeat (first | apply Kd.R_alloc | apply Kd.R_drewN | apply Kd.R_drew)); exact Kd.R_mono HO_9.out (fun _ hk => trivial)⟩, ⟨by exact zBx HB.out⟩⟩
                      case rest =>
                        clear HC52
                        try clear c1
                        try clear c2
                        try clear p2
                        try clear c3
                        try clear c4
                        try clear c4b0
                        try clear c5
                        try clear c7
                        try clear c17
                        try clear c24
                        try clear c27
                        try clear c31
                        try clear c32
                        try clear c33
                        try clear c34
                        try clear c34b0
                        try clear c35
                        try clear c36
                        try clear c37
                        try clear c43
                        try clear c46
                        try clear c46b0
                        try clear c49
                        try clear c49b0
                        try clear c49b1
                        try clear c59
                        try clear p2
                        obtain ⟨kq, x92_51, rfl, HA, HJ51, HO_9, HB⟩ := hcut
                        have hl9_51 := (Kd.R_reads' HO_9.out).1
                        rw [hl9_51] at HO_9
                        (try simp only [hl9_51])
                        cases kq with
                        | zero => exact absurd HA.out (by simp [laws_FnExactTakeReceipt.j2])
                        | succ kj51 =>
                          have H := HA.out
                          clear HA
                          simp only [laws_FnExactTakeReceipt.j2] at H
                          by_cases c66 : x92_51 = true
                          · subst c66
                            have H1 : (some false) = some r := by rw [if_pos rfl] at H; exact H
                            clear H
                            have H := H1
                            clear H1
                            exact absurd (Option.some.inj H) (by rw [hr_]; decide)
                          · replace c66 := Bool.eq_false_iff.mpr c66
                            subst c66
                            have H1 : ((laws_heldDeliveryS.f kj51 t216 1).bind fun t226 => (if t226 < 0 then (some false) else (if t226 = t215 then (some true) else (some false)))) = some r := by rw [if_neg (show ¬ (false = true) by decide)] at H; exact H
                            clear H
                            have H := H1
                            clear H1
                            replace H := Option.bind_eq_some_iff.mp H
                            obtain ⟨t226, A670, H⟩ := H
                            replace H : (if t226 < 0 then (some false) else (if t226 = t215 then (some true) else (some false))) = some r := H
                            have A67 := Aside0.mk A670
                            clear A670
                            by_cases c68 : t226 < 0
                            · rw [if_pos c68] at H
                              have c68b0 : decide (t226 < 0) = true := decide_eq_true c68
                              clear c68
                              exact absurd (Option.some.inj H) (by rw [hr_]; decide)
                            · rw [if_neg c68] at H
                              have c68b0 : decide (t226 < 0) = false := decide_eq_false c68
                              (try rw [hl9_51] at c68b0)
                              clear c68
                              by_cases c69 : t226 = t215
                              · rw [if_pos c69] at H
                                have c69b0 : (t226 == t215) = true := beq_iff_eq.mpr c69
                                have c69b1 : (t226 != t215) = false := bne_eq_false_iff_eq.mpr c69
                                clear c69
                                obtain rfl := Option.some.inj H
                                go_wp2_with (first | ((with_reducible refine gate_callee (f := 37) rfl ?_); refine goesL_ (some 95) rfl rfl Try.func37 (by kernel_rfl) rfl #[.slice Ao53 t216.length co53, .int .i64 1] rfl zlx ?_; (with_reducible refine (laws_heldDeliveryS.calls kj51 _ _ t216 1 t226 _ ?side1 ?side2 A67.out).mono ?_); (case side1 => repeat (first | exact (Kd.R_reads' HO_9.out).2.2 | (with_reducible refine Kd.C_alloc ?_ _) | (with_reducible refine Kd.C_drewN ?_ _) | (with_reducible refine Kd.C_drew ?_))); (case side2 => exact (Kd.R_reads' HO_9.out).2.1); rintro e w' ⟨rfl, ⟨nd, rfl⟩⟩; refine ⟨_, rfl, ?_⟩))
                                go_ret
                                exact ⟨by first | rfl | (simp [errW_none, errW_some] <;> rfl) | (simp [*, errW_none, errW_some] <;> rfl), by exact zBx HB.out⟩
                              · rw [if_neg c69] at H
                                have c69b0 : (t226 == t215) = false := beq_eq_false_iff_ne.mpr c69
                                have c69b1 : (t226 != t215) = true := bne_iff_ne.mpr c69
                                exact absurd (Option.some.inj H) (by rw [hr_]; decide)
                    · rw [if_neg c49] at H
                      have c49b0 : (t217 == t215) = false := beq_eq_false_iff_ne.mpr c49
                      have c49b1 : (t217 != t215) = true := bne_iff_ne.mpr c49
                      exact absurd (Option.some.inj H) (by rw [hr_]; decide)
          · replace c27 := Bool.eq_false_iff.mpr c27
            subst c27
            have H1 : (some false) = some r := by rw [if_neg (show ¬ (false = true) by decide)] at H; exact H
            clear H
            have H := H1
            clear H1
            exact absurd (Option.some.inj H) (by rw [hr_]; decide)

end Go.Proofs.Ytjagdjbiljooiaa.XFnExactTakeReceipt
