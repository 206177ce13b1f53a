-- written by wip/tools/xprint.py (a program of this project) out of the translation
import Derived.Test.YtjagdjbiljooiaaXFnExactPruneQueuex0
import Derived.Test.YtjagdjbiljooiaaXFnExactPruneQueuex1
import Derived.Test.YtjagdjbiljooiaaXFnExactPruneQueuex2
import Derived.Test.YtjagdjbiljooiaaXFnExactPruneQueuex4
import Derived.Test.YtjagdjbiljooiaaXFnExactPruneQueuex6
namespace Go.Proofs.Ytjagdjbiljooiaa.XFnExactPruneQueue
open Go.RowKit Go.Proofs.YtjagdjbiljooiaaW.PrintWords Go.Proofs.YtjagdjbiljooiaaW.PrintLast Go.Proofs.YtjagdjbiljooiaaW.PrintMore
attribute [local go_sem] max2_int min2_int max_two min_two max_three min_three max_four min_four   -- for this text's walks alone
set_option linter.unusedVariables false
set_option linter.unusedSimpArgs false

/-! ### laws_FnExactPruneQueue: function 8 -/
mutual
def laws_FnExactPruneQueue.j0 : Nat → List (S96) → List (S94) → Bool → List (S94) → List (S94) → Bool → Bool → Option (Bool)
  | 0, _, _, _, _, _, _, _ => none
  | k + 1, x0, x4, x5, x6, x7, x8, x40 => if x40 = true then (some false) else ((laws_toDeliveryS.f k x0).bind fun t198 => ((laws_eqDeliveryS.f k x6 t198).bind fun t201 => (if t201 = true then ((laws_markDeliveryS.f k x6 1).bind fun bt202 => (if bt202.1 < 0 then (laws_FnExactPruneQueue.j1 k x0 x4 x5 x7 true) else ((laws_eqDeliveryS.f k x7 x4).bind fun t204 => (if t204 = true then (laws_FnExactPruneQueue.j1 k x0 x4 x5 x7 (x8 != x5)) else (laws_FnExactPruneQueue.j1 k x0 x4 x5 x7 true))))) else (some false))))
def laws_FnExactPruneQueue.j1 : Nat → List (S96) → List (S94) → Bool → List (S94) → Bool → Option (Bool)
  | 0, _, _, _, _, _ => none
  | k + 1, x0, x4, x5, x7, x61 => if x61 = true then (some false) else ((laws_markDeliveryS.f k x7 1).bind fun bt205 => ((laws_heldDeliveryS.f k bt205.2 1).bind fun t207 => (if t207 < 0 then (some false) else (if t207 = bt205.1 then ((laws_toDeliveryS.f k x0).bind fun t208 => ((impl_PruneQueue.f k t208).bind fun bt211 => ((laws_eqDeliveryS.f k bt211.1 x4).bind fun t215 => (if t215 = true then (laws_FnExactPruneQueue.j2 k bt205.2 bt205.1 (bt211.2 != x5)) else (laws_FnExactPruneQueue.j2 k bt205.2 bt205.1 true))))) else (some false)))))
def laws_FnExactPruneQueue.j2 : Nat → List (S94) → Int → Bool → Option (Bool)
  | 0, _, _, _ => none
  | k + 1, x7, x10, x87 => if x87 = true then (some false) else ((laws_heldDeliveryS.f k x7 1).bind fun t216 => (if t216 < 0 then (some false) else (if t216 = x10 then (some true) else (some false))))
end
def laws_FnExactPruneQueue.f (k : Nat) (l0 : List (S96)) : Option (Bool) := (laws_szDeliveryS.f l0 1048576).bind fun t182 => (if t182 < 0 then (some true) else ((laws_toDeliveryS.f k l0).bind fun t183 => ((spec_PruneQueue.f k t183).bind fun bt186 => ((laws_toDeliveryS.f k l0).bind fun t190 => ((impl_PruneQueue.f k t190).bind fun bt193 => ((laws_eqDeliveryS.f k bt193.1 bt186.1).bind fun t197 => (if t197 = true then (laws_FnExactPruneQueue.j0 k l0 bt186.1 bt186.2 t190 bt193.1 bt193.2 (bt193.2 != bt186.2)) else (laws_FnExactPruneQueue.j0 k l0 bt186.1 bt186.2 t190 bt193.1 bt193.2 true))))))))
theorem laws_FnExactPruneQueue.mono_l : ∀ k, (∀ y0 y1 y2 y3 y4 y5 y6, LeO (laws_FnExactPruneQueue.j0 k y0 y1 y2 y3 y4 y5 y6) (laws_FnExactPruneQueue.j0 (k + 1) y0 y1 y2 y3 y4 y5 y6)) ∧ (∀ y0 y1 y2 y3 y4, LeO (laws_FnExactPruneQueue.j1 k y0 y1 y2 y3 y4) (laws_FnExactPruneQueue.j1 (k + 1) y0 y1 y2 y3 y4)) ∧ (∀ y0 y1 y2, LeO (laws_FnExactPruneQueue.j2 k y0 y1 y2) (laws_FnExactPruneQueue.j2 (k + 1) y0 y1 y2))
  | 0 => ⟨fun _ _ _ _ _ _ _ r h => by simp [laws_FnExactPruneQueue.j0] at h, fun _ _ _ _ _ r h => by simp [laws_FnExactPruneQueue.j1] at h, fun _ _ _ r h => by simp [laws_FnExactPruneQueue.j2] at h⟩
  | k + 1 => by
    obtain ⟨ih0, ih1, ih2⟩ := laws_FnExactPruneQueue.mono_l k
    refine ⟨?_, ?_, ?_⟩
    · intro y0 y1 y2 y3 y4 y5 y6
      unfold laws_FnExactPruneQueue.j0
      repeat' first
      | (with_reducible exact ih0 _ _ _ _ _ _ _)
      | (with_reducible exact ih1 _ _ _ _ _)
      | (with_reducible exact ih2 _ _ _)
      | (with_reducible exact impl_PruneQueue.mono _ _)
      | (with_reducible exact laws_eqDeliveryS.mono _ _ _)
      | (with_reducible exact laws_heldDeliveryS.mono _ _ _)
      | (with_reducible exact laws_markDeliveryS.mono _ _ _)
      | (with_reducible exact laws_toDeliveryS.mono _ _)
      | (with_reducible exact spec_PruneQueue.mono _ _)
      | (with_reducible exact LeO.refl _)
      | (with_reducible exact LeO.none _)
      | (with_reducible refine LeO.ite ?_ ?_)
      | (with_reducible refine LeO.bind ?_ (fun _ => ?_))
      | exact ih0 _ _ _ _ _ _ _
      | exact ih1 _ _ _ _ _
      | exact ih2 _ _ _
      | exact impl_PruneQueue.mono _ _
      | exact laws_eqDeliveryS.mono _ _ _
      | exact laws_heldDeliveryS.mono _ _ _
      | exact laws_markDeliveryS.mono _ _ _
      | exact laws_toDeliveryS.mono _ _
      | exact spec_PruneQueue.mono _ _
      | exact LeO.none _
      | refine LeO.ite ?_ ?_
      | refine LeO.bind ?_ (fun _ => ?_)
    · intro y0 y1 y2 y3 y4
      unfold laws_FnExactPruneQueue.j1
      repeat' first
      | (with_reducible exact ih0 _ _ _ _ _ _ _)
      | (with_reducible exact ih1 _ _ _ _ _)
      | (with_reducible exact ih2 _ _ _)
      | (with_reducible exact impl_PruneQueue.mono _ _)
      | (with_reducible exact laws_eqDeliveryS.mono _ _ _)
      | (with_reducible exact laws_heldDeliveryS.mono _ _ _)
      | (with_reducible exact laws_markDeliveryS.mono _ _ _)
      | (with_reducible exact laws_toDeliveryS.mono _ _)
      | (with_reducible exact spec_PruneQueue.mono _ _)
      | (with_reducible exact LeO.refl _)
      | (with_reducible exact LeO.none _)
      | (with_reducible refine LeO.ite ?_ ?_)
      | (with_reducible refine LeO.bind ?_ (fun _ => ?_))
      | exact ih0 _ _ _ _ _ _ _
      | exact ih1 _ _ _ _ _
      | exact ih2 _ _ _
      | exact impl_PruneQueue.mono _ _
      | exact laws_eqDeliveryS.mono _ _ _
      | exact laws_heldDeliveryS.mono _ _ _
      | exact laws_markDeliveryS.mono _ _ _
      | exact laws_toDeliveryS.mono _ _
      | exact spec_PruneQueue.mono _ _
      | exact LeO.none _
      | refine LeO.ite ?_ ?_
      | refine LeO.bind ?_ (fun _ => ?_)
    · intro y0 y1 y2
      unfold laws_FnExactPruneQueue.j2
      repeat' first
      | (with_reducible exact ih0 _ _ _ _ _ _ _)
      | (with_reducible exact ih1 _ _ _ _ _)
      | (with_reducible exact ih2 _ _ _)
      | (with_reducible exact impl_PruneQueue.mono _ _)
      | (with_reducible exact laws_eqDeliveryS.mono _ _ _)
      | (with_reducible exact laws_heldDeliveryS.mono _ _ _)
      | (with_reducible exact laws_markDeliveryS.mono _ _ _)
      | (with_reducible exact laws_toDeliveryS.mono _ _)
      | (with_reducible exact spec_PruneQueue.mono _ _)
      | (with_reducible exact LeO.refl _)
      | (with_reducible exact LeO.none _)
      | (with_reducible refine LeO.ite ?_ ?_)
      | (with_reducible refine LeO.bind ?_ (fun _ => ?_))
      | exact ih0 _ _ _ _ _ _ _
      | exact ih1 _ _ _ _ _
      | exact ih2 _ _ _
      | exact impl_PruneQueue.mono _ _
      | exact laws_eqDeliveryS.mono _ _ _
      | exact laws_heldDeliveryS.mono _ _ _
      | exact laws_markDeliveryS.mono _ _ _
      | exact laws_toDeliveryS.mono _ _
      | exact spec_PruneQueue.mono _ _
      | exact LeO.none _
      | refine LeO.ite ?_ ?_
      | refine LeO.bind ?_ (fun _ => ?_)
theorem laws_FnExactPruneQueue.mono : ∀ a0 k, LeO (laws_FnExactPruneQueue.f k a0) (laws_FnExactPruneQueue.f (k + 1) a0) := by
  intro a0 k
  obtain ⟨ih0, ih1, ih2⟩ := laws_FnExactPruneQueue.mono_l k
  unfold laws_FnExactPruneQueue.f
  repeat' first
      | (with_reducible exact ih0 _ _ _ _ _ _ _)
      | (with_reducible exact ih1 _ _ _ _ _)
      | (with_reducible exact ih2 _ _ _)
      | (with_reducible exact impl_PruneQueue.mono _ _)
      | (with_reducible exact laws_eqDeliveryS.mono _ _ _)
      | (with_reducible exact laws_heldDeliveryS.mono _ _ _)
      | (with_reducible exact laws_markDeliveryS.mono _ _ _)
      | (with_reducible exact laws_toDeliveryS.mono _ _)
      | (with_reducible exact spec_PruneQueue.mono _ _)
      | (with_reducible exact LeO.refl _)
      | (with_reducible exact LeO.none _)
      | (with_reducible refine LeO.ite ?_ ?_)
      | (with_reducible refine LeO.bind ?_ (fun _ => ?_))
      | exact ih0 _ _ _ _ _ _ _
      | exact ih1 _ _ _ _ _
      | exact ih2 _ _ _
      | exact impl_PruneQueue.mono _ _
      | exact laws_eqDeliveryS.mono _ _ _
      | exact laws_heldDeliveryS.mono _ _ _
      | exact laws_markDeliveryS.mono _ _ _
      | exact laws_toDeliveryS.mono _ _
      | exact spec_PruneQueue.mono _ _
      | exact LeO.none _
      | refine LeO.ite ?_ ?_
      | refine LeO.bind ?_ (fun _ => ?_)
set_option maxHeartbeats 8000000 in
set_option maxRecDepth 100000 in
theorem laws_FnExactPruneQueue.calls (k : Nat) (A0 : Option Addr) (c0 : Nat) (l0 : List (S96)) (r : Bool) (w : World) (hr0 : Kd.C k96 w A0 l0.length l0) (hc0 : l0.length ≤ c0) (h : laws_FnExactPruneQueue.f k l0 = some r) (hr_ : r = true) :
    Calls Try.prog 8 #[.slice A0 l0.length c0] w fun e w' => e = .returned (.bool r) ∧ Below w.heap.size w w' := by
  have HR0 := Aside0.mk hr0
  have HC0 := Aside0.mk hc0
  clear hr0 hc0
  have HB := Aside0.mk (Below.refl w.heap.size w)
  have H : ((laws_szDeliveryS.f l0 1048576).bind fun t182 => (if t182 < 0 then (some true) else ((laws_toDeliveryS.f k l0).bind fun t183 => ((spec_PruneQueue.f k t183).bind fun bt186 => ((laws_toDeliveryS.f k l0).bind fun t190 => ((impl_PruneQueue.f k t190).bind fun bt193 => ((laws_eqDeliveryS.f k bt193.1 bt186.1).bind fun t197 => (if t197 = true then (laws_FnExactPruneQueue.j0 k l0 bt186.1 bt186.2 t190 bt193.1 bt193.2 (bt193.2 != bt186.2)) else (laws_FnExactPruneQueue.j0 k l0 bt186.1 bt186.2 t190 bt193.1 bt193.2 true))))))))) = some r := h
  clear h
  replace H := Option.bind_eq_some_iff.mp H
  obtain ⟨t182, A20, H⟩ := H
  replace H : (if t182 < 0 then (some true) else ((laws_toDeliveryS.f k l0).bind fun t183 => ((spec_PruneQueue.f k t183).bind fun bt186 => ((laws_toDeliveryS.f k l0).bind fun t190 => ((impl_PruneQueue.f k t190).bind fun bt193 => ((laws_eqDeliveryS.f k bt193.1 bt186.1).bind fun t197 => (if t197 = true then (laws_FnExactPruneQueue.j0 k l0 bt186.1 bt186.2 t190 bt193.1 bt193.2 (bt193.2 != bt186.2)) else (laws_FnExactPruneQueue.j0 k l0 bt186.1 bt186.2 t190 bt193.1 bt193.2 true)))))))) = some r := H
  have A2 := Aside0.mk A20
  clear A20
  by_cases c3 : t182 < 0
  · rw [if_pos c3] at H
    have c3b0 : decide (t182 < 0) = true := decide_eq_true c3
    clear c3
    obtain rfl := Option.some.inj H
    go_enter Try.func8, Try.ntmps8
    go_wp2_with (first | ((with_reducible refine gate_callee (f := 31) rfl ?_); refine goesL_ (some 16) rfl rfl Try.func31 (by kernel_rfl) rfl #[.slice A0 l0.length c0, .int .i64 1048576] rfl zlx ?_; (with_reducible refine (laws_szDeliveryS.calls _ _ l0 1048576 t182 _ ?side1 ?side2 A2.out).mono ?_); (case side1 => exact zCx HR0.out); (case side2 => exact HC0.out); rintro e w' ⟨rfl, ⟨nd, rfl⟩⟩; refine ⟨_, rfl, ?_⟩))
    go_ret
    exact ⟨by first | rfl | (simp [errW_none, errW_some] <;> rfl) | (simp [*, errW_none, errW_some] <;> rfl), by exact zBx HB.out⟩
  · rw [if_neg c3] at H
    have c3b0 : decide (t182 < 0) = false := decide_eq_false c3
    clear c3
    replace H := Option.bind_eq_some_iff.mp H
    obtain ⟨t183, A40, H⟩ := H
    replace H : ((spec_PruneQueue.f k t183).bind fun bt186 => ((laws_toDeliveryS.f k l0).bind fun t190 => ((impl_PruneQueue.f k t190).bind fun bt193 => ((laws_eqDeliveryS.f k bt193.1 bt186.1).bind fun t197 => (if t197 = true then (laws_FnExactPruneQueue.j0 k l0 bt186.1 bt186.2 t190 bt193.1 bt193.2 (bt193.2 != bt186.2)) else (laws_FnExactPruneQueue.j0 k l0 bt186.1 bt186.2 t190 bt193.1 bt193.2 true)))))) = some r := H
    have A4 := Aside0.mk A40
    clear A40
    replace H := Option.bind_eq_some_iff.mp H
    obtain ⟨⟨t186, t187⟩, A50, H⟩ := H
    replace H : ((laws_toDeliveryS.f k l0).bind fun t190 => ((impl_PruneQueue.f k t190).bind fun bt193 => ((laws_eqDeliveryS.f k bt193.1 t186).bind fun t197 => (if t197 = true then (laws_FnExactPruneQueue.j0 k l0 t186 t187 t190 bt193.1 bt193.2 (bt193.2 != t187)) else (laws_FnExactPruneQueue.j0 k l0 t186 t187 t190 bt193.1 bt193.2 true))))) = some r := H
    have A5 := Aside0.mk A50
    clear A50
    replace H := Option.bind_eq_some_iff.mp H
    obtain ⟨t190, A60, H⟩ := H
    replace H : ((impl_PruneQueue.f k t190).bind fun bt193 => ((laws_eqDeliveryS.f k bt193.1 t186).bind fun t197 => (if t197 = true then (laws_FnExactPruneQueue.j0 k l0 t186 t187 t190 bt193.1 bt193.2 (bt193.2 != t187)) else (laws_FnExactPruneQueue.j0 k l0 t186 t187 t190 bt193.1 bt193.2 true)))) = some r := H
    have A6 := Aside0.mk A60
    clear A60
    replace H := Option.bind_eq_some_iff.mp H
    obtain ⟨⟨t193, t194⟩, A70, H⟩ := H
    replace H : ((laws_eqDeliveryS.f k t193 t186).bind fun t197 => (if t197 = true then (laws_FnExactPruneQueue.j0 k l0 t186 t187 t190 t193 t194 (t194 != t187)) else (laws_FnExactPruneQueue.j0 k l0 t186 t187 t190 t193 t194 true))) = some r := H
    have A7 := Aside0.mk A70
    clear A70
    have HC8 := Aside0.mk H
    clear H
    go_enter Try.func8, Try.ntmps8
    go_upto_region 8 with (first | ((with_reducible refine gate_callee (f := 31) rfl ?_); refine goesL_ (some 16) rfl rfl Try.func31 (by kernel_rfl) rfl #[.slice A0 l0.length c0, .int .i64 1048576] rfl zlx ?_; (with_reducible refine (laws_szDeliveryS.calls _ _ l0 1048576 t182 _ ?side1 ?side2 A2.out).mono ?_); (case side1 => exact zCx HR0.out); (case side2 => exact HC0.out); rintro e w' ⟨rfl, ⟨nd, rfl⟩⟩; refine ⟨_, rfl, ?_⟩) | ((with_reducible refine gate_callee (f := 33) rfl ?_); refine goesL_ (some 21) rfl rfl Try.func33 (by kernel_rfl) rfl #[.slice A0 l0.length c0] rfl zlx ?_; (with_reducible refine (laws_toDeliveryS.calls k _ _ l0 t183 _ ?side1 ?side2 A4.out).mono ?_); (case side1 => exact zCx HR0.out); (case side2 => exact HC0.out); rintro e w9 ⟨v184, rfl, ho0, hb⟩; refine ⟨_, rfl, ?_⟩; have n0_ := Aside0.mk (Kd.R_lower ho0 (below_size (zBx HB.out))); have n1_ := Aside0.mk (below_step (zBx HB.out) hb); clear HB; have HO185 := n0_; have HB := n1_; clear n0_ n1_; (try clear hb); (try clear hb2); (try clear hk); (try clear hi); (try clear ho0); obtain ⟨Ao10, co10, eo10⟩ := Kd.R_slice HO185.out; subst eo10) | ((with_reducible refine gate_callee (f := 38) rfl ?_); refine goesL_ (some 22) rfl rfl Try.func38 (by kernel_rfl) rfl #[.slice Ao10 t183.length co10] rfl zlx ?_; (with_reducible refine (spec_PruneQueue.calls k _ _ t183 t186 t187 _ ?side1 ?side2 A5.out).mono ?_); (case side1 => repeat (first | exact (Kd.R_reads' HO185.out).2.2 | (with_reducible refine Kd.C_alloc ?_ _) | (with_reducible refine Kd.C_drewN ?_ _) | (with_reducible refine Kd.C_drew ?_))); (case side2 => exact (Kd.R_reads' HO185.out).2.1); rintro e w11 ⟨v188, rfl, ho0, hb⟩; refine ⟨_, rfl, ?_⟩; have n0_ := Aside0.mk (Kd.R_elder' (zRx HO185.out) (Kd.R_base ho0) hb); have n1_ := Aside0.mk (Kd.R_lower (Kd.R_new' ho0 (Kd.R_lt (zRx HO185.out))) (below_size (zBx HB.out))); have n2_ := Aside0.mk (below_step (zBx HB.out) hb); clear HO185; clear HB; have HO185 := n0_; have HO189 := n1_; have HB := n2_; clear n0_ n1_ n2_; (try clear hb); (try clear hb2); (try clear hk); (try clear hi); (try clear ho0)) | ((with_reducible refine gate_callee (f := 33) rfl ?_); refine goesL_ (some 26) rfl rfl Try.func33 (by kernel_rfl) rfl #[.slice A0 l0.length c0] rfl zlx ?_; (with_reducible refine (laws_toDeliveryS.calls k _ _ l0 t190 _ ?side1 ?side2 A6.out).mono ?_); (case side1 => repeat (first | exact (Kd.C_below HR0.out HB.out) | (with_reducible refine Kd.C_alloc ?_ _) | (with_reducible refine Kd.C_drewN ?_ _) | (with_reducible refine Kd.C_drew ?_))); (case side2 => exact HC0.out); rintro e w12 ⟨v191, rfl, ho0, hb⟩; refine ⟨_, rfl, ?_⟩; have n0_ := Aside0.mk (Kd.R_elder' (zRx HO185.out) (Kd.R_base ho0) hb); have n1_ := Aside0.mk (Kd.R_elder' (zRx HO189.out) (Kd.R_base ho0) hb); have n2_ := Aside0.mk (Kd.R_lower (Kd.R_new' (Kd.R_new' ho0 (Kd.R_lt (zRx HO185.out))) (Kd.R_lt (zRx HO189.out))) (below_size (zBx HB.out))); have n3_ := Aside0.mk (below_step (zBx HB.out) hb); clear HO185; clear HO189; clear HB; have HO185 := n0_; have HO189 := n1_; have HO192 := n2_; have HB := n3_; clear n0_ n1_ n2_ n3_; (try clear hb); (try clear hb2); (try clear hk); (try clear hi); (try clear ho0); obtain ⟨Ao13, co13, eo13⟩ := Kd.R_slice HO192.out; subst eo13) | ((with_reducible refine gate_callee (f := 39) rfl ?_); refine goesL_ (some 29) rfl rfl Try.func39 (by kernel_rfl) rfl #[.slice Ao13 t190.length co13] rfl zlx ?_; (with_reducible refine (impl_PruneQueue.calls k _ _ t190 t193 t194 _ ?side1 ?side2 A7.out).mono ?_); (case side1 => repeat (first | exact (Kd.R_reads' HO192.out).2.2 | (with_reducible refine Kd.C_alloc ?_ _) | (with_reducible refine Kd.C_drewN ?_ _) | (with_reducible refine Kd.C_drew ?_))); (case side2 => exact (Kd.R_reads' HO192.out).2.1); rintro e w14 ⟨v195, rfl, ho0, hb⟩; refine ⟨_, rfl, ?_⟩; have n0_ := Aside0.mk (Kd.R_elder' (zRx HO185.out) (Kd.R_base ho0) hb); have n1_ := Aside0.mk (Kd.R_elder' (zRx HO189.out) (Kd.R_base ho0) hb); have n2_ := Aside0.mk (Kd.R_elder' (zRx HO192.out) (Kd.R_base ho0) hb); have n3_ := Aside0.mk (Kd.R_lower (Kd.R_new' (Kd.R_new' (Kd.R_new' ho0 (Kd.R_lt (zRx HO185.out))) (Kd.R_lt (zRx HO189.out))) (Kd.R_lt (zRx HO192.out))) (below_size (zBx HB.out))); have n4_ := Aside0.mk (below_step (zBx HB.out) hb); clear HO185; clear HO189; clear HO192; clear HB; have HO185 := n0_; have HO189 := n1_; have HO192 := n2_; have HO196 := n3_; have HB := n4_; clear n0_ n1_ n2_ n3_ n4_; (try clear hb); (try clear hb2); (try clear hk); (try clear hi); (try clear ho0)))
    (try simp only [Act.put, List.setIfInBounds_toArray, List.set_cons_zero, List.set_cons_succ])
    go_cut [40] (fun v40 wc => ∃ (kq : Nat) (x40_7 : Bool), v40 = .bool x40_7 ∧ Aside0 (laws_FnExactPruneQueue.j0 kq l0 t186 t187 t190 t193 t194 x40_7 = some r) ∧ Aside0 (kq ≤ k) ∧ Aside0 (Kd.R k94 94 wc w.heap.size (fun k_ => some k_ ≠ ((.slice Ao13 t190.length co13) : Value).ownBlock ∧ some k_ ≠ (v195 : Value).ownBlock) v188 t186) ∧ Aside0 (Kd.R k94 94 wc w.heap.size (fun k_ => some k_ ≠ (v188 : Value).ownBlock ∧ some k_ ≠ (v195 : Value).ownBlock) (.slice Ao13 t190.length co13) t190) ∧ Aside0 (Kd.R k94 94 wc w.heap.size (fun k_ => some k_ ≠ (v188 : Value).ownBlock ∧ some k_ ≠ ((.slice Ao13 t190.length co13) : Value).ownBlock) v195 t193) ∧ Aside0 (Below w.heap.size w wc))
    case first =>
      have H := HC8.out
      clear HC8
      replace H := Option.bind_eq_some_iff.mp H
      obtain ⟨t197, A150, H⟩ := H
      replace H : (if t197 = true then (laws_FnExactPruneQueue.j0 k l0 t186 t187 t190 t193 t194 (t194 != t187)) else (laws_FnExactPruneQueue.j0 k l0 t186 t187 t190 t193 t194 true)) = some r := H
      have A15 := Aside0.mk A150
      clear A150
      by_cases c16 : t197 = true
      · subst c16
        have H1 : (laws_FnExactPruneQueue.j0 k l0 t186 t187 t190 t193 t194 (t194 != t187)) = some r := by rw [if_pos rfl] at H; exact H
        clear H
        have H := H1
        clear H1
        have H' := Aside0.mk H
        clear H
        obtain ⟨Ao17, co17, eo17⟩ := Kd.R_slice HO196.out
        subst eo17
        obtain ⟨Ao18, co18, eo18⟩ := Kd.R_slice HO189.out
        subst eo18
        go_wp2_with (first | ((with_reducible refine gate_callee (f := 35) rfl ?_); refine goesL_ (some 34) rfl rfl Try.func35 (by kernel_rfl) rfl #[.slice Ao17 t193.length co17, .slice Ao18 t186.length co18] rfl zlx ?_; (with_reducible refine (laws_eqDeliveryS.calls k _ _ t193 _ _ t186 true _ ?side1 ?side2 ?side3 ?side4 A15.out).mono ?_); (case side1 => repeat (first | exact (Kd.R_reads' HO196.out).2.2 | (with_reducible refine Kd.C_alloc ?_ _) | (with_reducible refine Kd.C_drewN ?_ _) | (with_reducible refine Kd.C_drew ?_))); (case side2 => exact (Kd.R_reads' HO196.out).2.1); (case side3 => repeat (first | exact (Kd.R_reads' HO189.out).2.2 | (with_reducible refine Kd.C_alloc ?_ _) | (with_reducible refine Kd.C_drewN ?_ _) | (with_reducible refine Kd.C_drew ?_))); (case side4 => exact (Kd.R_reads' HO189.out).2.1); rintro e w19 ⟨rfl, hb⟩; refine ⟨_, rfl, ?_⟩; have n0_ := Aside0.mk (Kd.R_below (zRx HO185.out) hb); have n1_ := Aside0.mk (Kd.R_below (zRx HO189.out) hb); have n2_ := Aside0.mk (Kd.R_below (zRx HO192.out) hb); have n3_ := Aside0.mk (Kd.R_below (zRx HO196.out) hb); have n4_ := Aside0.mk (below_step (zBx HB.out) hb); clear HO185; clear HO189; clear HO192; clear HO196; clear HB; have HO185 := n0_; have HO189 := n1_; have HO192 := n2_; have HO196 := n3_; have HB := n4_; clear n0_ n1_ n2_ n3_ n4_; (try clear hb); (try clear hb2); (try clear hk); (try clear hi)))
        go_meet
        case rel => exact ⟨_, ((t194 != t187)), zrx, H', ⟨by first | omega | exact Nat.le_refl _⟩, ⟨by (with_reducible repeat (first | apply Kd.R_alloc | apply Kd.R_drewN | apply Kd.R_drew)); exact Kd.R_mono HO189.out (fun _ hk => by first | exact ⟨hk.1.2, hk.2⟩ | exact ⟨hk.2, hk.1.2⟩ | grind)⟩, ⟨by (with_reducible repeat (first | apply Kd.R_alloc | apply Kd.R_drewN | apply Kd.R_drew)); exact Kd.R_mono HO192.out (fun _ hk => by first | exact ⟨hk.1.2, hk.2⟩ | exact ⟨hk.2, hk.1.2⟩ | grind)⟩, ⟨by (with_reducible repeat (first | apply Kd.R_alloc | apply Kd.R_drewN | apply Kd.R_drew)); exact Kd.R_mono HO196.out (fun _ hk => by first | exact ⟨hk.1.2, hk.2⟩ | exact ⟨hk.2, hk.1.2⟩ | grind)⟩, ⟨by exact zBx HB.out⟩⟩
      · replace c16 := Bool.eq_false_iff.mpr c16
        subst c16
        have H1 : (laws_FnExactPruneQueue.j0 k l0 t186 t187 t190 t193 t194 true) = some r := by rw [if_neg (show ¬ (false = true) by decide)] at H; exact H
        clear H
        have H := H1
        clear H1
        have H' := Aside0.mk H
        clear H
        obtain ⟨Ao20, co20, eo20⟩ := Kd.R_slice HO196.out
        subst eo20
        obtain ⟨Ao21, co21, eo21⟩ := Kd.R_slice HO189.out
        subst eo21
        go_wp2_with (first | ((with_reducible refine gate_callee (f := 35) rfl ?_); refine goesL_ (some 34) rfl rfl Try.func35 (by kernel_rfl) rfl #[.slice Ao20 t193.length co20, .slice Ao21 t186.length co21] rfl zlx ?_; (with_reducible refine (laws_eqDeliveryS.calls k _ _ t193 _ _ t186 false _ ?side1 ?side2 ?side3 ?side4 A15.out).mono ?_); (case side1 => repeat (first | exact (Kd.R_reads' HO196.out).2.2 | (with_reducible refine Kd.C_alloc ?_ _) | (with_reducible refine Kd.C_drewN ?_ _) | (with_reducible refine Kd.C_drew ?_))); (case side2 => exact (Kd.R_reads' HO196.out).2.1); (case side3 => repeat (first | exact (Kd.R_reads' HO189.out).2.2 | (with_reducible refine Kd.C_alloc ?_ _) | (with_reducible refine Kd.C_drewN ?_ _) | (with_reducible refine Kd.C_drew ?_))); (case side4 => exact (Kd.R_reads' HO189.out).2.1); rintro e w22 ⟨rfl, hb⟩; refine ⟨_, rfl, ?_⟩; have n0_ := Aside0.mk (Kd.R_below (zRx HO185.out) hb); have n1_ := Aside0.mk (Kd.R_below (zRx HO189.out) hb); have n2_ := Aside0.mk (Kd.R_below (zRx HO192.out) hb); have n3_ := Aside0.mk (Kd.R_below (zRx HO196.out) hb); have n4_ := Aside0.mk (below_step (zBx HB.out) hb); clear HO185; clear HO189; clear HO192; clear HO196; clear HB; have HO185 := n0_; have HO189 := n1_; have HO192 := n2_; have HO196 := n3_; have HB := n4_; clear n0_ n1_ n2_ n3_ n4_; (try clear hb); (try clear hb2); (try clear hk); (try clear hi)))
        go_meet
        case rel => exact ⟨_, (true), zrx, H', ⟨by first | omega | exact Nat.le_refl _⟩, ⟨by (with_reducible repeat (first | apply Kd.R_alloc | apply Kd.R_drewN | apply Kd.R_drew)); exact Kd.R_mono HO189.out (fun _ hk => by first | exact ⟨hk.1.2, hk.2⟩ | exact ⟨hk.2, hk.1.2⟩ | grind)⟩, ⟨by (with_reducible repeat (first | apply Kd.R_alloc | apply Kd.R_drewN | apply Kd.R_drew)); exact Kd.R_mono HO192.out (fun _ hk => by first | exact ⟨hk.1.2, hk.2⟩ | exact ⟨hk.2, hk.1.2⟩ | grind)⟩, ⟨by (with_reducible repeat (first | apply Kd.R_alloc | apply Kd.R_drewN | apply Kd.R_drew)); exact Kd.R_mono HO196.out (fun _ hk => by first | exact ⟨hk.1.2, hk.2⟩ | exact ⟨hk.2, hk.1.2⟩ | grind)⟩, ⟨by exact zBx HB.out⟩⟩
    case rest =>
      clear HC8
      try clear c1
      try clear p2
      try clear c3
      try clear c3b0
      try clear c8
      try clear c16
      obtain ⟨kq, x40_7, rfl, HA, HJ7, HO_4, HO_6, HO_7, HB⟩ := hcut
      cases kq with
      | zero => exact absurd HA.out (by simp [laws_FnExactPruneQueue.j0])
      | succ kj7 =>
        have H := HA.out
        clear HA
        simp only [laws_FnExactPruneQueue.j0] at H
        by_cases c23 : x40_7 = true
        · subst c23
          have H1 : (some false) = some r := by rw [if_pos rfl] at H; exact H
          clear H
          have H := H1
          clear H1
          exact absurd (Option.some.inj H) (by rw [hr_]; decide)
        · replace c23 := Bool.eq_false_iff.mpr c23
          subst c23
          have H1 : ((laws_toDeliveryS.f kj7 l0).bind fun t198 => ((laws_eqDeliveryS.f kj7 t190 t198).bind fun t201 => (if t201 = true then ((laws_markDeliveryS.f kj7 t190 1).bind fun bt202 => (if bt202.1 < 0 then (laws_FnExactPruneQueue.j1 kj7 l0 t186 t187 t193 true) else ((laws_eqDeliveryS.f kj7 t193 t186).bind fun t204 => (if t204 = true then (laws_FnExactPruneQueue.j1 kj7 l0 t186 t187 t193 (t194 != t187)) else (laws_FnExactPruneQueue.j1 kj7 l0 t186 t187 t193 true))))) else (some false)))) = some r := by rw [if_neg (show ¬ (false = true) by decide)] at H; exact H
          clear H
          have H := H1
          clear H1
          replace H := Option.bind_eq_some_iff.mp H
          obtain ⟨t198, A240, H⟩ := H
          replace H : ((laws_eqDeliveryS.f kj7 t190 t198).bind fun t201 => (if t201 = true then ((laws_markDeliveryS.f kj7 t190 1).bind fun bt202 => (if bt202.1 < 0 then (laws_FnExactPruneQueue.j1 kj7 l0 t186 t187 t193 true) else ((laws_eqDeliveryS.f kj7 t193 t186).bind fun t204 => (if t204 = true then (laws_FnExactPruneQueue.j1 kj7 l0 t186 t187 t193 (t194 != t187)) else (laws_FnExactPruneQueue.j1 kj7 l0 t186 t187 t193 true))))) else (some false))) = some r := H
          have A24 := Aside0.mk A240
          clear A240
          replace H := Option.bind_eq_some_iff.mp H
          obtain ⟨t201, A250, H⟩ := H
          replace H : (if t201 = true then ((laws_markDeliveryS.f kj7 t190 1).bind fun bt202 => (if bt202.1 < 0 then (laws_FnExactPruneQueue.j1 kj7 l0 t186 t187 t193 true) else ((laws_eqDeliveryS.f kj7 t193 t186).bind fun t204 => (if t204 = true then (laws_FnExactPruneQueue.j1 kj7 l0 t186 t187 t193 (t194 != t187)) else (laws_FnExactPruneQueue.j1 kj7 l0 t186 t187 t193 true))))) else (some false)) = some r := H
          have A25 := Aside0.mk A250
          clear A250
          by_cases c26 : t201 = true
          · subst c26
            have H1 : ((laws_markDeliveryS.f kj7 t190 1).bind fun bt202 => (if bt202.1 < 0 then (laws_FnExactPruneQueue.j1 kj7 l0 t186 t187 t193 true) else ((laws_eqDeliveryS.f kj7 t193 t186).bind fun t204 => (if t204 = true then (laws_FnExactPruneQueue.j1 kj7 l0 t186 t187 t193 (t194 != t187)) else (laws_FnExactPruneQueue.j1 kj7 l0 t186 t187 t193 true))))) = some r := by rw [if_pos rfl] at H; exact H
            clear H
            have H := H1
            clear H1
            replace H := Option.bind_eq_some_iff.mp H
            obtain ⟨⟨t202, t203⟩, A270, H⟩ := H
            replace H : (if t202 < 0 then (laws_FnExactPruneQueue.j1 kj7 l0 t186 t187 t193 true) else ((laws_eqDeliveryS.f kj7 t193 t186).bind fun t204 => (if t204 = true then (laws_FnExactPruneQueue.j1 kj7 l0 t186 t187 t193 (t194 != t187)) else (laws_FnExactPruneQueue.j1 kj7 l0 t186 t187 t193 true)))) = some r := H
            have A27 := Aside0.mk A270
            clear A270
            have HC28 := Aside0.mk H
            clear H
            go_upto_region 14 with (first | ((with_reducible refine gate_callee (f := 33) rfl ?_); refine goesL_ (some 43) rfl rfl Try.func33 (by kernel_rfl) rfl #[.slice A0 l0.length c0] rfl zlx ?_; (with_reducible refine (laws_toDeliveryS.calls kj7 _ _ l0 t198 _ ?side1 ?side2 A24.out).mono ?_); (case side1 => repeat (first | exact (Kd.C_below HR0.out HB.out) | (with_reducible refine Kd.C_alloc ?_ _) | (with_reducible refine Kd.C_drewN ?_ _) | (with_reducible refine Kd.C_drew ?_))); (case side2 => exact HC0.out); rintro e w29 ⟨v199, rfl, ho0, hb⟩; refine ⟨_, rfl, ?_⟩; have n0_ := Aside0.mk (Kd.R_elder' (zRx HO_4.out) (Kd.R_base ho0) hb); have n1_ := Aside0.mk (Kd.R_elder' (zRx HO_6.out) (Kd.R_base ho0) hb); have n2_ := Aside0.mk (Kd.R_elder' (zRx HO_7.out) (Kd.R_base ho0) hb); have n3_ := Aside0.mk (Kd.R_lower (Kd.R_new' (Kd.R_new' (Kd.R_new' ho0 (Kd.R_lt (zRx HO_4.out))) (Kd.R_lt (zRx HO_6.out))) (Kd.R_lt (zRx HO_7.out))) (below_size (zBx HB.out))); have n4_ := Aside0.mk (below_step (zBx HB.out) hb); clear HO_4; clear HO_6; clear HO_7; clear HB; have HO_4 := n0_; have HO_6 := n1_; have HO_7 := n2_; have HO200 := n3_; have HB := n4_; clear n0_ n1_ n2_ n3_ n4_; (try clear hb); (try clear hb2); (try clear hk); (try clear hi); (try clear ho0); obtain ⟨Ao30, co30, eo30⟩ := Kd.R_slice HO200.out; subst eo30) | ((with_reducible refine gate_callee (f := 35) rfl ?_); refine goesL_ (some 44) rfl rfl Try.func35 (by kernel_rfl) rfl #[.slice Ao13 t190.length co13, .slice Ao30 t198.length co30] rfl zlx ?_; (with_reducible refine (laws_eqDeliveryS.calls kj7 _ _ t190 _ _ t198 true _ ?side1 ?side2 ?side3 ?side4 A25.out).mono ?_); (case side1 => repeat (first | exact (Kd.R_reads' HO_6.out).2.2 | (with_reducible refine Kd.C_alloc ?_ _) | (with_reducible refine Kd.C_drewN ?_ _) | (with_reducible refine Kd.C_drew ?_))); (case side2 => exact (Kd.R_reads' HO_6.out).2.1); (case side3 => repeat (first | exact (Kd.R_reads' HO200.out).2.2 | (with_reducible refine Kd.C_alloc ?_ _) | (with_reducible refine Kd.C_drewN ?_ _) | (with_reducible refine Kd.C_drew ?_))); (case side4 => exact (Kd.R_reads' HO200.out).2.1); rintro e w31 ⟨rfl, hb⟩; refine ⟨_, rfl, ?_⟩; have n0_ := Aside0.mk (Kd.R_below (zRx HO_4.out) hb); have n1_ := Aside0.mk (Kd.R_below (zRx HO_6.out) hb); have n2_ := Aside0.mk (Kd.R_below (zRx HO_7.out) hb); have n3_ := Aside0.mk (Kd.R_below (zRx HO200.out) hb); have n4_ := Aside0.mk (below_step (zBx HB.out) hb); clear HO_4; clear HO_6; clear HO_7; clear HO200; clear HB; have HO_4 := n0_; have HO_6 := n1_; have HO_7 := n2_; have HO200 := n3_; have HB := n4_; clear n0_ n1_ n2_ n3_ n4_; (try clear hb); (try clear hb2); (try clear hk); (try clear hi)) | ((with_reducible refine gate_callee (f := 36) rfl ?_); refine goesL_ (some 48) rfl rfl Try.func36 (by kernel_rfl) rfl #[.slice Ao13 t190.length co13, .int .i64 1] rfl zlx ?_; (with_reducible refine (laws_markDeliveryS.calls kj7 (fun k_ => some k_ = (.slice Ao13 t190.length co13 : Value).ownBlock) (.slice Ao13 t190.length co13) t190 1 t202 t203 w _ ?side1 ?side2 A27.out).mono ?_); (case side1 => exact zBx HB.out); (case side2 => exact Kd.R_tight rfl HO_6.out); rintro e w32 ⟨rfl, hy0, hb, hkp⟩; refine ⟨_, rfl, ?_⟩; have n0_ := Aside0.mk (Kd.R_mono (ok' := fun k_ => some k_ ≠ (.slice Ao13 t190.length co13 : Value).ownBlock ∧ some k_ ≠ (v195 : Value).ownBlock ∧ some k_ ≠ (.slice Ao30 t198.length co30 : Value).ownBlock) (Kd.R_keptB (HO_4.out) hkp (fun k_ hk_ hs_ => (hk_.1.1) hs_)) (fun k_ hk_ => ⟨hk_.1.1.1, hk_.1.1.2, hk_.1.2⟩)); have n1_ := Aside0.mk (Kd.R_reok rfl hy0 (fun k_ e_ => HO_6.out.1 k_ e_)); have n2_ := Aside0.mk (Kd.R_mono (ok' := fun k_ => some k_ ≠ (v188 : Value).ownBlock ∧ some k_ ≠ (.slice Ao13 t190.length co13 : Value).ownBlock ∧ some k_ ≠ (.slice Ao30 t198.length co30 : Value).ownBlock) (Kd.R_keptB (HO_7.out) hkp (fun k_ hk_ hs_ => (hk_.1.2) hs_)) (fun k_ hk_ => ⟨hk_.1.1.1, hk_.1.1.2, hk_.1.2⟩)); have n3_ := Aside0.mk (Kd.R_mono (ok' := fun k_ => some k_ ≠ (v188 : Value).ownBlock ∧ some k_ ≠ (.slice Ao13 t190.length co13 : Value).ownBlock ∧ some k_ ≠ (v195 : Value).ownBlock) (Kd.R_keptB (HO200.out) hkp (fun k_ hk_ hs_ => (hk_.1.2) hs_)) (fun k_ hk_ => ⟨hk_.1.1.1.2, hk_.1.1.2, hk_.1.2⟩)); have n4_ := Aside0.mk (hb); clear HO_4; clear HO_6; clear HO_7; clear HO200; clear HB; have HO_4 := n0_; have HO_6 := n1_; have HO_7 := n2_; have HO200 := n3_; have HB := n4_; clear n0_ n1_ n2_ n3_ n4_; (try clear hb); (try clear hkp); (try clear hy0)))
            (try simp only [Act.put, List.setIfInBounds_toArray, List.set_cons_zero, List.set_cons_succ])
            go_cut [61] (fun v61 wc => ∃ (kq : Nat) (x61_27 : Bool), v61 = .bool x61_27 ∧ Aside0 (laws_FnExactPruneQueue.j1 kq l0 t186 t187 t193 x61_27 = some r) ∧ Aside0 (kq ≤ kj7) ∧ Aside0 (Kd.R k94 94 wc w.heap.size (fun k_ => some k_ ≠ (v195 : Value).ownBlock) v188 t186) ∧ Aside0 (Kd.R k94 94 wc w.heap.size (fun k_ => some k_ ≠ (v188 : Value).ownBlock) v195 t193) ∧ Aside0 (Below w.heap.size w wc))
            case first =>
              have H := HC28.out
              clear HC28
              by_cases c33 : t202 < 0
              · rw [if_pos c33] at H
                have c33b0 : decide (t202 < 0) = true := decide_eq_true c33
                clear c33
                (first | rw [c33b0] | (simp only [i64_w, i32_w]; rw [c33b0]) | skip)
                have H' := Aside0.mk H
                clear H
                go_wp2
                go_meet
                case rel => exact ⟨_, (true), zrx, H', ⟨by have := HJ7.out; first | omega | exact Nat.le_refl _⟩, ⟨by (with_reducible repeat (first | apply Kd.R_alloc | apply Kd.R_drewN | apply Kd.R_drew)); exact Kd.R_mono HO_4.out (fun _ hk => hk.2.1)⟩, ⟨by (with_reducible repeat (first | apply Kd.R_alloc | apply Kd.R_drewN | apply Kd.R_drew)); exact Kd.R_mono HO_7.out (fun _ hk => hk.1)⟩, ⟨by exact zBx HB.out⟩⟩
              · rw [if_neg c33] at H
                have c33b0 : decide (t202 < 0) = false := decide_eq_false c33
                clear c33
                (first | rw [c33b0] | (simp only [i64_w, i32_w]; rw [c33b0]) | skip)
                replace H := Option.bind_eq_some_iff.mp H
                obtain ⟨t204, A340, H⟩ := H
                replace H : (if t204 = true then (laws_FnExactPruneQueue.j1 kj7 l0 t186 t187 t193 (t194 != t187)) else (laws_FnExactPruneQueue.j1 kj7 l0 t186 t187 t193 true)) = some r := H
                have A34 := Aside0.mk A340
                clear A340
                by_cases c35 : t204 = true
                · subst c35
                  have H1 : (laws_FnExactPruneQueue.j1 kj7 l0 t186 t187 t193 (t194 != t187)) = some r := by rw [if_pos rfl] at H; exact H
                  clear H
                  have H := H1
                  clear H1
                  have H' := Aside0.mk H
                  clear H
                  obtain ⟨Ao36, co36, eo36⟩ := Kd.R_slice HO_7.out
                  subst eo36
                  obtain ⟨Ao37, co37, eo37⟩ := Kd.R_slice HO_4.out
                  subst eo37
                  go_wp2_with (first | (go_at_call 35; (with_reducible refine (laws_eqDeliveryS.calls kj7 _ _ t193 _ _ t186 true _ ?side1 ?side2 ?side3 ?side4 A34.out).mono ?_); (case side1 => repeat (first | exact (Kd.R_reads' HO_7.out).2.2 | (with_reducible refine Kd.C_alloc ?_ _) | (with_reducible refine Kd.C_drewN ?_ _) | (with_reducible refine Kd.C_drew ?_))); (case side2 => exact (Kd.R_reads' HO_7.out).2.1); (case side3 => repeat (first | exact (Kd.R_reads' HO_4.out).2.2 | (with_reducible refine Kd.C_alloc ?_ _) | (with_reducible refine Kd.C_drewN ?_ _) | (with_reducible refine Kd.C_drew ?_))); (case side4 => exact (Kd.R_reads' HO_4.out).2.1); rintro e w38 ⟨rfl, hb⟩; have n0_ := Aside0.mk (Kd.R_below (zRx HO_4.out) hb); have n1_ := Aside0.mk (Kd.R_below (zRx HO_6.out) hb); have n2_ := Aside0.mk (Kd.R_below (zRx HO_7.out) hb); have n3_ := Aside0.mk (Kd.R_below (zRx HO200.out) hb); have n4_ := Aside0.mk (below_step (zBx HB.out) hb); clear HO_4; clear HO_6; clear HO_7; clear HO200; clear HB; have HO_4 := n0_; have HO_6 := n1_; have HO_7 := n2_; have HO200 := n3_; have HB := n4_; clear n0_ n1_ n2_ n3_ n4_; (try clear hb); (try clear hb2); (try clear hk); (try clear hi)))
                  go_meet
                  case rel => exact ⟨_, ((t194 != t187)), zrx, H', ⟨by have := HJ7.out; first | omega | exact Nat.le_refl _⟩, ⟨by (with_reducible repeat (first | apply Kd.R_alloc | apply Kd.R_drewN | apply Kd.R_drew)); exact Kd.R_mono HO_4.out (fun _ hk => hk.2.1)⟩, ⟨by (with_reducible repeat (first | apply Kd.R_alloc | apply Kd.R_drewN | apply Kd.R_drew)); exact Kd.R_mono HO_7.out (fun _ hk => hk.1)⟩, ⟨by exact zBx HB.out⟩⟩
                · replace c35 := Bool.eq_false_iff.mpr c35
                  subst c35
                  have H1 : (laws_FnExactPruneQueue.j1 kj7 l0 t186 t187 t193 true) = some r := by rw [if_neg (show ¬ (false = true) by decide)] at H; exact H
                  clear H
                  have H := H1
                  clear H1
                  have H' := Aside0.mk H
                  clear H
                  obtain ⟨Ao39, co39, eo39⟩ := Kd.R_slice HO_7.out
                  subst eo39
                  obtain ⟨Ao40, co40, eo40⟩ := Kd.R_slice HO_4.out
                  subst eo40
                  go_wp2_with (first | (go_at_call 35; (with_reducible refine (laws_eqDeliveryS.calls kj7 _ _ t193 _ _ t186 false _ ?side1 ?side2 ?side3 ?side4 A34.out).mono ?_); (case side1 => repeat (first | exact (Kd.R_reads' HO_7.out).2.2 | (with_reducible refine Kd.C_alloc ?_ _) | (with_reducible refine Kd.C_drewN ?_ _) | (with_reducible refine Kd.C_drew ?_))); (case side2 => exact (Kd.R_reads' HO_7.out).2.1); (case side3 => repeat (first | exact (Kd.R_reads' HO_4.out).2.2 | (with_reducible refine Kd.C_alloc ?_ _) | (with_reducible refine Kd.C_drewN ?_ _) | (with_reducible refine Kd.C_drew ?_))); (case side4 => exact (Kd.R_reads' HO_4.out).2.1); rintro e w41 ⟨rfl, hb⟩; have n0_ := Aside0.mk (Kd.R_below (zRx HO_4.out) hb); have n1_ := Aside0.mk (Kd.R_below (zRx HO_6.out) hb); have n2_ := Aside0.mk (Kd.R_below (zRx HO_7.out) hb); have n3_ := Aside0.mk (Kd.R_below (zRx HO200.out) hb); have n4_ := Aside0.mk (below_step (zBx HB.out) hb); clear HO_4; clear HO_6; clear HO_7; clear HO200; clear HB; have HO_4 := n0_; have HO_6 := n1_; have HO_7 := n2_; have HO200 := n3_; have HB := n4_; clear n0_ n1_ n2_ n3_ n4_; (try clear hb); (try clear hb2); (try clear hk); (try clear hi)))
                  go_meet
                  case rel => exact ⟨_, (true), zrx, H', ⟨by have := HJ7.out; first | omega | exact Nat.le_refl _⟩, ⟨by (with_reducible repeat (first | apply Kd.R_alloc | apply Kd.R_drewN | apply Kd.R_drew)); exact Kd.R_mono HO_4.out (fun _ hk => hk.2.1)⟩, ⟨by (with_reducible repeat (first | apply Kd.R_alloc | apply Kd.R_drewN | apply Kd.R_drew)); exact Kd.R_mono HO_7.out (fun _ hk => hk.1)⟩, ⟨by exact zBx HB.out⟩⟩
            case rest =>
              clear HC28
              try clear c1
              try clear c2
              try clear p2
              try clear c3
              try clear c3b0
              try clear c8
              try clear c16
              try clear c23
              try clear c26
              try clear c31
              try clear c33
              try clear c33b0
              try clear c35
              try clear c36
              try clear c38
              try clear c39
              try clear p2
              obtain ⟨kq, x61_27, rfl, HA, HJ27, HO_4, HO_7, HB⟩ := hcut
              cases kq with
              | zero => exact absurd HA.out (by simp [laws_FnExactPruneQueue.j1])
              | succ kj27 =>
                have H := HA.out
                clear HA
                simp only [laws_FnExactPruneQueue.j1] at H
                by_cases c42 : x61_27 = true
                · subst c42
                  have H1 : (some false) = some r := by rw [if_pos rfl] at H; exact H
                  clear H
                  have H := H1
                  clear H1
                  exact absurd (Option.some.inj H) (by rw [hr_]; decide)
                · replace c42 := Bool.eq_false_iff.mpr c42
                  subst c42
                  have H1 : ((laws_markDeliveryS.f kj27 t193 1).bind fun bt205 => ((laws_heldDeliveryS.f kj27 bt205.2 1).bind fun t207 => (if t207 < 0 then (some false) else (if t207 = bt205.1 then ((laws_toDeliveryS.f kj27 l0).bind fun t208 => ((impl_PruneQueue.f kj27 t208).bind fun bt211 => ((laws_eqDeliveryS.f kj27 bt211.1 t186).bind fun t215 => (if t215 = true then (laws_FnExactPruneQueue.j2 kj27 bt205.2 bt205.1 (bt211.2 != t187)) else (laws_FnExactPruneQueue.j2 kj27 bt205.2 bt205.1 true))))) else (some false))))) = some r := by rw [if_neg (show ¬ (false = true) by decide)] at H; exact H
                  clear H
                  have H := H1
                  clear H1
                  replace H := Option.bind_eq_some_iff.mp H
                  obtain ⟨⟨t205, t206⟩, A430, H⟩ := H
                  replace H : ((laws_heldDeliveryS.f kj27 t206 1).bind fun t207 => (if t207 < 0 then (some false) else (if t207 = t205 then ((laws_toDeliveryS.f kj27 l0).bind fun t208 => ((impl_PruneQueue.f kj27 t208).bind fun bt211 => ((laws_eqDeliveryS.f kj27 bt211.1 t186).bind fun t215 => (if t215 = true then (laws_FnExactPruneQueue.j2 kj27 t206 t205 (bt211.2 != t187)) else (laws_FnExactPruneQueue.j2 kj27 t206 t205 true))))) else (some false)))) = some r := H
                  have A43 := Aside0.mk A430
                  clear A430
                  replace H := Option.bind_eq_some_iff.mp H
                  obtain ⟨t207, A440, H⟩ := H
                  replace H : (if t207 < 0 then (some false) else (if t207 = t205 then ((laws_toDeliveryS.f kj27 l0).bind fun t208 => ((impl_PruneQueue.f kj27 t208).bind fun bt211 => ((laws_eqDeliveryS.f kj27 bt211.1 t186).bind fun t215 => (if t215 = true then (laws_FnExactPruneQueue.j2 kj27 t206 t205 (bt211.2 != t187)) else (laws_FnExactPruneQueue.j2 kj27 t206 t205 true))))) else (some false))) = some r := H
                  have A44 := Aside0.mk A440
                  clear A440
                  by_cases c45 : t207 < 0
                  · rw [if_pos c45] at H
                    have c45b0 : decide (t207 < 0) = true := decide_eq_true c45
                    clear c45
                    exact absurd (Option.some.inj H) (by rw [hr_]; decide)
                  · rw [if_neg c45] at H
                    have c45b0 : decide (t207 < 0) = false := decide_eq_false c45
                    clear c45
                    by_cases c48 : t207 = t205
                    · rw [if_pos c48] at H
                      have c48b0 : (t207 == t205) = true := beq_iff_eq.mpr c48
                      have c48b1 : (t207 != t205) = false := bne_eq_false_iff_eq.mpr c48
                      clear c48
                      replace H := Option.bind_eq_some_iff.mp H
                      obtain ⟨t208, A490, H⟩ := H
                      replace H : ((impl_PruneQueue.f kj27 t208).bind fun bt211 => ((laws_eqDeliveryS.f kj27 bt211.1 t186).bind fun t215 => (if t215 = true then (laws_FnExactPruneQueue.j2 kj27 t206 t205 (bt211.2 != t187)) else (laws_FnExactPruneQueue.j2 kj27 t206 t205 true)))) = some r := H
                      have A49 := Aside0.mk A490
                      clear A490
                      replace H := Option.bind_eq_some_iff.mp H
                      obtain ⟨⟨t211, t212⟩, A500, H⟩ := H
                      replace H : ((laws_eqDeliveryS.f kj27 t211 t186).bind fun t215 => (if t215 = true then (laws_FnExactPruneQueue.j2 kj27 t206 t205 (t212 != t187)) else (laws_FnExactPruneQueue.j2 kj27 t206 t205 true))) = some r := H
                      have A50 := Aside0.mk A500
                      clear A500
                      have HC51 := Aside0.mk H
                      clear H
                      obtain ⟨Ao52, co52, eo52⟩ := Kd.R_slice HO_7.out
                      subst eo52
                      go_upto_region 25 with (first | ((with_reducible refine gate_callee (f := 36) rfl ?_); refine goesL_ (some 64) rfl rfl Try.func36 (by kernel_rfl) rfl #[.slice Ao52 t193.length co52, .int .i64 1] rfl zlx ?_; (with_reducible refine (laws_markDeliveryS.calls kj27 (fun k_ => some k_ = (.slice Ao52 t193.length co52 : Value).ownBlock) (.slice Ao52 t193.length co52) t193 1 t205 t206 w _ ?side1 ?side2 A43.out).mono ?_); (case side1 => exact zBx HB.out); (case side2 => exact Kd.R_tight rfl HO_7.out); rintro e w53 ⟨rfl, hy0, hb, hkp⟩; refine ⟨_, rfl, ?_⟩; have n0_ := Aside0.mk (Kd.R_mono (ok' := fun k_ => some k_ ≠ (.slice Ao52 t193.length co52 : Value).ownBlock) (Kd.R_keptB (HO_4.out) hkp (fun k_ hk_ hs_ => (hk_) hs_)) (fun k_ hk_ => hk_.1)); have n1_ := Aside0.mk (Kd.R_reok rfl hy0 (fun k_ e_ => HO_7.out.1 k_ e_)); have n2_ := Aside0.mk (hb); clear HO_4; clear HO_7; clear HB; have HO_4 := n0_; have HO_7 := n1_; have HB := n2_; clear n0_ n1_ n2_; (try clear hb); (try clear hkp); (try clear hy0)) | ((with_reducible refine gate_callee (f := 37) rfl ?_); refine goesL_ (some 67) rfl rfl Try.func37 (by kernel_rfl) rfl #[.slice Ao52 t206.length co52, .int .i64 1] rfl (by (try simp only [List.map_toArray, List.map_cons, List.map_nil]); first | done | (rw [show t206.length = t193.length from (Kd.R_reads' HO_7.out).1.symm] <;> rfl) | rfl | (simp only [List.length_drop, List.length_take]; rfl)) ?_; (with_reducible refine (laws_heldDeliveryS.calls kj27 _ _ t206 1 t207 _ ?side1 ?side2 A44.out).mono ?_); (case side1 => repeat (first | exact (Kd.R_reads' HO_7.out).2.2 | (with_reducible refine Kd.C_alloc ?_ _) | (with_reducible refine Kd.C_drewN ?_ _) | (with_reducible refine Kd.C_drew ?_))); (case side2 => rw [show t206.length = t193.length from (Kd.R_reads' HO_7.out).1.symm]; exact (Kd.R_reads' HO_7.out).2.1); rintro e w' ⟨rfl, ⟨nd, rfl⟩⟩; refine ⟨_, rfl, ?_⟩) | ((with_reducible refine gate_callee (f := 33) rfl ?_); refine goesL_ (some 75) rfl rfl Try.func33 (by kernel_rfl) rfl #[.slice A0 l0.length c0] rfl zlx ?_; (with_reducible refine (laws_toDeliveryS.calls kj27 _ _ l0 t208 _ ?side1 ?side2 A49.out).mono ?_); (case side1 => repeat (first | exact (Kd.C_below HR0.out (zBx HB.out)) | (with_reducible refine Kd.C_alloc ?_ _) | (with_reducible refine Kd.C_drewN ?_ _) | (with_reducible refine Kd.C_drew ?_))); (case side2 => exact HC0.out); rintro e w54 ⟨v209, rfl, ho0, hb⟩; refine ⟨_, rfl, ?_⟩; have n0_ := Aside0.mk (Kd.R_elder' (zRx HO_4.out) (Kd.R_base ho0) hb); have n1_ := Aside0.mk (Kd.R_elder' (zRx HO_7.out) (Kd.R_base ho0) hb); have n2_ := Aside0.mk (Kd.R_lower (Kd.R_new' (Kd.R_new' ho0 (Kd.R_lt (zRx HO_4.out))) (Kd.R_lt (zRx HO_7.out))) (below_size (zBx HB.out))); have n3_ := Aside0.mk (below_step (zBx HB.out) hb); clear HO_4; clear HO_7; clear HB; have HO_4 := n0_; have HO_7 := n1_; have HO210 := n2_; have HB := n3_; clear n0_ n1_ n2_ n3_; (try clear hb); (try clear hb2); (try clear hk); (try clear hi); (try clear ho0); obtain ⟨Ao55, co55, eo55⟩ := Kd.R_slice HO210.out; subst eo55) | ((with_reducible refine gate_callee (f := 39) rfl ?_); refine goesL_ (some 76) rfl rfl Try.func39 (by kernel_rfl) rfl #[.slice Ao55 t208.length co55] rfl zlx ?_; (with_reducible refine (impl_PruneQueue.calls kj27 _ _ t208 t211 t212 _ ?side1 ?side2 A50.out).mono ?_); (case side1 => repeat (first | exact (Kd.R_reads' HO210.out).2.2 | (with_reducible refine Kd.C_alloc ?_ _) | (with_reducible refine Kd.C_drewN ?_ _) | (with_reducible refine Kd.C_drew ?_))); (case side2 => exact (Kd.R_reads' HO210.out).2.1); rintro e w56 ⟨v213, rfl, ho0, hb⟩; refine ⟨_, rfl, ?_⟩; have n0_ := Aside0.mk (Kd.R_elder' (zRx HO_4.out) (Kd.R_base ho0) hb); have n1_ := Aside0.mk (Kd.R_elder' (zRx HO_7.out) (Kd.R_base ho0) hb); have n2_ := Aside0.mk (Kd.R_elder' (zRx HO210.out) (Kd.R_base ho0) hb); have n3_ := Aside0.mk (Kd.R_lower (Kd.R_new' (Kd.R_new' (Kd.R_new' ho0 (Kd.R_lt (zRx HO_4.out))) (Kd.R_lt (zRx HO_7.out))) (Kd.R_lt (zRx HO210.out))) (below_size (zBx HB.out))); have n4_ := Aside0.mk (below_step (zBx HB.out) hb); clear HO_4; clear HO_7; clear HO210; clear HB; have HO_4 := n0_; have HO_7 := n1_; have HO210 := n2_; have HO214 := n3_; have HB := n4_; clear n0_ n1_ n2_ n3_ n4_; (try clear hb); (try clear hb2); (try clear hk); (try clear hi); (try clear ho0)))
                      (try simp only [Act.put, List.setIfInBounds_toArray, List.set_cons_zero, List.set_cons_succ])
                      go_cut [87] (fun v87 wc => ∃ (kq : Nat) (x87_50 : Bool), v87 = .bool x87_50 ∧ Aside0 (laws_FnExactPruneQueue.j2 kq t206 t205 x87_50 = some r) ∧ Aside0 (kq ≤ kj27) ∧ Aside0 (Kd.R k94 94 wc w.heap.size (fun _ => True) (.slice Ao52 t193.length co52) t206) ∧ Aside0 (Below w.heap.size w wc))
                      case first =>
                        have H := HC51.out
                        clear HC51
                        replace H := Option.bind_eq_some_iff.mp H
                        obtain ⟨t215, A570, H⟩ := H
                        replace H : (if t215 = true then (laws_FnExactPruneQueue.j2 kj27 t206 t205 (t212 != t187)) else (laws_FnExactPruneQueue.j2 kj27 t206 t205 true)) = some r := H
                        have A57 := Aside0.mk A570
                        clear A570
                        by_cases c58 : t215 = true
                        · subst c58
                          have H1 : (laws_FnExactPruneQueue.j2 kj27 t206 t205 (t212 != t187)) = some r := by rw [if_pos rfl] at H; exact H
                          clear H
                          have H := H1
                          clear H1
                          have H' := Aside0.mk H
                          clear H
                          obtain ⟨Ao59, co59, eo59⟩ := Kd.R_slice HO214.out
                          subst eo59
                          obtain ⟨Ao60, co60, eo60⟩ := Kd.R_slice HO_4.out
                          subst eo60
                          go_wp2_with (first | ((with_reducible refine gate_callee (f := 35) rfl ?_); refine goesL_ (some 81) rfl rfl Try.func35 (by kernel_rfl) rfl #[.slice Ao59 t211.length co59, .slice Ao60 t186.length co60] rfl zlx ?_; (with_reducible refine (laws_eqDeliveryS.calls kj27 _ _ t211 _ _ t186 true _ ?side1 ?side2 ?side3 ?side4 A57.out).mono ?_); (case side1 => repeat (first | exact (Kd.R_reads' HO214.out).2.2 | (with_reducible refine Kd.C_alloc ?_ _) | (with_reducible refine Kd.C_drewN ?_ _) | (with_reducible refine Kd.C_drew ?_))); (case side2 => exact (Kd.R_reads' HO214.out).2.1); (case side3 => repeat (first | exact (Kd.R_reads' HO_4.out).2.2 | (with_reducible refine Kd.C_alloc ?_ _) | (with_reducible refine Kd.C_drewN ?_ _) | (with_reducible refine Kd.C_drew ?_))); (case side4 => exact (Kd.R_reads' HO_4.out).2.1); rintro e w61 ⟨rfl, hb⟩; refine ⟨_, rfl, ?_⟩; have n0_ := Aside0.mk (Kd.R_below (zRx HO_4.out) hb); have n1_ := Aside0.mk (Kd.R_below (zRx HO_7.out) hb); have n2_ := Aside0.mk (Kd.R_below (zRx HO210.out) hb); have n3_ := Aside0.mk (Kd.R_below (zRx HO214.out) hb); have n4_ := Aside0.mk (below_step (zBx HB.out) hb); clear HO_4; clear HO_7; clear HO210; clear HO214; clear HB; have HO_4 := n0_; have HO_7 := n1_; have HO210 := n2_; have HO214 := n3_; have HB := n4_; clear n0_ n1_ n2_ n3_ n4_; (try clear hb); (try clear hb2); (try clear hk); (try clear hi)))
                          go_meet
                          case rel => exact ⟨_, ((t212 != t187)), zrx, H', ⟨by have := HJ7.out; have := HJ27.out; first | omega | exact Nat.le_refl _⟩, ⟨by (with_reducible repeat (first | apply Kd.R_alloc | apply Kd.R_drewN | apply Kd.R_drew)); exact Kd.R_mono HO_7.out (fun _ hk => trivial)⟩, ⟨by exact zBx HB.out⟩⟩
                        · replace c58 := Bool.eq_false_iff.mpr c58
                          subst c58
                          have H1 : (laws_FnExactPruneQueue.j2 kj27 t206 t205 true) = some r := by rw [if_neg (show ¬ (false = true) by decide)] at H; exact H
                          clear H
                          have H := H1
                          clear H1
                          have H' := Aside0.mk H
                          clear H
                          obtain ⟨Ao62, co62, eo62⟩ := Kd.R_slice HO214.out
                          subst eo62
                          obtain ⟨Ao63, co63, eo63⟩ := Kd.R_slice HO_4.out
                          subst eo63
                          go_wp2_with (first | ((with_reducible refine gate_callee (f := 35) rfl ?_); refine goesL_ (some 81) rfl rfl Try.func35 (by kernel_rfl) rfl #[.slice Ao62 t211.length co62, .slice Ao63 t186.length co63] rfl zlx ?_; (with_reducible refine (laws_eqDeliveryS.calls kj27 _ _ t211 _ _ t186 false _ ?side1 ?side2 ?side3 ?side4 A57.out).mono ?_); (case side1 => repeat (first | exact (Kd.R_reads' HO214.out).2.2 | (with_reducible refine Kd.C_alloc ?_ _) | (with_reducible refine Kd.C_drewN ?_ _) | (with_reducible refine Kd.C_drew ?_))); (case side2 => exact (Kd.R_reads' HO214.out).2.1); (case side3 => repeat (first | exact (Kd.R_reads' HO_4.out).2.2 | (with_reducible refine Kd.C_alloc ?_ _) | (with_reducible refine Kd.C_drewN ?_ _) | (with_reducible refine Kd.C_drew ?_))); (case side4 => exact (Kd.R_reads' HO_4.out).2.1); rintro e w64 ⟨rfl, hb⟩; refine ⟨_, rfl, ?_⟩; have n0_ := Aside0.mk (Kd.R_below (zRx HO_4.out) hb); have n1_ := Aside0.mk (Kd.R_below (zRx HO_7.out) hb); have n2_ := Aside0.mk (Kd.R_below (zRx HO210.out) hb); have n3_ := Aside0.mk (Kd.R_below (zRx HO214.out) hb); have n4_ := Aside0.mk (below_step (zBx HB.out) hb); clear HO_4; clear HO_7; clear HO210; clear HO214; clear HB; have HO_4 := n0_; have HO_7 := n1_; have HO210 := n2_; have HO214 := n3_; have HB := n4_; clear n0_ n1_ n2_ n3_ n4_; (try clear hb); (try clear hb2); (try clear hk); (try clear hi)))
                          go_meet
                          case rel => exact ⟨_, (true), zrx, H', ⟨by have := HJ7.out; have := HJ27.out; first | omega | exact Nat.le_refl _⟩, ⟨by (with_reducible repeat (first | apply Kd.R_alloc | apply Kd.R_drewN | apply Kd.R_drew)); exact Kd.R_mono HO_7.out (fun _ hk => trivial)⟩, ⟨by exact zBx HB.out⟩⟩
                      case rest =>
                        clear HC51
                        try clear c1
                        try clear c2
                        try clear p2
                        try clear c3
                        try clear c3b0
                        try clear c4
                        try clear c5
                        try clear c8
                        try clear c16
                        try clear c23
                        try clear c26
                        try clear c31
                        try clear c33
                        try clear c33b0
                        try clear c35
                        try clear c36
                        try clear c37
                        try clear c38
                        try clear c39
                        try clear c42
                        try clear c45
                        try clear c45b0
                        try clear c48
                        try clear c48b0
                        try clear c48b1
                        try clear c58
                        try clear p2
                        obtain ⟨kq, x87_50, rfl, HA, HJ50, HO_7, HB⟩ := hcut
                        have hl7_50 := (Kd.R_reads' HO_7.out).1
                        rw [hl7_50] at HO_7
                        (try simp only [hl7_50])
                        cases kq with
                        | zero => exact absurd HA.out (by simp [laws_FnExactPruneQueue.j2])
                        | succ kj50 =>
                          have H := HA.out
                          clear HA
                          simp only [laws_FnExactPruneQueue.j2] at H
                          by_cases c65 : x87_50 = true
                          · subst c65
                            have H1 : (some false) = some r := by rw [if_pos rfl] at H; exact H
                            clear H
                            have H := H1
                            clear H1
                            exact absurd (Option.some.inj H) (by rw [hr_]; decide)
                          · replace c65 := Bool.eq_false_iff.mpr c65
                            subst c65
                            have H1 : ((laws_heldDeliveryS.f kj50 t206 1).bind fun t216 => (if t216 < 0 then (some false) else (if t216 = t205 then (some true) else (some false)))) = some r := by rw [if_neg (show ¬ (false = true) by decide)] at H; exact H
                            clear H
                            have H := H1
                            clear H1
                            replace H := Option.bind_eq_some_iff.mp H
                            obtain ⟨t216, A660, H⟩ := H
                            replace H : (if t216 < 0 then (some false) else (if t216 = t205 then (some true) else (some false))) = some r := H
                            have A66 := Aside0.mk A660
                            clear A660
                            by_cases c67 : t216 < 0
                            · rw [if_pos c67] at H
                              have c67b0 : decide (t216 < 0) = true := decide_eq_true c67
                              clear c67
                              exact absurd (Option.some.inj H) (by rw [hr_]; decide)
                            · rw [if_neg c67] at H
                              have c67b0 : decide (t216 < 0) = false := decide_eq_false c67
                              (try rw [hl7_50] at c67b0)
                              clear c67
                              by_cases c68 : t216 = t205
                              · rw [if_pos c68] at H
                                have c68b0 : (t216 == t205) = true := beq_iff_eq.mpr c68
                                have c68b1 : (t216 != t205) = false := bne_eq_false_iff_eq.mpr c68
                                clear c68
                                obtain rfl := Option.some.inj H
                                go_wp2_with (first | ((with_reducible refine gate_callee (f := 37) rfl ?_); refine goesL_ (some 90) rfl rfl Try.func37 (by kernel_rfl) rfl #[.slice Ao52 t206.length co52, .int .i64 1] rfl zlx ?_; (with_reducible refine (laws_heldDeliveryS.calls kj50 _ _ t206 1 t216 _ ?side1 ?side2 A66.out).mono ?_); (case side1 => repeat (first | exact (Kd.R_reads' HO_7.out).2.2 | (with_reducible refine Kd.C_alloc ?_ _) | (with_reducible refine Kd.C_drewN ?_ _) | (with_reducible refine Kd.C_drew ?_))); (case side2 => exact (Kd.R_reads' HO_7.out).2.1); rintro e w' ⟨rfl, ⟨nd, rfl⟩⟩; refine ⟨_, rfl, ?_⟩))
                                go_ret
                                exact ⟨by first | rfl | (simp [errW_none, errW_some] <;> rfl) | (simp [*, errW_none, errW_some] <;> rfl), by exact zBx HB.out⟩
                              · rw [if_neg c68] at H
                                have c68b0 : (t216 == t205) = false := beq_eq_false_iff_ne.mpr c68
                                have c68b1 : (t216 != t205) = true := bne_iff_ne.mpr c68
                                exact absurd (Option.some.inj H) (by rw [hr_]; decide)
                    · rw [if_neg c48] at H
                      have c48b0 : (t207 == t205) = false := beq_eq_false_iff_ne.mpr c48
                      have c48b1 : (t207 != t205) = true := bne_iff_ne.mpr c48
                      exact absurd (Option.some.inj H) (by rw [hr_]; decide)
          · replace c26 := Bool.eq_false_iff.mpr c26
            subst c26
            have H1 : (some false) = some r := by rw [if_neg (show ¬ (false = true) by decide)] at H; exact H
            clear H
            have H := H1
            clear H1
            exact absurd (Option.some.inj H) (by rw [hr_]; decide)

end Go.Proofs.Ytjagdjbiljooiaa.XFnExactPruneQueue
