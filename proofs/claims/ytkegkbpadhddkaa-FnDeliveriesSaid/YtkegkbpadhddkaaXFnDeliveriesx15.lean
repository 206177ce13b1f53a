-- written by wip/tools/xprint.py (a program of this project) out of the translation
import Derived.Test.YtkegkbpadhddkaaXFnDeliveriesx0
import Derived.Test.YtkegkbpadhddkaaXFnDeliveriesx2
import Derived.Test.YtkegkbpadhddkaaXFnDeliveriesx3
import Derived.Test.YtkegkbpadhddkaaXFnDeliveriesx4
import Derived.Test.YtkegkbpadhddkaaXFnDeliveriesx6
import Derived.Test.YtkegkbpadhddkaaXFnDeliveriesx10
import Derived.Test.YtkegkbpadhddkaaXFnDeliveriesx11
import Derived.Test.YtkegkbpadhddkaaXFnDeliveriesx12
import Derived.Test.YtkegkbpadhddkaaXFnDeliveriesx13
import Derived.Test.YtkegkbpadhddkaaXFnDeliveriesx14
namespace Go.Proofs.Ytkegkbpadhddkaa.XFnDeliveries
open Go.RowKit Go.Proofs.YtkegkbpadhddkaaW.PrintWords Go.Proofs.YtkegkbpadhddkaaW.PrintLast Go.Proofs.YtkegkbpadhddkaaW.PrintMore
attribute [local go_sem] max2_int min2_int max_two min_two max_three min_three max_four min_four   -- for this text's walks alone
set_option linter.unusedVariables false
set_option linter.unusedSimpArgs false

/-! ### laws_FnDeliveries: function 6 -/
mutual
def laws_FnDeliveries.j0 : Nat → List Int → List (S59) → List (S59) → Bool → Bool → Option (Bool)
 | 0, _, _, _, _, _ => none
 | k + 1, x0, x3, x6, x7, x62 => if x62 = true then (some false) else (if x7 = true then (if (x6.length : Int) = (wrap64 ((x3.length : Int) + 1)) then ((impl_IsValidQueue.f k x6).bind fun t432 => (laws_FnDeliveries.j1 k x0 (!t432))) else (laws_FnDeliveries.j1 k x0 true)) else (laws_FnDeliveries.j1 k x0 false))
def laws_FnDeliveries.j1 : Nat → List Int → Bool → Option (Bool)
 | 0, _, _ => none
 | k + 1, x0, x76 => if x76 = true then (some false) else ((spec_DrawSendNext.f k x0).bind fun bt433 => ((impl_SendNext.f k bt433.1 bt433.2).bind fun bt437 => ((spec_SendNext.f k bt433.1 bt433.2).bind fun bt442 => (if (bt437.2.2 != bt442.2.2) = true then (laws_FnDeliveries.j2 k x0 bt433.1 bt437.1 bt437.2.1 bt437.2.2 true) else (if bt437.2.1 = bt442.2.1 then ((laws_rQueues.f k bt437.1 bt442.1).bind fun t447 => (laws_FnDeliveries.j2 k x0 bt433.1 bt437.1 bt437.2.1 bt437.2.2 (!t447))) else (laws_FnDeliveries.j2 k x0 bt433.1 bt437.1 bt437.2.1 bt437.2.2 true))))))
def laws_FnDeliveries.j2 : Nat → List Int → List (S59) → List (S59) → Int → Bool → Bool → Option (Bool)
 | 0, _, _, _, _, _, _ => none
 | k + 1, x0, x10, x12, x13, x14, x109 => if x109 = true then (some false) else (if x14 = true then ((impl_TakeReceipt.f k x12 x13).bind fun bt448 => ((impl_TakeReceipt.f k bt448.1 x13).bind fun bt452 => ((impl_CountStates.f k x10).bind fun bt456 => ((impl_CountStates.f k bt448.1).bind fun bt460 => (if bt448.2 = true then (if bt452.2 = true then (if bt456.2 = true then (if bt460.2 = true then ((laws_rQueues.f k bt452.1 bt448.1).bind fun t464 => (if t464 = true then (if (x12.length : Int) = (x10.length : Int) then (if 2 < (bt460.1.length : Int) then (if 2 < (bt456.1.length : Int) then (if (rd bt460.1 2) = (wrap64 ((rd bt456.1 2) + 1)) then (if 0 < (bt460.1.length : Int) then (if 0 < (bt456.1.length : Int) then (if (rd bt460.1 0) = (wrap64 ((rd bt456.1 0) - 1)) then ((impl_IsValidQueue.f k bt448.1).bind fun t469 => (if t469 = true then (laws_FnDeliveries.j3 k x0) else (some false))) else (some false)) else (none)) else (none)) else (some false)) else (none)) else (none)) else (some false)) else (some false))) else (some false)) else (some false)) else (some false)) else (some false)))))) else (laws_FnDeliveries.j3 k x0))
def laws_FnDeliveries.j3 : Nat → List Int → Option (Bool)
 | 0, _ => none
 | k + 1, x0 => (spec_DrawTakeReceipt.f k x0).bind fun bt470 => ((impl_TakeReceipt.f k bt470.1 bt470.2).bind fun bt474 => ((spec_TakeReceipt.f k bt470.1 bt470.2).bind fun bt478 => (if (bt474.2 == bt478.2) = true then ((laws_rQueues.f k bt474.1 bt478.1).bind fun t482 => (some t482)) else (some false))))
end
def laws_FnDeliveries.f (k : Nat) (l0 : List Int) : Option (Bool) := (laws_rBig.f l0).bind fun t417 => (if t417 = true then (some true) else ((spec_DrawAddDelivery.f k l0).bind fun bt418 => ((impl_AddDelivery.f k bt418.1 bt418.2.1 bt418.2.2).bind fun bt423 => ((spec_AddDelivery.f k bt418.1 bt418.2.1 bt418.2.2).bind fun bt427 => (if (bt423.2 != bt427.2) = true then (laws_FnDeliveries.j0 k l0 bt418.1 bt423.1 bt423.2 true) else ((laws_rQueues.f k bt423.1 bt427.1).bind fun t431 => (laws_FnDeliveries.j0 k l0 bt418.1 bt423.1 bt423.2 (!t431))))))))
theorem laws_FnDeliveries.mono_l : ∀ k, (∀ y0 y1 y2 y3 y4, LeO (laws_FnDeliveries.j0 k y0 y1 y2 y3 y4) (laws_FnDeliveries.j0 (k + 1) y0 y1 y2 y3 y4)) ∧ (∀ y0 y1, LeO (laws_FnDeliveries.j1 k y0 y1) (laws_FnDeliveries.j1 (k + 1) y0 y1)) ∧ (∀ y0 y1 y2 y3 y4 y5, LeO (laws_FnDeliveries.j2 k y0 y1 y2 y3 y4 y5) (laws_FnDeliveries.j2 (k + 1) y0 y1 y2 y3 y4 y5)) ∧ (∀ y0, LeO (laws_FnDeliveries.j3 k y0) (laws_FnDeliveries.j3 (k + 1) y0))
 | 0 => ⟨fun _ _ _ _ _ r h => by simp [laws_FnDeliveries.j0] at h, fun _ _ r h => by simp [laws_FnDeliveries.j1] at h, fun _ _ _ _ _ _ r h => by simp [laws_FnDeliveries.j2] at h, fun _ r h => by simp [laws_FnDeliveries.j3] at h⟩
 | k + 1 => by
  obtain ⟨ih0, ih1, ih2, ih3⟩ := laws_FnDeliveries.mono_l k
  refine ⟨?_, ?_, ?_, ?_⟩
  ·intro y0 y1 y2 y3 y4
   unfold laws_FnDeliveries.j0
   repeat' first
   | (with_reducible exact ih0 _ _ _ _ _)
   | (with_reducible exact ih1 _ _)
   | (with_reducible exact ih2 _ _ _ _ _ _)
   | (with_reducible exact ih3 _)
   | (with_reducible exact impl_AddDelivery.mono _ _ _ _)
   | (with_reducible exact impl_CountStates.mono _ _)
   | (with_reducible exact impl_IsValidQueue.mono _ _)
   | (with_reducible exact impl_SendNext.mono _ _ _)
   | (with_reducible exact impl_TakeReceipt.mono _ _ _)
   | (with_reducible exact laws_rQueues.mono _ _ _)
   | (with_reducible exact spec_AddDelivery.mono _ _ _ _)
   | (with_reducible exact spec_DrawAddDelivery.mono _ _)
   | (with_reducible exact spec_DrawSendNext.mono _ _)
   | (with_reducible exact spec_DrawTakeReceipt.mono _ _)
   | (with_reducible exact spec_SendNext.mono _ _ _)
   | (with_reducible exact spec_TakeReceipt.mono _ _ _)
   | (with_reducible exact LeO.refl _)
   | (with_reducible exact LeO.none _)
   | (with_reducible refine LeO.ite ?_ ?_)
   | (with_reducible refine LeO.bind ?_ (fun _ => ?_))
   | exact ih0 _ _ _ _ _
   | exact ih1 _ _
   | exact ih2 _ _ _ _ _ _
   | exact ih3 _
   | exact impl_AddDelivery.mono _ _ _ _
   | exact impl_CountStates.mono _ _
   | exact impl_IsValidQueue.mono _ _
   | exact impl_SendNext.mono _ _ _
   | exact impl_TakeReceipt.mono _ _ _
   | exact laws_rQueues.mono _ _ _
   | exact spec_AddDelivery.mono _ _ _ _
   | exact spec_DrawAddDelivery.mono _ _
   | exact spec_DrawSendNext.mono _ _
   | exact spec_DrawTakeReceipt.mono _ _
   | exact spec_SendNext.mono _ _ _
   | exact spec_TakeReceipt.mono _ _ _
   | exact LeO.none _
   | refine LeO.ite ?_ ?_
   | refine LeO.bind ?_ (fun _ => ?_)
  ·intro y0 y1
   unfold laws_FnDeliveries.j1
   repeat' first
   | (with_reducible exact ih0 _ _ _ _ _)
   | (with_reducible exact ih1 _ _)
   | (with_reducible exact ih2 _ _ _ _ _ _)
   | (with_reducible exact ih3 _)
   | (with_reducible exact impl_AddDelivery.mono _ _ _ _)
   | (with_reducible exact impl_CountStates.mono _ _)
   | (with_reducible exact impl_IsValidQueue.mono _ _)
   | (with_reducible exact impl_SendNext.mono _ _ _)
   | (with_reducible exact impl_TakeReceipt.mono _ _ _)
   | (with_reducible exact laws_rQueues.mono _ _ _)
   | (with_reducible exact spec_AddDelivery.mono _ _ _ _)
   | (with_reducible exact spec_DrawAddDelivery.mono _ _)
   | (with_reducible exact spec_DrawSendNext.mono _ _)
   | (with_reducible exact spec_DrawTakeReceipt.mono _ _)
   | (with_reducible exact spec_SendNext.mono _ _ _)
   | (with_reducible exact spec_TakeReceipt.mono _ _ _)
   | (with_reducible exact LeO.refl _)
   | (with_reducible exact LeO.none _)
   | (with_reducible refine LeO.ite ?_ ?_)
   | (with_reducible refine LeO.bind ?_ (fun _ => ?_))
   | exact ih0 _ _ _ _ _
   | exact ih1 _ _
   | exact ih2 _ _ _ _ _ _
   | exact ih3 _
   | exact impl_AddDelivery.mono _ _ _ _
   | exact impl_CountStates.mono _ _
   | exact impl_IsValidQueue.mono _ _
   | exact impl_SendNext.mono _ _ _
   | exact impl_TakeReceipt.mono _ _ _
   | exact laws_rQueues.mono _ _ _
   | exact spec_AddDelivery.mono _ _ _ _
   | exact spec_DrawAddDelivery.mono _ _
   | exact spec_DrawSendNext.mono _ _
   | exact spec_DrawTakeReceipt.mono _ _
   | exact spec_SendNext.mono _ _ _
   | exact spec_TakeReceipt.mono _ _ _
   | exact LeO.none _
   | refine LeO.ite ?_ ?_
   | refine LeO.bind ?_ (fun _ => ?_)
  ·intro y0 y1 y2 y3 y4 y5
   unfold laws_FnDeliveries.j2
   repeat' first
   | (with_reducible exact ih0 _ _ _ _ _)
   | (with_reducible exact ih1 _ _)
   | (with_reducible exact ih2 _ _ _ _ _ _)
   | (with_reducible exact ih3 _)
   | (with_reducible exact impl_AddDelivery.mono _ _ _ _)
   | (with_reducible exact impl_CountStates.mono _ _)
   | (with_reducible exact impl_IsValidQueue.mono _ _)
   | (with_reducible exact impl_SendNext.mono _ _ _)
   | (with_reducible exact impl_TakeReceipt.mono _ _ _)
   | (with_reducible exact laws_rQueues.mono _ _ _)
   | (with_reducible exact spec_AddDelivery.mono _ _ _ _)
   | (with_reducible exact spec_DrawAddDelivery.mono _ _)
   | (with_reducible exact spec_DrawSendNext.mono _ _)
   | (with_reducible exact spec_DrawTakeReceipt.mono _ _)
   | (with_reducible exact spec_SendNext.mono _ _ _)
   | (with_reducible exact spec_TakeReceipt.mono _ _ _)
   | (with_reducible exact LeO.refl _)
   | (with_reducible exact LeO.none _)
   | (with_reducible refine LeO.ite ?_ ?_)
   | (with_reducible refine LeO.bind ?_ (fun _ => ?_))
   | exact ih0 _ _ _ _ _
   | exact ih1 _ _
   | exact ih2 _ _ _ _ _ _
   | exact ih3 _
   | exact impl_AddDelivery.mono _ _ _ _
   | exact impl_CountStates.mono _ _
   | exact impl_IsValidQueue.mono _ _
   | exact impl_SendNext.mono _ _ _
   | exact impl_TakeReceipt.mono _ _ _
   | exact laws_rQueues.mono _ _ _
   | exact spec_AddDelivery.mono _ _ _ _
   | exact spec_DrawAddDelivery.mono _ _
   | exact spec_DrawSendNext.mono _ _
   | exact spec_DrawTakeReceipt.mono _ _
   | exact spec_SendNext.mono _ _ _
   | exact spec_TakeReceipt.mono _ _ _
   | exact LeO.none _
   | refine LeO.ite ?_ ?_
   | refine LeO.bind ?_ (fun _ => ?_)
  ·intro y0
   unfold laws_FnDeliveries.j3
   repeat' first
   | (with_reducible exact ih0 _ _ _ _ _)
   | (with_reducible exact ih1 _ _)
   | (with_reducible exact ih2 _ _ _ _ _ _)
   | (with_reducible exact ih3 _)
   | (with_reducible exact impl_AddDelivery.mono _ _ _ _)
   | (with_reducible exact impl_CountStates.mono _ _)
   | (with_reducible exact impl_IsValidQueue.mono _ _)
   | (with_reducible exact impl_SendNext.mono _ _ _)
   | (with_reducible exact impl_TakeReceipt.mono _ _ _)
   | (with_reducible exact laws_rQueues.mono _ _ _)
   | (with_reducible exact spec_AddDelivery.mono _ _ _ _)
   | (with_reducible exact spec_DrawAddDelivery.mono _ _)
   | (with_reducible exact spec_DrawSendNext.mono _ _)
   | (with_reducible exact spec_DrawTakeReceipt.mono _ _)
   | (with_reducible exact spec_SendNext.mono _ _ _)
   | (with_reducible exact spec_TakeReceipt.mono _ _ _)
   | (with_reducible exact LeO.refl _)
   | (with_reducible exact LeO.none _)
   | (with_reducible refine LeO.ite ?_ ?_)
   | (with_reducible refine LeO.bind ?_ (fun _ => ?_))
   | exact ih0 _ _ _ _ _
   | exact ih1 _ _
   | exact ih2 _ _ _ _ _ _
   | exact ih3 _
   | exact impl_AddDelivery.mono _ _ _ _
   | exact impl_CountStates.mono _ _
   | exact impl_IsValidQueue.mono _ _
   | exact impl_SendNext.mono _ _ _
   | exact impl_TakeReceipt.mono _ _ _
   | exact laws_rQueues.mono _ _ _
   | exact spec_AddDelivery.mono _ _ _ _
   | exact spec_DrawAddDelivery.mono _ _
   | exact spec_DrawSendNext.mono _ _
   | exact spec_DrawTakeReceipt.mono _ _
   | exact spec_SendNext.mono _ _ _
   | exact spec_TakeReceipt.mono _ _ _
   | exact LeO.none _
   | refine LeO.ite ?_ ?_
   | refine LeO.bind ?_ (fun _ => ?_)
theorem laws_FnDeliveries.mono : ∀ a0 k, LeO (laws_FnDeliveries.f k a0) (laws_FnDeliveries.f (k + 1) a0) := by
 intro a0 k
 obtain ⟨ih0, ih1, ih2, ih3⟩ := laws_FnDeliveries.mono_l k
 unfold laws_FnDeliveries.f
 repeat' first
  | (with_reducible exact ih0 _ _ _ _ _)
  | (with_reducible exact ih1 _ _)
  | (with_reducible exact ih2 _ _ _ _ _ _)
  | (with_reducible exact ih3 _)
  | (with_reducible exact impl_AddDelivery.mono _ _ _ _)
  | (with_reducible exact impl_CountStates.mono _ _)
  | (with_reducible exact impl_IsValidQueue.mono _ _)
  | (with_reducible exact impl_SendNext.mono _ _ _)
  | (with_reducible exact impl_TakeReceipt.mono _ _ _)
  | (with_reducible exact laws_rQueues.mono _ _ _)
  | (with_reducible exact spec_AddDelivery.mono _ _ _ _)
  | (with_reducible exact spec_DrawAddDelivery.mono _ _)
  | (with_reducible exact spec_DrawSendNext.mono _ _)
  | (with_reducible exact spec_DrawTakeReceipt.mono _ _)
  | (with_reducible exact spec_SendNext.mono _ _ _)
  | (with_reducible exact spec_TakeReceipt.mono _ _ _)
  | (with_reducible exact LeO.refl _)
  | (with_reducible exact LeO.none _)
  | (with_reducible refine LeO.ite ?_ ?_)
  | (with_reducible refine LeO.bind ?_ (fun _ => ?_))
  | exact ih0 _ _ _ _ _
  | exact ih1 _ _
  | exact ih2 _ _ _ _ _ _
  | exact ih3 _
  | exact impl_AddDelivery.mono _ _ _ _
  | exact impl_CountStates.mono _ _
  | exact impl_IsValidQueue.mono _ _
  | exact impl_SendNext.mono _ _ _
  | exact impl_TakeReceipt.mono _ _ _
  | exact laws_rQueues.mono _ _ _
  | exact spec_AddDelivery.mono _ _ _ _
  | exact spec_DrawAddDelivery.mono _ _
  | exact spec_DrawSendNext.mono _ _
  | exact spec_DrawTakeReceipt.mono _ _
  | exact spec_SendNext.mono _ _ _
  | exact spec_TakeReceipt.mono _ _ _
  | exact LeO.none _
  | refine LeO.ite ?_ ?_
  | refine LeO.bind ?_ (fun _ => ?_)
def laws_FnDeliveries.T20 : Bool × List (List Nat × List Nat) := (true, [([], []), ([0], [0]), ([1], [1]), ([2], [2]), ([3, 2], [2, 3]), ([2, 4], [2, 4]), ([5, 2], [5]), ([6], [6]), ([7, 6], [6, 7]), ([6, 8], [6, 8]), ([9, 6], [9]), ([10], [10]), ([11, 10], [10, 11]), ([10, 12], [10, 12]), ([13, 10], [13]), ([14], [14]), ([14], [14]), ([15, 16, 14, 14], [14, 15, 16]), ([17, 14], [14, 17]), ([14, 18], [14, 18]), ([19, 17], [19]), ([20], [20]), ([21, 20], [20, 21]), ([20], [20]), ([23, 20], [20, 23]), ([22, 24, 20], [20, 22, 24]), ([20, 25], [20, 25]), ([26, 20], [26]), ([27], [27]), ([28, 27], [27, 28]), ([29, 27], [27, 29]), ([27], [27]), ([31, 27], [27, 31]), ([32, 27], [27, 32]), ([33, 27], [27, 33]), ([30, 34, 27], [27, 30, 34]), ([27, 35], [27, 35]), ([36, 27], [36]), ([37], [37]), ([38, 37], [37, 38]), ([39, 37], [37, 39]), ([37], [37]), ([41, 37], [37, 41]), ([42, 37], [37, 42]), ([43, 37], [37, 43]), ([40, 44, 37], [37, 40, 44]), ([37, 45], [37, 45]), ([46, 37], [46]), ([47], [47]), ([48, 47, 47], [47, 48]), ([49, 47], [47, 49]), ([47, 50], [47, 50])])
def laws_FnDeliveries.B20 : List Nat := [0, 1, 3, 7, 15, 31, 63, 127, 255, 511, 1023, 2047, 4095, 8191, 16383, 32767, 32767, 131071, 262143, 524287, 1048575, 2097151, 4194303, 2097151, 10485759, 33554431, 67108863, 134217727, 268435455, 536870911, 1073741823, 268435455, 2415919103, 6710886399, 15300820991, 34359738367, 68719476735, 137438953471, 274877906943, 549755813887, 1099511627775, 274877906943, 2473901162495, 6871947673599, 15668040695807, 35184372088831, 70368744177663, 140737488355327, 281474976710655, 562949953421311, 1125899906842623, 2251799813685247]
theorem laws_FnDeliveries.tab20 : rtab .any (opsOf Try.f6 20) = laws_FnDeliveries.T20 := by kernel_rfl
theorem laws_FnDeliveries.bits20 : waitsOk laws_FnDeliveries.T20.2 laws_FnDeliveries.B20 = true := by kernel_rfl
set_option maxHeartbeats 8000000 in
set_option maxRecDepth 100000 in
theorem laws_FnDeliveries.calls (k : Nat) (A0 : Option Addr) (c0 : Nat) (l0 : List Int) (r : Bool) (w : World) (hr0 : Kd.C (Kd.int .u8) w A0 l0.length l0) (hc0 : l0.length ≤ c0) (h : laws_FnDeliveries.f k l0 = some r) (hr_ : r = true) :
 Calls Try.prog 6 #[.slice A0 l0.length c0] w fun e w' => e = .returned (.bool r) ∧ Below w.heap.size w w' := by
 have HR0 := Aside0.mk hr0
 have HC0 := Aside0.mk hc0
 clear hr0 hc0
 have HB := Aside0.mk (Below.refl w.heap.size w)
 have H : ((laws_rBig.f l0).bind fun t417 => (if t417 = true then (some true) else ((spec_DrawAddDelivery.f k l0).bind fun bt418 => ((impl_AddDelivery.f k bt418.1 bt418.2.1 bt418.2.2).bind fun bt423 => ((spec_AddDelivery.f k bt418.1 bt418.2.1 bt418.2.2).bind fun bt427 => (if (bt423.2 != bt427.2) = true then (laws_FnDeliveries.j0 k l0 bt418.1 bt423.1 bt423.2 true) else ((laws_rQueues.f k bt423.1 bt427.1).bind fun t431 => (laws_FnDeliveries.j0 k l0 bt418.1 bt423.1 bt423.2 (!t431))))))))) = some r := h
 clear h
 replace H := Option.bind_eq_some_iff.mp H
 obtain ⟨t417, A20, H⟩ := H
 replace H : (if t417 = true then (some true) else ((spec_DrawAddDelivery.f k l0).bind fun bt418 => ((impl_AddDelivery.f k bt418.1 bt418.2.1 bt418.2.2).bind fun bt423 => ((spec_AddDelivery.f k bt418.1 bt418.2.1 bt418.2.2).bind fun bt427 => (if (bt423.2 != bt427.2) = true then (laws_FnDeliveries.j0 k l0 bt418.1 bt423.1 bt423.2 true) else ((laws_rQueues.f k bt423.1 bt427.1).bind fun t431 => (laws_FnDeliveries.j0 k l0 bt418.1 bt423.1 bt423.2 (!t431)))))))) = some r := H
 have A2 := Aside0.mk A20
 clear A20
 by_cases c3 : t417 = true
 ·subst c3
  have H1 : (some true) = some r := by rw [if_pos rfl] at H; exact H
  clear H
  have H := H1
  clear H1
  as_aux_lemma =>
   obtain rfl := Option.some.inj H
   go_enter Try.func6, Try.ntmps6
   go_wp2_with (first | ((with_reducible refine gate_callee (f := 7) rfl ?_); refine goesL_ (some 33) rfl rfl Try.func7 (by kernel_rfl) rfl #[.slice A0 l0.length c0] rfl zlx ?_; (with_reducible refine (laws_rBig.calls _ _ l0 true _ ?side1 ?side2 A2.out).mono ?_); (case side1 => exact zCx HR0.out); (case side2 => exact HC0.out); rintro e w' ⟨rfl, ⟨nd, rfl⟩⟩; refine ⟨_, rfl, ?_⟩))
   go_ret
   exact ⟨by first | rfl | (simp [errW_none, errW_some] <;> rfl) | (simp [*, errW_none, errW_some] <;> rfl), by exact zBx HB.out⟩
 ·replace c3 := Bool.eq_false_iff.mpr c3
  subst c3
  have H1 : ((spec_DrawAddDelivery.f k l0).bind fun bt418 => ((impl_AddDelivery.f k bt418.1 bt418.2.1 bt418.2.2).bind fun bt423 => ((spec_AddDelivery.f k bt418.1 bt418.2.1 bt418.2.2).bind fun bt427 => (if (bt423.2 != bt427.2) = true then (laws_FnDeliveries.j0 k l0 bt418.1 bt423.1 bt423.2 true) else ((laws_rQueues.f k bt423.1 bt427.1).bind fun t431 => (laws_FnDeliveries.j0 k l0 bt418.1 bt423.1 bt423.2 (!t431))))))) = some r := by rw [if_neg (show ¬ (false = true) by decide)] at H; exact H
  clear H
  have H := H1
  clear H1
  replace H := Option.bind_eq_some_iff.mp H
  obtain ⟨⟨t418, t419, t420⟩, A40, H⟩ := H
  replace H : ((impl_AddDelivery.f k t418 t419 t420).bind fun bt423 => ((spec_AddDelivery.f k t418 t419 t420).bind fun bt427 => (if (bt423.2 != bt427.2) = true then (laws_FnDeliveries.j0 k l0 t418 bt423.1 bt423.2 true) else ((laws_rQueues.f k bt423.1 bt427.1).bind fun t431 => (laws_FnDeliveries.j0 k l0 t418 bt423.1 bt423.2 (!t431)))))) = some r := H
  have A4 := Aside0.mk A40
  clear A40
  replace H := Option.bind_eq_some_iff.mp H
  obtain ⟨⟨t423, t424⟩, A50, H⟩ := H
  replace H : ((spec_AddDelivery.f k t418 t419 t420).bind fun bt427 => (if (t424 != bt427.2) = true then (laws_FnDeliveries.j0 k l0 t418 t423 t424 true) else ((laws_rQueues.f k t423 bt427.1).bind fun t431 => (laws_FnDeliveries.j0 k l0 t418 t423 t424 (!t431))))) = some r := H
  have A5 := Aside0.mk A50
  clear A50
  replace H := Option.bind_eq_some_iff.mp H
  obtain ⟨⟨t427, t428⟩, A60, H⟩ := H
  replace H : (if (t424 != t428) = true then (laws_FnDeliveries.j0 k l0 t418 t423 t424 true) else ((laws_rQueues.f k t423 t427).bind fun t431 => (laws_FnDeliveries.j0 k l0 t418 t423 t424 (!t431)))) = some r := H
  have A6 := Aside0.mk A60
  clear A60
  have HC7 := Aside0.mk H
  clear H
  go_enter Try.func6, Try.ntmps6
  go_upto_region 6 with (first | ((with_reducible refine gate_callee (f := 7) rfl ?_); refine goesL_ (some 33) rfl rfl Try.func7 (by kernel_rfl) rfl #[.slice A0 l0.length c0] rfl zlx ?_; (with_reducible refine (laws_rBig.calls _ _ l0 false _ ?side1 ?side2 A2.out).mono ?_); (case side1 => exact zCx HR0.out); (case side2 => exact HC0.out); rintro e w' ⟨rfl, ⟨nd, rfl⟩⟩; refine ⟨_, rfl, ?_⟩) | ((with_reducible refine gate_callee (f := 48) rfl ?_); refine goesL_ (some 36) rfl rfl Try.func48 (by kernel_rfl) rfl #[.slice A0 l0.length c0] rfl zlx ?_; (with_reducible refine (spec_DrawAddDelivery.calls k _ _ l0 t418 t419 t420 _ ?side1 ?side2 A4.out).mono ?_); (case side1 => exact zCx HR0.out); (case side2 => exact HC0.out); rintro e w8 ⟨v421, rfl, ho0, hb⟩; refine ⟨_, rfl, ?_⟩; have n0_ := Aside0.mk (Kd.R_lower ho0 (below_size (zBx HB.out))); have n1_ := Aside0.mk (below_step (zBx HB.out) hb); clear HB; have HO422 := n0_; have HB := n1_; clear n0_ n1_; (try clear hb); (try clear hb2); (try clear hk); (try clear hi); (try clear ho0); obtain ⟨Ao9, co9, eo9⟩ := Kd.R_slice HO422.out; subst eo9) | ((with_reducible refine gate_callee (f := 49) rfl ?_); refine goesL_ (some 44) rfl rfl Try.func49 (by kernel_rfl) rfl #[.slice Ao9 t418.length co9, .int .i64 t419, .int .i64 t420] rfl zlx ?_; (with_reducible refine (impl_AddDelivery.calls k _ _ t418 t419 t420 t423 t424 _ ?side1 ?side2 A5.out).mono ?_); (case side1 => repeat (first | exact (Kd.R_reads' HO422.out).2.2 | (with_reducible refine Kd.C_alloc ?_ _) | (with_reducible refine Kd.C_drewN ?_ _) | (with_reducible refine Kd.C_drew ?_))); (case side2 => exact (Kd.R_reads' HO422.out).2.1); rintro e w10 ⟨v425, rfl, ho0, hb⟩; refine ⟨_, rfl, ?_⟩; have n0_ := Aside0.mk (Kd.R_elder' (zRx HO422.out) (Kd.R_base ho0) hb); have n1_ := Aside0.mk (Kd.R_lower (Kd.R_new' ho0 (Kd.R_lt (zRx HO422.out))) (below_size (zBx HB.out))); have n2_ := Aside0.mk (below_step (zBx HB.out) hb); clear HO422; clear HB; have HO422 := n0_; have HO426 := n1_; have HB := n2_; clear n0_ n1_ n2_; (try clear hb); (try clear hb2); (try clear hk); (try clear hi); (try clear ho0)) | ((with_reducible refine gate_callee (f := 50) rfl ?_); refine goesL_ (some 51) rfl rfl Try.func50 (by kernel_rfl) rfl #[.slice Ao9 t418.length co9, .int .i64 t419, .int .i64 t420] rfl zlx ?_; (with_reducible refine (spec_AddDelivery.calls k _ _ t418 t419 t420 t427 t428 _ ?side1 ?side2 A6.out).mono ?_); (case side1 => repeat (first | exact (Kd.R_reads' HO422.out).2.2 | (with_reducible refine Kd.C_alloc ?_ _) | (with_reducible refine Kd.C_drewN ?_ _) | (with_reducible refine Kd.C_drew ?_))); (case side2 => exact (Kd.R_reads' HO422.out).2.1); rintro e w11 ⟨v429, rfl, ho0, hb⟩; refine ⟨_, rfl, ?_⟩; have n0_ := Aside0.mk (Kd.R_elder' (zRx HO422.out) (Kd.R_base ho0) hb); have n1_ := Aside0.mk (Kd.R_elder' (zRx HO426.out) (Kd.R_base ho0) hb); have n2_ := Aside0.mk (Kd.R_lower (Kd.R_new' (Kd.R_new' ho0 (Kd.R_lt (zRx HO422.out))) (Kd.R_lt (zRx HO426.out))) (below_size (zBx HB.out))); have n3_ := Aside0.mk (below_step (zBx HB.out) hb); clear HO422; clear HO426; clear HB; have HO422 := n0_; have HO426 := n1_; have HO430 := n2_; have HB := n3_; clear n0_ n1_ n2_ n3_; (try clear hb); (try clear hb2); (try clear hk); (try clear hi); (try clear ho0)))
  (try simp only [Act.put, List.setIfInBounds_toArray, List.set_cons_zero, List.set_cons_succ])
  go_cut [62] (fun v62 wc => ∃ (kq : Nat) (x62_6 : Bool), v62 = .bool x62_6 ∧ Aside0 (laws_FnDeliveries.j0 kq l0 t418 t423 t424 x62_6 = some r) ∧ Aside0 (kq ≤ k) ∧ Aside0 (Kd.R k59 59 wc w.heap.size (fun k_ => some k_ ≠ (v425 : Value).ownBlock) (.slice Ao9 t418.length co9) t418) ∧ Aside0 (Kd.R k59 59 wc w.heap.size (fun k_ => some k_ ≠ ((.slice Ao9 t418.length co9) : Value).ownBlock) v425 t423) ∧ Aside0 (Below w.heap.size w wc))
  case first =>
   as_aux_lemma =>
   have H := HC7.out
   clear HC7
   by_cases c12 : (t424 != t428) = true
   ·rw [if_pos c12] at H
    have c12b0 : (t424 != t428) = true := c12
    (try (have c12b1 : decide (t424 = t428) = false := by simpa using c12))
    (try (have c12b2 : (t424 == t428) = false := by simpa using c12))
    (try (have c12b3 : ¬ (t424 = t428) := by simpa using c12))
    clear c12
    (first | rw [c12b0] | (simp only [i64_w, i32_w]; rw [c12b0]) | skip)
    as_aux_lemma =>
     have H' := Aside0.mk H
     clear H
     go_wp2
     go_meet
     case rel => exact ⟨_, (true), zrx, H', ⟨by first | omega | exact Nat.le_refl _⟩, ⟨by (with_reducible repeat (first | apply Kd.R_alloc | apply Kd.R_drewN | apply Kd.R_drew)); exact Kd.R_mono HO422.out (fun _ hk => hk.1.2)⟩, ⟨by (with_reducible repeat (first | apply Kd.R_alloc | apply Kd.R_drewN | apply Kd.R_drew)); exact Kd.R_mono HO426.out (fun _ hk => hk.1.2)⟩, ⟨by exact zBx HB.out⟩⟩
   ·rw [if_neg c12] at H
    have c12b0 : (t424 != t428) = false := by simpa using c12
    (try (have c12b1 : decide (t424 = t428) = true := by simpa using c12))
    (try (have c12b2 : (t424 == t428) = true := by simpa using c12))
    clear c12
    (first | rw [c12b0] | (simp only [i64_w, i32_w]; rw [c12b0]) | skip)
    replace H := Option.bind_eq_some_iff.mp H
    obtain ⟨t431, A130, H⟩ := H
    replace H : (laws_FnDeliveries.j0 k l0 t418 t423 t424 (!t431)) = some r := H
    have A13 := Aside0.mk A130
    clear A130
    as_aux_lemma =>
     have H' := Aside0.mk H
     clear H
     obtain ⟨Ao14, co14, eo14⟩ := Kd.R_slice HO426.out
     subst eo14
     obtain ⟨Ao15, co15, eo15⟩ := Kd.R_slice HO430.out
     subst eo15
     go_wp2_with (first | (go_at_call 37; (with_reducible refine (laws_rQueues.calls k _ _ t423 _ _ t427 t431 _ ?side1 ?side2 ?side3 ?side4 A13.out).mono ?_); (case side1 => repeat (first | exact (Kd.R_reads' HO426.out).2.2 | (with_reducible refine Kd.C_alloc ?_ _) | (with_reducible refine Kd.C_drewN ?_ _) | (with_reducible refine Kd.C_drew ?_))); (case side2 => exact (Kd.R_reads' HO426.out).2.1); (case side3 => repeat (first | exact (Kd.R_reads' HO430.out).2.2 | (with_reducible refine Kd.C_alloc ?_ _) | (with_reducible refine Kd.C_drewN ?_ _) | (with_reducible refine Kd.C_drew ?_))); (case side4 => exact (Kd.R_reads' HO430.out).2.1); rintro e w' ⟨rfl, ⟨nd, rfl⟩⟩))
     go_meet
     case rel => exact ⟨_, (!t431), zrx, H', ⟨by first | omega | exact Nat.le_refl _⟩, ⟨by (with_reducible repeat (first | apply Kd.R_alloc | apply Kd.R_drewN | apply Kd.R_drew)); exact Kd.R_mono HO422.out (fun _ hk => hk.1.2)⟩, ⟨by (with_reducible repeat (first | apply Kd.R_alloc | apply Kd.R_drewN | apply Kd.R_drew)); exact Kd.R_mono HO426.out (fun _ hk => hk.1.2)⟩, ⟨by exact zBx HB.out⟩⟩
  case rest =>
   as_aux_lemma =>
   clear HC7
   try clear c1
   try clear p2
   try clear c3
   try clear c4
   try clear c5
   try clear c6
   try clear c7
   try clear c12
   try clear c12b0
   try clear c12b1
   try clear c12b2
   obtain ⟨kq, x62_6, rfl, HA, HJ6, HO_3, HO_6, HB⟩ := hcut
   cases kq with
   | zero => exact absurd HA.out (by simp [laws_FnDeliveries.j0])
   | succ kj6 =>
    have H := HA.out
    clear HA
    simp only [laws_FnDeliveries.j0] at H
    by_cases c16 : x62_6 = true
    ·subst c16
     have H1 : (some false) = some r := by rw [if_pos rfl] at H; exact H
     clear H
     have H := H1
     clear H1
     as_aux_lemma =>
      exact absurd (Option.some.inj H) (by rw [hr_]; decide)
    ·replace c16 := Bool.eq_false_iff.mpr c16
     subst c16
     have H1 : (if t424 = true then (if (t423.length : Int) = (wrap64 ((t418.length : Int) + 1)) then ((impl_IsValidQueue.f kj6 t423).bind fun t432 => (laws_FnDeliveries.j1 kj6 l0 (!t432))) else (laws_FnDeliveries.j1 kj6 l0 true)) else (laws_FnDeliveries.j1 kj6 l0 false)) = some r := by rw [if_neg (show ¬ (false = true) by decide)] at H; exact H
     clear H
     have H := H1
     clear H1
     have HC17 := Aside0.mk H
     clear H
     go_upto_region 8 with (fail)
     go_cut [76] (fun v76 wc => ∃ (kq : Nat) (x76_16 : Bool), v76 = .bool x76_16 ∧ Aside0 (laws_FnDeliveries.j1 kq l0 x76_16 = some r) ∧ Aside0 (kq ≤ kj6) ∧ Aside0 (Below w.heap.size w wc))
     case first =>
      as_aux_lemma =>
      have H := HC17.out
      clear HC17
      by_cases c18 : t424 = true
      ·subst c18
       have H1 : (if (t423.length : Int) = (wrap64 ((t418.length : Int) + 1)) then ((impl_IsValidQueue.f kj6 t423).bind fun t432 => (laws_FnDeliveries.j1 kj6 l0 (!t432))) else (laws_FnDeliveries.j1 kj6 l0 true)) = some r := by rw [if_pos rfl] at H; exact H
       clear H
       have H := H1
       clear H1
       by_cases c19 : (t423.length : Int) = (wrap64 ((t418.length : Int) + 1))
       ·rw [if_pos c19] at H
        have c19b0 : ((t423.length : Int) == (wrap64 ((t418.length : Int) + 1))) = true := beq_iff_eq.mpr c19
        have c19b1 : ((t423.length : Int) != (wrap64 ((t418.length : Int) + 1))) = false := bne_eq_false_iff_eq.mpr c19
        clear c19
        (first | rw [c19b0] | (simp only [i64_w, i32_w]; rw [c19b0]) | skip)
        replace H := Option.bind_eq_some_iff.mp H
        obtain ⟨t432, A200, H⟩ := H
        replace H : (laws_FnDeliveries.j1 kj6 l0 (!t432)) = some r := H
        have A20 := Aside0.mk A200
        clear A200
        as_aux_lemma =>
         have H' := Aside0.mk H
         clear H
         obtain ⟨Ao21, co21, eo21⟩ := Kd.R_slice HO_6.out
         subst eo21
         go_wp2_with (first | (go_at_call 41; (with_reducible refine (impl_IsValidQueue.calls kj6 _ _ t423 t432 _ ?side1 ?side2 A20.out).mono ?_); (case side1 => repeat (first | exact (Kd.R_reads' HO_6.out).2.2 | (with_reducible refine Kd.C_alloc ?_ _) | (with_reducible refine Kd.C_drewN ?_ _) | (with_reducible refine Kd.C_drew ?_))); (case side2 => exact (Kd.R_reads' HO_6.out).2.1); rintro e w22 ⟨rfl, hb⟩; have n0_ := Aside0.mk (Kd.R_below (zRx HO_3.out) hb); have n1_ := Aside0.mk (Kd.R_below (zRx HO_6.out) hb); have n2_ := Aside0.mk (below_step (zBx HB.out) hb); clear HO_3; clear HO_6; clear HB; have HO_3 := n0_; have HO_6 := n1_; have HB := n2_; clear n0_ n1_ n2_; (try clear hb); (try clear hb2); (try clear hk); (try clear hi)))
         go_meet
         case rel => exact ⟨_, (!t432), zrx, H', ⟨by have := HJ6.out; first | omega | exact Nat.le_refl _⟩, ⟨by exact zBx HB.out⟩⟩
       ·rw [if_neg c19] at H
        have c19b0 : ((t423.length : Int) == (wrap64 ((t418.length : Int) + 1))) = false := beq_eq_false_iff_ne.mpr c19
        have c19b1 : ((t423.length : Int) != (wrap64 ((t418.length : Int) + 1))) = true := bne_iff_ne.mpr c19
        (first | rw [c19b0] | (simp only [i64_w, i32_w]; rw [c19b0]) | skip)
        as_aux_lemma =>
         have H' := Aside0.mk H
         clear H
         obtain ⟨Ao23, co23, eo23⟩ := Kd.R_slice HO_6.out
         subst eo23
         go_wp2
         go_meet
         case rel => exact ⟨_, (true), zrx, H', ⟨by have := HJ6.out; first | omega | exact Nat.le_refl _⟩, ⟨by exact zBx HB.out⟩⟩
      ·replace c18 := Bool.eq_false_iff.mpr c18
       subst c18
       have H1 : (laws_FnDeliveries.j1 kj6 l0 false) = some r := by rw [if_neg (show ¬ (false = true) by decide)] at H; exact H
       clear H
       have H := H1
       clear H1
       as_aux_lemma =>
        have H' := Aside0.mk H
        clear H
        go_wp2
        go_meet
        case rel => exact ⟨_, (false), zrx, H', ⟨by have := HJ6.out; first | omega | exact Nat.le_refl _⟩, ⟨by exact zBx HB.out⟩⟩
     case rest =>
      as_aux_lemma =>
      clear HC17
      try clear c1
      try clear p2
      try clear c3
      try clear c4
      try clear c5
      try clear c6
      try clear p6
      try clear c7
      try clear c12
      try clear c12b0
      try clear c12b1
      try clear c12b2
      try clear c16
      try clear c18
      try clear c19
      try clear c19b0
      try clear c19b1
      try clear p2
      obtain ⟨kq, x76_16, rfl, HA, HJ16, HB⟩ := hcut
      cases kq with
      | zero => exact absurd HA.out (by simp [laws_FnDeliveries.j1])
      | succ kj16 =>
       have H := HA.out
       clear HA
       simp only [laws_FnDeliveries.j1] at H
       by_cases c24 : x76_16 = true
       ·subst c24
        have H1 : (some false) = some r := by rw [if_pos rfl] at H; exact H
        clear H
        have H := H1
        clear H1
        as_aux_lemma =>
         exact absurd (Option.some.inj H) (by rw [hr_]; decide)
       ·replace c24 := Bool.eq_false_iff.mpr c24
        subst c24
        have H1 : ((spec_DrawSendNext.f kj16 l0).bind fun bt433 => ((impl_SendNext.f kj16 bt433.1 bt433.2).bind fun bt437 => ((spec_SendNext.f kj16 bt433.1 bt433.2).bind fun bt442 => (if (bt437.2.2 != bt442.2.2) = true then (laws_FnDeliveries.j2 kj16 l0 bt433.1 bt437.1 bt437.2.1 bt437.2.2 true) else (if bt437.2.1 = bt442.2.1 then ((laws_rQueues.f kj16 bt437.1 bt442.1).bind fun t447 => (laws_FnDeliveries.j2 kj16 l0 bt433.1 bt437.1 bt437.2.1 bt437.2.2 (!t447))) else (laws_FnDeliveries.j2 kj16 l0 bt433.1 bt437.1 bt437.2.1 bt437.2.2 true)))))) = some r := by rw [if_neg (show ¬ (false = true) by decide)] at H; exact H
        clear H
        have H := H1
        clear H1
        replace H := Option.bind_eq_some_iff.mp H
        obtain ⟨⟨t433, t434⟩, A250, H⟩ := H
        replace H : ((impl_SendNext.f kj16 t433 t434).bind fun bt437 => ((spec_SendNext.f kj16 t433 t434).bind fun bt442 => (if (bt437.2.2 != bt442.2.2) = true then (laws_FnDeliveries.j2 kj16 l0 t433 bt437.1 bt437.2.1 bt437.2.2 true) else (if bt437.2.1 = bt442.2.1 then ((laws_rQueues.f kj16 bt437.1 bt442.1).bind fun t447 => (laws_FnDeliveries.j2 kj16 l0 t433 bt437.1 bt437.2.1 bt437.2.2 (!t447))) else (laws_FnDeliveries.j2 kj16 l0 t433 bt437.1 bt437.2.1 bt437.2.2 true))))) = some r := H
        have A25 := Aside0.mk A250
        clear A250
        replace H := Option.bind_eq_some_iff.mp H
        obtain ⟨⟨t437, t438, t439⟩, A260, H⟩ := H
        replace H : ((spec_SendNext.f kj16 t433 t434).bind fun bt442 => (if (t439 != bt442.2.2) = true then (laws_FnDeliveries.j2 kj16 l0 t433 t437 t438 t439 true) else (if t438 = bt442.2.1 then ((laws_rQueues.f kj16 t437 bt442.1).bind fun t447 => (laws_FnDeliveries.j2 kj16 l0 t433 t437 t438 t439 (!t447))) else (laws_FnDeliveries.j2 kj16 l0 t433 t437 t438 t439 true)))) = some r := H
        have A26 := Aside0.mk A260
        clear A260
        replace H := Option.bind_eq_some_iff.mp H
        obtain ⟨⟨t442, t443, t444⟩, A270, H⟩ := H
        replace H : (if (t439 != t444) = true then (laws_FnDeliveries.j2 kj16 l0 t433 t437 t438 t439 true) else (if t438 = t443 then ((laws_rQueues.f kj16 t437 t442).bind fun t447 => (laws_FnDeliveries.j2 kj16 l0 t433 t437 t438 t439 (!t447))) else (laws_FnDeliveries.j2 kj16 l0 t433 t437 t438 t439 true))) = some r := H
        have A27 := Aside0.mk A270
        clear A270
        have HC28 := Aside0.mk H
        clear H
        go_upto_region 13 with (first | ((with_reducible refine gate_callee (f := 51) rfl ?_); refine goesL_ (some 79) rfl rfl Try.func51 (by kernel_rfl) rfl #[.slice A0 l0.length c0] rfl zlx ?_; (with_reducible refine (spec_DrawSendNext.calls kj16 _ _ l0 t433 t434 _ ?side1 ?side2 A25.out).mono ?_); (case side1 => repeat (first | exact (Kd.C_below HR0.out HB.out) | (with_reducible refine Kd.C_alloc ?_ _) | (with_reducible refine Kd.C_drewN ?_ _) | (with_reducible refine Kd.C_drew ?_))); (case side2 => exact HC0.out); rintro e w29 ⟨v435, rfl, ho0, hb⟩; refine ⟨_, rfl, ?_⟩; have n0_ := Aside0.mk (Kd.R_lower ho0 (below_size (zBx HB.out))); have n1_ := Aside0.mk (below_step (zBx HB.out) hb); clear HB; have HO436 := n0_; have HB := n1_; clear n0_ n1_; (try clear hb); (try clear hb2); (try clear hk); (try clear hi); (try clear ho0); obtain ⟨Ao30, co30, eo30⟩ := Kd.R_slice HO436.out; subst eo30) | ((with_reducible refine gate_callee (f := 52) rfl ?_); refine goesL_ (some 85) rfl rfl Try.func52 (by kernel_rfl) rfl #[.slice Ao30 t433.length co30, .int .i64 t434] rfl zlx ?_; (with_reducible refine (impl_SendNext.calls kj16 _ _ t433 t434 t437 t438 t439 _ ?side1 ?side2 A26.out).mono ?_); (case side1 => repeat (first | exact (Kd.R_reads' HO436.out).2.2 | (with_reducible refine Kd.C_alloc ?_ _) | (with_reducible refine Kd.C_drewN ?_ _) | (with_reducible refine Kd.C_drew ?_))); (case side2 => exact (Kd.R_reads' HO436.out).2.1); rintro e w31 ⟨v440, rfl, ho0, hb⟩; refine ⟨_, rfl, ?_⟩; have n0_ := Aside0.mk (Kd.R_elder' (zRx HO436.out) (Kd.R_base ho0) hb); have n1_ := Aside0.mk (Kd.R_lower (Kd.R_new' ho0 (Kd.R_lt (zRx HO436.out))) (below_size (zBx HB.out))); have n2_ := Aside0.mk (below_step (zBx HB.out) hb); clear HO436; clear HB; have HO436 := n0_; have HO441 := n1_; have HB := n2_; clear n0_ n1_ n2_; (try clear hb); (try clear hb2); (try clear hk); (try clear hi); (try clear ho0)) | ((with_reducible refine gate_callee (f := 53) rfl ?_); refine goesL_ (some 92) rfl rfl Try.func53 (by kernel_rfl) rfl #[.slice Ao30 t433.length co30, .int .i64 t434] rfl zlx ?_; (with_reducible refine (spec_SendNext.calls kj16 _ _ t433 t434 t442 t443 t444 _ ?side1 ?side2 A27.out).mono ?_); (case side1 => repeat (first | exact (Kd.R_reads' HO436.out).2.2 | (with_reducible refine Kd.C_alloc ?_ _) | (with_reducible refine Kd.C_drewN ?_ _) | (with_reducible refine Kd.C_drew ?_))); (case side2 => exact (Kd.R_reads' HO436.out).2.1); rintro e w32 ⟨v445, rfl, ho0, hb⟩; refine ⟨_, rfl, ?_⟩; have n0_ := Aside0.mk (Kd.R_elder' (zRx HO436.out) (Kd.R_base ho0) hb); have n1_ := Aside0.mk (Kd.R_elder' (zRx HO441.out) (Kd.R_base ho0) hb); have n2_ := Aside0.mk (Kd.R_lower (Kd.R_new' (Kd.R_new' ho0 (Kd.R_lt (zRx HO436.out))) (Kd.R_lt (zRx HO441.out))) (below_size (zBx HB.out))); have n3_ := Aside0.mk (below_step (zBx HB.out) hb); clear HO436; clear HO441; clear HB; have HO436 := n0_; have HO441 := n1_; have HO446 := n2_; have HB := n3_; clear n0_ n1_ n2_ n3_; (try clear hb); (try clear hb2); (try clear hk); (try clear hi); (try clear ho0)))
        (try simp only [Act.put, List.setIfInBounds_toArray, List.set_cons_zero, List.set_cons_succ])
        go_cut [109] (fun v109 wc => ∃ (kq : Nat) (x109_27 : Bool), v109 = .bool x109_27 ∧ Aside0 (laws_FnDeliveries.j2 kq l0 t433 t437 t438 t439 x109_27 = some r) ∧ Aside0 (kq ≤ kj16) ∧ Aside0 (Kd.R k59 59 wc w.heap.size (fun k_ => some k_ ≠ (v440 : Value).ownBlock) (.slice Ao30 t433.length co30) t433) ∧ Aside0 (Kd.R k59 59 wc w.heap.size (fun k_ => some k_ ≠ ((.slice Ao30 t433.length co30) : Value).ownBlock) v440 t437) ∧ Aside0 (Below w.heap.size w wc))
        case first =>
         as_aux_lemma =>
         have H := HC28.out
         clear HC28
         by_cases c33 : (t439 != t444) = true
         ·rw [if_pos c33] at H
          have c33b0 : (t439 != t444) = true := c33
          (try (have c33b1 : decide (t439 = t444) = false := by simpa using c33))
          (try (have c33b2 : (t439 == t444) = false := by simpa using c33))
          (try (have c33b3 : ¬ (t439 = t444) := by simpa using c33))
          clear c33
          (first | rw [c33b0] | (simp only [i64_w, i32_w]; rw [c33b0]) | skip)
          as_aux_lemma =>
           have H' := Aside0.mk H
           clear H
           go_wp2
           go_meet
           case rel => exact ⟨_, (true), zrx, H', ⟨by have := HJ6.out; have := HJ16.out; first | omega | exact Nat.le_refl _⟩, ⟨by (with_reducible repeat (first | apply Kd.R_alloc | apply Kd.R_drewN | apply Kd.R_drew)); exact Kd.R_mono HO436.out (fun _ hk => hk.1.2)⟩, ⟨by (with_reducible repeat (first | apply Kd.R_alloc | apply Kd.R_drewN | apply Kd.R_drew)); exact Kd.R_mono HO441.out (fun _ hk => hk.1.2)⟩, ⟨by exact zBx HB.out⟩⟩
         ·rw [if_neg c33] at H
          have c33b0 : (t439 != t444) = false := by simpa using c33
          (try (have c33b1 : decide (t439 = t444) = true := by simpa using c33))
          (try (have c33b2 : (t439 == t444) = true := by simpa using c33))
          clear c33
          (first | rw [c33b0] | (simp only [i64_w, i32_w]; rw [c33b0]) | skip)
          by_cases c34 : t438 = t443
          ·rw [if_pos c34] at H
           have c34b0 : (t438 == t443) = true := beq_iff_eq.mpr c34
           have c34b1 : (t438 != t443) = false := bne_eq_false_iff_eq.mpr c34
           clear c34
           replace H := Option.bind_eq_some_iff.mp H
           obtain ⟨t447, A350, H⟩ := H
           replace H : (laws_FnDeliveries.j2 kj16 l0 t433 t437 t438 t439 (!t447)) = some r := H
           have A35 := Aside0.mk A350
           clear A350
           as_aux_lemma =>
            have H' := Aside0.mk H
            clear H
            obtain ⟨Ao36, co36, eo36⟩ := Kd.R_slice HO441.out
            subst eo36
            obtain ⟨Ao37, co37, eo37⟩ := Kd.R_slice HO446.out
            subst eo37
            go_wp2_with (first | (go_at_call 37; (with_reducible refine (laws_rQueues.calls kj16 _ _ t437 _ _ t442 t447 _ ?side1 ?side2 ?side3 ?side4 A35.out).mono ?_); (case side1 => repeat (first | exact (Kd.R_reads' HO441.out).2.2 | (with_reducible refine Kd.C_alloc ?_ _) | (with_reducible refine Kd.C_drewN ?_ _) | (with_reducible refine Kd.C_drew ?_))); (case side2 => exact (Kd.R_reads' HO441.out).2.1); (case side3 => repeat (first | exact (Kd.R_reads' HO446.out).2.2 | (with_reducible refine Kd.C_alloc ?_ _) | (with_reducible refine Kd.C_drewN ?_ _) | (with_reducible refine Kd.C_drew ?_))); (case side4 => exact (Kd.R_reads' HO446.out).2.1); rintro e w' ⟨rfl, ⟨nd, rfl⟩⟩))
            go_meet
            case rel => exact ⟨_, (!t447), zrx, H', ⟨by have := HJ6.out; have := HJ16.out; first | omega | exact Nat.le_refl _⟩, ⟨by (with_reducible repeat (first | apply Kd.R_alloc | apply Kd.R_drewN | apply Kd.R_drew)); exact Kd.R_mono HO436.out (fun _ hk => hk.1.2)⟩, ⟨by (with_reducible repeat (first | apply Kd.R_alloc | apply Kd.R_drewN | apply Kd.R_drew)); exact Kd.R_mono HO441.out (fun _ hk => hk.1.2)⟩, ⟨by exact zBx HB.out⟩⟩
          ·rw [if_neg c34] at H
           have c34b0 : (t438 == t443) = false := beq_eq_false_iff_ne.mpr c34
           have c34b1 : (t438 != t443) = true := bne_iff_ne.mpr c34
           as_aux_lemma =>
            have H' := Aside0.mk H
            clear H
            go_wp2
            go_meet
            case rel => exact ⟨_, (true), zrx, H', ⟨by have := HJ6.out; have := HJ16.out; first | omega | exact Nat.le_refl _⟩, ⟨by (with_reducible repeat (first | apply Kd.R_alloc | apply Kd.R_drewN | apply Kd.R_drew)); exact Kd.R_mono HO436.out (fun _ hk => hk.1.2)⟩, ⟨by (with_reducible repeat (first | apply Kd.R_alloc | apply Kd.R_drewN | apply Kd.R_drew)); exact Kd.R_mono HO441.out (fun _ hk => hk.1.2)⟩, ⟨by exact zBx HB.out⟩⟩
        case rest =>
         as_aux_lemma =>
         clear HC28
         try clear c1
         try clear c2
         try clear p2
         try clear c3
         try clear c4
         try clear c5
         try clear c6
         try clear p6
         try clear c7
         try clear c12
         try clear c12b0
         try clear c12b1
         try clear c12b2
         try clear c16
         try clear c18
         try clear c19
         try clear c19b0
         try clear c19b1
         try clear c24
         try clear c33
         try clear c33b0
         try clear c33b1
         try clear c33b2
         try clear c34
         try clear c34b0
         try clear c34b1
         try clear p2
         try clear p6
         obtain ⟨kq, x109_27, rfl, HA, HJ27, HO_10, HO_12, HB⟩ := hcut
         cases kq with
         | zero => exact absurd HA.out (by simp [laws_FnDeliveries.j2])
         | succ kj27 =>
          have H := HA.out
          clear HA
          simp only [laws_FnDeliveries.j2] at H
          by_cases c38 : x109_27 = true
          ·subst c38
           have H1 : (some false) = some r := by rw [if_pos rfl] at H; exact H
           clear H
           have H := H1
           clear H1
           as_aux_lemma =>
            exact absurd (Option.some.inj H) (by rw [hr_]; decide)
          ·replace c38 := Bool.eq_false_iff.mpr c38
           subst c38
           have H1 : (if t439 = true then ((impl_TakeReceipt.f kj27 t437 t438).bind fun bt448 => ((impl_TakeReceipt.f kj27 bt448.1 t438).bind fun bt452 => ((impl_CountStates.f kj27 t433).bind fun bt456 => ((impl_CountStates.f kj27 bt448.1).bind fun bt460 => (if bt448.2 = true then (if bt452.2 = true then (if bt456.2 = true then (if bt460.2 = true then ((laws_rQueues.f kj27 bt452.1 bt448.1).bind fun t464 => (if t464 = true then (if (t437.length : Int) = (t433.length : Int) then (if 2 < (bt460.1.length : Int) then (if 2 < (bt456.1.length : Int) then (if (rd bt460.1 2) = (wrap64 ((rd bt456.1 2) + 1)) then (if 0 < (bt460.1.length : Int) then (if 0 < (bt456.1.length : Int) then (if (rd bt460.1 0) = (wrap64 ((rd bt456.1 0) - 1)) then ((impl_IsValidQueue.f kj27 bt448.1).bind fun t469 => (if t469 = true then (laws_FnDeliveries.j3 kj27 l0) else (some false))) else (some false)) else (none)) else (none)) else (some false)) else (none)) else (none)) else (some false)) else (some false))) else (some false)) else (some false)) else (some false)) else (some false)))))) else (laws_FnDeliveries.j3 kj27 l0)) = some r := by rw [if_neg (show ¬ (false = true) by decide)] at H; exact H
           clear H
           have H := H1
           clear H1
           have HC39 := Aside0.mk H
           clear H
           go_upto_if 110 with (fail)
           go_cut [] (fun wc => ∃ (kq : Nat), Aside0 (laws_FnDeliveries.j3 kq l0 = some r) ∧ Aside0 (kq ≤ kj27) ∧ Aside0 (Below w.heap.size w wc))
           case first =>
            as_aux_lemma =>
            have H := HC39.out
            clear HC39
            by_cases c40 : t439 = true
            ·subst c40
             have H1 : ((impl_TakeReceipt.f kj27 t437 t438).bind fun bt448 => ((impl_TakeReceipt.f kj27 bt448.1 t438).bind fun bt452 => ((impl_CountStates.f kj27 t433).bind fun bt456 => ((impl_CountStates.f kj27 bt448.1).bind fun bt460 => (if bt448.2 = true then (if bt452.2 = true then (if bt456.2 = true then (if bt460.2 = true then ((laws_rQueues.f kj27 bt452.1 bt448.1).bind fun t464 => (if t464 = true then (if (t437.length : Int) = (t433.length : Int) then (if 2 < (bt460.1.length : Int) then (if 2 < (bt456.1.length : Int) then (if (rd bt460.1 2) = (wrap64 ((rd bt456.1 2) + 1)) then (if 0 < (bt460.1.length : Int) then (if 0 < (bt456.1.length : Int) then (if (rd bt460.1 0) = (wrap64 ((rd bt456.1 0) - 1)) then ((impl_IsValidQueue.f kj27 bt448.1).bind fun t469 => (if t469 = true then (laws_FnDeliveries.j3 kj27 l0) else (some false))) else (some false)) else (none)) else (none)) else (some false)) else (none)) else (none)) else (some false)) else (some false))) else (some false)) else (some false)) else (some false)) else (some false)))))) = some r := by rw [if_pos rfl] at H; exact H
             clear H
             have H := H1
             clear H1
             replace H := Option.bind_eq_some_iff.mp H
             obtain ⟨⟨t448, t449⟩, A410, H⟩ := H
             replace H : ((impl_TakeReceipt.f kj27 t448 t438).bind fun bt452 => ((impl_CountStates.f kj27 t433).bind fun bt456 => ((impl_CountStates.f kj27 t448).bind fun bt460 => (if t449 = true then (if bt452.2 = true then (if bt456.2 = true then (if bt460.2 = true then ((laws_rQueues.f kj27 bt452.1 t448).bind fun t464 => (if t464 = true then (if (t437.length : Int) = (t433.length : Int) then (if 2 < (bt460.1.length : Int) then (if 2 < (bt456.1.length : Int) then (if (rd bt460.1 2) = (wrap64 ((rd bt456.1 2) + 1)) then (if 0 < (bt460.1.length : Int) then (if 0 < (bt456.1.length : Int) then (if (rd bt460.1 0) = (wrap64 ((rd bt456.1 0) - 1)) then ((impl_IsValidQueue.f kj27 t448).bind fun t469 => (if t469 = true then (laws_FnDeliveries.j3 kj27 l0) else (some false))) else (some false)) else (none)) else (none)) else (some false)) else (none)) else (none)) else (some false)) else (some false))) else (some false)) else (some false)) else (some false)) else (some false))))) = some r := H
             have A41 := Aside0.mk A410
             clear A410
             replace H := Option.bind_eq_some_iff.mp H
             obtain ⟨⟨t452, t453⟩, A420, H⟩ := H
             replace H : ((impl_CountStates.f kj27 t433).bind fun bt456 => ((impl_CountStates.f kj27 t448).bind fun bt460 => (if t449 = true then (if t453 = true then (if bt456.2 = true then (if bt460.2 = true then ((laws_rQueues.f kj27 t452 t448).bind fun t464 => (if t464 = true then (if (t437.length : Int) = (t433.length : Int) then (if 2 < (bt460.1.length : Int) then (if 2 < (bt456.1.length : Int) then (if (rd bt460.1 2) = (wrap64 ((rd bt456.1 2) + 1)) then (if 0 < (bt460.1.length : Int) then (if 0 < (bt456.1.length : Int) then (if (rd bt460.1 0) = (wrap64 ((rd bt456.1 0) - 1)) then ((impl_IsValidQueue.f kj27 t448).bind fun t469 => (if t469 = true then (laws_FnDeliveries.j3 kj27 l0) else (some false))) else (some false)) else (none)) else (none)) else (some false)) else (none)) else (none)) else (some false)) else (some false))) else (some false)) else (some false)) else (some false)) else (some false)))) = some r := H
             have A42 := Aside0.mk A420
             clear A420
             replace H := Option.bind_eq_some_iff.mp H
             obtain ⟨⟨t456, t457⟩, A430, H⟩ := H
             replace H : ((impl_CountStates.f kj27 t448).bind fun bt460 => (if t449 = true then (if t453 = true then (if t457 = true then (if bt460.2 = true then ((laws_rQueues.f kj27 t452 t448).bind fun t464 => (if t464 = true then (if (t437.length : Int) = (t433.length : Int) then (if 2 < (bt460.1.length : Int) then (if 2 < (t456.length : Int) then (if (rd bt460.1 2) = (wrap64 ((rd t456 2) + 1)) then (if 0 < (bt460.1.length : Int) then (if 0 < (t456.length : Int) then (if (rd bt460.1 0) = (wrap64 ((rd t456 0) - 1)) then ((impl_IsValidQueue.f kj27 t448).bind fun t469 => (if t469 = true then (laws_FnDeliveries.j3 kj27 l0) else (some false))) else (some false)) else (none)) else (none)) else (some false)) else (none)) else (none)) else (some false)) else (some false))) else (some false)) else (some false)) else (some false)) else (some false))) = some r := H
             have A43 := Aside0.mk A430
             clear A430
             replace H := Option.bind_eq_some_iff.mp H
             obtain ⟨⟨t460, t461⟩, A440, H⟩ := H
             replace H : (if t449 = true then (if t453 = true then (if t457 = true then (if t461 = true then ((laws_rQueues.f kj27 t452 t448).bind fun t464 => (if t464 = true then (if (t437.length : Int) = (t433.length : Int) then (if 2 < (t460.length : Int) then (if 2 < (t456.length : Int) then (if (rd t460 2) = (wrap64 ((rd t456 2) + 1)) then (if 0 < (t460.length : Int) then (if 0 < (t456.length : Int) then (if (rd t460 0) = (wrap64 ((rd t456 0) - 1)) then ((impl_IsValidQueue.f kj27 t448).bind fun t469 => (if t469 = true then (laws_FnDeliveries.j3 kj27 l0) else (some false))) else (some false)) else (none)) else (none)) else (some false)) else (none)) else (none)) else (some false)) else (some false))) else (some false)) else (some false)) else (some false)) else (some false)) = some r := H
             have A44 := Aside0.mk A440
             clear A440
             by_cases c45 : t449 = true
             ·subst c45
              have H1 : (if t453 = true then (if t457 = true then (if t461 = true then ((laws_rQueues.f kj27 t452 t448).bind fun t464 => (if t464 = true then (if (t437.length : Int) = (t433.length : Int) then (if 2 < (t460.length : Int) then (if 2 < (t456.length : Int) then (if (rd t460 2) = (wrap64 ((rd t456 2) + 1)) then (if 0 < (t460.length : Int) then (if 0 < (t456.length : Int) then (if (rd t460 0) = (wrap64 ((rd t456 0) - 1)) then ((impl_IsValidQueue.f kj27 t448).bind fun t469 => (if t469 = true then (laws_FnDeliveries.j3 kj27 l0) else (some false))) else (some false)) else (none)) else (none)) else (some false)) else (none)) else (none)) else (some false)) else (some false))) else (some false)) else (some false)) else (some false)) = some r := by rw [if_pos rfl] at H; exact H
              clear H
              have H := H1
              clear H1
              by_cases c46 : t453 = true
              ·subst c46
               have H1 : (if t457 = true then (if t461 = true then ((laws_rQueues.f kj27 t452 t448).bind fun t464 => (if t464 = true then (if (t437.length : Int) = (t433.length : Int) then (if 2 < (t460.length : Int) then (if 2 < (t456.length : Int) then (if (rd t460 2) = (wrap64 ((rd t456 2) + 1)) then (if 0 < (t460.length : Int) then (if 0 < (t456.length : Int) then (if (rd t460 0) = (wrap64 ((rd t456 0) - 1)) then ((impl_IsValidQueue.f kj27 t448).bind fun t469 => (if t469 = true then (laws_FnDeliveries.j3 kj27 l0) else (some false))) else (some false)) else (none)) else (none)) else (some false)) else (none)) else (none)) else (some false)) else (some false))) else (some false)) else (some false)) = some r := by rw [if_pos rfl] at H; exact H
               clear H
               have H := H1
               clear H1
               by_cases c47 : t457 = true
               ·subst c47
                have H1 : (if t461 = true then ((laws_rQueues.f kj27 t452 t448).bind fun t464 => (if t464 = true then (if (t437.length : Int) = (t433.length : Int) then (if 2 < (t460.length : Int) then (if 2 < (t456.length : Int) then (if (rd t460 2) = (wrap64 ((rd t456 2) + 1)) then (if 0 < (t460.length : Int) then (if 0 < (t456.length : Int) then (if (rd t460 0) = (wrap64 ((rd t456 0) - 1)) then ((impl_IsValidQueue.f kj27 t448).bind fun t469 => (if t469 = true then (laws_FnDeliveries.j3 kj27 l0) else (some false))) else (some false)) else (none)) else (none)) else (some false)) else (none)) else (none)) else (some false)) else (some false))) else (some false)) = some r := by rw [if_pos rfl] at H; exact H
                clear H
                have H := H1
                clear H1
                by_cases c48 : t461 = true
                ·subst c48
                 have H1 : ((laws_rQueues.f kj27 t452 t448).bind fun t464 => (if t464 = true then (if (t437.length : Int) = (t433.length : Int) then (if 2 < (t460.length : Int) then (if 2 < (t456.length : Int) then (if (rd t460 2) = (wrap64 ((rd t456 2) + 1)) then (if 0 < (t460.length : Int) then (if 0 < (t456.length : Int) then (if (rd t460 0) = (wrap64 ((rd t456 0) - 1)) then ((impl_IsValidQueue.f kj27 t448).bind fun t469 => (if t469 = true then (laws_FnDeliveries.j3 kj27 l0) else (some false))) else (some false)) else (none)) else (none)) else (some false)) else (none)) else (none)) else (some false)) else (some false))) = some r := by rw [if_pos rfl] at H; exact H
                 clear H
                 have H := H1
                 clear H1
                 replace H := Option.bind_eq_some_iff.mp H
                 obtain ⟨t464, A490, H⟩ := H
                 replace H : (if t464 = true then (if (t437.length : Int) = (t433.length : Int) then (if 2 < (t460.length : Int) then (if 2 < (t456.length : Int) then (if (rd t460 2) = (wrap64 ((rd t456 2) + 1)) then (if 0 < (t460.length : Int) then (if 0 < (t456.length : Int) then (if (rd t460 0) = (wrap64 ((rd t456 0) - 1)) then ((impl_IsValidQueue.f kj27 t448).bind fun t469 => (if t469 = true then (laws_FnDeliveries.j3 kj27 l0) else (some false))) else (some false)) else (none)) else (none)) else (some false)) else (none)) else (none)) else (some false)) else (some false)) = some r := H
                 have A49 := Aside0.mk A490
                 clear A490
                 by_cases c50 : t464 = true
                 ·subst c50
                  have H1 : (if (t437.length : Int) = (t433.length : Int) then (if 2 < (t460.length : Int) then (if 2 < (t456.length : Int) then (if (rd t460 2) = (wrap64 ((rd t456 2) + 1)) then (if 0 < (t460.length : Int) then (if 0 < (t456.length : Int) then (if (rd t460 0) = (wrap64 ((rd t456 0) - 1)) then ((impl_IsValidQueue.f kj27 t448).bind fun t469 => (if t469 = true then (laws_FnDeliveries.j3 kj27 l0) else (some false))) else (some false)) else (none)) else (none)) else (some false)) else (none)) else (none)) else (some false)) = some r := by rw [if_pos rfl] at H; exact H
                  clear H
                  have H := H1
                  clear H1
                  by_cases c51 : (t437.length : Int) = (t433.length : Int)
                  ·rw [if_pos c51] at H
                   have c51b0 : ((t437.length : Int) == (t433.length : Int)) = true := beq_iff_eq.mpr c51
                   have c51b1 : ((t437.length : Int) != (t433.length : Int)) = false := bne_eq_false_iff_eq.mpr c51
                   have c51b2 : (t437.length == t433.length) = true := by first | simpa using c51 | (simp at c51 ⊢; omega)
                   clear c51
                   (first | rw [c51b0] | (simp only [i64_w, i32_w]; rw [c51b0]) | skip)
                   by_cases c52 : 2 < (t460.length : Int)
                   ·rw [if_pos c52] at H
                    have c52b0 : decide (2 < (t460.length : Int)) = true := decide_eq_true c52
                    have c52b1 : decide (2 < t460.length) = true := decide_eq_true (by omega)
                    clear c52
                    by_cases c53 : 2 < (t456.length : Int)
                    ·rw [if_pos c53] at H
                     have c53b0 : decide (2 < (t456.length : Int)) = true := decide_eq_true c53
                     have c53b1 : decide (2 < t456.length) = true := decide_eq_true (by omega)
                     clear c53
                     by_cases c54 : (rd t460 2) = (wrap64 ((rd t456 2) + 1))
                     ·rw [if_pos c54] at H
                      have c54b0 : ((rd t460 2) == (wrap64 ((rd t456 2) + 1))) = true := beq_iff_eq.mpr c54
                      have c54b1 : ((rd t460 2) != (wrap64 ((rd t456 2) + 1))) = false := bne_eq_false_iff_eq.mpr c54
                      clear c54
                      by_cases c55 : 0 < (t460.length : Int)
                      ·rw [if_pos c55] at H
                       have c55b0 : decide (0 < (t460.length : Int)) = true := decide_eq_true c55
                       have c55b1 : decide (0 < t460.length) = true := decide_eq_true (by omega)
                       clear c55
                       by_cases c56 : 0 < (t456.length : Int)
                       ·rw [if_pos c56] at H
                        have c56b0 : decide (0 < (t456.length : Int)) = true := decide_eq_true c56
                        have c56b1 : decide (0 < t456.length) = true := decide_eq_true (by omega)
                        clear c56
                        by_cases c57 : (rd t460 0) = (wrap64 ((rd t456 0) - 1))
                        ·rw [if_pos c57] at H
                         have c57b0 : ((rd t460 0) == (wrap64 ((rd t456 0) - 1))) = true := beq_iff_eq.mpr c57
                         have c57b1 : ((rd t460 0) != (wrap64 ((rd t456 0) - 1))) = false := bne_eq_false_iff_eq.mpr c57
                         clear c57
                         replace H := Option.bind_eq_some_iff.mp H
                         obtain ⟨t469, A580, H⟩ := H
                         replace H : (if t469 = true then (laws_FnDeliveries.j3 kj27 l0) else (some false)) = some r := H
                         have A58 := Aside0.mk A580
                         clear A580
                         by_cases c59 : t469 = true
                         ·subst c59
                          have H1 : (laws_FnDeliveries.j3 kj27 l0) = some r := by rw [if_pos rfl] at H; exact H
                          clear H
                          have H := H1
                          clear H1
                          as_aux_lemma =>
                           have H' := Aside0.mk H
                           clear H
                           obtain ⟨Ao60, co60, eo60⟩ := Kd.R_slice HO_12.out
                           subst eo60
                           try go_wp2_with (first | ((with_reducible refine gate_callee (f := 54) rfl ?_); refine goesL_ (some 114) rfl rfl Try.func54 (by kernel_rfl) rfl #[.slice Ao60 t437.length co60, .int .i64 t438] rfl zlx ?_; (with_reducible refine (impl_TakeReceipt.calls kj27 _ _ t437 t438 t448 true _ ?side1 ?side2 A41.out).mono ?_); (case side1 => repeat (first | exact (Kd.R_reads' HO_12.out).2.2 | (with_reducible refine Kd.C_alloc ?_ _) | (with_reducible refine Kd.C_drewN ?_ _) | (with_reducible refine Kd.C_drew ?_))); (case side2 => exact (Kd.R_reads' HO_12.out).2.1); rintro e w61 ⟨v450, rfl, ho0, hb⟩; refine ⟨_, rfl, ?_⟩; have n0_ := Aside0.mk (Kd.R_elder' (zRx HO_10.out) (Kd.R_base ho0) hb); have n1_ := Aside0.mk (Kd.R_elder' (zRx HO_12.out) (Kd.R_base ho0) hb); have n2_ := Aside0.mk (Kd.R_lower (Kd.R_new' (Kd.R_new' ho0 (Kd.R_lt (zRx HO_10.out))) (Kd.R_lt (zRx HO_12.out))) (below_size (zBx HB.out))); have n3_ := Aside0.mk (below_step (zBx HB.out) hb); clear HO_10; clear HO_12; clear HB; have HO_10 := n0_; have HO_12 := n1_; have HO451 := n2_; have HB := n3_; clear n0_ n1_ n2_ n3_; (try clear hb); (try clear hb2); (try clear hk); (try clear hi); (try clear ho0); obtain ⟨Ao62, co62, eo62⟩ := Kd.R_slice HO451.out; subst eo62) | ((with_reducible refine gate_callee (f := 54) rfl ?_); refine goesL_ (some 120) rfl rfl Try.func54 (by kernel_rfl) rfl #[.slice Ao62 t448.length co62, .int .i64 t438] rfl zlx ?_; (with_reducible refine (impl_TakeReceipt.calls kj27 _ _ t448 t438 t452 true _ ?side1 ?side2 A42.out).mono ?_); (case side1 => repeat (first | exact (Kd.R_reads' HO451.out).2.2 | (with_reducible refine Kd.C_alloc ?_ _) | (with_reducible refine Kd.C_drewN ?_ _) | (with_reducible refine Kd.C_drew ?_))); (case side2 => exact (Kd.R_reads' HO451.out).2.1); rintro e w63 ⟨v454, rfl, ho0, hb⟩; refine ⟨_, rfl, ?_⟩; have n0_ := Aside0.mk (Kd.R_elder' (zRx HO_10.out) (Kd.R_base ho0) hb); have n1_ := Aside0.mk (Kd.R_elder' (zRx HO_12.out) (Kd.R_base ho0) hb); have n2_ := Aside0.mk (Kd.R_elder' (zRx HO451.out) (Kd.R_base ho0) hb); have n3_ := Aside0.mk (Kd.R_lower (Kd.R_new' (Kd.R_new' (Kd.R_new' ho0 (Kd.R_lt (zRx HO_10.out))) (Kd.R_lt (zRx HO_12.out))) (Kd.R_lt (zRx HO451.out))) (below_size (zBx HB.out))); have n4_ := Aside0.mk (below_step (zBx HB.out) hb); clear HO_10; clear HO_12; clear HO451; clear HB; have HO_10 := n0_; have HO_12 := n1_; have HO451 := n2_; have HO455 := n3_; have HB := n4_; clear n0_ n1_ n2_ n3_ n4_; (try clear hb); (try clear hb2); (try clear hk); (try clear hi); (try clear ho0)) | ((with_reducible refine gate_callee (f := 40) rfl ?_); refine goesL_ (some 125) rfl rfl Try.func40 (by kernel_rfl) rfl #[.slice Ao30 t433.length co30] rfl zlx ?_; (with_reducible refine (impl_CountStates.calls kj27 _ _ t433 t456 true _ ?side1 ?side2 A43.out).mono ?_); (case side1 => repeat (first | exact (Kd.R_reads' HO_10.out).2.2 | (with_reducible refine Kd.C_alloc ?_ _) | (with_reducible refine Kd.C_drewN ?_ _) | (with_reducible refine Kd.C_drew ?_))); (case side2 => exact (Kd.R_reads' HO_10.out).2.1); rintro e w64 ⟨v458, rfl, ho0, hb⟩; refine ⟨_, rfl, ?_⟩; have n0_ := Aside0.mk (Kd.R_below (zRx HO_10.out) hb); have n1_ := Aside0.mk (Kd.R_below (zRx HO_12.out) hb); have n2_ := Aside0.mk (Kd.R_below (zRx HO451.out) hb); have n3_ := Aside0.mk (Kd.R_below (zRx HO455.out) hb); have n4_ := Aside0.mk (Kd.R_lower ho0 (below_size (zBx HB.out))); have n5_ := Aside0.mk (below_step (zBx HB.out) hb); clear HO_10; clear HO_12; clear HO451; clear HO455; clear HB; have HO_10 := n0_; have HO_12 := n1_; have HO451 := n2_; have HO455 := n3_; have HO459 := n4_; have HB := n5_; clear n0_ n1_ n2_ n3_ n4_ n5_; (try clear hb); (try clear hb2); (try clear hk); (try clear hi); (try clear ho0)) | ((with_reducible refine gate_callee (f := 40) rfl ?_); refine goesL_ (some 130) rfl rfl Try.func40 (by kernel_rfl) rfl #[.slice Ao62 t448.length co62] rfl zlx ?_; (with_reducible refine (impl_CountStates.calls kj27 _ _ t448 t460 true _ ?side1 ?side2 A44.out).mono ?_); (case side1 => repeat (first | exact (Kd.R_reads' HO451.out).2.2 | (with_reducible refine Kd.C_alloc ?_ _) | (with_reducible refine Kd.C_drewN ?_ _) | (with_reducible refine Kd.C_drew ?_))); (case side2 => exact (Kd.R_reads' HO451.out).2.1); rintro e w65 ⟨v462, rfl, ho0, hb⟩; refine ⟨_, rfl, ?_⟩; have n0_ := Aside0.mk (Kd.R_below (zRx HO_10.out) hb); have n1_ := Aside0.mk (Kd.R_below (zRx HO_12.out) hb); have n2_ := Aside0.mk (Kd.R_below (zRx HO451.out) hb); have n3_ := Aside0.mk (Kd.R_below (zRx HO455.out) hb); have n4_ := Aside0.mk (Kd.R_elder' (zRx HO459.out) (Kd.R_base ho0) hb); have n5_ := Aside0.mk (Kd.R_lower (Kd.R_new' ho0 (Kd.R_lt (zRx HO459.out))) (below_size (zBx HB.out))); have n6_ := Aside0.mk (below_step (zBx HB.out) hb); clear HO_10; clear HO_12; clear HO451; clear HO455; clear HO459; clear HB; have HO_10 := n0_; have HO_12 := n1_; have HO451 := n2_; have HO455 := n3_; have HO459 := n4_; have HO463 := n5_; have HB := n6_; clear n0_ n1_ n2_ n3_ n4_ n5_ n6_; (try clear hb); (try clear hb2); (try clear hk); (try clear hi); (try clear ho0)))
                           have n0_ := Aside0.mk (Kd.R_drew HO_10.out)
                           have n1_ := Aside0.mk (Kd.R_drew HO_12.out)
                           have n2_ := Aside0.mk (Kd.R_drew HO451.out)
                           have n3_ := Aside0.mk (Kd.R_drew HO455.out)
                           have n4_ := Aside0.mk (Kd.R_drew HO459.out)
                           have n5_ := Aside0.mk (Kd.R_drew HO463.out)
                           have n6_ := Aside0.mk (below_drew1 HB.out)
                           clear HO_10
                           clear HO_12
                           clear HO451
                           clear HO455
                           clear HO459
                           clear HO463
                           clear HB
                           have HO_10 := n0_
                           have HO_12 := n1_
                           have HO451 := n2_
                           have HO455 := n3_
                           have HO459 := n4_
                           have HO463 := n5_
                           have HB := n6_
                           clear n0_ n1_ n2_ n3_ n4_ n5_ n6_
                           obtain ⟨Ao67, co67, eo67⟩ := Kd.R_slice HO455.out
                           (first | subst eo67 | (injection eo67 with f1_ f2_ f3_; have f4_ := f1_.symm; have f5_ := f3_.symm; clear f1_ f2_ f3_; subst f4_; subst f5_))
                           obtain ⟨Ao68, co68, eo68⟩ := Kd.R_slice HO463.out
                           (first | subst eo68 | (injection eo68 with f1_ f2_ f3_; have f4_ := f1_.symm; have f5_ := f3_.symm; clear f1_ f2_ f3_; subst f4_; subst f5_))
                           obtain ⟨Ao69, co69, eo69⟩ := Kd.R_slice HO459.out
                           (first | subst eo69 | (injection eo69 with f1_ f2_ f3_; have f4_ := f1_.symm; have f5_ := f3_.symm; clear f1_ f2_ f3_; subst f4_; subst f5_))
                           have p465 : 0 ≤ (2 : Int) := (by omega)
                           have q465 : 2 < (t460.length : Int) := of_decide_eq_true zax
                           obtain ⟨ad465, e465, hx465_0⟩ := Kd.at_int (Kd.R_reads' HO463.out).2.2 2 p465 q465
                           cases e465
                           (try simp only [show (2 : Int).toNat = 2 from rfl, Nat.reduceMul, Nat.reduceEqDiff, Go.Addr.add, ↓reduceIte] at hx465_0)
                           have qi465 : (2 < t460.length) = True := eq_true (by omega)
                           (try rw [show ((2 : Int)).toNat = 2 from rfl] at hx465_0)
                           replace p465 := eq_true p465
                           replace q465 := eq_true q465
                           have p466 : 0 ≤ (2 : Int) := (by omega)
                           have q466 : 2 < (t456.length : Int) := of_decide_eq_true zax
                           obtain ⟨ad466, e466, hx466_0⟩ := Kd.at_int (Kd.R_reads' HO459.out).2.2 2 p466 q466
                           cases e466
                           (try simp only [show (2 : Int).toNat = 2 from rfl, Nat.reduceMul, Nat.reduceEqDiff, Go.Addr.add, ↓reduceIte] at hx466_0)
                           have qi466 : (2 < t456.length) = True := eq_true (by omega)
                           (try rw [show ((2 : Int)).toNat = 2 from rfl] at hx466_0)
                           replace p466 := eq_true p466
                           replace q466 := eq_true q466
                           have p467 : 0 ≤ (0 : Int) := (by omega)
                           have q467 : 0 < (t460.length : Int) := of_decide_eq_true zax
                           obtain ⟨ad467, e467, hx467_0⟩ := Kd.at_int (Kd.R_reads' HO463.out).2.2 0 p467 q467
                           obtain rfl : ad465 = ad467 := (by injection e467)
                           have qi467 : (0 < t460.length) = True := eq_true (by omega)
                           (try rw [show ((0 : Int)).toNat = 0 from rfl] at hx467_0)
                           (try rw [Addr.add_zero'] at hx467_0)
                           replace p467 := eq_true p467
                           replace q467 := eq_true q467
                           have p468 : 0 ≤ (0 : Int) := (by omega)
                           have q468 : 0 < (t456.length : Int) := of_decide_eq_true zax
                           obtain ⟨ad468, e468, hx468_0⟩ := Kd.at_int (Kd.R_reads' HO459.out).2.2 0 p468 q468
                           obtain rfl : ad466 = ad468 := (by injection e468)
                           have qi468 : (0 < t456.length) = True := eq_true (by omega)
                           (try rw [show ((0 : Int)).toNat = 0 from rfl] at hx468_0)
                           (try rw [Addr.add_zero'] at hx468_0)
                           replace p468 := eq_true p468
                           replace q468 := eq_true q468
                           refine start_ (n := 52) (S := fun w' => w'.cell? ⟨ad465.block, ad465.off + 2, none⟩ = some (.int .i64 (rd t460 2)) ∧ w'.cell? ⟨ad466.block, ad466.off + 2, none⟩ = some (.int .i64 (rd t456 2)) ∧ w'.cell? ad465 = some (.int .i64 (rd t460 0)) ∧ w'.cell? ad466 = some (.int .i64 (rd t456 0))) (ds := []) #[F,F,F,F,F,F,F,F,F,F,F,F,F,F,F,F,F,F,F,F,F,F,F,F,F,F,F,F,F,F,F,F,F,F,F,F,F,F,F,F,F,F,F,F,F,F,F,F,F,F,F,F] (by kernel_rfl) rfl rfl ⟨hx465_0, hx466_0, hx467_0, hx468_0⟩ (fun hHeld => ?_); refine with_tabW laws_FnDeliveries.tab20 laws_FnDeliveries.bits20 (fun HT_ HW_ => ?_)
                           generalize w65.drew = w66 at HO_10 HO_12 HO451 HO455 HO459 HO463 HB hx465_0 hx466_0 hx467_0 hx468_0 hHeld ⊢
                           refine pure_ (i := 0) (N := some 133) (v := ?_) (a' := ?_) #[T,F,F,F,F,F,F,F,F,F,F,F,F,F,F,F,F,F,F,F,F,F,F,F,F,F,F,F,F,F,F,F,F,F,F,F,F,F,F,F,F,F,F,F,F,F,F,F,F,F,F,F] rfl rfl (any_of HT_.out (by kernel_rfl)) (fun _ _ _ h => h) (Or.inl ⟨by rfl, ?_⟩) ?_ ?_
                           rotate_left
                           ·exact zwx
                           rotate_left
                           ·exact zpx
                           refine pure_ (i := 1) (N := some 134) (v := ?_) (a' := ?_) #[T,T,F,F,F,F,F,F,F,F,F,F,F,F,F,F,F,F,F,F,F,F,F,F,F,F,F,F,F,F,F,F,F,F,F,F,F,F,F,F,F,F,F,F,F,F,F,F,F,F,F,F] rfl rfl (any_of HT_.out (by kernel_rfl)) (fun _ _ _ h => h) (Or.inl ⟨by rfl, ?_⟩) ?_ ?_
                           rotate_left
                           ·exact zwx
                           rotate_left
                           ·exact zpx
                           refine pure_ (i := 2) (N := some 135) (v := ?_) (a' := ?_) #[T,T,T,F,F,F,F,F,F,F,F,F,F,F,F,F,F,F,F,F,F,F,F,F,F,F,F,F,F,F,F,F,F,F,F,F,F,F,F,F,F,F,F,F,F,F,F,F,F,F,F,F] rfl rfl (any_of HT_.out (by kernel_rfl)) (fun _ _ _ h => h) (Or.inl ⟨by rfl, ?_⟩) ?_ ?_
                           rotate_left
                           ·exact zwx
                           rotate_left
                           ·exact zpx
                           refine pure_ (i := 3) (N := some 136) (v := ?_) (a' := ?_) #[T,T,T,T,F,F,F,F,F,F,F,F,F,F,F,F,F,F,F,F,F,F,F,F,F,F,F,F,F,F,F,F,F,F,F,F,F,F,F,F,F,F,F,F,F,F,F,F,F,F,F,F] rfl rfl (any_of HT_.out (by kernel_rfl)) (fun _ _ _ h => h) (Or.inl ⟨by rfl, ?_⟩) ?_ ?_
                           rotate_left
                           ·exact zwx
                           rotate_left
                           ·exact zpx
                           refine pure_ (i := 4) (N := some 137) (v := ?_) (a' := ?_) #[T,T,T,T,T,F,F,F,F,F,F,F,F,F,F,F,F,F,F,F,F,F,F,F,F,F,F,F,F,F,F,F,F,F,F,F,F,F,F,F,F,F,F,F,F,F,F,F,F,F,F,F] rfl rfl (any_of HT_.out (by kernel_rfl)) (fun _ _ _ h => h) (Or.inl ⟨by rfl, ?_⟩) ?_ ?_
                           rotate_left
                           ·exact zwx
                           rotate_left
                           ·exact zpx
                           refine pure_ (i := 5) (N := some 138) (v := ?_) (a' := ?_) #[T,T,T,T,T,T,F,F,F,F,F,F,F,F,F,F,F,F,F,F,F,F,F,F,F,F,F,F,F,F,F,F,F,F,F,F,F,F,F,F,F,F,F,F,F,F,F,F,F,F,F,F] rfl rfl (any_of HT_.out (by kernel_rfl)) (fun _ _ _ h => h) (Or.inl ⟨by rfl, ?_⟩) ?_ ?_
                           rotate_left
                           ·exact zwx
                           rotate_left
                           ·exact zpx
                           refine pure_ (i := 6) (N := some 139) (v := ?_) (a' := ?_) #[T,T,T,T,T,T,T,F,F,F,F,F,F,F,F,F,F,F,F,F,F,F,F,F,F,F,F,F,F,F,F,F,F,F,F,F,F,F,F,F,F,F,F,F,F,F,F,F,F,F,F,F] rfl rfl (any_of HT_.out (by kernel_rfl)) (fun _ _ _ h => h) (Or.inl ⟨by rfl, ?_⟩) ?_ ?_
                           rotate_left
                           ·exact zwx
                           rotate_left
                           ·exact zpx
                           refine pure_ (i := 7) (N := some 140) (v := ?_) (a' := ?_) #[T,T,T,T,T,T,T,T,F,F,F,F,F,F,F,F,F,F,F,F,F,F,F,F,F,F,F,F,F,F,F,F,F,F,F,F,F,F,F,F,F,F,F,F,F,F,F,F,F,F,F,F] rfl rfl (any_of HT_.out (by kernel_rfl)) (fun _ _ _ h => h) (Or.inl ⟨by rfl, ?_⟩) ?_ ?_
                           rotate_left
                           ·exact zwx
                           rotate_left
                           ·exact zpx
                           refine pure_ (i := 8) (N := some 141) (v := ?_) (a' := ?_) #[T,T,T,T,T,T,T,T,T,F,F,F,F,F,F,F,F,F,F,F,F,F,F,F,F,F,F,F,F,F,F,F,F,F,F,F,F,F,F,F,F,F,F,F,F,F,F,F,F,F,F,F] rfl rfl (any_of HT_.out (by kernel_rfl)) (fun _ _ _ h => h) (Or.inl ⟨by rfl, ?_⟩) ?_ ?_
                           rotate_left
                           ·exact zwx
                           rotate_left
                           ·exact zpx
                           refine pure_ (i := 9) (N := some 142) (v := ?_) (a' := ?_) #[T,T,T,T,T,T,T,T,T,T,F,F,F,F,F,F,F,F,F,F,F,F,F,F,F,F,F,F,F,F,F,F,F,F,F,F,F,F,F,F,F,F,F,F,F,F,F,F,F,F,F,F] rfl rfl (any_of HT_.out (by kernel_rfl)) (fun _ _ _ h => h) (Or.inl ⟨by rfl, ?_⟩) ?_ ?_
                           rotate_left
                           ·exact zwx
                           rotate_left
                           ·exact zpx
                           refine pure_ (i := 10) (N := some 143) (v := ?_) (a' := ?_) #[T,T,T,T,T,T,T,T,T,T,T,F,F,F,F,F,F,F,F,F,F,F,F,F,F,F,F,F,F,F,F,F,F,F,F,F,F,F,F,F,F,F,F,F,F,F,F,F,F,F,F,F] rfl rfl (any_of HT_.out (by kernel_rfl)) (fun _ _ _ h => h) (Or.inl ⟨by rfl, ?_⟩) ?_ ?_
                           rotate_left
                           ·exact zwx
                           rotate_left
                           ·exact zpx
                           refine pure_ (i := 11) (N := some 144) (v := ?_) (a' := ?_) #[T,T,T,T,T,T,T,T,T,T,T,T,F,F,F,F,F,F,F,F,F,F,F,F,F,F,F,F,F,F,F,F,F,F,F,F,F,F,F,F,F,F,F,F,F,F,F,F,F,F,F,F] rfl rfl (any_of HT_.out (by kernel_rfl)) (fun _ _ _ h => h) (Or.inl ⟨by rfl, ?_⟩) ?_ ?_
                           rotate_left
                           ·exact zwx
                           rotate_left
                           ·exact zpx
                           refine pure_ (i := 12) (N := some 145) (v := ?_) (a' := ?_) #[T,T,T,T,T,T,T,T,T,T,T,T,T,F,F,F,F,F,F,F,F,F,F,F,F,F,F,F,F,F,F,F,F,F,F,F,F,F,F,F,F,F,F,F,F,F,F,F,F,F,F,F] rfl rfl (any_of HT_.out (by kernel_rfl)) (fun _ _ _ h => h) (Or.inl ⟨by rfl, ?_⟩) ?_ ?_
                           rotate_left
                           ·exact zwx
                           rotate_left
                           ·exact zpx
                           refine pure_ (i := 13) (N := some 146) (v := ?_) (a' := ?_) #[T,T,T,T,T,T,T,T,T,T,T,T,T,T,F,F,F,F,F,F,F,F,F,F,F,F,F,F,F,F,F,F,F,F,F,F,F,F,F,F,F,F,F,F,F,F,F,F,F,F,F,F] rfl rfl (any_of HT_.out (by kernel_rfl)) (fun _ _ _ h => h) (Or.inl ⟨by rfl, ?_⟩) ?_ ?_
                           rotate_left
                           ·exact zwx
                           rotate_left
                           ·exact zpx
                           refine pure_ (i := 14) (N := some 147) (v := ?_) (a' := ?_) #[T,T,T,T,T,T,T,T,T,T,T,T,T,T,T,F,F,F,F,F,F,F,F,F,F,F,F,F,F,F,F,F,F,F,F,F,F,F,F,F,F,F,F,F,F,F,F,F,F,F,F,F] rfl rfl (any_of HT_.out (by kernel_rfl)) (fun _ _ _ h => h) (Or.inl ⟨by rfl, ?_⟩) ?_ ?_
                           rotate_left
                           ·exact zwx
                           rotate_left
                           ·exact zpx
                           refine pure_ (i := 15) (N := some 148) (v := ?_) (a' := ?_) #[T,T,T,T,T,T,T,T,T,T,T,T,T,T,T,T,F,F,F,F,F,F,F,F,F,F,F,F,F,F,F,F,F,F,F,F,F,F,F,F,F,F,F,F,F,F,F,F,F,F,F,F] rfl rfl (any_of HT_.out (by kernel_rfl)) (fun _ _ _ h => h) (Or.inl ⟨by rfl, ?_⟩) ?_ ?_
                           rotate_left
                           ·exact zwx
                           rotate_left
                           ·exact zpx
                           refine pure_ (i := 16) (N := some 149) (v := ?_) (a' := ?_) #[T,T,T,T,T,T,T,T,T,T,T,T,T,T,T,T,T,F,F,F,F,F,F,F,F,F,F,F,F,F,F,F,F,F,F,F,F,F,F,F,F,F,F,F,F,F,F,F,F,F,F,F] rfl rfl (any_of HT_.out (by kernel_rfl)) (fun _ _ _ h => h) (Or.inl ⟨by rfl, ?_⟩) ?_ ?_
                           rotate_left
                           ·exact zwx
                           rotate_left
                           ·exact zpx
                           refine one_ (i := 17) (N := some 150) #[T,T,T,T,T,T,T,T,T,T,T,T,T,T,T,T,T,T,F,F,F,F,F,F,F,F,F,F,F,F,F,F,F,F,F,F,F,F,F,F,F,F,F,F,F,F,F,F,F,F,F,F] rfl rfl (one_of HT_.out (by kernel_rfl)) (by decide) (fun K hK => ?_)
                           refine goes_ Try.func37 (by kernel_rfl) rfl #[.slice Ao67 t452.length co67, .slice Ao62 t448.length co62] (by rfl) rfl rfl zlx ?_
                           with_reducible refine (laws_rQueues.calls kj27 _ _ t452 _ _ t448 true _ ?side1 ?side2 ?side3 ?side4 A49.out).mono ?_
                           (case side1 => repeat (first | exact (Kd.R_reads' HO455.out).2.2 | (with_reducible refine Kd.C_alloc ?_ _) | (with_reducible refine Kd.C_drewN ?_ _) | (with_reducible refine Kd.C_drew ?_)))
                           (case side2 => exact (Kd.R_reads' HO455.out).2.1)
                           (case side3 => repeat (first | exact (Kd.R_reads' HO451.out).2.2 | (with_reducible refine Kd.C_alloc ?_ _) | (with_reducible refine Kd.C_drewN ?_ _) | (with_reducible refine Kd.C_drew ?_)))
                           (case side4 => exact (Kd.R_reads' HO451.out).2.1)
                           rintro e w' ⟨rfl, ⟨nd, rfl⟩⟩
                           refine ⟨_, rfl, ?_⟩
                           refine hK.out _ _ ⟨hHeld.1, hHeld.2.1, hHeld.2.2.1, hHeld.2.2.2⟩ (fun hHeld => ?_)
                           clear hK K
                           refine norm_ (a' := ?_) ?_ ?_
                           rotate_left
                           ·show Act.put _ (some 150) _ = _
                            simp only [Act.put, List.setIfInBounds_toArray, List.set_cons_zero, List.set_cons_succ, i64_w, i32_w]
                            rfl
                           refine pure_ (i := 18) (N := some 151) (v := ?_) (a' := ?_) #[T,T,T,T,T,T,T,T,T,T,T,T,T,T,T,T,T,T,T,F,F,F,F,F,F,F,F,F,F,F,F,F,F,F,F,F,F,F,F,F,F,F,F,F,F,F,F,F,F,F,F,F] rfl rfl (any_of HT_.out (by kernel_rfl)) (fun _ _ _ h => h) (Or.inl ⟨by rfl, ?_⟩) ?_ ?_
                           rotate_left
                           ·exact zwx
                           rotate_left
                           ·exact zpx
                           refine pure_ (i := 19) (N := some 152) (v := ?_) (a' := ?_) #[T,T,T,T,T,T,T,T,T,T,T,T,T,T,T,T,T,T,T,T,F,F,F,F,F,F,F,F,F,F,F,F,F,F,F,F,F,F,F,F,F,F,F,F,F,F,F,F,F,F,F,F] rfl rfl (any_of HT_.out (by kernel_rfl)) (fun _ _ _ h => h) (Or.inl ⟨by rfl, ?_⟩) ?_ ?_
                           rotate_left
                           ·exact zwx
                           rotate_left
                           ·exact zpx
                           refine pure_ (i := 20) (N := some 153) (v := ?_) (a' := ?_) #[T,T,T,T,T,T,T,T,T,T,T,T,T,T,T,T,T,T,T,T,T,F,F,F,F,F,F,F,F,F,F,F,F,F,F,F,F,F,F,F,F,F,F,F,F,F,F,F,F,F,F,F] rfl rfl (any_of HT_.out (by kernel_rfl)) (fun _ _ _ h => h) (Or.inl ⟨by rfl, ?_⟩) ?_ ?_
                           rotate_left
                           ·exact zwx
                           rotate_left
                           ·exact zpx
                           refine pure_ (i := 21) (N := some 154) (v := ?_) (a' := ?_) #[T,T,T,T,T,T,T,T,T,T,T,T,T,T,T,T,T,T,T,T,T,T,F,F,F,F,F,F,F,F,F,F,F,F,F,F,F,F,F,F,F,F,F,F,F,F,F,F,F,F,F,F] rfl rfl (any_of HT_.out (by kernel_rfl)) (fun _ _ _ h => h) (Or.inl ⟨by rfl, ?_⟩) ?_ ?_
                           rotate_left
                           ·exact zwx
                           rotate_left
                           ·exact zpx
                           refine pure_ (i := 22) (N := some 155) (v := ?_) (a' := ?_) #[T,T,T,T,T,T,T,T,T,T,T,T,T,T,T,T,T,T,T,T,T,T,T,F,F,F,F,F,F,F,F,F,F,F,F,F,F,F,F,F,F,F,F,F,F,F,F,F,F,F,F,F] rfl rfl (any_of HT_.out (by kernel_rfl)) (fun _ _ _ h => h) (Or.inl ⟨by rfl, ?_⟩) ?_ ?_
                           rotate_left
                           ·exact zwx
                           rotate_left
                           ·exact zpx
                           refine pure_ (i := 23) (N := some 156) (v := ?_) (a' := ?_) #[T,T,T,T,T,T,T,T,T,T,T,T,T,T,T,T,T,T,T,T,T,T,T,T,F,F,F,F,F,F,F,F,F,F,F,F,F,F,F,F,F,F,F,F,F,F,F,F,F,F,F,F] rfl rfl (any_of HT_.out (by kernel_rfl)) (fun _ _ _ h => h) (Or.inl ⟨by rfl, ?_⟩) ?_ ?_
                           rotate_left
                           ·exact zwx
                           rotate_left
                           ·exact zpx
                           refine pure_ (i := 24) (N := some 157) (v := ?_) (a' := ?_) #[T,T,T,T,T,T,T,T,T,T,T,T,T,T,T,T,T,T,T,T,T,T,T,T,T,F,F,F,F,F,F,F,F,F,F,F,F,F,F,F,F,F,F,F,F,F,F,F,F,F,F,F] rfl rfl (any_of HT_.out (by kernel_rfl)) (fun _ _ _ h => h) (Or.inl ⟨by rfl, ?_⟩) ?_ ?_
                           rotate_left
                           ·exact zwx
                           rotate_left
                           ·exact zpx
                           refine pure_ (i := 25) (N := some 158) (v := ?_) (a' := ?_) #[T,T,T,T,T,T,T,T,T,T,T,T,T,T,T,T,T,T,T,T,T,T,T,T,T,T,F,F,F,F,F,F,F,F,F,F,F,F,F,F,F,F,F,F,F,F,F,F,F,F,F,F] rfl rfl (any_of HT_.out (by kernel_rfl)) (fun _ _ _ h => h) (Or.inl ⟨by rfl, ?_⟩) ?_ ?_
                           rotate_left
                           ·exact zwx
                           rotate_left
                           ·exact zpx
                           refine pure_ (i := 26) (N := some 159) (v := ?_) (a' := ?_) #[T,T,T,T,T,T,T,T,T,T,T,T,T,T,T,T,T,T,T,T,T,T,T,T,T,T,T,F,F,F,F,F,F,F,F,F,F,F,F,F,F,F,F,F,F,F,F,F,F,F,F,F] rfl rfl (any_of HT_.out (by kernel_rfl)) (fun _ _ _ h => h) (Or.inl ⟨by rfl, ?_⟩) ?_ ?_
                           rotate_left
                           ·exact zwx
                           rotate_left
                           ·exact zpx
                           refine pure_ (i := 27) (N := some 160) (v := ?_) (a' := ?_) #[T,T,T,T,T,T,T,T,T,T,T,T,T,T,T,T,T,T,T,T,T,T,T,T,T,T,T,T,F,F,F,F,F,F,F,F,F,F,F,F,F,F,F,F,F,F,F,F,F,F,F,F] rfl rfl (any_of HT_.out (by kernel_rfl)) (fun _ _ _ h => h) (Or.inl ⟨by rfl, ?_⟩) ?_ ?_
                           rotate_left
                           ·exact zwx
                           rotate_left
                           ·exact zpx
                           refine pure_ (i := 28) (N := some 161) (v := ?_) (a' := ?_) #[T,T,T,T,T,T,T,T,T,T,T,T,T,T,T,T,T,T,T,T,T,T,T,T,T,T,T,T,T,F,F,F,F,F,F,F,F,F,F,F,F,F,F,F,F,F,F,F,F,F,F,F] rfl rfl (any_of HT_.out (by kernel_rfl)) (fun _ _ _ h => h) (Or.inl ⟨by rfl, ?_⟩) ?_ ?_
                           rotate_left
                           ·exact zwx
                           rotate_left
                           ·exact zpx
                           refine pure_ (i := 29) (N := some 162) (v := ?_) (a' := ?_) #[T,T,T,T,T,T,T,T,T,T,T,T,T,T,T,T,T,T,T,T,T,T,T,T,T,T,T,T,T,T,F,F,F,F,F,F,F,F,F,F,F,F,F,F,F,F,F,F,F,F,F,F] rfl rfl (any_of HT_.out (by kernel_rfl)) (fun _ _ _ h => h) (Or.inl ⟨by rfl, ?_⟩) ?_ ?_
                           rotate_left
                           ·exact zwx
                           rotate_left
                           ·exact zpx
                           refine pure_ (i := 31) (N := some 164) (v := ?_) (a' := ?_) #[T,T,T,T,T,T,T,T,T,T,T,T,T,T,T,T,T,T,T,T,T,T,T,T,T,T,T,T,T,T,F,T,F,F,F,F,F,F,F,F,F,F,F,F,F,F,F,F,F,F,F,F] rfl rfl (any_of HT_.out (by kernel_rfl)) (fun _ _ _ h => h) (Or.inl ⟨by rfl, ?_⟩) ?_ ?_
                           rotate_left
                           ·exact zwx
                           rotate_left
                           ·exact zpx
                           refine pure_ (i := 32) (N := some 165) (v := ?_) (a' := ?_) #[T,T,T,T,T,T,T,T,T,T,T,T,T,T,T,T,T,T,T,T,T,T,T,T,T,T,T,T,T,T,F,T,T,F,F,F,F,F,F,F,F,F,F,F,F,F,F,F,F,F,F,F] rfl rfl (any_of HT_.out (by kernel_rfl)) (fun _ _ _ h => h) (Or.inl ⟨by rfl, ?_⟩) ?_ ?_
                           rotate_left
                           ·exact zwx
                           rotate_left
                           ·exact zpx
                           refine take_ (i := 30) (N := some 163) (v := ?_) (a' := ?_) #[T,T,T,T,T,T,T,T,T,T,T,T,T,T,T,T,T,T,T,T,T,T,T,T,T,T,T,T,T,T,T,T,T,F,F,F,F,F,F,F,F,F,F,F,F,F,F,F,F,F,F,F] rfl rfl (take_ofW HT_.out HW_.out (by kernel_rfl)) (fun _ _ _ h => h) (Or.inl ⟨by rfl, ?_⟩) hHeld ?_ ?_
                           rotate_left
                           ·rintro w' ⟨s0, s1, s2, s3⟩
                            go_simp
                            with_reducible rfl
                           rotate_left
                           ·exact zpx
                           refine take_ (i := 33) (N := some 166) (v := ?_) (a' := ?_) #[T,T,T,T,T,T,T,T,T,T,T,T,T,T,T,T,T,T,T,T,T,T,T,T,T,T,T,T,T,T,T,T,T,T,F,F,F,F,F,F,F,F,F,F,F,F,F,F,F,F,F,F] rfl rfl (take_ofW HT_.out HW_.out (by kernel_rfl)) (fun _ _ _ h => h) (Or.inl ⟨by rfl, ?_⟩) hHeld ?_ ?_
                           rotate_left
                           ·rintro w' ⟨s0, s1, s2, s3⟩
                            go_simp
                            with_reducible rfl
                           rotate_left
                           ·exact zpx
                           refine pure_ (i := 34) (N := some 167) (v := ?_) (a' := ?_) #[T,T,T,T,T,T,T,T,T,T,T,T,T,T,T,T,T,T,T,T,T,T,T,T,T,T,T,T,T,T,T,T,T,T,T,F,F,F,F,F,F,F,F,F,F,F,F,F,F,F,F,F] rfl rfl (any_of HT_.out (by kernel_rfl)) (fun _ _ _ h => h) (Or.inl ⟨by rfl, ?_⟩) ?_ ?_
                           rotate_left
                           ·exact zwx
                           rotate_left
                           ·exact zpx
                           refine pure_ (i := 35) (N := some 168) (v := ?_) (a' := ?_) #[T,T,T,T,T,T,T,T,T,T,T,T,T,T,T,T,T,T,T,T,T,T,T,T,T,T,T,T,T,T,T,T,T,T,T,T,F,F,F,F,F,F,F,F,F,F,F,F,F,F,F,F] rfl rfl (any_of HT_.out (by kernel_rfl)) (fun _ _ _ h => h) (Or.inl ⟨by rfl, ?_⟩) ?_ ?_
                           rotate_left
                           ·exact zwx
                           rotate_left
                           ·exact zpx
                           refine pure_ (i := 36) (N := some 169) (v := ?_) (a' := ?_) #[T,T,T,T,T,T,T,T,T,T,T,T,T,T,T,T,T,T,T,T,T,T,T,T,T,T,T,T,T,T,T,T,T,T,T,T,T,F,F,F,F,F,F,F,F,F,F,F,F,F,F,F] rfl rfl (any_of HT_.out (by kernel_rfl)) (fun _ _ _ h => h) (Or.inl ⟨by rfl, ?_⟩) ?_ ?_
                           rotate_left
                           ·exact zwx
                           rotate_left
                           ·exact zpx
                           refine pure_ (i := 37) (N := some 170) (v := ?_) (a' := ?_) #[T,T,T,T,T,T,T,T,T,T,T,T,T,T,T,T,T,T,T,T,T,T,T,T,T,T,T,T,T,T,T,T,T,T,T,T,T,T,F,F,F,F,F,F,F,F,F,F,F,F,F,F] rfl rfl (any_of HT_.out (by kernel_rfl)) (fun _ _ _ h => h) (Or.inl ⟨by rfl, ?_⟩) ?_ ?_
                           rotate_left
                           ·exact zwx
                           rotate_left
                           ·exact zpx
                           refine pure_ (i := 38) (N := some 171) (v := ?_) (a' := ?_) #[T,T,T,T,T,T,T,T,T,T,T,T,T,T,T,T,T,T,T,T,T,T,T,T,T,T,T,T,T,T,T,T,T,T,T,T,T,T,T,F,F,F,F,F,F,F,F,F,F,F,F,F] rfl rfl (any_of HT_.out (by kernel_rfl)) (fun _ _ _ h => h) (Or.inl ⟨by rfl, ?_⟩) ?_ ?_
                           rotate_left
                           ·exact zwx
                           rotate_left
                           ·exact zpx
                           refine pure_ (i := 39) (N := some 172) (v := ?_) (a' := ?_) #[T,T,T,T,T,T,T,T,T,T,T,T,T,T,T,T,T,T,T,T,T,T,T,T,T,T,T,T,T,T,T,T,T,T,T,T,T,T,T,T,F,F,F,F,F,F,F,F,F,F,F,F] rfl rfl (any_of HT_.out (by kernel_rfl)) (fun _ _ _ h => h) (Or.inl ⟨by rfl, ?_⟩) ?_ ?_
                           rotate_left
                           ·exact zwx
                           rotate_left
                           ·exact zpx
                           refine pure_ (i := 41) (N := some 174) (v := ?_) (a' := ?_) #[T,T,T,T,T,T,T,T,T,T,T,T,T,T,T,T,T,T,T,T,T,T,T,T,T,T,T,T,T,T,T,T,T,T,T,T,T,T,T,T,F,T,F,F,F,F,F,F,F,F,F,F] rfl rfl (any_of HT_.out (by kernel_rfl)) (fun _ _ _ h => h) (Or.inl ⟨by rfl, ?_⟩) ?_ ?_
                           rotate_left
                           ·exact zwx
                           rotate_left
                           ·exact zpx
                           refine pure_ (i := 42) (N := some 175) (v := ?_) (a' := ?_) #[T,T,T,T,T,T,T,T,T,T,T,T,T,T,T,T,T,T,T,T,T,T,T,T,T,T,T,T,T,T,T,T,T,T,T,T,T,T,T,T,F,T,T,F,F,F,F,F,F,F,F,F] rfl rfl (any_of HT_.out (by kernel_rfl)) (fun _ _ _ h => h) (Or.inl ⟨by rfl, ?_⟩) ?_ ?_
                           rotate_left
                           ·exact zwx
                           rotate_left
                           ·exact zpx
                           refine take_ (i := 40) (N := some 173) (v := ?_) (a' := ?_) #[T,T,T,T,T,T,T,T,T,T,T,T,T,T,T,T,T,T,T,T,T,T,T,T,T,T,T,T,T,T,T,T,T,T,T,T,T,T,T,T,T,T,T,F,F,F,F,F,F,F,F,F] rfl rfl (take_ofW HT_.out HW_.out (by kernel_rfl)) (fun _ _ _ h => h) (Or.inl ⟨by rfl, ?_⟩) hHeld ?_ ?_
                           rotate_left
                           ·rintro w' ⟨s0, s1, s2, s3⟩
                            go_simp
                            with_reducible rfl
                           rotate_left
                           ·exact zpx
                           refine take_ (i := 43) (N := some 176) (v := ?_) (a' := ?_) #[T,T,T,T,T,T,T,T,T,T,T,T,T,T,T,T,T,T,T,T,T,T,T,T,T,T,T,T,T,T,T,T,T,T,T,T,T,T,T,T,T,T,T,T,F,F,F,F,F,F,F,F] rfl rfl (take_ofW HT_.out HW_.out (by kernel_rfl)) (fun _ _ _ h => h) (Or.inl ⟨by rfl, ?_⟩) hHeld ?_ ?_
                           rotate_left
                           ·rintro w' ⟨s0, s1, s2, s3⟩
                            go_simp
                            with_reducible rfl
                           rotate_left
                           ·exact zpx
                           refine pure_ (i := 44) (N := some 177) (v := ?_) (a' := ?_) #[T,T,T,T,T,T,T,T,T,T,T,T,T,T,T,T,T,T,T,T,T,T,T,T,T,T,T,T,T,T,T,T,T,T,T,T,T,T,T,T,T,T,T,T,T,F,F,F,F,F,F,F] rfl rfl (any_of HT_.out (by kernel_rfl)) (fun _ _ _ h => h) (Or.inl ⟨by rfl, ?_⟩) ?_ ?_
                           rotate_left
                           ·exact zwx
                           rotate_left
                           ·exact zpx
                           refine pure_ (i := 45) (N := some 178) (v := ?_) (a' := ?_) #[T,T,T,T,T,T,T,T,T,T,T,T,T,T,T,T,T,T,T,T,T,T,T,T,T,T,T,T,T,T,T,T,T,T,T,T,T,T,T,T,T,T,T,T,T,T,F,F,F,F,F,F] rfl rfl (any_of HT_.out (by kernel_rfl)) (fun _ _ _ h => h) (Or.inl ⟨by rfl, ?_⟩) ?_ ?_
                           rotate_left
                           ·exact zwx
                           rotate_left
                           ·exact zpx
                           refine pure_ (i := 46) (N := some 179) (v := ?_) (a' := ?_) #[T,T,T,T,T,T,T,T,T,T,T,T,T,T,T,T,T,T,T,T,T,T,T,T,T,T,T,T,T,T,T,T,T,T,T,T,T,T,T,T,T,T,T,T,T,T,T,F,F,F,F,F] rfl rfl (any_of HT_.out (by kernel_rfl)) (fun _ _ _ h => h) (Or.inl ⟨by rfl, ?_⟩) ?_ ?_
                           rotate_left
                           ·exact zwx
                           rotate_left
                           ·exact zpx
                           refine pure_ (i := 47) (N := some 180) (v := ?_) (a' := ?_) #[T,T,T,T,T,T,T,T,T,T,T,T,T,T,T,T,T,T,T,T,T,T,T,T,T,T,T,T,T,T,T,T,T,T,T,T,T,T,T,T,T,T,T,T,T,T,T,T,F,F,F,F] rfl rfl (any_of HT_.out (by kernel_rfl)) (fun _ _ _ h => h) (Or.inl ⟨by rfl, ?_⟩) ?_ ?_
                           rotate_left
                           ·exact zwx
                           rotate_left
                           ·exact zpx
                           refine pure_ (i := 48) (N := some 181) (v := ?_) (a' := ?_) #[T,T,T,T,T,T,T,T,T,T,T,T,T,T,T,T,T,T,T,T,T,T,T,T,T,T,T,T,T,T,T,T,T,T,T,T,T,T,T,T,T,T,T,T,T,T,T,T,T,F,F,F] rfl rfl (any_of HT_.out (by kernel_rfl)) (fun _ _ _ h => h) (Or.inl ⟨by rfl, ?_⟩) ?_ ?_
                           rotate_left
                           ·exact zwx
                           rotate_left
                           ·exact zpx
                           refine one_ (i := 49) (N := some 182) #[T,T,T,T,T,T,T,T,T,T,T,T,T,T,T,T,T,T,T,T,T,T,T,T,T,T,T,T,T,T,T,T,T,T,T,T,T,T,T,T,T,T,T,T,T,T,T,T,T,T,F,F] rfl rfl (one_of HT_.out (by kernel_rfl)) (by decide) (fun K hK => ?_)
                           refine goes_ Try.func41 (by kernel_rfl) rfl #[.slice Ao62 t448.length co62] (by rfl) rfl rfl zlx ?_
                           with_reducible refine (impl_IsValidQueue.calls kj27 _ _ t448 true _ ?side1 ?side2 A58.out).mono ?_
                           (case side1 => repeat (first | exact (Kd.R_reads' HO451.out).2.2 | (with_reducible refine Kd.C_alloc ?_ _) | (with_reducible refine Kd.C_drewN ?_ _) | (with_reducible refine Kd.C_drew ?_)))
                           (case side2 => exact (Kd.R_reads' HO451.out).2.1)
                           rintro e w70 ⟨rfl, hb⟩
                           have HS0_ := (hb.cell (World.block_lt_of_cell? _ _ (hHeld.1))).trans (hHeld.1)
                           have HS1_ := (hb.cell (World.block_lt_of_cell? _ _ (hHeld.2.1))).trans (hHeld.2.1)
                           have HS2_ := (hb.cell (World.block_lt_of_cell? _ _ (hHeld.2.2.1))).trans (hHeld.2.2.1)
                           have HS3_ := (hb.cell (World.block_lt_of_cell? _ _ (hHeld.2.2.2))).trans (hHeld.2.2.2)
                           refine ⟨_, rfl, ?_⟩
                           have n0_ := Aside0.mk (Kd.R_below (zRx HO_10.out) hb)
                           have n1_ := Aside0.mk (Kd.R_below (zRx HO_12.out) hb)
                           have n2_ := Aside0.mk (Kd.R_below (zRx HO451.out) hb)
                           have n3_ := Aside0.mk (Kd.R_below (zRx HO455.out) hb)
                           have n4_ := Aside0.mk (Kd.R_below (zRx HO459.out) hb)
                           have n5_ := Aside0.mk (Kd.R_below (zRx HO463.out) hb)
                           have n6_ := Aside0.mk (below_step (zBx HB.out) hb)
                           clear HO_10
                           clear HO_12
                           clear HO451
                           clear HO455
                           clear HO459
                           clear HO463
                           clear HB
                           have HO_10 := n0_
                           have HO_12 := n1_
                           have HO451 := n2_
                           have HO455 := n3_
                           have HO459 := n4_
                           have HO463 := n5_
                           have HB := n6_
                           clear n0_ n1_ n2_ n3_ n4_ n5_ n6_
                           (try clear hb)
                           (try clear hb2)
                           (try clear hk)
                           (try clear hi)
                           refine hK.out _ _ ⟨HS0_, HS1_, HS2_, HS3_⟩ (fun hHeld => ?_)
                           clear hK K
                           refine norm_ (a' := ?_) ?_ ?_
                           rotate_left
                           ·show Act.put _ (some 182) _ = _
                            simp only [Act.put, List.setIfInBounds_toArray, List.set_cons_zero, List.set_cons_succ, i64_w, i32_w]
                            rfl
                           refine pure_ (i := 50) (N := some 183) (v := ?_) (a' := ?_) #[T,T,T,T,T,T,T,T,T,T,T,T,T,T,T,T,T,T,T,T,T,T,T,T,T,T,T,T,T,T,T,T,T,T,T,T,T,T,T,T,T,T,T,T,T,T,T,T,T,T,T,F] rfl rfl (any_of HT_.out (by kernel_rfl)) (fun _ _ _ h => h) (Or.inl ⟨by rfl, ?_⟩) ?_ ?_
                           rotate_left
                           ·exact zwx
                           rotate_left
                           ·exact zpx
                           refine pure_ (i := 51) (N := some 184) (v := ?_) (a' := ?_) #[T,T,T,T,T,T,T,T,T,T,T,T,T,T,T,T,T,T,T,T,T,T,T,T,T,T,T,T,T,T,T,T,T,T,T,T,T,T,T,T,T,T,T,T,T,T,T,T,T,T,T,T] rfl rfl (any_of HT_.out (by kernel_rfl)) (fun _ _ _ h => h) (Or.inl ⟨by rfl, ?_⟩) ?_ ?_
                           rotate_left
                           ·exact zwx
                           rotate_left
                           ·exact zpx
                           refine done_ (done_of HT_.out (by kernel_rfl)) ?_
                           try go_wp2
                           go_meet
                           case rel => exact ⟨_, H', ⟨by have := HJ6.out; have := HJ16.out; have := HJ27.out; first | omega | exact Nat.le_refl _⟩, ⟨by exact zBx HB.out⟩⟩
                         ·replace c59 := Bool.eq_false_iff.mpr c59
                          subst c59
                          have H1 : (some false) = some r := by rw [if_neg (show ¬ (false = true) by decide)] at H; exact H
                          clear H
                          have H := H1
                          clear H1
                          as_aux_lemma =>
                           exact absurd (Option.some.inj H) (by rw [hr_]; decide)
                        ·rw [if_neg c57] at H
                         have c57b0 : ((rd t460 0) == (wrap64 ((rd t456 0) - 1))) = false := beq_eq_false_iff_ne.mpr c57
                         have c57b1 : ((rd t460 0) != (wrap64 ((rd t456 0) - 1))) = true := bne_iff_ne.mpr c57
                         as_aux_lemma =>
                          exact absurd (Option.some.inj H) (by rw [hr_]; decide)
                       ·rw [if_neg c56] at H
                        exact absurd H (by simp)
                      ·rw [if_neg c55] at H
                       exact absurd H (by simp)
                     ·rw [if_neg c54] at H
                      have c54b0 : ((rd t460 2) == (wrap64 ((rd t456 2) + 1))) = false := beq_eq_false_iff_ne.mpr c54
                      have c54b1 : ((rd t460 2) != (wrap64 ((rd t456 2) + 1))) = true := bne_iff_ne.mpr c54
                      as_aux_lemma =>
                       exact absurd (Option.some.inj H) (by rw [hr_]; decide)
                    ·rw [if_neg c53] at H
                     exact absurd H (by simp)
                   ·rw [if_neg c52] at H
                    exact absurd H (by simp)
                  ·rw [if_neg c51] at H
                   have c51b0 : ((t437.length : Int) == (t433.length : Int)) = false := beq_eq_false_iff_ne.mpr c51
                   have c51b1 : ((t437.length : Int) != (t433.length : Int)) = true := bne_iff_ne.mpr c51
                   have c51b2 : (t437.length == t433.length) = false := by first | simpa using c51 | (simp at c51 ⊢; omega)
                   (first | rw [c51b0] | (simp only [i64_w, i32_w]; rw [c51b0]) | skip)
                   as_aux_lemma =>
                    exact absurd (Option.some.inj H) (by rw [hr_]; decide)
                 ·replace c50 := Bool.eq_false_iff.mpr c50
                  subst c50
                  have H1 : (some false) = some r := by rw [if_neg (show ¬ (false = true) by decide)] at H; exact H
                  clear H
                  have H := H1
                  clear H1
                  as_aux_lemma =>
                   exact absurd (Option.some.inj H) (by rw [hr_]; decide)
                ·replace c48 := Bool.eq_false_iff.mpr c48
                 subst c48
                 have H1 : (some false) = some r := by rw [if_neg (show ¬ (false = true) by decide)] at H; exact H
                 clear H
                 have H := H1
                 clear H1
                 as_aux_lemma =>
                  exact absurd (Option.some.inj H) (by rw [hr_]; decide)
               ·replace c47 := Bool.eq_false_iff.mpr c47
                subst c47
                have H1 : (some false) = some r := by rw [if_neg (show ¬ (false = true) by decide)] at H; exact H
                clear H
                have H := H1
                clear H1
                as_aux_lemma =>
                 exact absurd (Option.some.inj H) (by rw [hr_]; decide)
              ·replace c46 := Bool.eq_false_iff.mpr c46
               subst c46
               have H1 : (some false) = some r := by rw [if_neg (show ¬ (false = true) by decide)] at H; exact H
               clear H
               have H := H1
               clear H1
               as_aux_lemma =>
                exact absurd (Option.some.inj H) (by rw [hr_]; decide)
             ·replace c45 := Bool.eq_false_iff.mpr c45
              subst c45
              have H1 : (some false) = some r := by rw [if_neg (show ¬ (false = true) by decide)] at H; exact H
              clear H
              have H := H1
              clear H1
              as_aux_lemma =>
               exact absurd (Option.some.inj H) (by rw [hr_]; decide)
            ·replace c40 := Bool.eq_false_iff.mpr c40
             subst c40
             have H1 : (laws_FnDeliveries.j3 kj27 l0) = some r := by rw [if_neg (show ¬ (false = true) by decide)] at H; exact H
             clear H
             have H := H1
             clear H1
             as_aux_lemma =>
              have H' := Aside0.mk H
              clear H
              go_wp2
              go_meet
              case rel => exact ⟨_, H', ⟨by have := HJ6.out; have := HJ16.out; have := HJ27.out; first | omega | exact Nat.le_refl _⟩, ⟨by exact zBx HB.out⟩⟩
           case rest =>
            as_aux_lemma =>
            clear HC39
            try clear p2
            try clear c4
            try clear c5
            try clear c40
            try clear c45
            try clear c54
            obtain ⟨kq, HA, HJ38, HB⟩ := hcut
            cases kq with
            | zero => exact absurd HA.out (by simp [laws_FnDeliveries.j3])
            | succ kj38 =>
             have H := HA.out
             clear HA
             simp only [laws_FnDeliveries.j3] at H
             replace H := Option.bind_eq_some_iff.mp H
             obtain ⟨⟨t470, t471⟩, A1460, H⟩ := H
             replace H : ((impl_TakeReceipt.f kj38 t470 t471).bind fun bt474 => ((spec_TakeReceipt.f kj38 t470 t471).bind fun bt478 => (if (bt474.2 == bt478.2) = true then ((laws_rQueues.f kj38 bt474.1 bt478.1).bind fun t482 => (some t482)) else (some false)))) = some r := H
             have A146 := Aside0.mk A1460
             clear A1460
             replace H := Option.bind_eq_some_iff.mp H
             obtain ⟨⟨t474, t475⟩, A1470, H⟩ := H
             replace H : ((spec_TakeReceipt.f kj38 t470 t471).bind fun bt478 => (if (t475 == bt478.2) = true then ((laws_rQueues.f kj38 t474 bt478.1).bind fun t482 => (some t482)) else (some false))) = some r := H
             have A147 := Aside0.mk A1470
             clear A1470
             replace H := Option.bind_eq_some_iff.mp H
             obtain ⟨⟨t478, t479⟩, A1480, H⟩ := H
             replace H : (if (t475 == t479) = true then ((laws_rQueues.f kj38 t474 t478).bind fun t482 => (some t482)) else (some false)) = some r := H
             have A148 := Aside0.mk A1480
             clear A1480
             by_cases c149 : (t475 == t479) = true
             ·rw [if_pos c149] at H
              have c149b0 : (t475 == t479) = true := c149
              (try (have c149b1 : decide (t475 = t479) = true := by simpa using c149))
              (try (have c149b2 : (t475 == t479) = true := by simpa using c149))
              clear c149
              replace H := Option.bind_eq_some_iff.mp H
              obtain ⟨t482, A1500, H⟩ := H
              replace H : (some t482) = some r := H
              have A150 := Aside0.mk A1500
              clear A1500
              as_aux_lemma =>
               obtain rfl := Option.some.inj H
               go_wp2_with (first | ((with_reducible refine gate_callee (f := 55) rfl ?_); refine goesL_ (some 187) rfl rfl Try.func55 (by kernel_rfl) rfl #[.slice A0 l0.length c0] rfl zlx ?_; (with_reducible refine (spec_DrawTakeReceipt.calls kj38 _ _ l0 t470 t471 _ ?side1 ?side2 A146.out).mono ?_); (case side1 => repeat (first | exact (Kd.C_below HR0.out HB.out) | (with_reducible refine Kd.C_alloc ?_ _) | (with_reducible refine Kd.C_drewN ?_ _) | (with_reducible refine Kd.C_drew ?_))); (case side2 => exact HC0.out); rintro e w151 ⟨v472, rfl, ho0, hb⟩; refine ⟨_, rfl, ?_⟩; have n0_ := Aside0.mk (Kd.R_lower ho0 (below_size (zBx HB.out))); have n1_ := Aside0.mk (below_step (zBx HB.out) hb); clear HB; have HO473 := n0_; have HB := n1_; clear n0_ n1_; (try clear hb); (try clear hb2); (try clear hk); (try clear hi); (try clear ho0); obtain ⟨Ao152, co152, eo152⟩ := Kd.R_slice HO473.out; subst eo152) | ((with_reducible refine gate_callee (f := 54) rfl ?_); refine goesL_ (some 193) rfl rfl Try.func54 (by kernel_rfl) rfl #[.slice Ao152 t470.length co152, .int .i64 t471] rfl zlx ?_; (with_reducible refine (impl_TakeReceipt.calls kj38 _ _ t470 t471 t474 t475 _ ?side1 ?side2 A147.out).mono ?_); (case side1 => repeat (first | exact (Kd.R_reads' HO473.out).2.2 | (with_reducible refine Kd.C_alloc ?_ _) | (with_reducible refine Kd.C_drewN ?_ _) | (with_reducible refine Kd.C_drew ?_))); (case side2 => exact (Kd.R_reads' HO473.out).2.1); rintro e w153 ⟨v476, rfl, ho0, hb⟩; refine ⟨_, rfl, ?_⟩; have n0_ := Aside0.mk (Kd.R_elder' (zRx HO473.out) (Kd.R_base ho0) hb); have n1_ := Aside0.mk (Kd.R_lower (Kd.R_new' ho0 (Kd.R_lt (zRx HO473.out))) (below_size (zBx HB.out))); have n2_ := Aside0.mk (below_step (zBx HB.out) hb); clear HO473; clear HB; have HO473 := n0_; have HO477 := n1_; have HB := n2_; clear n0_ n1_ n2_; (try clear hb); (try clear hb2); (try clear hk); (try clear hi); (try clear ho0)) | ((with_reducible refine gate_callee (f := 56) rfl ?_); refine goesL_ (some 199) rfl rfl Try.func56 (by kernel_rfl) rfl #[.slice Ao152 t470.length co152, .int .i64 t471] rfl zlx ?_; (with_reducible refine (spec_TakeReceipt.calls kj38 _ _ t470 t471 t478 t479 _ ?side1 ?side2 A148.out).mono ?_); (case side1 => repeat (first | exact (Kd.R_reads' HO473.out).2.2 | (with_reducible refine Kd.C_alloc ?_ _) | (with_reducible refine Kd.C_drewN ?_ _) | (with_reducible refine Kd.C_drew ?_))); (case side2 => exact (Kd.R_reads' HO473.out).2.1); rintro e w154 ⟨v480, rfl, ho0, hb⟩; refine ⟨_, rfl, ?_⟩; have n0_ := Aside0.mk (Kd.R_elder' (zRx HO473.out) (Kd.R_base ho0) hb); have n1_ := Aside0.mk (Kd.R_elder' (zRx HO477.out) (Kd.R_base ho0) hb); have n2_ := Aside0.mk (Kd.R_lower (Kd.R_new' (Kd.R_new' ho0 (Kd.R_lt (zRx HO473.out))) (Kd.R_lt (zRx HO477.out))) (below_size (zBx HB.out))); have n3_ := Aside0.mk (below_step (zBx HB.out) hb); clear HO473; clear HO477; clear HB; have HO473 := n0_; have HO477 := n1_; have HO481 := n2_; have HB := n3_; clear n0_ n1_ n2_ n3_; (try clear hb); (try clear hb2); (try clear hk); (try clear hi); (try clear ho0); obtain ⟨Ao155, co155, eo155⟩ := Kd.R_slice HO477.out; subst eo155; obtain ⟨Ao156, co156, eo156⟩ := Kd.R_slice HO481.out; subst eo156) | (go_at_call 37; (with_reducible refine (laws_rQueues.calls kj38 _ _ t474 _ _ t478 t482 _ ?side1 ?side2 ?side3 ?side4 A150.out).mono ?_); (case side1 => repeat (first | exact (Kd.R_reads' HO477.out).2.2 | (with_reducible refine Kd.C_alloc ?_ _) | (with_reducible refine Kd.C_drewN ?_ _) | (with_reducible refine Kd.C_drew ?_))); (case side2 => exact (Kd.R_reads' HO477.out).2.1); (case side3 => repeat (first | exact (Kd.R_reads' HO481.out).2.2 | (with_reducible refine Kd.C_alloc ?_ _) | (with_reducible refine Kd.C_drewN ?_ _) | (with_reducible refine Kd.C_drew ?_))); (case side4 => exact (Kd.R_reads' HO481.out).2.1); rintro e w' ⟨rfl, ⟨nd, rfl⟩⟩))
               go_ret
               exact ⟨by first | rfl | (simp [errW_none, errW_some] <;> rfl) | (simp [*, errW_none, errW_some] <;> rfl), by exact zBx HB.out⟩
             ·rw [if_neg c149] at H
              have c149b0 : (t475 == t479) = false := by simpa using c149
              (try (have c149b1 : decide (t475 = t479) = false := by simpa using c149))
              (try (have c149b2 : (t475 == t479) = false := by simpa using c149))
              (try (have c149b3 : ¬ (t475 = t479) := by simpa using c149))
              clear c149
              as_aux_lemma =>
               exact absurd (Option.some.inj H) (by rw [hr_]; decide)

/-- THE ONE PURE STATEMENT of laws_FnDeliveries: yours. -/
def laws_FnDeliveries.Pure : Prop := ∀ (l0 : List Int), l0.length ≤ maxLen → l0.length * 1 ≤ 140737488351232 → (∀ x ∈ l0, (Lit.int .u8 x).wf = true) → ∃ k, laws_FnDeliveries.f k l0 = some true
theorem laws_FnDeliveries.walk (P : laws_FnDeliveries.Pure) (a0 : Option Addr) (len0 cap0 : Nat) (z0 : List Int) (w : World) (w0 : (a0 = none ∧ len0 = 0 ∧ cap0 = 0 ∧ z0 = []) ∨ ∃ x, a0 = some x ∧ len0 ≤ cap0 ∧ cap0 ≤ maxLen ∧ z0.length = cap0 ∧ (∀ i, i < z0.length → w.cell? (x.add i) = some (.int .u8 (z0.getD i 0))) ∧ ∀ n ∈ z0, (Lit.int .u8 n).wf = true) (y0 : len0 * 1 ≤ 140737488351232) :
 Calls Try.prog 6 #[.slice a0 len0 cap0] w fun e w' => e = .returned (.bool true) ∧ Below w.heap.size w w' := by
 obtain ⟨l0, rfl, hr0, hm0, hw0, hc0⟩ := ReadsInt.ofRowC w0
 obtain ⟨k, h⟩ := P l0 hm0 y0 hw0
 refine (laws_FnDeliveries.calls k _ _ l0 true w (Kd.C_of_reads (d := (0 : Int)) (h1 := fun _ => rfl) hr0) hc0 h rfl).mono ?_
 rintro e w' ⟨rfl, hd⟩
 exact ⟨rfl, hd⟩

end Go.Proofs.Ytkegkbpadhddkaa.XFnDeliveries
