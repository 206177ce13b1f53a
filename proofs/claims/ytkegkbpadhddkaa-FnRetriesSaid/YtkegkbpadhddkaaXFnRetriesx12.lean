-- written by wip/tools/xprint.py (a program of this project) out of the translation
import Derived.Test.YtkegkbpadhddkaaXFnRetriesx0
import Derived.Test.YtkegkbpadhddkaaXFnRetriesx2
import Derived.Test.YtkegkbpadhddkaaXFnRetriesx4
import Derived.Test.YtkegkbpadhddkaaXFnRetriesx5
import Derived.Test.YtkegkbpadhddkaaXFnRetriesx6
import Derived.Test.YtkegkbpadhddkaaXFnRetriesx9
import Derived.Test.YtkegkbpadhddkaaXFnRetriesx10
import Derived.Test.YtkegkbpadhddkaaXFnRetriesx11
namespace Go.Proofs.Ytkegkbpadhddkaa.XFnRetries
open Go.RowKit Go.Proofs.YtkegkbpadhddkaaW.PrintWords Go.Proofs.YtkegkbpadhddkaaW.PrintLast Go.Proofs.YtkegkbpadhddkaaW.PrintMore
attribute [local go_sem] max2_int min2_int max_two min_two max_three min_three max_four min_four   -- for this text's walks alone
set_option linter.unusedVariables false
set_option linter.unusedSimpArgs false

/-! ### laws_FnRetries: function 5 -/
mutual
def laws_FnRetries.j0 : Nat → List Int → List (S59) → Int → List (S59) → List Int → Bool → Bool → Option (Bool)
 | 0, _, _, _, _, _, _, _ => none
 | k + 1, x0, x3, x4, x5, x6, x7, x66 => if x66 = true then (some false) else (if x7 = true then (laws_FnRetries.l0 k x0 x3 x4 x5 x6 0) else (laws_FnRetries.j2 k x0))
def laws_FnRetries.j2 : Nat → List Int → Option (Bool)
 | 0, _ => none
 | k + 1, x0 => (spec_DrawNextMinute.f k x0).bind fun t399 => ((impl_NextMinute.f k t399).bind fun bt402 => ((spec_NextMinute.f k t399).bind fun bt404 => (if bt402.1 = bt404.1 then (laws_FnRetries.j3 k x0 t399 bt402.2 (bt402.2 != bt404.2)) else (laws_FnRetries.j3 k x0 t399 bt402.2 true))))
def laws_FnRetries.j3 : Nat → List Int → List (S59) → Bool → Bool → Option (Bool)
 | 0, _, _, _, _ => none
 | k + 1, x0, x19, x21, x188 => if x188 = true then (some false) else ((impl_PruneQueue.f k x19).bind fun bt406 => (if bt406.2 = true then (laws_FnRetries.j4 k x0 (x21 != (decide ((bt406.1.length : Int) > 0)))) else (laws_FnRetries.j4 k x0 false)))
def laws_FnRetries.j4 : Nat → List Int → Bool → Option (Bool)
 | 0, _, _ => none
 | k + 1, x0, x201 => if x201 = true then (some false) else ((spec_DrawWorstWait.f x0).bind fun t410 => ((impl_WorstWait.f k t410).bind fun bt411 => ((spec_WorstWait.f k t410).bind fun bt413 => (if bt411.1 = bt413.1 then (some (bt411.2 == bt413.2)) else (some false)))))
def laws_FnRetries.l0 : Nat → List Int → List (S59) → Int → List (S59) → List Int → Int → Option (Bool)
 | 0, _, _, _, _, _, _ => none
 | k + 1, x0, x3, x4, x5, x6, x11 => if x11 < (x5.length : Int) then (if 0 ≤ x11 then (if ((rd_T59 x5 x11).f1) = 2 then (if ((rd_T59 x5 x11).f3) ≤ x4 then (some false) else ((laws_rHas.f k x6 ((rd_T59 x5 x11).f0)).bind fun t373 => (if t373 = true then (if ((rd_T59 x5 x11).f1) = 4 then (if x11 < (x3.length : Int) then (if ((rd_T59 x3 x11).f2) = 5 then (laws_FnRetries.l0 k x0 x3 x4 x5 x6 (wrap64 (x11 + 1))) else (some false)) else (none)) else (some false)) else (laws_FnRetries.l0 k x0 x3 x4 x5 x6 (wrap64 (x11 + 1)))))) else ((laws_rHas.f k x6 ((rd_T59 x5 x11).f0)).bind fun t377 => (if t377 = true then (if ((rd_T59 x5 x11).f1) = 4 then (if x11 < (x3.length : Int) then (if ((rd_T59 x3 x11).f2) = 5 then (laws_FnRetries.l0 k x0 x3 x4 x5 x6 (wrap64 (x11 + 1))) else (some false)) else (none)) else (some false)) else (laws_FnRetries.l0 k x0 x3 x4 x5 x6 (wrap64 (x11 + 1)))))) else (none)) else ((impl_PruneQueue.f k x5).bind fun bt380 => ((impl_CountStates.f k bt380.1).bind fun bt384 => ((impl_PassMinute.f k x5 x4).bind fun bt388 => (if bt380.2 = true then (if bt384.2 = true then (if bt388.2.2 = true then (if 2 < (bt384.1.length : Int) then (if (rd bt384.1 2) = 0 then (if 3 < (bt384.1.length : Int) then (if (rd bt384.1 3) = 0 then (if (bt388.2.1.length : Int) = 0 then ((laws_rQueues.f k bt388.1 x5).bind fun t397 => (if t397 = true then ((impl_IsValidQueue.f k x5).bind fun t398 => (if t398 = true then (laws_FnRetries.j2 k x0) else (some false))) else (some false))) else (some false)) else (some false)) else (none)) else (some false)) else (none)) else (some false)) else (some false)) else (some false)))))
end
def laws_FnRetries.f (k : Nat) (l0 : List Int) : Option (Bool) := (laws_rBig.f l0).bind fun t349 => (if t349 = true then (some true) else ((spec_DrawPassMinute.f k l0).bind fun bt350 => ((impl_PassMinute.f k bt350.1 bt350.2).bind fun bt354 => ((spec_PassMinute.f k bt350.1 bt350.2).bind fun bt361 => (if (bt354.2.2 != bt361.2.2) = true then (laws_FnRetries.j0 k l0 bt350.1 bt350.2 bt354.1 bt354.2.1 bt354.2.2 true) else ((laws_rInts.f k bt354.2.1 bt361.2.1).bind fun t368 => (if t368 = true then ((laws_rQueues.f k bt354.1 bt361.1).bind fun t369 => (laws_FnRetries.j0 k l0 bt350.1 bt350.2 bt354.1 bt354.2.1 bt354.2.2 (!t369))) else (laws_FnRetries.j0 k l0 bt350.1 bt350.2 bt354.1 bt354.2.1 bt354.2.2 true))))))))
theorem laws_FnRetries.mono_l : ∀ k, (∀ y0 y1 y2 y3 y4 y5 y6, LeO (laws_FnRetries.j0 k y0 y1 y2 y3 y4 y5 y6) (laws_FnRetries.j0 (k + 1) y0 y1 y2 y3 y4 y5 y6)) ∧ (∀ y0, LeO (laws_FnRetries.j2 k y0) (laws_FnRetries.j2 (k + 1) y0)) ∧ (∀ y0 y1 y2 y3, LeO (laws_FnRetries.j3 k y0 y1 y2 y3) (laws_FnRetries.j3 (k + 1) y0 y1 y2 y3)) ∧ (∀ y0 y1, LeO (laws_FnRetries.j4 k y0 y1) (laws_FnRetries.j4 (k + 1) y0 y1)) ∧ (∀ y0 y1 y2 y3 y4 y5, LeO (laws_FnRetries.l0 k y0 y1 y2 y3 y4 y5) (laws_FnRetries.l0 (k + 1) y0 y1 y2 y3 y4 y5))
 | 0 => ⟨fun _ _ _ _ _ _ _ r h => by simp [laws_FnRetries.j0] at h, fun _ r h => by simp [laws_FnRetries.j2] at h, fun _ _ _ _ r h => by simp [laws_FnRetries.j3] at h, fun _ _ r h => by simp [laws_FnRetries.j4] at h, fun _ _ _ _ _ _ r h => by simp [laws_FnRetries.l0] at h⟩
 | k + 1 => by
  obtain ⟨ih0, ih1, ih2, ih3, ih4⟩ := laws_FnRetries.mono_l k
  refine ⟨?_, ?_, ?_, ?_, ?_⟩
  ·intro y0 y1 y2 y3 y4 y5 y6
   unfold laws_FnRetries.j0
   repeat' first
   | (with_reducible exact ih0 _ _ _ _ _ _ _)
   | (with_reducible exact ih1 _)
   | (with_reducible exact ih2 _ _ _ _)
   | (with_reducible exact ih3 _ _)
   | (with_reducible exact ih4 _ _ _ _ _ _)
   | (with_reducible exact impl_CountStates.mono _ _)
   | (with_reducible exact impl_IsValidQueue.mono _ _)
   | (with_reducible exact impl_NextMinute.mono _ _)
   | (with_reducible exact impl_PassMinute.mono _ _ _)
   | (with_reducible exact impl_PruneQueue.mono _ _)
   | (with_reducible exact impl_WorstWait.mono _ _)
   | (with_reducible exact laws_rHas.mono _ _ _)
   | (with_reducible exact laws_rInts.mono _ _ _)
   | (with_reducible exact laws_rQueues.mono _ _ _)
   | (with_reducible exact spec_DrawNextMinute.mono _ _)
   | (with_reducible exact spec_DrawPassMinute.mono _ _)
   | (with_reducible exact spec_NextMinute.mono _ _)
   | (with_reducible exact spec_PassMinute.mono _ _ _)
   | (with_reducible exact spec_WorstWait.mono _ _)
   | (with_reducible exact LeO.refl _)
   | (with_reducible exact LeO.none _)
   | (with_reducible refine LeO.ite ?_ ?_)
   | (with_reducible refine LeO.bind ?_ (fun _ => ?_))
   | exact ih0 _ _ _ _ _ _ _
   | exact ih1 _
   | exact ih2 _ _ _ _
   | exact ih3 _ _
   | exact ih4 _ _ _ _ _ _
   | exact impl_CountStates.mono _ _
   | exact impl_IsValidQueue.mono _ _
   | exact impl_NextMinute.mono _ _
   | exact impl_PassMinute.mono _ _ _
   | exact impl_PruneQueue.mono _ _
   | exact impl_WorstWait.mono _ _
   | exact laws_rHas.mono _ _ _
   | exact laws_rInts.mono _ _ _
   | exact laws_rQueues.mono _ _ _
   | exact spec_DrawNextMinute.mono _ _
   | exact spec_DrawPassMinute.mono _ _
   | exact spec_NextMinute.mono _ _
   | exact spec_PassMinute.mono _ _ _
   | exact spec_WorstWait.mono _ _
   | exact LeO.none _
   | refine LeO.ite ?_ ?_
   | refine LeO.bind ?_ (fun _ => ?_)
  ·intro y0
   unfold laws_FnRetries.j2
   repeat' first
   | (with_reducible exact ih0 _ _ _ _ _ _ _)
   | (with_reducible exact ih1 _)
   | (with_reducible exact ih2 _ _ _ _)
   | (with_reducible exact ih3 _ _)
   | (with_reducible exact ih4 _ _ _ _ _ _)
   | (with_reducible exact impl_CountStates.mono _ _)
   | (with_reducible exact impl_IsValidQueue.mono _ _)
   | (with_reducible exact impl_NextMinute.mono _ _)
   | (with_reducible exact impl_PassMinute.mono _ _ _)
   | (with_reducible exact impl_PruneQueue.mono _ _)
   | (with_reducible exact impl_WorstWait.mono _ _)
   | (with_reducible exact laws_rHas.mono _ _ _)
   | (with_reducible exact laws_rInts.mono _ _ _)
   | (with_reducible exact laws_rQueues.mono _ _ _)
   | (with_reducible exact spec_DrawNextMinute.mono _ _)
   | (with_reducible exact spec_DrawPassMinute.mono _ _)
   | (with_reducible exact spec_NextMinute.mono _ _)
   | (with_reducible exact spec_PassMinute.mono _ _ _)
   | (with_reducible exact spec_WorstWait.mono _ _)
   | (with_reducible exact LeO.refl _)
   | (with_reducible exact LeO.none _)
   | (with_reducible refine LeO.ite ?_ ?_)
   | (with_reducible refine LeO.bind ?_ (fun _ => ?_))
   | exact ih0 _ _ _ _ _ _ _
   | exact ih1 _
   | exact ih2 _ _ _ _
   | exact ih3 _ _
   | exact ih4 _ _ _ _ _ _
   | exact impl_CountStates.mono _ _
   | exact impl_IsValidQueue.mono _ _
   | exact impl_NextMinute.mono _ _
   | exact impl_PassMinute.mono _ _ _
   | exact impl_PruneQueue.mono _ _
   | exact impl_WorstWait.mono _ _
   | exact laws_rHas.mono _ _ _
   | exact laws_rInts.mono _ _ _
   | exact laws_rQueues.mono _ _ _
   | exact spec_DrawNextMinute.mono _ _
   | exact spec_DrawPassMinute.mono _ _
   | exact spec_NextMinute.mono _ _
   | exact spec_PassMinute.mono _ _ _
   | exact spec_WorstWait.mono _ _
   | exact LeO.none _
   | refine LeO.ite ?_ ?_
   | refine LeO.bind ?_ (fun _ => ?_)
  ·intro y0 y1 y2 y3
   unfold laws_FnRetries.j3
   repeat' first
   | (with_reducible exact ih0 _ _ _ _ _ _ _)
   | (with_reducible exact ih1 _)
   | (with_reducible exact ih2 _ _ _ _)
   | (with_reducible exact ih3 _ _)
   | (with_reducible exact ih4 _ _ _ _ _ _)
   | (with_reducible exact impl_CountStates.mono _ _)
   | (with_reducible exact impl_IsValidQueue.mono _ _)
   | (with_reducible exact impl_NextMinute.mono _ _)
   | (with_reducible exact impl_PassMinute.mono _ _ _)
   | (with_reducible exact impl_PruneQueue.mono _ _)
   | (with_reducible exact impl_WorstWait.mono _ _)
   | (with_reducible exact laws_rHas.mono _ _ _)
   | (with_reducible exact laws_rInts.mono _ _ _)
   | (with_reducible exact laws_rQueues.mono _ _ _)
   | (with_reducible exact spec_DrawNextMinute.mono _ _)
   | (with_reducible exact spec_DrawPassMinute.mono _ _)
   | (with_reducible exact spec_NextMinute.mono _ _)
   | (with_reducible exact spec_PassMinute.mono _ _ _)
   | (with_reducible exact spec_WorstWait.mono _ _)
   | (with_reducible exact LeO.refl _)
   | (with_reducible exact LeO.none _)
   | (with_reducible refine LeO.ite ?_ ?_)
   | (with_reducible refine LeO.bind ?_ (fun _ => ?_))
   | exact ih0 _ _ _ _ _ _ _
   | exact ih1 _
   | exact ih2 _ _ _ _
   | exact ih3 _ _
   | exact ih4 _ _ _ _ _ _
   | exact impl_CountStates.mono _ _
   | exact impl_IsValidQueue.mono _ _
   | exact impl_NextMinute.mono _ _
   | exact impl_PassMinute.mono _ _ _
   | exact impl_PruneQueue.mono _ _
   | exact impl_WorstWait.mono _ _
   | exact laws_rHas.mono _ _ _
   | exact laws_rInts.mono _ _ _
   | exact laws_rQueues.mono _ _ _
   | exact spec_DrawNextMinute.mono _ _
   | exact spec_DrawPassMinute.mono _ _
   | exact spec_NextMinute.mono _ _
   | exact spec_PassMinute.mono _ _ _
   | exact spec_WorstWait.mono _ _
   | exact LeO.none _
   | refine LeO.ite ?_ ?_
   | refine LeO.bind ?_ (fun _ => ?_)
  ·intro y0 y1
   unfold laws_FnRetries.j4
   repeat' first
   | (with_reducible exact ih0 _ _ _ _ _ _ _)
   | (with_reducible exact ih1 _)
   | (with_reducible exact ih2 _ _ _ _)
   | (with_reducible exact ih3 _ _)
   | (with_reducible exact ih4 _ _ _ _ _ _)
   | (with_reducible exact impl_CountStates.mono _ _)
   | (with_reducible exact impl_IsValidQueue.mono _ _)
   | (with_reducible exact impl_NextMinute.mono _ _)
   | (with_reducible exact impl_PassMinute.mono _ _ _)
   | (with_reducible exact impl_PruneQueue.mono _ _)
   | (with_reducible exact impl_WorstWait.mono _ _)
   | (with_reducible exact laws_rHas.mono _ _ _)
   | (with_reducible exact laws_rInts.mono _ _ _)
   | (with_reducible exact laws_rQueues.mono _ _ _)
   | (with_reducible exact spec_DrawNextMinute.mono _ _)
   | (with_reducible exact spec_DrawPassMinute.mono _ _)
   | (with_reducible exact spec_NextMinute.mono _ _)
   | (with_reducible exact spec_PassMinute.mono _ _ _)
   | (with_reducible exact spec_WorstWait.mono _ _)
   | (with_reducible exact LeO.refl _)
   | (with_reducible exact LeO.none _)
   | (with_reducible refine LeO.ite ?_ ?_)
   | (with_reducible refine LeO.bind ?_ (fun _ => ?_))
   | exact ih0 _ _ _ _ _ _ _
   | exact ih1 _
   | exact ih2 _ _ _ _
   | exact ih3 _ _
   | exact ih4 _ _ _ _ _ _
   | exact impl_CountStates.mono _ _
   | exact impl_IsValidQueue.mono _ _
   | exact impl_NextMinute.mono _ _
   | exact impl_PassMinute.mono _ _ _
   | exact impl_PruneQueue.mono _ _
   | exact impl_WorstWait.mono _ _
   | exact laws_rHas.mono _ _ _
   | exact laws_rInts.mono _ _ _
   | exact laws_rQueues.mono _ _ _
   | exact spec_DrawNextMinute.mono _ _
   | exact spec_DrawPassMinute.mono _ _
   | exact spec_NextMinute.mono _ _
   | exact spec_PassMinute.mono _ _ _
   | exact spec_WorstWait.mono _ _
   | exact LeO.none _
   | refine LeO.ite ?_ ?_
   | refine LeO.bind ?_ (fun _ => ?_)
  ·intro y0 y1 y2 y3 y4 y5
   unfold laws_FnRetries.l0
   repeat' first
   | (with_reducible exact ih0 _ _ _ _ _ _ _)
   | (with_reducible exact ih1 _)
   | (with_reducible exact ih2 _ _ _ _)
   | (with_reducible exact ih3 _ _)
   | (with_reducible exact ih4 _ _ _ _ _ _)
   | (with_reducible exact impl_CountStates.mono _ _)
   | (with_reducible exact impl_IsValidQueue.mono _ _)
   | (with_reducible exact impl_NextMinute.mono _ _)
   | (with_reducible exact impl_PassMinute.mono _ _ _)
   | (with_reducible exact impl_PruneQueue.mono _ _)
   | (with_reducible exact impl_WorstWait.mono _ _)
   | (with_reducible exact laws_rHas.mono _ _ _)
   | (with_reducible exact laws_rInts.mono _ _ _)
   | (with_reducible exact laws_rQueues.mono _ _ _)
   | (with_reducible exact spec_DrawNextMinute.mono _ _)
   | (with_reducible exact spec_DrawPassMinute.mono _ _)
   | (with_reducible exact spec_NextMinute.mono _ _)
   | (with_reducible exact spec_PassMinute.mono _ _ _)
   | (with_reducible exact spec_WorstWait.mono _ _)
   | (with_reducible exact LeO.refl _)
   | (with_reducible exact LeO.none _)
   | (with_reducible refine LeO.ite ?_ ?_)
   | (with_reducible refine LeO.bind ?_ (fun _ => ?_))
   | exact ih0 _ _ _ _ _ _ _
   | exact ih1 _
   | exact ih2 _ _ _ _
   | exact ih3 _ _
   | exact ih4 _ _ _ _ _ _
   | exact impl_CountStates.mono _ _
   | exact impl_IsValidQueue.mono _ _
   | exact impl_NextMinute.mono _ _
   | exact impl_PassMinute.mono _ _ _
   | exact impl_PruneQueue.mono _ _
   | exact impl_WorstWait.mono _ _
   | exact laws_rHas.mono _ _ _
   | exact laws_rInts.mono _ _ _
   | exact laws_rQueues.mono _ _ _
   | exact spec_DrawNextMinute.mono _ _
   | exact spec_DrawPassMinute.mono _ _
   | exact spec_NextMinute.mono _ _
   | exact spec_PassMinute.mono _ _ _
   | exact spec_WorstWait.mono _ _
   | exact LeO.none _
   | refine LeO.ite ?_ ?_
   | refine LeO.bind ?_ (fun _ => ?_)
theorem laws_FnRetries.mono : ∀ a0 k, LeO (laws_FnRetries.f k a0) (laws_FnRetries.f (k + 1) a0) := by
 intro a0 k
 obtain ⟨ih0, ih1, ih2, ih3, ih4⟩ := laws_FnRetries.mono_l k
 unfold laws_FnRetries.f
 repeat' first
  | (with_reducible exact ih0 _ _ _ _ _ _ _)
  | (with_reducible exact ih1 _)
  | (with_reducible exact ih2 _ _ _ _)
  | (with_reducible exact ih3 _ _)
  | (with_reducible exact ih4 _ _ _ _ _ _)
  | (with_reducible exact impl_CountStates.mono _ _)
  | (with_reducible exact impl_IsValidQueue.mono _ _)
  | (with_reducible exact impl_NextMinute.mono _ _)
  | (with_reducible exact impl_PassMinute.mono _ _ _)
  | (with_reducible exact impl_PruneQueue.mono _ _)
  | (with_reducible exact impl_WorstWait.mono _ _)
  | (with_reducible exact laws_rHas.mono _ _ _)
  | (with_reducible exact laws_rInts.mono _ _ _)
  | (with_reducible exact laws_rQueues.mono _ _ _)
  | (with_reducible exact spec_DrawNextMinute.mono _ _)
  | (with_reducible exact spec_DrawPassMinute.mono _ _)
  | (with_reducible exact spec_NextMinute.mono _ _)
  | (with_reducible exact spec_PassMinute.mono _ _ _)
  | (with_reducible exact spec_WorstWait.mono _ _)
  | (with_reducible exact LeO.refl _)
  | (with_reducible exact LeO.none _)
  | (with_reducible refine LeO.ite ?_ ?_)
  | (with_reducible refine LeO.bind ?_ (fun _ => ?_))
  | exact ih0 _ _ _ _ _ _ _
  | exact ih1 _
  | exact ih2 _ _ _ _
  | exact ih3 _ _
  | exact ih4 _ _ _ _ _ _
  | exact impl_CountStates.mono _ _
  | exact impl_IsValidQueue.mono _ _
  | exact impl_NextMinute.mono _ _
  | exact impl_PassMinute.mono _ _ _
  | exact impl_PruneQueue.mono _ _
  | exact impl_WorstWait.mono _ _
  | exact laws_rHas.mono _ _ _
  | exact laws_rInts.mono _ _ _
  | exact laws_rQueues.mono _ _ _
  | exact spec_DrawNextMinute.mono _ _
  | exact spec_DrawPassMinute.mono _ _
  | exact spec_NextMinute.mono _ _
  | exact spec_PassMinute.mono _ _ _
  | exact spec_WorstWait.mono _ _
  | exact LeO.none _
  | refine LeO.ite ?_ ?_
  | refine LeO.bind ?_ (fun _ => ?_)
set_option maxHeartbeats 8000000 in
set_option maxRecDepth 100000 in
theorem laws_FnRetries.calls (k : Nat) (A0 : Option Addr) (c0 : Nat) (l0 : List Int) (r : Bool) (w : World) (hr0 : Kd.C (Kd.int .u8) w A0 l0.length l0) (hc0 : l0.length ≤ c0) (h : laws_FnRetries.f k l0 = some r) (hr_ : r = true) :
 Calls Try.prog 5 #[.slice A0 l0.length c0] w fun e w' => e = .returned (.bool r) ∧ Below w.heap.size w w' := by
 have HR0 := Aside0.mk hr0
 have HC0 := Aside0.mk hc0
 clear hr0 hc0
 have HB := Aside0.mk (Below.refl w.heap.size w)
 have H : ((laws_rBig.f l0).bind fun t349 => (if t349 = true then (some true) else ((spec_DrawPassMinute.f k l0).bind fun bt350 => ((impl_PassMinute.f k bt350.1 bt350.2).bind fun bt354 => ((spec_PassMinute.f k bt350.1 bt350.2).bind fun bt361 => (if (bt354.2.2 != bt361.2.2) = true then (laws_FnRetries.j0 k l0 bt350.1 bt350.2 bt354.1 bt354.2.1 bt354.2.2 true) else ((laws_rInts.f k bt354.2.1 bt361.2.1).bind fun t368 => (if t368 = true then ((laws_rQueues.f k bt354.1 bt361.1).bind fun t369 => (laws_FnRetries.j0 k l0 bt350.1 bt350.2 bt354.1 bt354.2.1 bt354.2.2 (!t369))) else (laws_FnRetries.j0 k l0 bt350.1 bt350.2 bt354.1 bt354.2.1 bt354.2.2 true))))))))) = some r := h
 clear h
 replace H := Option.bind_eq_some_iff.mp H
 obtain ⟨t349, A20, H⟩ := H
 replace H : (if t349 = true then (some true) else ((spec_DrawPassMinute.f k l0).bind fun bt350 => ((impl_PassMinute.f k bt350.1 bt350.2).bind fun bt354 => ((spec_PassMinute.f k bt350.1 bt350.2).bind fun bt361 => (if (bt354.2.2 != bt361.2.2) = true then (laws_FnRetries.j0 k l0 bt350.1 bt350.2 bt354.1 bt354.2.1 bt354.2.2 true) else ((laws_rInts.f k bt354.2.1 bt361.2.1).bind fun t368 => (if t368 = true then ((laws_rQueues.f k bt354.1 bt361.1).bind fun t369 => (laws_FnRetries.j0 k l0 bt350.1 bt350.2 bt354.1 bt354.2.1 bt354.2.2 (!t369))) else (laws_FnRetries.j0 k l0 bt350.1 bt350.2 bt354.1 bt354.2.1 bt354.2.2 true)))))))) = some r := H
 have A2 := Aside0.mk A20
 clear A20
 by_cases c3 : t349 = true
 ·subst c3
  have H1 : (some true) = some r := by rw [if_pos rfl] at H; exact H
  clear H
  have H := H1
  clear H1
  as_aux_lemma =>
   obtain rfl := Option.some.inj H
   go_enter Try.func5, Try.ntmps5
   go_wp2_with (first | ((with_reducible refine gate_callee (f := 7) rfl ?_); refine goesL_ (some 32) rfl rfl Try.func7 (by kernel_rfl) rfl #[.slice A0 l0.length c0] rfl zlx ?_; (with_reducible refine (laws_rBig.calls _ _ l0 true _ ?side1 ?side2 A2.out).mono ?_); (case side1 => exact zCx HR0.out); (case side2 => exact HC0.out); rintro e w' ⟨rfl, ⟨nd, rfl⟩⟩; refine ⟨_, rfl, ?_⟩))
   go_ret
   exact ⟨by first | rfl | (simp [errW_none, errW_some] <;> rfl) | (simp [*, errW_none, errW_some] <;> rfl), by exact zBx HB.out⟩
 ·replace c3 := Bool.eq_false_iff.mpr c3
  subst c3
  have H1 : ((spec_DrawPassMinute.f k l0).bind fun bt350 => ((impl_PassMinute.f k bt350.1 bt350.2).bind fun bt354 => ((spec_PassMinute.f k bt350.1 bt350.2).bind fun bt361 => (if (bt354.2.2 != bt361.2.2) = true then (laws_FnRetries.j0 k l0 bt350.1 bt350.2 bt354.1 bt354.2.1 bt354.2.2 true) else ((laws_rInts.f k bt354.2.1 bt361.2.1).bind fun t368 => (if t368 = true then ((laws_rQueues.f k bt354.1 bt361.1).bind fun t369 => (laws_FnRetries.j0 k l0 bt350.1 bt350.2 bt354.1 bt354.2.1 bt354.2.2 (!t369))) else (laws_FnRetries.j0 k l0 bt350.1 bt350.2 bt354.1 bt354.2.1 bt354.2.2 true))))))) = some r := by rw [if_neg (show ¬ (false = true) by decide)] at H; exact H
  clear H
  have H := H1
  clear H1
  replace H := Option.bind_eq_some_iff.mp H
  obtain ⟨⟨t350, t351⟩, A40, H⟩ := H
  replace H : ((impl_PassMinute.f k t350 t351).bind fun bt354 => ((spec_PassMinute.f k t350 t351).bind fun bt361 => (if (bt354.2.2 != bt361.2.2) = true then (laws_FnRetries.j0 k l0 t350 t351 bt354.1 bt354.2.1 bt354.2.2 true) else ((laws_rInts.f k bt354.2.1 bt361.2.1).bind fun t368 => (if t368 = true then ((laws_rQueues.f k bt354.1 bt361.1).bind fun t369 => (laws_FnRetries.j0 k l0 t350 t351 bt354.1 bt354.2.1 bt354.2.2 (!t369))) else (laws_FnRetries.j0 k l0 t350 t351 bt354.1 bt354.2.1 bt354.2.2 true)))))) = some r := H
  have A4 := Aside0.mk A40
  clear A40
  replace H := Option.bind_eq_some_iff.mp H
  obtain ⟨⟨t354, t355, t356⟩, A50, H⟩ := H
  replace H : ((spec_PassMinute.f k t350 t351).bind fun bt361 => (if (t356 != bt361.2.2) = true then (laws_FnRetries.j0 k l0 t350 t351 t354 t355 t356 true) else ((laws_rInts.f k t355 bt361.2.1).bind fun t368 => (if t368 = true then ((laws_rQueues.f k t354 bt361.1).bind fun t369 => (laws_FnRetries.j0 k l0 t350 t351 t354 t355 t356 (!t369))) else (laws_FnRetries.j0 k l0 t350 t351 t354 t355 t356 true))))) = some r := H
  have A5 := Aside0.mk A50
  clear A50
  replace H := Option.bind_eq_some_iff.mp H
  obtain ⟨⟨t361, t362, t363⟩, A60, H⟩ := H
  replace H : (if (t356 != t363) = true then (laws_FnRetries.j0 k l0 t350 t351 t354 t355 t356 true) else ((laws_rInts.f k t355 t362).bind fun t368 => (if t368 = true then ((laws_rQueues.f k t354 t361).bind fun t369 => (laws_FnRetries.j0 k l0 t350 t351 t354 t355 t356 (!t369))) else (laws_FnRetries.j0 k l0 t350 t351 t354 t355 t356 true)))) = some r := H
  have A6 := Aside0.mk A60
  clear A60
  have HC7 := Aside0.mk H
  clear H
  go_enter Try.func5, Try.ntmps5
  go_upto_region 6 with (first | ((with_reducible refine gate_callee (f := 7) rfl ?_); refine goesL_ (some 32) rfl rfl Try.func7 (by kernel_rfl) rfl #[.slice A0 l0.length c0] rfl zlx ?_; (with_reducible refine (laws_rBig.calls _ _ l0 false _ ?side1 ?side2 A2.out).mono ?_); (case side1 => exact zCx HR0.out); (case side2 => exact HC0.out); rintro e w' ⟨rfl, ⟨nd, rfl⟩⟩; refine ⟨_, rfl, ?_⟩) | ((with_reducible refine gate_callee (f := 34) rfl ?_); refine goesL_ (some 35) rfl rfl Try.func34 (by kernel_rfl) rfl #[.slice A0 l0.length c0] rfl zlx ?_; (with_reducible refine (spec_DrawPassMinute.calls k _ _ l0 t350 t351 _ ?side1 ?side2 A4.out).mono ?_); (case side1 => exact zCx HR0.out); (case side2 => exact HC0.out); rintro e w8 ⟨v352, rfl, ho0, hb⟩; refine ⟨_, rfl, ?_⟩; have n0_ := Aside0.mk (Kd.R_lower ho0 (below_size (zBx HB.out))); have n1_ := Aside0.mk (below_step (zBx HB.out) hb); clear HB; have HO353 := n0_; have HB := n1_; clear n0_ n1_; (try clear hb); (try clear hb2); (try clear hk); (try clear hi); (try clear ho0); obtain ⟨Ao9, co9, eo9⟩ := Kd.R_slice HO353.out; subst eo9) | ((with_reducible refine gate_callee (f := 35) rfl ?_); refine goesL_ (some 41) rfl rfl Try.func35 (by kernel_rfl) rfl #[.slice Ao9 t350.length co9, .int .i64 t351] rfl zlx ?_; (with_reducible refine (impl_PassMinute.calls k _ _ t350 t351 t354 t355 t356 _ ?side1 ?side2 A5.out).mono ?_); (case side1 => repeat (first | exact (Kd.R_reads' HO353.out).2.2 | (with_reducible refine Kd.C_alloc ?_ _) | (with_reducible refine Kd.C_drewN ?_ _) | (with_reducible refine Kd.C_drew ?_))); (case side2 => exact (Kd.R_reads' HO353.out).2.1); rintro e w10 ⟨v357, v359, rfl, ho0, ho1, hb⟩; refine ⟨_, rfl, ?_⟩; have n0_ := Aside0.mk (Kd.R_elder' (zRx HO353.out) (Kd.R_base ho0) hb); have n1_ := Aside0.mk (Kd.R_lower (Kd.R_new' ho0 (Kd.R_lt (zRx HO353.out))) (below_size (zBx HB.out))); have n2_ := Aside0.mk (Kd.R_lower ho1 (below_size (zBx HB.out))); have n3_ := Aside0.mk (below_step (zBx HB.out) hb); clear HO353; clear HB; have HO353 := n0_; have HO358 := n1_; have HO360 := n2_; have HB := n3_; clear n0_ n1_ n2_ n3_; (try clear hb); (try clear hb2); (try clear hk); (try clear hi); (try clear ho0); (try clear ho1)) | ((with_reducible refine gate_callee (f := 36) rfl ?_); refine goesL_ (some 48) rfl rfl Try.func36 (by kernel_rfl) rfl #[.slice Ao9 t350.length co9, .int .i64 t351] rfl zlx ?_; (with_reducible refine (spec_PassMinute.calls k _ _ t350 t351 t361 t362 t363 _ ?side1 ?side2 A6.out).mono ?_); (case side1 => repeat (first | exact (Kd.R_reads' HO353.out).2.2 | (with_reducible refine Kd.C_alloc ?_ _) | (with_reducible refine Kd.C_drewN ?_ _) | (with_reducible refine Kd.C_drew ?_))); (case side2 => exact (Kd.R_reads' HO353.out).2.1); rintro e w11 ⟨v364, v366, rfl, ho0, ho1, hb⟩; refine ⟨_, rfl, ?_⟩; have n0_ := Aside0.mk (Kd.R_elder' (zRx HO353.out) (Kd.R_base ho0) hb); have n1_ := Aside0.mk (Kd.R_elder' (zRx HO358.out) (Kd.R_base ho0) hb); have n2_ := Aside0.mk (Kd.R_elder' (zRx HO360.out) (Kd.R_base ho1) hb); have n3_ := Aside0.mk (Kd.R_lower (Kd.R_new' (Kd.R_new' ho0 (Kd.R_lt (zRx HO353.out))) (Kd.R_lt (zRx HO358.out))) (below_size (zBx HB.out))); have n4_ := Aside0.mk (Kd.R_lower (Kd.R_new' ho1 (Kd.R_lt (zRx HO360.out))) (below_size (zBx HB.out))); have n5_ := Aside0.mk (below_step (zBx HB.out) hb); clear HO353; clear HO358; clear HO360; clear HB; have HO353 := n0_; have HO358 := n1_; have HO360 := n2_; have HO365 := n3_; have HO367 := n4_; have HB := n5_; clear n0_ n1_ n2_ n3_ n4_ n5_; (try clear hb); (try clear hb2); (try clear hk); (try clear hi); (try clear ho0); (try clear ho1)))
  (try simp only [Act.put, List.setIfInBounds_toArray, List.set_cons_zero, List.set_cons_succ])
  go_cut [66] (fun v66 wc => ∃ (kq : Nat) (x66_6 : Bool), v66 = .bool x66_6 ∧ Aside0 (laws_FnRetries.j0 kq l0 t350 t351 t354 t355 t356 x66_6 = some r) ∧ Aside0 (kq ≤ k) ∧ Aside0 (Kd.R k59 59 wc w.heap.size (fun k_ => some k_ ≠ (v357 : Value).ownBlock) (.slice Ao9 t350.length co9) t350) ∧ Aside0 (Kd.R k59 59 wc w.heap.size (fun k_ => some k_ ≠ ((.slice Ao9 t350.length co9) : Value).ownBlock) v357 t354) ∧ Aside0 (Kd.R (Kd.int .i64) 3 wc w.heap.size (fun _ => True) v359 t355) ∧ Aside0 (Below w.heap.size w wc))
  case first =>
   as_aux_lemma =>
   have H := HC7.out
   clear HC7
   by_cases c12 : (t356 != t363) = true
   ·rw [if_pos c12] at H
    have c12b0 : (t356 != t363) = true := c12
    (try (have c12b1 : decide (t356 = t363) = false := by simpa using c12))
    (try (have c12b2 : (t356 == t363) = false := by simpa using c12))
    (try (have c12b3 : ¬ (t356 = t363) := by simpa using c12))
    clear c12
    (first | rw [c12b0] | (simp only [i64_w, i32_w]; rw [c12b0]) | skip)
    as_aux_lemma =>
     have H' := Aside0.mk H
     clear H
     go_wp2
     go_meet
     case rel => exact ⟨_, (true), zrx, H', ⟨by first | omega | exact Nat.le_refl _⟩, ⟨by (with_reducible repeat (first | apply Kd.R_alloc | apply Kd.R_drewN | apply Kd.R_drew)); exact Kd.R_mono HO353.out (fun _ hk => hk.1.2)⟩, ⟨by (with_reducible repeat (first | apply Kd.R_alloc | apply Kd.R_drewN | apply Kd.R_drew)); exact Kd.R_mono HO358.out (fun _ hk => hk.1.2)⟩, ⟨by (with_reducible repeat (first | apply Kd.R_alloc | apply Kd.R_drewN | apply Kd.R_drew)); exact Kd.R_mono HO360.out (fun _ hk => trivial)⟩, ⟨by exact zBx HB.out⟩⟩
   ·rw [if_neg c12] at H
    have c12b0 : (t356 != t363) = false := by simpa using c12
    (try (have c12b1 : decide (t356 = t363) = true := by simpa using c12))
    (try (have c12b2 : (t356 == t363) = true := by simpa using c12))
    clear c12
    (first | rw [c12b0] | (simp only [i64_w, i32_w]; rw [c12b0]) | skip)
    replace H := Option.bind_eq_some_iff.mp H
    obtain ⟨t368, A130, H⟩ := H
    replace H : (if t368 = true then ((laws_rQueues.f k t354 t361).bind fun t369 => (laws_FnRetries.j0 k l0 t350 t351 t354 t355 t356 (!t369))) else (laws_FnRetries.j0 k l0 t350 t351 t354 t355 t356 true)) = some r := H
    have A13 := Aside0.mk A130
    clear A130
    by_cases c14 : t368 = true
    ·subst c14
     have H1 : ((laws_rQueues.f k t354 t361).bind fun t369 => (laws_FnRetries.j0 k l0 t350 t351 t354 t355 t356 (!t369))) = some r := by rw [if_pos rfl] at H; exact H
     clear H
     have H := H1
     clear H1
     replace H := Option.bind_eq_some_iff.mp H
     obtain ⟨t369, A150, H⟩ := H
     replace H : (laws_FnRetries.j0 k l0 t350 t351 t354 t355 t356 (!t369)) = some r := H
     have A15 := Aside0.mk A150
     clear A150
     as_aux_lemma =>
      have H' := Aside0.mk H
      clear H
      obtain ⟨Ao16, co16, eo16⟩ := Kd.R_slice HO360.out
      subst eo16
      obtain ⟨Ao17, co17, eo17⟩ := Kd.R_slice HO367.out
      subst eo17
      go_wp2_with (first | (go_at_call 21; (with_reducible refine (laws_rInts.calls k _ _ t355 _ _ t362 true _ ?side1 ?side2 ?side3 ?side4 A13.out).mono ?_); (case side1 => repeat (first | exact (Kd.R_reads' HO360.out).2.2 | (with_reducible refine Kd.C_alloc ?_ _) | (with_reducible refine Kd.C_drewN ?_ _) | (with_reducible refine Kd.C_drew ?_))); (case side2 => exact (Kd.R_reads' HO360.out).2.1); (case side3 => repeat (first | exact (Kd.R_reads' HO367.out).2.2 | (with_reducible refine Kd.C_alloc ?_ _) | (with_reducible refine Kd.C_drewN ?_ _) | (with_reducible refine Kd.C_drew ?_))); (case side4 => exact (Kd.R_reads' HO367.out).2.1); rintro e w' ⟨rfl, ⟨nd, rfl⟩⟩; obtain ⟨Ao18, co18, eo18⟩ := Kd.R_slice HO358.out; subst eo18; obtain ⟨Ao19, co19, eo19⟩ := Kd.R_slice HO365.out; subst eo19) | (go_at_call 37; (with_reducible refine (laws_rQueues.calls k _ _ t354 _ _ t361 t369 _ ?side1 ?side2 ?side3 ?side4 A15.out).mono ?_); (case side1 => repeat (first | exact (Kd.R_reads' HO358.out).2.2 | (with_reducible refine Kd.C_alloc ?_ _) | (with_reducible refine Kd.C_drewN ?_ _) | (with_reducible refine Kd.C_drew ?_))); (case side2 => exact (Kd.R_reads' HO358.out).2.1); (case side3 => repeat (first | exact (Kd.R_reads' HO365.out).2.2 | (with_reducible refine Kd.C_alloc ?_ _) | (with_reducible refine Kd.C_drewN ?_ _) | (with_reducible refine Kd.C_drew ?_))); (case side4 => exact (Kd.R_reads' HO365.out).2.1); rintro e w' ⟨rfl, ⟨nd, rfl⟩⟩))
      go_meet
      case rel => exact ⟨_, (!t369), zrx, H', ⟨by first | omega | exact Nat.le_refl _⟩, ⟨by (with_reducible repeat (first | apply Kd.R_alloc | apply Kd.R_drewN | apply Kd.R_drew)); exact Kd.R_mono HO353.out (fun _ hk => hk.1.2)⟩, ⟨by (with_reducible repeat (first | apply Kd.R_alloc | apply Kd.R_drewN | apply Kd.R_drew)); exact Kd.R_mono HO358.out (fun _ hk => hk.1.2)⟩, ⟨by (with_reducible repeat (first | apply Kd.R_alloc | apply Kd.R_drewN | apply Kd.R_drew)); exact Kd.R_mono HO360.out (fun _ hk => trivial)⟩, ⟨by exact zBx HB.out⟩⟩
    ·replace c14 := Bool.eq_false_iff.mpr c14
     subst c14
     have H1 : (laws_FnRetries.j0 k l0 t350 t351 t354 t355 t356 true) = some r := by rw [if_neg (show ¬ (false = true) by decide)] at H; exact H
     clear H
     have H := H1
     clear H1
     as_aux_lemma =>
      have H' := Aside0.mk H
      clear H
      obtain ⟨Ao20, co20, eo20⟩ := Kd.R_slice HO360.out
      subst eo20
      obtain ⟨Ao21, co21, eo21⟩ := Kd.R_slice HO367.out
      subst eo21
      go_wp2_with (first | (go_at_call 21; (with_reducible refine (laws_rInts.calls k _ _ t355 _ _ t362 false _ ?side1 ?side2 ?side3 ?side4 A13.out).mono ?_); (case side1 => repeat (first | exact (Kd.R_reads' HO360.out).2.2 | (with_reducible refine Kd.C_alloc ?_ _) | (with_reducible refine Kd.C_drewN ?_ _) | (with_reducible refine Kd.C_drew ?_))); (case side2 => exact (Kd.R_reads' HO360.out).2.1); (case side3 => repeat (first | exact (Kd.R_reads' HO367.out).2.2 | (with_reducible refine Kd.C_alloc ?_ _) | (with_reducible refine Kd.C_drewN ?_ _) | (with_reducible refine Kd.C_drew ?_))); (case side4 => exact (Kd.R_reads' HO367.out).2.1); rintro e w' ⟨rfl, ⟨nd, rfl⟩⟩))
      go_meet
      case rel => exact ⟨_, (true), zrx, H', ⟨by first | omega | exact Nat.le_refl _⟩, ⟨by (with_reducible repeat (first | apply Kd.R_alloc | apply Kd.R_drewN | apply Kd.R_drew)); exact Kd.R_mono HO353.out (fun _ hk => hk.1.2)⟩, ⟨by (with_reducible repeat (first | apply Kd.R_alloc | apply Kd.R_drewN | apply Kd.R_drew)); exact Kd.R_mono HO358.out (fun _ hk => hk.1.2)⟩, ⟨by (with_reducible repeat (first | apply Kd.R_alloc | apply Kd.R_drewN | apply Kd.R_drew)); exact Kd.R_mono HO360.out (fun _ hk => trivial)⟩, ⟨by exact zBx HB.out⟩⟩
  case rest =>
   as_aux_lemma =>
   clear HC7
   try clear c1
   try clear p2
   try clear c3
   try clear c5
   try clear c7
   try clear c12
   try clear c12b0
   try clear c12b1
   try clear c12b2
   try clear c14
   obtain ⟨kq, x66_6, rfl, HA, HJ6, HO_3, HO_5, HO_6, HB⟩ := hcut
   cases kq with
   | zero => exact absurd HA.out (by simp [laws_FnRetries.j0])
   | succ kj6 =>
    have H := HA.out
    clear HA
    simp only [laws_FnRetries.j0] at H
    by_cases c22 : x66_6 = true
    ·subst c22
     have H1 : (some false) = some r := by rw [if_pos rfl] at H; exact H
     clear H
     have H := H1
     clear H1
     as_aux_lemma =>
      exact absurd (Option.some.inj H) (by rw [hr_]; decide)
    ·replace c22 := Bool.eq_false_iff.mpr c22
     subst c22
     have H1 : (if t356 = true then (laws_FnRetries.l0 kj6 l0 t350 t351 t354 t355 0) else (laws_FnRetries.j2 kj6 l0)) = some r := by rw [if_neg (show ¬ (false = true) by decide)] at H; exact H
     clear H
     have H := H1
     clear H1
     have HC23 := Aside0.mk H
     clear H
     go_upto_if 67 with (fail)
     go_cut [] (fun wc => ∃ (kq : Nat), Aside0 (laws_FnRetries.j2 kq l0 = some r) ∧ Aside0 (kq ≤ kj6) ∧ Aside0 (Below w.heap.size w wc))
     case first =>
      as_aux_lemma =>
      have H := HC23.out
      clear HC23
      by_cases c24 : t356 = true
      ·subst c24
       have H1 : (laws_FnRetries.l0 kj6 l0 t350 t351 t354 t355 0) = some r := by rw [if_pos rfl] at H; exact H
       clear H
       have H := H1
       clear H1
       have H' := Aside0.mk H
       clear H
       go_wp2
       go_loopg [11] kj6 (fun kq v11 w' => ∃ (x11_2 : Int), v11 = .int .i64 x11_2 ∧ Aside0 (laws_FnRetries.l0 kq l0 t350 t351 t354 t355 x11_2 = some r) ∧ Aside0 (kq ≤ kj6) ∧ Aside0 (Kd.R k59 59 w' w.heap.size (fun k_ => some k_ ≠ (v357 : Value).ownBlock) (.slice Ao9 t350.length co9) t350) ∧ Aside0 (Kd.R k59 59 w' w.heap.size (fun k_ => some k_ ≠ ((.slice Ao9 t350.length co9) : Value).ownBlock) v357 t354) ∧ Aside0 (Kd.R (Kd.int .i64) 3 w' w.heap.size (fun _ => True) v359 t355) ∧ Aside0 (Below w.heap.size w w'))
       case atStart => exact ⟨(0), zrx, H', ⟨Nat.le_refl _⟩, ⟨by (with_reducible repeat (first | apply Kd.R_alloc | apply Kd.R_drewN | apply Kd.R_drew)); exact HO_3.out⟩, ⟨by (with_reducible repeat (first | apply Kd.R_alloc | apply Kd.R_drewN | apply Kd.R_drew)); exact HO_5.out⟩, ⟨by (with_reducible repeat (first | apply Kd.R_alloc | apply Kd.R_drewN | apply Kd.R_drew)); exact HO_6.out⟩, ⟨by exact zBx HB.out⟩⟩
       case round =>
        clear H'
        try clear c1
        try clear c2
        try clear p2
        try clear c3
        try clear c5
        try clear c7
        try clear c12
        try clear c12b0
        try clear c12b1
        try clear c12b2
        try clear c14
        try clear c22
        try clear c24
        try clear p2
        obtain ⟨x11_2, rfl, HA, HK2, HO_3, HO_5, HO_6, HB⟩ := hrel
        cases gk with
        | zero => exact absurd HA.out (by simp [laws_FnRetries.l0])
        | succ k2 =>
         have H := HA.out
         clear HA
         simp only [laws_FnRetries.l0] at H
         by_cases c25 : x11_2 < (t354.length : Int)
         ·rw [if_pos c25] at H
          have c25b0 : decide (x11_2 < (t354.length : Int)) = true := decide_eq_true c25
          clear c25
          (first | rw [c25b0] | (simp only [i64_w, i32_w]; rw [c25b0]) | skip)
          by_cases c26 : 0 ≤ x11_2
          ·rw [if_pos c26] at H
           have c26b0 : decide (0 ≤ x11_2) = true := decide_eq_true c26
           clear c26
           by_cases c27 : ((rd_T59 t354 x11_2).f1) = 2
           ·rw [if_pos c27] at H
            have c27b0 : (((rd_T59 t354 x11_2).f1) == 2) = true := beq_iff_eq.mpr c27
            have c27b1 : (((rd_T59 t354 x11_2).f1) != 2) = false := bne_eq_false_iff_eq.mpr c27
            clear c27
            by_cases c28 : ((rd_T59 t354 x11_2).f3) ≤ t351
            ·rw [if_pos c28] at H
             have c28b0 : decide (((rd_T59 t354 x11_2).f3) ≤ t351) = true := decide_eq_true c28
             clear c28
             as_aux_lemma =>
              exact absurd (Option.some.inj H) (by rw [hr_]; decide)
            ·rw [if_neg c28] at H
             have c28b0 : decide (((rd_T59 t354 x11_2).f3) ≤ t351) = false := decide_eq_false c28
             clear c28
             replace H := Option.bind_eq_some_iff.mp H
             obtain ⟨t373, A300, H⟩ := H
             replace H : (if t373 = true then (if ((rd_T59 t354 x11_2).f1) = 4 then (if x11_2 < (t350.length : Int) then (if ((rd_T59 t350 x11_2).f2) = 5 then (laws_FnRetries.l0 k2 l0 t350 t351 t354 t355 (wrap64 (x11_2 + 1))) else (some false)) else (none)) else (some false)) else (laws_FnRetries.l0 k2 l0 t350 t351 t354 t355 (wrap64 (x11_2 + 1)))) = some r := H
             have A30 := Aside0.mk A300
             clear A300
             by_cases c31 : t373 = true
             ·subst c31
              have H1 : (if ((rd_T59 t354 x11_2).f1) = 4 then (if x11_2 < (t350.length : Int) then (if ((rd_T59 t350 x11_2).f2) = 5 then (laws_FnRetries.l0 k2 l0 t350 t351 t354 t355 (wrap64 (x11_2 + 1))) else (some false)) else (none)) else (some false)) = some r := by rw [if_pos rfl] at H; exact H
              clear H
              have H := H1
              clear H1
              by_cases c32 : ((rd_T59 t354 x11_2).f1) = 4
              ·rw [if_pos c32] at H
               have c32b0 : (((rd_T59 t354 x11_2).f1) == 4) = true := beq_iff_eq.mpr c32
               have c32b1 : (((rd_T59 t354 x11_2).f1) != 4) = false := bne_eq_false_iff_eq.mpr c32
               clear c32
               by_cases c33 : x11_2 < (t350.length : Int)
               ·rw [if_pos c33] at H
                have c33b0 : decide (x11_2 < (t350.length : Int)) = true := decide_eq_true c33
                clear c33
                by_cases c34 : ((rd_T59 t350 x11_2).f2) = 5
                ·rw [if_pos c34] at H
                 have c34b0 : (((rd_T59 t350 x11_2).f2) == 5) = true := beq_iff_eq.mpr c34
                 have c34b1 : (((rd_T59 t350 x11_2).f2) != 5) = false := bne_eq_false_iff_eq.mpr c34
                 clear c34
                 as_aux_lemma =>
                  have H' := Aside0.mk H
                  clear H
                  obtain ⟨Ao35, co35, eo35⟩ := Kd.R_slice HO_5.out
                  subst eo35
                  have p370 : 0 ≤ (x11_2 : Int) := of_decide_eq_true zax
                  have q370 : x11_2 < (t354.length : Int) := of_decide_eq_true zax
                  obtain ⟨ad370, e370, hx370_0, hx370_1, hx370_2, hx370_3⟩ := at_T59 (Kd.R_reads' HO_5.out).2.2 x11_2 p370 q370
                  cases e370
                  replace p370 := eq_true p370
                  replace q370 := eq_true q370
                  have p371 : 0 ≤ (x11_2 : Int) := of_decide_eq_true zax
                  have q371 : x11_2 < (t354.length : Int) := of_decide_eq_true zax
                  obtain ⟨ad371, e371, hx371_0, hx371_1, hx371_2, hx371_3⟩ := at_T59 (Kd.R_reads' HO_5.out).2.2 x11_2 p371 q371
                  obtain rfl : ad370 = ad371 := (by injection e371)
                  replace p371 := eq_true p371
                  replace q371 := eq_true q371
                  have p372 : 0 ≤ (x11_2 : Int) := of_decide_eq_true zax
                  have q372 : x11_2 < (t354.length : Int) := of_decide_eq_true zax
                  obtain ⟨ad372, e372, hx372_0, hx372_1, hx372_2, hx372_3⟩ := at_T59 (Kd.R_reads' HO_5.out).2.2 x11_2 p372 q372
                  obtain rfl : ad370 = ad372 := (by injection e372)
                  replace p372 := eq_true p372
                  replace q372 := eq_true q372
                  obtain ⟨Ao36, co36, eo36⟩ := Kd.R_slice HO_6.out
                  subst eo36
                  go_wp2_with (first | (go_at_call 38; (with_reducible refine (laws_rHas.calls k2 _ _ t355 ((rd_T59 t354 x11_2).f0) true _ ?side1 ?side2 A30.out).mono ?_); (case side1 => repeat (first | exact (Kd.R_reads' HO_6.out).2.2 | (with_reducible refine Kd.C_alloc ?_ _) | (with_reducible refine Kd.C_drewN ?_ _) | (with_reducible refine Kd.C_drew ?_))); (case side2 => exact (Kd.R_reads' HO_6.out).2.1); rintro e w' ⟨rfl, ⟨nd, rfl⟩⟩; have p374 : 0 ≤ (x11_2 : Int) := of_decide_eq_true zax; have q374 : x11_2 < (t354.length : Int) := of_decide_eq_true zax; obtain ⟨ad374, e374, hx374_0, hx374_1, hx374_2, hx374_3⟩ := at_T59 (Kd.R_reads' HO_5.out).2.2 x11_2 p374 q374; obtain rfl : ad370 = ad374 := (by injection e374); replace p374 := eq_true p374; replace q374 := eq_true q374; have p375 : 0 ≤ (x11_2 : Int) := of_decide_eq_true zax; have q375 : x11_2 < (t350.length : Int) := of_decide_eq_true zax; obtain ⟨ad375, e375, hx375_0, hx375_1, hx375_2, hx375_3⟩ := at_T59 (Kd.R_reads' HO_3.out).2.2 x11_2 p375 q375; cases e375; replace p375 := eq_true p375; replace q375 := eq_true q375))
                  go_roundg k2
                  case measure => have := HJ6.out; have := HK2.out; omega
                  case rel => exact ⟨(wrap64 (x11_2 + 1)), zrx, H', ⟨by have := HJ6.out; have := HK2.out; omega⟩, ⟨by (with_reducible repeat (first | apply Kd.R_alloc | apply Kd.R_drewN | apply Kd.R_drew)); exact HO_3.out⟩, ⟨by (with_reducible repeat (first | apply Kd.R_alloc | apply Kd.R_drewN | apply Kd.R_drew)); exact HO_5.out⟩, ⟨by (with_reducible repeat (first | apply Kd.R_alloc | apply Kd.R_drewN | apply Kd.R_drew)); exact HO_6.out⟩, ⟨by exact zBx HB.out⟩⟩
                ·rw [if_neg c34] at H
                 have c34b0 : (((rd_T59 t350 x11_2).f2) == 5) = false := beq_eq_false_iff_ne.mpr c34
                 have c34b1 : (((rd_T59 t350 x11_2).f2) != 5) = true := bne_iff_ne.mpr c34
                 as_aux_lemma =>
                  exact absurd (Option.some.inj H) (by rw [hr_]; decide)
               ·rw [if_neg c33] at H
                exact absurd H (by simp)
              ·rw [if_neg c32] at H
               have c32b0 : (((rd_T59 t354 x11_2).f1) == 4) = false := beq_eq_false_iff_ne.mpr c32
               have c32b1 : (((rd_T59 t354 x11_2).f1) != 4) = true := bne_iff_ne.mpr c32
               as_aux_lemma =>
                exact absurd (Option.some.inj H) (by rw [hr_]; decide)
             ·replace c31 := Bool.eq_false_iff.mpr c31
              subst c31
              have H1 : (laws_FnRetries.l0 k2 l0 t350 t351 t354 t355 (wrap64 (x11_2 + 1))) = some r := by rw [if_neg (show ¬ (false = true) by decide)] at H; exact H
              clear H
              have H := H1
              clear H1
              as_aux_lemma =>
               have H' := Aside0.mk H
               clear H
               obtain ⟨Ao41, co41, eo41⟩ := Kd.R_slice HO_5.out
               subst eo41
               have p370 : 0 ≤ (x11_2 : Int) := of_decide_eq_true zax
               have q370 : x11_2 < (t354.length : Int) := of_decide_eq_true zax
               obtain ⟨ad370, e370, hx370_0, hx370_1, hx370_2, hx370_3⟩ := at_T59 (Kd.R_reads' HO_5.out).2.2 x11_2 p370 q370
               cases e370
               replace p370 := eq_true p370
               replace q370 := eq_true q370
               have p371 : 0 ≤ (x11_2 : Int) := of_decide_eq_true zax
               have q371 : x11_2 < (t354.length : Int) := of_decide_eq_true zax
               obtain ⟨ad371, e371, hx371_0, hx371_1, hx371_2, hx371_3⟩ := at_T59 (Kd.R_reads' HO_5.out).2.2 x11_2 p371 q371
               obtain rfl : ad370 = ad371 := (by injection e371)
               replace p371 := eq_true p371
               replace q371 := eq_true q371
               have p372 : 0 ≤ (x11_2 : Int) := of_decide_eq_true zax
               have q372 : x11_2 < (t354.length : Int) := of_decide_eq_true zax
               obtain ⟨ad372, e372, hx372_0, hx372_1, hx372_2, hx372_3⟩ := at_T59 (Kd.R_reads' HO_5.out).2.2 x11_2 p372 q372
               obtain rfl : ad370 = ad372 := (by injection e372)
               replace p372 := eq_true p372
               replace q372 := eq_true q372
               obtain ⟨Ao42, co42, eo42⟩ := Kd.R_slice HO_6.out
               subst eo42
               go_wp2_with (first | (go_at_call 38; (with_reducible refine (laws_rHas.calls k2 _ _ t355 ((rd_T59 t354 x11_2).f0) false _ ?side1 ?side2 A30.out).mono ?_); (case side1 => repeat (first | exact (Kd.R_reads' HO_6.out).2.2 | (with_reducible refine Kd.C_alloc ?_ _) | (with_reducible refine Kd.C_drewN ?_ _) | (with_reducible refine Kd.C_drew ?_))); (case side2 => exact (Kd.R_reads' HO_6.out).2.1); rintro e w' ⟨rfl, ⟨nd, rfl⟩⟩))
               go_roundg k2
               case measure => have := HJ6.out; have := HK2.out; omega
               case rel => exact ⟨(wrap64 (x11_2 + 1)), zrx, H', ⟨by have := HJ6.out; have := HK2.out; omega⟩, ⟨by (with_reducible repeat (first | apply Kd.R_alloc | apply Kd.R_drewN | apply Kd.R_drew)); exact HO_3.out⟩, ⟨by (with_reducible repeat (first | apply Kd.R_alloc | apply Kd.R_drewN | apply Kd.R_drew)); exact HO_5.out⟩, ⟨by (with_reducible repeat (first | apply Kd.R_alloc | apply Kd.R_drewN | apply Kd.R_drew)); exact HO_6.out⟩, ⟨by exact zBx HB.out⟩⟩
           ·rw [if_neg c27] at H
            have c27b0 : (((rd_T59 t354 x11_2).f1) == 2) = false := beq_eq_false_iff_ne.mpr c27
            have c27b1 : (((rd_T59 t354 x11_2).f1) != 2) = true := bne_iff_ne.mpr c27
            replace H := Option.bind_eq_some_iff.mp H
            obtain ⟨t377, A430, H⟩ := H
            replace H : (if t377 = true then (if ((rd_T59 t354 x11_2).f1) = 4 then (if x11_2 < (t350.length : Int) then (if ((rd_T59 t350 x11_2).f2) = 5 then (laws_FnRetries.l0 k2 l0 t350 t351 t354 t355 (wrap64 (x11_2 + 1))) else (some false)) else (none)) else (some false)) else (laws_FnRetries.l0 k2 l0 t350 t351 t354 t355 (wrap64 (x11_2 + 1)))) = some r := H
            have A43 := Aside0.mk A430
            clear A430
            by_cases c44 : t377 = true
            ·subst c44
             have H1 : (if ((rd_T59 t354 x11_2).f1) = 4 then (if x11_2 < (t350.length : Int) then (if ((rd_T59 t350 x11_2).f2) = 5 then (laws_FnRetries.l0 k2 l0 t350 t351 t354 t355 (wrap64 (x11_2 + 1))) else (some false)) else (none)) else (some false)) = some r := by rw [if_pos rfl] at H; exact H
             clear H
             have H := H1
             clear H1
             by_cases c45 : ((rd_T59 t354 x11_2).f1) = 4
             ·rw [if_pos c45] at H
              have c45b0 : (((rd_T59 t354 x11_2).f1) == 4) = true := beq_iff_eq.mpr c45
              have c45b1 : (((rd_T59 t354 x11_2).f1) != 4) = false := bne_eq_false_iff_eq.mpr c45
              clear c45
              by_cases c46 : x11_2 < (t350.length : Int)
              ·rw [if_pos c46] at H
               have c46b0 : decide (x11_2 < (t350.length : Int)) = true := decide_eq_true c46
               clear c46
               by_cases c47 : ((rd_T59 t350 x11_2).f2) = 5
               ·rw [if_pos c47] at H
                have c47b0 : (((rd_T59 t350 x11_2).f2) == 5) = true := beq_iff_eq.mpr c47
                have c47b1 : (((rd_T59 t350 x11_2).f2) != 5) = false := bne_eq_false_iff_eq.mpr c47
                clear c47
                as_aux_lemma =>
                 have H' := Aside0.mk H
                 clear H
                 obtain ⟨Ao48, co48, eo48⟩ := Kd.R_slice HO_5.out
                 subst eo48
                 have p370 : 0 ≤ (x11_2 : Int) := of_decide_eq_true zax
                 have q370 : x11_2 < (t354.length : Int) := of_decide_eq_true zax
                 obtain ⟨ad370, e370, hx370_0, hx370_1, hx370_2, hx370_3⟩ := at_T59 (Kd.R_reads' HO_5.out).2.2 x11_2 p370 q370
                 cases e370
                 replace p370 := eq_true p370
                 replace q370 := eq_true q370
                 have p376 : 0 ≤ (x11_2 : Int) := of_decide_eq_true zax
                 have q376 : x11_2 < (t354.length : Int) := of_decide_eq_true zax
                 obtain ⟨ad376, e376, hx376_0, hx376_1, hx376_2, hx376_3⟩ := at_T59 (Kd.R_reads' HO_5.out).2.2 x11_2 p376 q376
                 obtain rfl : ad370 = ad376 := (by injection e376)
                 replace p376 := eq_true p376
                 replace q376 := eq_true q376
                 obtain ⟨Ao49, co49, eo49⟩ := Kd.R_slice HO_6.out
                 subst eo49
                 go_wp2_with (first | (go_at_call 38; (with_reducible refine (laws_rHas.calls k2 _ _ t355 ((rd_T59 t354 x11_2).f0) true _ ?side1 ?side2 A43.out).mono ?_); (case side1 => repeat (first | exact (Kd.R_reads' HO_6.out).2.2 | (with_reducible refine Kd.C_alloc ?_ _) | (with_reducible refine Kd.C_drewN ?_ _) | (with_reducible refine Kd.C_drew ?_))); (case side2 => exact (Kd.R_reads' HO_6.out).2.1); rintro e w' ⟨rfl, ⟨nd, rfl⟩⟩; have p378 : 0 ≤ (x11_2 : Int) := of_decide_eq_true zax; have q378 : x11_2 < (t354.length : Int) := of_decide_eq_true zax; obtain ⟨ad378, e378, hx378_0, hx378_1, hx378_2, hx378_3⟩ := at_T59 (Kd.R_reads' HO_5.out).2.2 x11_2 p378 q378; obtain rfl : ad370 = ad378 := (by injection e378); replace p378 := eq_true p378; replace q378 := eq_true q378; have p379 : 0 ≤ (x11_2 : Int) := of_decide_eq_true zax; have q379 : x11_2 < (t350.length : Int) := of_decide_eq_true zax; obtain ⟨ad379, e379, hx379_0, hx379_1, hx379_2, hx379_3⟩ := at_T59 (Kd.R_reads' HO_3.out).2.2 x11_2 p379 q379; cases e379; replace p379 := eq_true p379; replace q379 := eq_true q379))
                 go_roundg k2
                 case measure => have := HJ6.out; have := HK2.out; omega
                 case rel => exact ⟨(wrap64 (x11_2 + 1)), zrx, H', ⟨by have := HJ6.out; have := HK2.out; omega⟩, ⟨by (with_reducible repeat (first | apply Kd.R_alloc | apply Kd.R_drewN | apply Kd.R_drew)); exact HO_3.out⟩, ⟨by (with_reducible repeat (first | apply Kd.R_alloc | apply Kd.R_drewN | apply Kd.R_drew)); exact HO_5.out⟩, ⟨by (with_reducible repeat (first | apply Kd.R_alloc | apply Kd.R_drewN | apply Kd.R_drew)); exact HO_6.out⟩, ⟨by exact zBx HB.out⟩⟩
               ·rw [if_neg c47] at H
                have c47b0 : (((rd_T59 t350 x11_2).f2) == 5) = false := beq_eq_false_iff_ne.mpr c47
                have c47b1 : (((rd_T59 t350 x11_2).f2) != 5) = true := bne_iff_ne.mpr c47
                as_aux_lemma =>
                 exact absurd (Option.some.inj H) (by rw [hr_]; decide)
              ·rw [if_neg c46] at H
               exact absurd H (by simp)
             ·rw [if_neg c45] at H
              have c45b0 : (((rd_T59 t354 x11_2).f1) == 4) = false := beq_eq_false_iff_ne.mpr c45
              have c45b1 : (((rd_T59 t354 x11_2).f1) != 4) = true := bne_iff_ne.mpr c45
              as_aux_lemma =>
               exact absurd (Option.some.inj H) (by rw [hr_]; decide)
            ·replace c44 := Bool.eq_false_iff.mpr c44
             subst c44
             have H1 : (laws_FnRetries.l0 k2 l0 t350 t351 t354 t355 (wrap64 (x11_2 + 1))) = some r := by rw [if_neg (show ¬ (false = true) by decide)] at H; exact H
             clear H
             have H := H1
             clear H1
             as_aux_lemma =>
              have H' := Aside0.mk H
              clear H
              obtain ⟨Ao54, co54, eo54⟩ := Kd.R_slice HO_5.out
              subst eo54
              have p370 : 0 ≤ (x11_2 : Int) := of_decide_eq_true zax
              have q370 : x11_2 < (t354.length : Int) := of_decide_eq_true zax
              obtain ⟨ad370, e370, hx370_0, hx370_1, hx370_2, hx370_3⟩ := at_T59 (Kd.R_reads' HO_5.out).2.2 x11_2 p370 q370
              cases e370
              replace p370 := eq_true p370
              replace q370 := eq_true q370
              have p376 : 0 ≤ (x11_2 : Int) := of_decide_eq_true zax
              have q376 : x11_2 < (t354.length : Int) := of_decide_eq_true zax
              obtain ⟨ad376, e376, hx376_0, hx376_1, hx376_2, hx376_3⟩ := at_T59 (Kd.R_reads' HO_5.out).2.2 x11_2 p376 q376
              obtain rfl : ad370 = ad376 := (by injection e376)
              replace p376 := eq_true p376
              replace q376 := eq_true q376
              obtain ⟨Ao55, co55, eo55⟩ := Kd.R_slice HO_6.out
              subst eo55
              go_wp2_with (first | (go_at_call 38; (with_reducible refine (laws_rHas.calls k2 _ _ t355 ((rd_T59 t354 x11_2).f0) false _ ?side1 ?side2 A43.out).mono ?_); (case side1 => repeat (first | exact (Kd.R_reads' HO_6.out).2.2 | (with_reducible refine Kd.C_alloc ?_ _) | (with_reducible refine Kd.C_drewN ?_ _) | (with_reducible refine Kd.C_drew ?_))); (case side2 => exact (Kd.R_reads' HO_6.out).2.1); rintro e w' ⟨rfl, ⟨nd, rfl⟩⟩))
              go_roundg k2
              case measure => have := HJ6.out; have := HK2.out; omega
              case rel => exact ⟨(wrap64 (x11_2 + 1)), zrx, H', ⟨by have := HJ6.out; have := HK2.out; omega⟩, ⟨by (with_reducible repeat (first | apply Kd.R_alloc | apply Kd.R_drewN | apply Kd.R_drew)); exact HO_3.out⟩, ⟨by (with_reducible repeat (first | apply Kd.R_alloc | apply Kd.R_drewN | apply Kd.R_drew)); exact HO_5.out⟩, ⟨by (with_reducible repeat (first | apply Kd.R_alloc | apply Kd.R_drewN | apply Kd.R_drew)); exact HO_6.out⟩, ⟨by exact zBx HB.out⟩⟩
          ·rw [if_neg c26] at H
           exact absurd H (by simp)
         ·rw [if_neg c25] at H
          have c25b0 : decide (x11_2 < (t354.length : Int)) = false := decide_eq_false c25
          clear c25
          (first | rw [c25b0] | (simp only [i64_w, i32_w]; rw [c25b0]) | skip)
          replace H := Option.bind_eq_some_iff.mp H
          obtain ⟨⟨t380, t381⟩, A560, H⟩ := H
          replace H : ((impl_CountStates.f k2 t380).bind fun bt384 => ((impl_PassMinute.f k2 t354 t351).bind fun bt388 => (if t381 = true then (if bt384.2 = true then (if bt388.2.2 = true then (if 2 < (bt384.1.length : Int) then (if (rd bt384.1 2) = 0 then (if 3 < (bt384.1.length : Int) then (if (rd bt384.1 3) = 0 then (if (bt388.2.1.length : Int) = 0 then ((laws_rQueues.f k2 bt388.1 t354).bind fun t397 => (if t397 = true then ((impl_IsValidQueue.f k2 t354).bind fun t398 => (if t398 = true then (laws_FnRetries.j2 k2 l0) else (some false))) else (some false))) else (some false)) else (some false)) else (none)) else (some false)) else (none)) else (some false)) else (some false)) else (some false)))) = some r := H
          have A56 := Aside0.mk A560
          clear A560
          replace H := Option.bind_eq_some_iff.mp H
          obtain ⟨⟨t384, t385⟩, A570, H⟩ := H
          replace H : ((impl_PassMinute.f k2 t354 t351).bind fun bt388 => (if t381 = true then (if t385 = true then (if bt388.2.2 = true then (if 2 < (t384.length : Int) then (if (rd t384 2) = 0 then (if 3 < (t384.length : Int) then (if (rd t384 3) = 0 then (if (bt388.2.1.length : Int) = 0 then ((laws_rQueues.f k2 bt388.1 t354).bind fun t397 => (if t397 = true then ((impl_IsValidQueue.f k2 t354).bind fun t398 => (if t398 = true then (laws_FnRetries.j2 k2 l0) else (some false))) else (some false))) else (some false)) else (some false)) else (none)) else (some false)) else (none)) else (some false)) else (some false)) else (some false))) = some r := H
          have A57 := Aside0.mk A570
          clear A570
          replace H := Option.bind_eq_some_iff.mp H
          obtain ⟨⟨t388, t389, t390⟩, A580, H⟩ := H
          replace H : (if t381 = true then (if t385 = true then (if t390 = true then (if 2 < (t384.length : Int) then (if (rd t384 2) = 0 then (if 3 < (t384.length : Int) then (if (rd t384 3) = 0 then (if (t389.length : Int) = 0 then ((laws_rQueues.f k2 t388 t354).bind fun t397 => (if t397 = true then ((impl_IsValidQueue.f k2 t354).bind fun t398 => (if t398 = true then (laws_FnRetries.j2 k2 l0) else (some false))) else (some false))) else (some false)) else (some false)) else (none)) else (some false)) else (none)) else (some false)) else (some false)) else (some false)) = some r := H
          have A58 := Aside0.mk A580
          clear A580
          by_cases c59 : t381 = true
          ·subst c59
           have H1 : (if t385 = true then (if t390 = true then (if 2 < (t384.length : Int) then (if (rd t384 2) = 0 then (if 3 < (t384.length : Int) then (if (rd t384 3) = 0 then (if (t389.length : Int) = 0 then ((laws_rQueues.f k2 t388 t354).bind fun t397 => (if t397 = true then ((impl_IsValidQueue.f k2 t354).bind fun t398 => (if t398 = true then (laws_FnRetries.j2 k2 l0) else (some false))) else (some false))) else (some false)) else (some false)) else (none)) else (some false)) else (none)) else (some false)) else (some false)) = some r := by rw [if_pos rfl] at H; exact H
           clear H
           have H := H1
           clear H1
           by_cases c60 : t385 = true
           ·subst c60
            have H1 : (if t390 = true then (if 2 < (t384.length : Int) then (if (rd t384 2) = 0 then (if 3 < (t384.length : Int) then (if (rd t384 3) = 0 then (if (t389.length : Int) = 0 then ((laws_rQueues.f k2 t388 t354).bind fun t397 => (if t397 = true then ((impl_IsValidQueue.f k2 t354).bind fun t398 => (if t398 = true then (laws_FnRetries.j2 k2 l0) else (some false))) else (some false))) else (some false)) else (some false)) else (none)) else (some false)) else (none)) else (some false)) = some r := by rw [if_pos rfl] at H; exact H
            clear H
            have H := H1
            clear H1
            by_cases c61 : t390 = true
            ·subst c61
             have H1 : (if 2 < (t384.length : Int) then (if (rd t384 2) = 0 then (if 3 < (t384.length : Int) then (if (rd t384 3) = 0 then (if (t389.length : Int) = 0 then ((laws_rQueues.f k2 t388 t354).bind fun t397 => (if t397 = true then ((impl_IsValidQueue.f k2 t354).bind fun t398 => (if t398 = true then (laws_FnRetries.j2 k2 l0) else (some false))) else (some false))) else (some false)) else (some false)) else (none)) else (some false)) else (none)) = some r := by rw [if_pos rfl] at H; exact H
             clear H
             have H := H1
             clear H1
             by_cases c62 : 2 < (t384.length : Int)
             ·rw [if_pos c62] at H
              have c62b0 : decide (2 < (t384.length : Int)) = true := decide_eq_true c62
              have c62b1 : decide (2 < t384.length) = true := decide_eq_true (by omega)
              clear c62
              by_cases c63 : (rd t384 2) = 0
              ·rw [if_pos c63] at H
               have c63b0 : ((rd t384 2) == 0) = true := beq_iff_eq.mpr c63
               have c63b1 : ((rd t384 2) != 0) = false := bne_eq_false_iff_eq.mpr c63
               clear c63
               by_cases c64 : 3 < (t384.length : Int)
               ·rw [if_pos c64] at H
                have c64b0 : decide (3 < (t384.length : Int)) = true := decide_eq_true c64
                have c64b1 : decide (3 < t384.length) = true := decide_eq_true (by omega)
                clear c64
                by_cases c65 : (rd t384 3) = 0
                ·rw [if_pos c65] at H
                 have c65b0 : ((rd t384 3) == 0) = true := beq_iff_eq.mpr c65
                 have c65b1 : ((rd t384 3) != 0) = false := bne_eq_false_iff_eq.mpr c65
                 clear c65
                 by_cases c66 : (t389.length : Int) = 0
                 ·rw [if_pos c66] at H
                  have c66b0 : ((t389.length : Int) == 0) = true := beq_iff_eq.mpr c66
                  have c66b1 : ((t389.length : Int) != 0) = false := bne_eq_false_iff_eq.mpr c66
                  clear c66
                  replace H := Option.bind_eq_some_iff.mp H
                  obtain ⟨t397, A670, H⟩ := H
                  replace H : (if t397 = true then ((impl_IsValidQueue.f k2 t354).bind fun t398 => (if t398 = true then (laws_FnRetries.j2 k2 l0) else (some false))) else (some false)) = some r := H
                  have A67 := Aside0.mk A670
                  clear A670
                  by_cases c68 : t397 = true
                  ·subst c68
                   have H1 : ((impl_IsValidQueue.f k2 t354).bind fun t398 => (if t398 = true then (laws_FnRetries.j2 k2 l0) else (some false))) = some r := by rw [if_pos rfl] at H; exact H
                   clear H
                   have H := H1
                   clear H1
                   replace H := Option.bind_eq_some_iff.mp H
                   obtain ⟨t398, A690, H⟩ := H
                   replace H : (if t398 = true then (laws_FnRetries.j2 k2 l0) else (some false)) = some r := H
                   have A69 := Aside0.mk A690
                   clear A690
                   by_cases c70 : t398 = true
                   ·subst c70
                    have H1 : (laws_FnRetries.j2 k2 l0) = some r := by rw [if_pos rfl] at H; exact H
                    clear H
                    have H := H1
                    clear H1
                    as_aux_lemma =>
                     have H' := Aside0.mk H
                     clear H
                     obtain ⟨Ao71, co71, eo71⟩ := Kd.R_slice HO_5.out
                     subst eo71
                     go_wp2_with (first | ((with_reducible refine gate_callee (f := 39) rfl ?_); refine goesL_ (some 116) rfl rfl Try.func39 (by kernel_rfl) rfl #[.slice Ao71 t354.length co71] rfl zlx ?_; (with_reducible refine (impl_PruneQueue.calls k2 _ _ t354 t380 true _ ?side1 ?side2 A56.out).mono ?_); (case side1 => repeat (first | exact (Kd.R_reads' HO_5.out).2.2 | (with_reducible refine Kd.C_alloc ?_ _) | (with_reducible refine Kd.C_drewN ?_ _) | (with_reducible refine Kd.C_drew ?_))); (case side2 => exact (Kd.R_reads' HO_5.out).2.1); rintro e w72 ⟨v382, rfl, ho0, hb⟩; refine ⟨_, rfl, ?_⟩; have n0_ := Aside0.mk (Kd.R_elder' (zRx HO_3.out) (Kd.R_base ho0) hb); have n1_ := Aside0.mk (Kd.R_elder' (zRx HO_5.out) (Kd.R_base ho0) hb); have n2_ := Aside0.mk (Kd.R_below (zRx HO_6.out) hb); have n3_ := Aside0.mk (Kd.R_lower (Kd.R_new' (Kd.R_new' ho0 (Kd.R_lt (zRx HO_3.out))) (Kd.R_lt (zRx HO_5.out))) (below_size (zBx HB.out))); have n4_ := Aside0.mk (below_step (zBx HB.out) hb); clear HO_3; clear HO_5; clear HO_6; clear HB; have HO_3 := n0_; have HO_5 := n1_; have HO_6 := n2_; have HO383 := n3_; have HB := n4_; clear n0_ n1_ n2_ n3_ n4_; (try clear hb); (try clear hb2); (try clear hk); (try clear hi); (try clear ho0); obtain ⟨Ao73, co73, eo73⟩ := Kd.R_slice HO383.out; subst eo73) | ((with_reducible refine gate_callee (f := 40) rfl ?_); refine goesL_ (some 121) rfl rfl Try.func40 (by kernel_rfl) rfl #[.slice Ao73 t380.length co73] rfl zlx ?_; (with_reducible refine (impl_CountStates.calls k2 _ _ t380 t384 true _ ?side1 ?side2 A57.out).mono ?_); (case side1 => repeat (first | exact (Kd.R_reads' HO383.out).2.2 | (with_reducible refine Kd.C_alloc ?_ _) | (with_reducible refine Kd.C_drewN ?_ _) | (with_reducible refine Kd.C_drew ?_))); (case side2 => exact (Kd.R_reads' HO383.out).2.1); rintro e w74 ⟨v386, rfl, ho0, hb⟩; refine ⟨_, rfl, ?_⟩; have n0_ := Aside0.mk (Kd.R_below (zRx HO_3.out) hb); have n1_ := Aside0.mk (Kd.R_below (zRx HO_5.out) hb); have n2_ := Aside0.mk (Kd.R_elder' (zRx HO_6.out) (Kd.R_base ho0) hb); have n3_ := Aside0.mk (Kd.R_below (zRx HO383.out) hb); have n4_ := Aside0.mk (Kd.R_lower (Kd.R_new' ho0 (Kd.R_lt (zRx HO_6.out))) (below_size (zBx HB.out))); have n5_ := Aside0.mk (below_step (zBx HB.out) hb); clear HO_3; clear HO_5; clear HO_6; clear HO383; clear HB; have HO_3 := n0_; have HO_5 := n1_; have HO_6 := n2_; have HO383 := n3_; have HO387 := n4_; have HB := n5_; clear n0_ n1_ n2_ n3_ n4_ n5_; (try clear hb); (try clear hb2); (try clear hk); (try clear hi); (try clear ho0)) | ((with_reducible refine gate_callee (f := 35) rfl ?_); refine goesL_ (some 127) rfl rfl Try.func35 (by kernel_rfl) rfl #[.slice Ao71 t354.length co71, .int .i64 t351] rfl zlx ?_; (with_reducible refine (impl_PassMinute.calls k2 _ _ t354 t351 t388 t389 true _ ?side1 ?side2 A58.out).mono ?_); (case side1 => repeat (first | exact (Kd.R_reads' HO_5.out).2.2 | (with_reducible refine Kd.C_alloc ?_ _) | (with_reducible refine Kd.C_drewN ?_ _) | (with_reducible refine Kd.C_drew ?_))); (case side2 => exact (Kd.R_reads' HO_5.out).2.1); rintro e w75 ⟨v391, v393, rfl, ho0, ho1, hb⟩; refine ⟨_, rfl, ?_⟩; have n0_ := Aside0.mk (Kd.R_elder' (zRx HO_3.out) (Kd.R_base ho0) hb); have n1_ := Aside0.mk (Kd.R_elder' (zRx HO_5.out) (Kd.R_base ho0) hb); have n2_ := Aside0.mk (Kd.R_elder' (zRx HO_6.out) (Kd.R_base ho1) hb); have n3_ := Aside0.mk (Kd.R_elder' (zRx HO383.out) (Kd.R_base ho0) hb); have n4_ := Aside0.mk (Kd.R_elder' (zRx HO387.out) (Kd.R_base ho1) hb); have n5_ := Aside0.mk (Kd.R_lower (Kd.R_new' (Kd.R_new' (Kd.R_new' ho0 (Kd.R_lt (zRx HO_3.out))) (Kd.R_lt (zRx HO_5.out))) (Kd.R_lt (zRx HO383.out))) (below_size (zBx HB.out))); have n6_ := Aside0.mk (Kd.R_lower (Kd.R_new' (Kd.R_new' ho1 (Kd.R_lt (zRx HO_6.out))) (Kd.R_lt (zRx HO387.out))) (below_size (zBx HB.out))); have n7_ := Aside0.mk (below_step (zBx HB.out) hb); clear HO_3; clear HO_5; clear HO_6; clear HO383; clear HO387; clear HB; have HO_3 := n0_; have HO_5 := n1_; have HO_6 := n2_; have HO383 := n3_; have HO387 := n4_; have HO392 := n5_; have HO394 := n6_; have HB := n7_; clear n0_ n1_ n2_ n3_ n4_ n5_ n6_ n7_; (try clear hb); (try clear hb2); (try clear hk); (try clear hi); (try clear ho0); (try clear ho1); obtain ⟨Ao76, co76, eo76⟩ := Kd.R_slice HO387.out; subst eo76; have p395 : 0 ≤ (2 : Int) := (by omega); have q395 : 2 < (t384.length : Int) := of_decide_eq_true zax; obtain ⟨ad395, e395, hx395_0⟩ := Kd.at_int (Kd.R_reads' HO387.out).2.2 2 p395 q395; cases e395; (try simp only [show (2 : Int).toNat = 2 from rfl, Nat.reduceMul, Nat.reduceEqDiff, Go.Addr.add, ↓reduceIte] at hx395_0); have qi395 : (2 < t384.length) = True := eq_true (by omega); (try rw [show ((2 : Int)).toNat = 2 from rfl] at hx395_0); replace p395 := eq_true p395; replace q395 := eq_true q395; have p396 : 0 ≤ (3 : Int) := (by omega); have q396 : 3 < (t384.length : Int) := of_decide_eq_true zax; obtain ⟨ad396, e396, hx396_0⟩ := Kd.at_int (Kd.R_reads' HO387.out).2.2 3 p396 q396; obtain rfl : ad395 = ad396 := (by injection e396); (try simp only [show (3 : Int).toNat = 3 from rfl, Nat.reduceMul, Nat.reduceEqDiff, Go.Addr.add, ↓reduceIte] at hx396_0); have qi396 : (3 < t384.length) = True := eq_true (by omega); (try rw [show ((3 : Int)).toNat = 3 from rfl] at hx396_0); replace p396 := eq_true p396; replace q396 := eq_true q396; obtain ⟨Ao77, co77, eo77⟩ := Kd.R_slice HO394.out; subst eo77; obtain ⟨Ao78, co78, eo78⟩ := Kd.R_slice HO392.out; subst eo78) | (go_at_call 37; (with_reducible refine (laws_rQueues.calls k2 _ _ t388 _ _ t354 true _ ?side1 ?side2 ?side3 ?side4 A67.out).mono ?_); (case side1 => repeat (first | exact (Kd.R_reads' HO392.out).2.2 | (with_reducible refine Kd.C_alloc ?_ _) | (with_reducible refine Kd.C_drewN ?_ _) | (with_reducible refine Kd.C_drew ?_))); (case side2 => exact (Kd.R_reads' HO392.out).2.1); (case side3 => repeat (first | exact (Kd.R_reads' HO_5.out).2.2 | (with_reducible refine Kd.C_alloc ?_ _) | (with_reducible refine Kd.C_drewN ?_ _) | (with_reducible refine Kd.C_drew ?_))); (case side4 => exact (Kd.R_reads' HO_5.out).2.1); rintro e w' ⟨rfl, ⟨nd, rfl⟩⟩) | (go_at_call 41; (with_reducible refine (impl_IsValidQueue.calls k2 _ _ t354 true _ ?side1 ?side2 A69.out).mono ?_); (case side1 => repeat (first | exact (Kd.R_reads' HO_5.out).2.2 | (with_reducible refine Kd.C_alloc ?_ _) | (with_reducible refine Kd.C_drewN ?_ _) | (with_reducible refine Kd.C_drew ?_))); (case side2 => exact (Kd.R_reads' HO_5.out).2.1); rintro e w79 ⟨rfl, hb⟩; have n0_ := Aside0.mk (Kd.R_below (zRx HO_3.out) hb); have n1_ := Aside0.mk (Kd.R_below (zRx HO_5.out) hb); have n2_ := Aside0.mk (Kd.R_below (zRx HO_6.out) hb); have n3_ := Aside0.mk (Kd.R_below (zRx HO383.out) hb); have n4_ := Aside0.mk (Kd.R_below (zRx HO387.out) hb); have n5_ := Aside0.mk (Kd.R_below (zRx HO392.out) hb); have n6_ := Aside0.mk (Kd.R_below (zRx HO394.out) hb); have n7_ := Aside0.mk (below_step (zBx HB.out) hb); clear HO_3; clear HO_5; clear HO_6; clear HO383; clear HO387; clear HO392; clear HO394; clear HB; have HO_3 := n0_; have HO_5 := n1_; have HO_6 := n2_; have HO383 := n3_; have HO387 := n4_; have HO392 := n5_; have HO394 := n6_; have HB := n7_; clear n0_ n1_ n2_ n3_ n4_ n5_ n6_ n7_; (try clear hb); (try clear hb2); (try clear hk); (try clear hi)))
                     go_meet
                     case rel => exact ⟨_, H', ⟨by have := HJ6.out; have := HK2.out; first | omega | exact Nat.le_refl _⟩, ⟨by exact zBx HB.out⟩⟩
                   ·replace c70 := Bool.eq_false_iff.mpr c70
                    subst c70
                    have H1 : (some false) = some r := by rw [if_neg (show ¬ (false = true) by decide)] at H; exact H
                    clear H
                    have H := H1
                    clear H1
                    as_aux_lemma =>
                     exact absurd (Option.some.inj H) (by rw [hr_]; decide)
                  ·replace c68 := Bool.eq_false_iff.mpr c68
                   subst c68
                   have H1 : (some false) = some r := by rw [if_neg (show ¬ (false = true) by decide)] at H; exact H
                   clear H
                   have H := H1
                   clear H1
                   as_aux_lemma =>
                    exact absurd (Option.some.inj H) (by rw [hr_]; decide)
                 ·rw [if_neg c66] at H
                  have c66b0 : ((t389.length : Int) == 0) = false := beq_eq_false_iff_ne.mpr c66
                  have c66b1 : ((t389.length : Int) != 0) = true := bne_iff_ne.mpr c66
                  have c66b2 : ¬ (t389 = []) := fun h_ => c66 (by rw [h_]; rfl)
                  as_aux_lemma =>
                   exact absurd (Option.some.inj H) (by rw [hr_]; decide)
                ·rw [if_neg c65] at H
                 have c65b0 : ((rd t384 3) == 0) = false := beq_eq_false_iff_ne.mpr c65
                 have c65b1 : ((rd t384 3) != 0) = true := bne_iff_ne.mpr c65
                 as_aux_lemma =>
                  exact absurd (Option.some.inj H) (by rw [hr_]; decide)
               ·rw [if_neg c64] at H
                exact absurd H (by simp)
              ·rw [if_neg c63] at H
               have c63b0 : ((rd t384 2) == 0) = false := beq_eq_false_iff_ne.mpr c63
               have c63b1 : ((rd t384 2) != 0) = true := bne_iff_ne.mpr c63
               as_aux_lemma =>
                exact absurd (Option.some.inj H) (by rw [hr_]; decide)
             ·rw [if_neg c62] at H
              exact absurd H (by simp)
            ·replace c61 := Bool.eq_false_iff.mpr c61
             subst c61
             have H1 : (some false) = some r := by rw [if_neg (show ¬ (false = true) by decide)] at H; exact H
             clear H
             have H := H1
             clear H1
             as_aux_lemma =>
              exact absurd (Option.some.inj H) (by rw [hr_]; decide)
           ·replace c60 := Bool.eq_false_iff.mpr c60
            subst c60
            have H1 : (some false) = some r := by rw [if_neg (show ¬ (false = true) by decide)] at H; exact H
            clear H
            have H := H1
            clear H1
            as_aux_lemma =>
             exact absurd (Option.some.inj H) (by rw [hr_]; decide)
          ·replace c59 := Bool.eq_false_iff.mpr c59
           subst c59
           have H1 : (some false) = some r := by rw [if_neg (show ¬ (false = true) by decide)] at H; exact H
           clear H
           have H := H1
           clear H1
           as_aux_lemma =>
            exact absurd (Option.some.inj H) (by rw [hr_]; decide)
      ·replace c24 := Bool.eq_false_iff.mpr c24
       subst c24
       have H1 : (laws_FnRetries.j2 kj6 l0) = some r := by rw [if_neg (show ¬ (false = true) by decide)] at H; exact H
       clear H
       have H := H1
       clear H1
       as_aux_lemma =>
        have H' := Aside0.mk H
        clear H
        go_wp2
        go_meet
        case rel => exact ⟨_, H', ⟨by have := HJ6.out; first | omega | exact Nat.le_refl _⟩, ⟨by exact zBx HB.out⟩⟩
     case rest =>
      as_aux_lemma =>
      clear HC23
      try clear c1
      try clear c2
      try clear p2
      try clear c3
      try clear p3
      try clear q3
      try clear hx3
      try clear qi3
      try clear c4
      try clear c5
      try clear c6
      try clear p6
      try clear c7
      try clear c12
      try clear c12b0
      try clear c12b1
      try clear c12b2
      try clear c14
      try clear c22
      try clear c24
      try clear c25
      try clear c25b0
      try clear c26
      try clear c26b0
      try clear c27
      try clear c27b0
      try clear c27b1
      try clear c28
      try clear c28b0
      try clear c31
      try clear c32
      try clear c32b0
      try clear c32b1
      try clear c33
      try clear c33b0
      try clear c34
      try clear c34b0
      try clear c34b1
      try clear c35
      try clear p37
      try clear q37
      try clear hx37
      try clear c39
      try clear p39
      try clear q39
      try clear hx39
      try clear qi39
      try clear c40
      try clear c44
      try clear c45
      try clear c45b0
      try clear c45b1
      try clear c46
      try clear c46b0
      try clear c47
      try clear c47b0
      try clear c47b1
      try clear c59
      try clear c60
      try clear c61
      try clear c62
      try clear c62b0
      try clear c62b1
      try clear c63
      try clear c63b0
      try clear c63b1
      try clear c64
      try clear c64b0
      try clear c64b1
      try clear p64
      try clear c65
      try clear c65b0
      try clear c65b1
      try clear c66
      try clear c66b0
      try clear c66b1
      try clear c66b2
      try clear c68
      try clear c70
      try clear hx370_0
      try clear hx370_1
      try clear hx370_2
      try clear hx370_3
      try clear hx371_0
      try clear hx371_1
      try clear hx371_2
      try clear hx371_3
      try clear hx372_0
      try clear hx372_1
      try clear hx372_2
      try clear hx372_3
      try clear hx374_0
      try clear hx374_1
      try clear hx374_2
      try clear hx374_3
      try clear hx375_0
      try clear hx375_1
      try clear hx375_2
      try clear hx375_3
      try clear hx376_0
      try clear hx376_1
      try clear hx376_2
      try clear hx376_3
      try clear hx378_0
      try clear hx378_1
      try clear hx378_2
      try clear hx378_3
      try clear hx379_0
      try clear hx379_1
      try clear hx379_2
      try clear hx379_3
      try clear hx395_0
      try clear hx396_0
      try clear p2
      try clear p370
      try clear p371
      try clear p372
      try clear p374
      try clear p375
      try clear p376
      try clear p378
      try clear p379
      try clear p395
      try clear p396
      try clear q370
      try clear q371
      try clear q372
      try clear q374
      try clear q375
      try clear q376
      try clear q378
      try clear q379
      try clear q395
      try clear q396
      obtain ⟨kq, HA, HJ22, HB⟩ := hcut
      cases kq with
      | zero => exact absurd HA.out (by simp [laws_FnRetries.j2])
      | succ kj22 =>
       have H := HA.out
       clear HA
       simp only [laws_FnRetries.j2] at H
       replace H := Option.bind_eq_some_iff.mp H
       obtain ⟨t399, A1310, H⟩ := H
       replace H : ((impl_NextMinute.f kj22 t399).bind fun bt402 => ((spec_NextMinute.f kj22 t399).bind fun bt404 => (if bt402.1 = bt404.1 then (laws_FnRetries.j3 kj22 l0 t399 bt402.2 (bt402.2 != bt404.2)) else (laws_FnRetries.j3 kj22 l0 t399 bt402.2 true)))) = some r := H
       have A131 := Aside0.mk A1310
       clear A1310
       replace H := Option.bind_eq_some_iff.mp H
       obtain ⟨⟨t402, t403⟩, A1320, H⟩ := H
       replace H : ((spec_NextMinute.f kj22 t399).bind fun bt404 => (if t402 = bt404.1 then (laws_FnRetries.j3 kj22 l0 t399 t403 (t403 != bt404.2)) else (laws_FnRetries.j3 kj22 l0 t399 t403 true))) = some r := H
       have A132 := Aside0.mk A1320
       clear A1320
       replace H := Option.bind_eq_some_iff.mp H
       obtain ⟨⟨t404, t405⟩, A1330, H⟩ := H
       replace H : (if t402 = t404 then (laws_FnRetries.j3 kj22 l0 t399 t403 (t403 != t405)) else (laws_FnRetries.j3 kj22 l0 t399 t403 true)) = some r := H
       have A133 := Aside0.mk A1330
       clear A1330
       have HC134 := Aside0.mk H
       clear H
       go_upto_region 22 with (first | ((with_reducible refine gate_callee (f := 42) rfl ?_); refine goesL_ (some 170) rfl rfl Try.func42 (by kernel_rfl) rfl #[.slice A0 l0.length c0] rfl zlx ?_; (with_reducible refine (spec_DrawNextMinute.calls kj22 _ _ l0 t399 _ ?side1 ?side2 A131.out).mono ?_); (case side1 => repeat (first | exact (Kd.C_below HR0.out HB.out) | (with_reducible refine Kd.C_alloc ?_ _) | (with_reducible refine Kd.C_drewN ?_ _) | (with_reducible refine Kd.C_drew ?_))); (case side2 => exact HC0.out); rintro e w135 ⟨v400, rfl, ho0, hb⟩; refine ⟨_, rfl, ?_⟩; have n0_ := Aside0.mk (Kd.R_lower ho0 (below_size (zBx HB.out))); have n1_ := Aside0.mk (below_step (zBx HB.out) hb); clear HB; have HO401 := n0_; have HB := n1_; clear n0_ n1_; (try clear hb); (try clear hb2); (try clear hk); (try clear hi); (try clear ho0); obtain ⟨Ao136, co136, eo136⟩ := Kd.R_slice HO401.out; subst eo136) | ((with_reducible refine gate_callee (f := 43) rfl ?_); refine goesL_ (some 173) rfl rfl Try.func43 (by kernel_rfl) rfl #[.slice Ao136 t399.length co136] rfl zlx ?_; (with_reducible refine (impl_NextMinute.calls kj22 _ _ t399 t402 t403 _ ?side1 ?side2 A132.out).mono ?_); (case side1 => repeat (first | exact (Kd.R_reads' HO401.out).2.2 | (with_reducible refine Kd.C_alloc ?_ _) | (with_reducible refine Kd.C_drewN ?_ _) | (with_reducible refine Kd.C_drew ?_))); (case side2 => exact (Kd.R_reads' HO401.out).2.1); rintro e w137 ⟨rfl, hb⟩; refine ⟨_, rfl, ?_⟩; have n0_ := Aside0.mk (Kd.R_below (zRx HO401.out) hb); have n1_ := Aside0.mk (below_step (zBx HB.out) hb); clear HO401; clear HB; have HO401 := n0_; have HB := n1_; clear n0_ n1_; (try clear hb); (try clear hb2); (try clear hk); (try clear hi)) | ((with_reducible refine gate_callee (f := 44) rfl ?_); refine goesL_ (some 178) rfl rfl Try.func44 (by kernel_rfl) rfl #[.slice Ao136 t399.length co136] rfl zlx ?_; (with_reducible refine (spec_NextMinute.calls kj22 _ _ t399 t404 t405 _ ?side1 ?side2 A133.out).mono ?_); (case side1 => repeat (first | exact (Kd.R_reads' HO401.out).2.2 | (with_reducible refine Kd.C_alloc ?_ _) | (with_reducible refine Kd.C_drewN ?_ _) | (with_reducible refine Kd.C_drew ?_))); (case side2 => exact (Kd.R_reads' HO401.out).2.1); rintro e w138 ⟨rfl, hb⟩; refine ⟨_, rfl, ?_⟩; have n0_ := Aside0.mk (Kd.R_below (zRx HO401.out) hb); have n1_ := Aside0.mk (below_step (zBx HB.out) hb); clear HO401; clear HB; have HO401 := n0_; have HB := n1_; clear n0_ n1_; (try clear hb); (try clear hb2); (try clear hk); (try clear hi)))
       (try simp only [Act.put, List.setIfInBounds_toArray, List.set_cons_zero, List.set_cons_succ])
       go_cut [188] (fun v188 wc => ∃ (kq : Nat) (x188_133 : Bool), v188 = .bool x188_133 ∧ Aside0 (laws_FnRetries.j3 kq l0 t399 t403 x188_133 = some r) ∧ Aside0 (kq ≤ kj22) ∧ Aside0 (Kd.R k59 59 wc w.heap.size (fun _ => True) (.slice Ao136 t399.length co136) t399) ∧ Aside0 (Below w.heap.size w wc))
       case first =>
        as_aux_lemma =>
        have H := HC134.out
        clear HC134
        by_cases c139 : t402 = t404
        ·rw [if_pos c139] at H
         have c139b0 : (t402 == t404) = true := beq_iff_eq.mpr c139
         have c139b1 : (t402 != t404) = false := bne_eq_false_iff_eq.mpr c139
         clear c139
         (first | rw [c139b0] | (simp only [i64_w, i32_w]; rw [c139b0]) | skip)
         as_aux_lemma =>
          have H' := Aside0.mk H
          clear H
          go_wp2
          go_meet
          case rel => exact ⟨_, ((t403 != t405)), zrx, H', ⟨by have := HJ6.out; have := HJ22.out; first | omega | exact Nat.le_refl _⟩, ⟨by (with_reducible repeat (first | apply Kd.R_alloc | apply Kd.R_drewN | apply Kd.R_drew)); exact HO401.out⟩, ⟨by exact zBx HB.out⟩⟩
        ·rw [if_neg c139] at H
         have c139b0 : (t402 == t404) = false := beq_eq_false_iff_ne.mpr c139
         have c139b1 : (t402 != t404) = true := bne_iff_ne.mpr c139
         (first | rw [c139b0] | (simp only [i64_w, i32_w]; rw [c139b0]) | skip)
         as_aux_lemma =>
          have H' := Aside0.mk H
          clear H
          go_wp2
          go_meet
          case rel => exact ⟨_, (true), zrx, H', ⟨by have := HJ6.out; have := HJ22.out; first | omega | exact Nat.le_refl _⟩, ⟨by (with_reducible repeat (first | apply Kd.R_alloc | apply Kd.R_drewN | apply Kd.R_drew)); exact HO401.out⟩, ⟨by exact zBx HB.out⟩⟩
       case rest =>
        as_aux_lemma =>
        clear HC134
        try clear c1
        try clear c2
        try clear p2
        try clear c3
        try clear p3
        try clear q3
        try clear hx3
        try clear qi3
        try clear c4
        try clear c5
        try clear c6
        try clear p6
        try clear c7
        try clear c12
        try clear c12b0
        try clear c12b1
        try clear c12b2
        try clear c13
        try clear c14
        try clear c22
        try clear c24
        try clear c25
        try clear c25b0
        try clear c26
        try clear c26b0
        try clear c27
        try clear c27b0
        try clear c27b1
        try clear c28
        try clear c28b0
        try clear c31
        try clear c32
        try clear c32b0
        try clear c32b1
        try clear c33
        try clear c33b0
        try clear c34
        try clear c34b0
        try clear c34b1
        try clear c35
        try clear p37
        try clear q37
        try clear hx37
        try clear c39
        try clear p39
        try clear q39
        try clear hx39
        try clear qi39
        try clear c40
        try clear c42
        try clear c43
        try clear c44
        try clear c45
        try clear c45b0
        try clear c45b1
        try clear c46
        try clear c46b0
        try clear c47
        try clear c47b0
        try clear c47b1
        try clear c59
        try clear c60
        try clear c61
        try clear c62
        try clear c62b0
        try clear c62b1
        try clear c63
        try clear c63b0
        try clear c63b1
        try clear c64
        try clear c64b0
        try clear c64b1
        try clear p64
        try clear c65
        try clear c65b0
        try clear c65b1
        try clear c66
        try clear c66b0
        try clear c66b1
        try clear c66b2
        try clear c68
        try clear c70
        try clear c139
        try clear c139b0
        try clear c139b1
        try clear hx370_0
        try clear hx370_1
        try clear hx370_2
        try clear hx370_3
        try clear hx371_0
        try clear hx371_1
        try clear hx371_2
        try clear hx371_3
        try clear hx372_0
        try clear hx372_1
        try clear hx372_2
        try clear hx372_3
        try clear hx374_0
        try clear hx374_1
        try clear hx374_2
        try clear hx374_3
        try clear hx375_0
        try clear hx375_1
        try clear hx375_2
        try clear hx375_3
        try clear hx376_0
        try clear hx376_1
        try clear hx376_2
        try clear hx376_3
        try clear hx378_0
        try clear hx378_1
        try clear hx378_2
        try clear hx378_3
        try clear hx379_0
        try clear hx379_1
        try clear hx379_2
        try clear hx379_3
        try clear hx395_0
        try clear hx396_0
        try clear p2
        try clear p3
        try clear p37
        try clear p370
        try clear p371
        try clear p372
        try clear p374
        try clear p375
        try clear p376
        try clear p378
        try clear p379
        try clear p39
        try clear p395
        try clear p396
        try clear p6
        try clear p64
        try clear q3
        try clear q37
        try clear q370
        try clear q371
        try clear q372
        try clear q374
        try clear q375
        try clear q376
        try clear q378
        try clear q379
        try clear q39
        try clear q395
        try clear q396
        obtain ⟨kq, x188_133, rfl, HA, HJ133, HO_19, HB⟩ := hcut
        cases kq with
        | zero => exact absurd HA.out (by simp [laws_FnRetries.j3])
        | succ kj133 =>
         have H := HA.out
         clear HA
         simp only [laws_FnRetries.j3] at H
         by_cases c140 : x188_133 = true
         ·subst c140
          have H1 : (some false) = some r := by rw [if_pos rfl] at H; exact H
          clear H
          have H := H1
          clear H1
          as_aux_lemma =>
           exact absurd (Option.some.inj H) (by rw [hr_]; decide)
         ·replace c140 := Bool.eq_false_iff.mpr c140
          subst c140
          have H1 : ((impl_PruneQueue.f kj133 t399).bind fun bt406 => (if bt406.2 = true then (laws_FnRetries.j4 kj133 l0 (t403 != (decide ((bt406.1.length : Int) > 0)))) else (laws_FnRetries.j4 kj133 l0 false))) = some r := by rw [if_neg (show ¬ (false = true) by decide)] at H; exact H
          clear H
          have H := H1
          clear H1
          replace H := Option.bind_eq_some_iff.mp H
          obtain ⟨⟨t406, t407⟩, A1410, H⟩ := H
          replace H : (if t407 = true then (laws_FnRetries.j4 kj133 l0 (t403 != (decide ((t406.length : Int) > 0)))) else (laws_FnRetries.j4 kj133 l0 false)) = some r := H
          have A141 := Aside0.mk A1410
          clear A1410
          have HC142 := Aside0.mk H
          clear H
          go_upto_region 25 with (first | ((with_reducible refine gate_callee (f := 39) rfl ?_); refine goesL_ (some 191) rfl rfl Try.func39 (by kernel_rfl) rfl #[.slice Ao136 t399.length co136] rfl zlx ?_; (with_reducible refine (impl_PruneQueue.calls kj133 _ _ t399 t406 t407 _ ?side1 ?side2 A141.out).mono ?_); (case side1 => repeat (first | exact (Kd.R_reads' HO_19.out).2.2 | (with_reducible refine Kd.C_alloc ?_ _) | (with_reducible refine Kd.C_drewN ?_ _) | (with_reducible refine Kd.C_drew ?_))); (case side2 => exact (Kd.R_reads' HO_19.out).2.1); rintro e w143 ⟨v408, rfl, ho0, hb⟩; refine ⟨_, rfl, ?_⟩; have n0_ := Aside0.mk (Kd.R_elder' (zRx HO_19.out) (Kd.R_base ho0) hb); have n1_ := Aside0.mk (Kd.R_lower (Kd.R_new' ho0 (Kd.R_lt (zRx HO_19.out))) (below_size (zBx HB.out))); have n2_ := Aside0.mk (below_step (zBx HB.out) hb); clear HO_19; clear HB; have HO_19 := n0_; have HO409 := n1_; have HB := n2_; clear n0_ n1_ n2_; (try clear hb); (try clear hb2); (try clear hk); (try clear hi); (try clear ho0)))
          (try simp only [Act.put, List.setIfInBounds_toArray, List.set_cons_zero, List.set_cons_succ])
          go_cut [201] (fun v201 wc => ∃ (kq : Nat) (x201_141 : Bool), v201 = .bool x201_141 ∧ Aside0 (laws_FnRetries.j4 kq l0 x201_141 = some r) ∧ Aside0 (kq ≤ kj133) ∧ Aside0 (Below w.heap.size w wc))
          case first =>
           as_aux_lemma =>
           have H := HC142.out
           clear HC142
           by_cases c144 : t407 = true
           ·subst c144
            have H1 : (laws_FnRetries.j4 kj133 l0 (t403 != (decide ((t406.length : Int) > 0)))) = some r := by rw [if_pos rfl] at H; exact H
            clear H
            have H := H1
            clear H1
            as_aux_lemma =>
             have H' := Aside0.mk H
             clear H
             obtain ⟨Ao145, co145, eo145⟩ := Kd.R_slice HO409.out
             subst eo145
             go_wp2
             go_meet
             case rel => exact ⟨_, ((t403 != (decide ((t406.length : Int) > 0)))), (by cases t403 <;> simp), H', ⟨by have := HJ6.out; have := HJ22.out; have := HJ133.out; first | omega | exact Nat.le_refl _⟩, ⟨by exact zBx HB.out⟩⟩
           ·replace c144 := Bool.eq_false_iff.mpr c144
            subst c144
            have H1 : (laws_FnRetries.j4 kj133 l0 false) = some r := by rw [if_neg (show ¬ (false = true) by decide)] at H; exact H
            clear H
            have H := H1
            clear H1
            as_aux_lemma =>
             have H' := Aside0.mk H
             clear H
             go_wp2
             go_meet
             case rel => exact ⟨_, (false), zrx, H', ⟨by have := HJ6.out; have := HJ22.out; have := HJ133.out; first | omega | exact Nat.le_refl _⟩, ⟨by exact zBx HB.out⟩⟩
          case rest =>
           as_aux_lemma =>
           clear HC142
           try clear c1
           try clear c2
           try clear p2
           try clear c3
           try clear p3
           try clear q3
           try clear hx3
           try clear qi3
           try clear c4
           try clear c5
           try clear c6
           try clear p6
           try clear c7
           try clear c12
           try clear c12b0
           try clear c12b1
           try clear c12b2
           try clear c13
           try clear c14
           try clear c22
           try clear c24
           try clear c25
           try clear c25b0
           try clear c26
           try clear c26b0
           try clear c27
           try clear c27b0
           try clear c27b1
           try clear c28
           try clear c28b0
           try clear c31
           try clear c32
           try clear c32b0
           try clear c32b1
           try clear c33
           try clear c33b0
           try clear c34
           try clear c34b0
           try clear c34b1
           try clear c35
           try clear p37
           try clear q37
           try clear hx37
           try clear c39
           try clear p39
           try clear q39
           try clear hx39
           try clear qi39
           try clear c40
           try clear c42
           try clear c43
           try clear c44
           try clear c45
           try clear c45b0
           try clear c45b1
           try clear c46
           try clear c46b0
           try clear c47
           try clear c47b0
           try clear c47b1
           try clear c59
           try clear c60
           try clear c61
           try clear c62
           try clear c62b0
           try clear c62b1
           try clear c63
           try clear c63b0
           try clear c63b1
           try clear c64
           try clear c64b0
           try clear c64b1
           try clear p64
           try clear c65
           try clear c65b0
           try clear c65b1
           try clear c66
           try clear c66b0
           try clear c66b1
           try clear c66b2
           try clear c68
           try clear c70
           try clear c139
           try clear c139b0
           try clear c139b1
           try clear c140
           try clear c144
           try clear hx370_0
           try clear hx370_1
           try clear hx370_2
           try clear hx370_3
           try clear hx371_0
           try clear hx371_1
           try clear hx371_2
           try clear hx371_3
           try clear hx372_0
           try clear hx372_1
           try clear hx372_2
           try clear hx372_3
           try clear hx374_0
           try clear hx374_1
           try clear hx374_2
           try clear hx374_3
           try clear hx375_0
           try clear hx375_1
           try clear hx375_2
           try clear hx375_3
           try clear hx376_0
           try clear hx376_1
           try clear hx376_2
           try clear hx376_3
           try clear hx378_0
           try clear hx378_1
           try clear hx378_2
           try clear hx378_3
           try clear hx379_0
           try clear hx379_1
           try clear hx379_2
           try clear hx379_3
           try clear hx395_0
           try clear hx396_0
           try clear p2
           try clear p3
           try clear p37
           try clear p370
           try clear p371
           try clear p372
           try clear p374
           try clear p375
           try clear p376
           try clear p378
           try clear p379
           try clear p39
           try clear p395
           try clear p396
           try clear p6
           try clear p64
           try clear q3
           try clear q37
           try clear q370
           try clear q371
           try clear q372
           try clear q374
           try clear q375
           try clear q376
           try clear q378
           try clear q379
           try clear q39
           try clear q395
           try clear q396
           obtain ⟨kq, x201_141, rfl, HA, HJ141, HB⟩ := hcut
           cases kq with
           | zero => exact absurd HA.out (by simp [laws_FnRetries.j4])
           | succ kj141 =>
            have H := HA.out
            clear HA
            simp only [laws_FnRetries.j4] at H
            by_cases c146 : x201_141 = true
            ·subst c146
             have H1 : (some false) = some r := by rw [if_pos rfl] at H; exact H
             clear H
             have H := H1
             clear H1
             as_aux_lemma =>
              exact absurd (Option.some.inj H) (by rw [hr_]; decide)
            ·replace c146 := Bool.eq_false_iff.mpr c146
             subst c146
             have H1 : ((spec_DrawWorstWait.f l0).bind fun t410 => ((impl_WorstWait.f kj141 t410).bind fun bt411 => ((spec_WorstWait.f kj141 t410).bind fun bt413 => (if bt411.1 = bt413.1 then (some (bt411.2 == bt413.2)) else (some false))))) = some r := by rw [if_neg (show ¬ (false = true) by decide)] at H; exact H
             clear H
             have H := H1
             clear H1
             replace H := Option.bind_eq_some_iff.mp H
             obtain ⟨t410, A1470, H⟩ := H
             replace H : ((impl_WorstWait.f kj141 t410).bind fun bt411 => ((spec_WorstWait.f kj141 t410).bind fun bt413 => (if bt411.1 = bt413.1 then (some (bt411.2 == bt413.2)) else (some false)))) = some r := H
             have A147 := Aside0.mk A1470
             clear A1470
             replace H := Option.bind_eq_some_iff.mp H
             obtain ⟨⟨t411, t412⟩, A1480, H⟩ := H
             replace H : ((spec_WorstWait.f kj141 t410).bind fun bt413 => (if t411 = bt413.1 then (some (t412 == bt413.2)) else (some false))) = some r := H
             have A148 := Aside0.mk A1480
             clear A1480
             replace H := Option.bind_eq_some_iff.mp H
             obtain ⟨⟨t413, t414⟩, A1490, H⟩ := H
             replace H : (if t411 = t413 then (some (t412 == t414)) else (some false)) = some r := H
             have A149 := Aside0.mk A1490
             clear A1490
             by_cases c150 : t411 = t413
             ·rw [if_pos c150] at H
              have c150b0 : (t411 == t413) = true := beq_iff_eq.mpr c150
              have c150b1 : (t411 != t413) = false := bne_eq_false_iff_eq.mpr c150
              clear c150
              as_aux_lemma =>
               obtain rfl := Option.some.inj H
               go_wp2_with (first | ((with_reducible refine gate_callee (f := 45) rfl ?_); refine goesL_ (some 203) rfl rfl Try.func45 (by kernel_rfl) rfl #[.slice A0 l0.length c0] rfl zlx ?_; (with_reducible refine (spec_DrawWorstWait.calls _ _ l0 t410 _ ?side1 ?side2 A147.out).mono ?_); (case side1 => repeat (first | exact (Kd.C_below HR0.out HB.out) | (with_reducible refine Kd.C_alloc ?_ _) | (with_reducible refine Kd.C_drewN ?_ _) | (with_reducible refine Kd.C_drew ?_))); (case side2 => exact HC0.out); rintro e w151 ⟨rfl, hb⟩; refine ⟨_, rfl, ?_⟩; have n0_ := Aside0.mk (below_step (zBx HB.out) hb); clear HB; have HB := n0_; clear n0_; (try clear hb); (try clear hb2); (try clear hk); (try clear hi)) | ((with_reducible refine gate_callee (f := 46) rfl ?_); refine goesL_ (some 206) rfl rfl Try.func46 (by kernel_rfl) rfl #[.int .i64 t410] rfl zlx ?_; (with_reducible refine (impl_WorstWait.calls kj141 t410 t411 t412 _ A148.out).mono ?_); rintro e w' ⟨rfl, ⟨nd, rfl⟩⟩; refine ⟨_, rfl, ?_⟩) | ((with_reducible refine gate_callee (f := 47) rfl ?_); refine goesL_ (some 211) rfl rfl Try.func47 (by kernel_rfl) rfl #[.int .i64 t410] rfl zlx ?_; (with_reducible refine (spec_WorstWait.calls kj141 t410 t413 t414 _ A149.out).mono ?_); rintro e w' ⟨rfl, ⟨nd, rfl⟩⟩; refine ⟨_, rfl, ?_⟩))
               go_ret
               exact ⟨by first | rfl | (simp [errW_none, errW_some] <;> rfl) | (simp [*, errW_none, errW_some] <;> rfl), by exact zBx HB.out⟩
             ·rw [if_neg c150] at H
              have c150b0 : (t411 == t413) = false := beq_eq_false_iff_ne.mpr c150
              have c150b1 : (t411 != t413) = true := bne_iff_ne.mpr c150
              as_aux_lemma =>
               exact absurd (Option.some.inj H) (by rw [hr_]; decide)

/-- THE ONE PURE STATEMENT of laws_FnRetries: yours. -/
def laws_FnRetries.Pure : Prop := ∀ (l0 : List Int), l0.length ≤ maxLen → l0.length * 1 ≤ 140737488351232 → (∀ x ∈ l0, (Lit.int .u8 x).wf = true) → ∃ k, laws_FnRetries.f k l0 = some true
theorem laws_FnRetries.walk (P : laws_FnRetries.Pure) (a0 : Option Addr) (len0 cap0 : Nat) (z0 : List Int) (w : World) (w0 : (a0 = none ∧ len0 = 0 ∧ cap0 = 0 ∧ z0 = []) ∨ ∃ x, a0 = some x ∧ len0 ≤ cap0 ∧ cap0 ≤ maxLen ∧ z0.length = cap0 ∧ (∀ i, i < z0.length → w.cell? (x.add i) = some (.int .u8 (z0.getD i 0))) ∧ ∀ n ∈ z0, (Lit.int .u8 n).wf = true) (y0 : len0 * 1 ≤ 140737488351232) :
 Calls Try.prog 5 #[.slice a0 len0 cap0] w fun e w' => e = .returned (.bool true) ∧ Below w.heap.size w w' := by
 obtain ⟨l0, rfl, hr0, hm0, hw0, hc0⟩ := ReadsInt.ofRowC w0
 obtain ⟨k, h⟩ := P l0 hm0 y0 hw0
 refine (laws_FnRetries.calls k _ _ l0 true w (Kd.C_of_reads (d := (0 : Int)) (h1 := fun _ => rfl) hr0) hc0 h rfl).mono ?_
 rintro e w' ⟨rfl, hd⟩
 exact ⟨rfl, hd⟩

end Go.Proofs.Ytkegkbpadhddkaa.XFnRetries
