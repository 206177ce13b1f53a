-- written by wip/tools/xprint.py (a program of this project) out of the translation
import Derived.Test.YtmgckbjdhjbciaaXFnReliabilityx0
import Derived.Test.YtmgckbjdhjbciaaXFnReliabilityx2
import Derived.Test.YtmgckbjdhjbciaaXFnReliabilityx3
import Derived.Test.YtmgckbjdhjbciaaXFnReliabilityx4
import Derived.Test.YtmgckbjdhjbciaaXFnReliabilityx5
import Derived.Test.YtmgckbjdhjbciaaXFnReliabilityx6
import Derived.Test.YtmgckbjdhjbciaaXFnReliabilityx7
namespace Go.Proofs.Ytmgckbjdhjbciaa.XFnReliability
open Go.RowKit Go.Proofs.YtmgckbjdhjbciaaW.PrintWords Go.Proofs.YtmgckbjdhjbciaaW.PrintLast Go.Proofs.YtmgckbjdhjbciaaW.PrintMore
attribute [local go_sem] max2_int min2_int max_two min_two max_three min_three max_four min_four   -- for this text's walks alone
set_option linter.unusedVariables false
set_option linter.unusedSimpArgs false

/-! ### laws_FnReliability: function 6 -/
mutual
def laws_FnReliability.j0 : Nat → List (S102) → List (List Int) → Bool → Bool → Option (Bool)
  | 0, _, _, _, _ => none
  | k + 1, x3, x4, x5, x67 => if x67 = true then (some false) else (laws_FnReliability.l0 k x3 x4 x5 0 0 0)
def laws_FnReliability.l0 : Nat → List (S102) → List (List Int) → Bool → Int → Int → Int → Option (Bool)
  | 0, _, _, _, _, _, _ => none
  | k + 1, x3, x4, x5, x8, x9, x10 => if x10 < (x4.length : Int) then (if 0 ≤ x10 then (if 1 < ((rd_L4 x4 x10).length : Int) then (if 2 < ((rd_L4 x4 x10).length : Int) then (laws_FnReliability.l0 k x3 x4 x5 (wrap64 (x8 + (rd (rd_L4 x4 x10) 1))) (wrap64 (x9 + (rd (rd_L4 x4 x10) 2))) (wrap64 (x10 + 1))) else (none)) else (none)) else (none)) else (if x5 = true then (laws_FnReliability.j2 k x3 x8 x9 (x8 != (x3.length : Int))) else (laws_FnReliability.j2 k x3 x8 x9 false))
def laws_FnReliability.j2 : Nat → List (S102) → Int → Int → Bool → Option (Bool)
  | 0, _, _, _, _ => none
  | k + 1, x3, x8, x9, x96 => if x96 = true then (some false) else ((impl_BaseRate.f k x3).bind fun bt284 => ((spec_BaseRate.f k x3).bind fun bt287 => (if bt284.1 = bt287.1 then (if bt284.2.1 = bt287.2.1 then (if (bt284.2.2 != bt287.2.2) = true then (laws_FnReliability.j3 k x3 bt284.1 bt284.2.1 bt284.2.2 true) else (if bt284.2.2 = true then (laws_FnReliability.j3 k x3 bt284.1 bt284.2.1 bt284.2.2 ((wrap64 (bt284.1 * x8)) != (wrap64 (x9 * bt284.2.1)))) else (laws_FnReliability.j3 k x3 bt284.1 bt284.2.1 bt284.2.2 false))) else (laws_FnReliability.j3 k x3 bt284.1 bt284.2.1 bt284.2.2 true)) else (laws_FnReliability.j3 k x3 bt284.1 bt284.2.1 bt284.2.2 true))))
def laws_FnReliability.j3 : Nat → List (S102) → Int → Int → Bool → Bool → Option (Bool)
  | 0, _, _, _, _, _ => none
  | k + 1, x3, x11, x12, x13, x133 => if x133 = true then (some false) else (if x13 = true then ((impl_FlipChances.f k x3).bind fun bt290 => ((impl_FlipChances.f k bt290.1).bind fun bt294 => ((impl_BrierScore.f k x3).bind fun bt298 => ((impl_BrierScore.f k bt290.1).bind fun bt301 => ((impl_BaseRate.f k bt290.1).bind fun bt304 => ((spec_BrierScore.f k x3).bind fun bt307 => (if bt290.2 = true then (if bt294.2 = true then (if bt298.2.2 = true then (if bt301.2.2 = true then (if bt304.2.2 = true then ((laws_rChances.f k bt294.1 x3).bind fun t310 => (if t310 = true then (if bt298.1 = bt301.1 then (if bt298.2.1 = bt301.2.1 then (if (wrap64 (bt304.1 * x12)) = (wrap64 ((wrap64 (x12 - x11)) * bt304.2.1)) then (if bt298.1 = bt307.1 then (if bt298.2.1 = bt307.2.1 then (laws_FnReliability.j4 k x3 (decide (bt298.1 > bt298.2.1))) else (laws_FnReliability.j4 k x3 true)) else (laws_FnReliability.j4 k x3 true)) else (laws_FnReliability.j4 k x3 true)) else (laws_FnReliability.j4 k x3 true)) else (laws_FnReliability.j4 k x3 true)) else (laws_FnReliability.j4 k x3 true))) else (laws_FnReliability.j4 k x3 true)) else (laws_FnReliability.j4 k x3 true)) else (laws_FnReliability.j4 k x3 true)) else (laws_FnReliability.j4 k x3 true)) else (laws_FnReliability.j4 k x3 true)))))))) else ((impl_MostBiased.f k x3).bind fun bt317 => ((spec_MostBiased.f k x3).bind fun bt320 => (if bt317.1 = bt320.1 then (if bt317.2.1 = bt320.2.1 then (some (bt317.2.2 == bt320.2.2)) else (some false)) else (some false)))))
def laws_FnReliability.j4 : Nat → List (S102) → Bool → Option (Bool)
  | 0, _, _ => none
  | k + 1, x3, x228 => if x228 = true then (some false) else ((impl_MostBiased.f k x3).bind fun bt311 => ((spec_MostBiased.f k x3).bind fun bt314 => (if bt311.1 = bt314.1 then (if bt311.2.1 = bt314.2.1 then (some (bt311.2.2 == bt314.2.2)) else (some false)) else (some false))))
end
def laws_FnReliability.f (k : Nat) (l0 : List Int) : Option (Bool) := (laws_rBig.f l0).bind fun t266 => (if t266 = true then (some true) else ((spec_DrawReliabilityTable.f k l0).bind fun t267 => ((impl_ReliabilityTable.f k t267).bind fun bt270 => ((spec_ReliabilityTable.f k t267).bind fun bt274 => (if (bt270.2 != bt274.2) = true then (laws_FnReliability.j0 k t267 bt270.1 bt270.2 true) else ((laws_rTable.f k bt270.1 bt274.1).bind fun t278 => (if t278 = true then ((impl_IsValidChances.f k t267).bind fun t279 => (laws_FnReliability.j0 k t267 bt270.1 bt270.2 (bt270.2 != t279))) else (laws_FnReliability.j0 k t267 bt270.1 bt270.2 true))))))))
theorem laws_FnReliability.mono_l : ∀ k, (∀ y0 y1 y2 y3, LeO (laws_FnReliability.j0 k y0 y1 y2 y3) (laws_FnReliability.j0 (k + 1) y0 y1 y2 y3)) ∧ (∀ y0 y1 y2 y3 y4 y5, LeO (laws_FnReliability.l0 k y0 y1 y2 y3 y4 y5) (laws_FnReliability.l0 (k + 1) y0 y1 y2 y3 y4 y5)) ∧ (∀ y0 y1 y2 y3, LeO (laws_FnReliability.j2 k y0 y1 y2 y3) (laws_FnReliability.j2 (k + 1) y0 y1 y2 y3)) ∧ (∀ y0 y1 y2 y3 y4, LeO (laws_FnReliability.j3 k y0 y1 y2 y3 y4) (laws_FnReliability.j3 (k + 1) y0 y1 y2 y3 y4)) ∧ (∀ y0 y1, LeO (laws_FnReliability.j4 k y0 y1) (laws_FnReliability.j4 (k + 1) y0 y1))
  | 0 => ⟨fun _ _ _ _ r h => by simp [laws_FnReliability.j0] at h, fun _ _ _ _ _ _ r h => by simp [laws_FnReliability.l0] at h, fun _ _ _ _ r h => by simp [laws_FnReliability.j2] at h, fun _ _ _ _ _ r h => by simp [laws_FnReliability.j3] at h, fun _ _ r h => by simp [laws_FnReliability.j4] at h⟩
  | k + 1 => by
    obtain ⟨ih0, ih1, ih2, ih3, ih4⟩ := laws_FnReliability.mono_l k
    refine ⟨?_, ?_, ?_, ?_, ?_⟩
    · intro y0 y1 y2 y3
      unfold laws_FnReliability.j0
      repeat' first
      | (with_reducible exact ih0 _ _ _ _)
      | (with_reducible exact ih1 _ _ _ _ _ _)
      | (with_reducible exact ih2 _ _ _ _)
      | (with_reducible exact ih3 _ _ _ _ _)
      | (with_reducible exact ih4 _ _)
      | (with_reducible exact impl_BaseRate.mono _ _)
      | (with_reducible exact impl_BrierScore.mono _ _)
      | (with_reducible exact impl_FlipChances.mono _ _)
      | (with_reducible exact impl_IsValidChances.mono _ _)
      | (with_reducible exact impl_MostBiased.mono _ _)
      | (with_reducible exact impl_ReliabilityTable.mono _ _)
      | (with_reducible exact laws_rChances.mono _ _ _)
      | (with_reducible exact laws_rTable.mono _ _ _)
      | (with_reducible exact spec_BaseRate.mono _ _)
      | (with_reducible exact spec_BrierScore.mono _ _)
      | (with_reducible exact spec_DrawReliabilityTable.mono _ _)
      | (with_reducible exact spec_MostBiased.mono _ _)
      | (with_reducible exact spec_ReliabilityTable.mono _ _)
      | (with_reducible exact LeO.refl _)
      | (with_reducible exact LeO.none _)
      | (with_reducible refine LeO.ite ?_ ?_)
      | (with_reducible refine LeO.bind ?_ (fun _ => ?_))
      | exact ih0 _ _ _ _
      | exact ih1 _ _ _ _ _ _
      | exact ih2 _ _ _ _
      | exact ih3 _ _ _ _ _
      | exact ih4 _ _
      | exact impl_BaseRate.mono _ _
      | exact impl_BrierScore.mono _ _
      | exact impl_FlipChances.mono _ _
      | exact impl_IsValidChances.mono _ _
      | exact impl_MostBiased.mono _ _
      | exact impl_ReliabilityTable.mono _ _
      | exact laws_rChances.mono _ _ _
      | exact laws_rTable.mono _ _ _
      | exact spec_BaseRate.mono _ _
      | exact spec_BrierScore.mono _ _
      | exact spec_DrawReliabilityTable.mono _ _
      | exact spec_MostBiased.mono _ _
      | exact spec_ReliabilityTable.mono _ _
      | exact LeO.none _
      | refine LeO.ite ?_ ?_
      | refine LeO.bind ?_ (fun _ => ?_)
    · intro y0 y1 y2 y3 y4 y5
      unfold laws_FnReliability.l0
      repeat' first
      | (with_reducible exact ih0 _ _ _ _)
      | (with_reducible exact ih1 _ _ _ _ _ _)
      | (with_reducible exact ih2 _ _ _ _)
      | (with_reducible exact ih3 _ _ _ _ _)
      | (with_reducible exact ih4 _ _)
      | (with_reducible exact impl_BaseRate.mono _ _)
      | (with_reducible exact impl_BrierScore.mono _ _)
      | (with_reducible exact impl_FlipChances.mono _ _)
      | (with_reducible exact impl_IsValidChances.mono _ _)
      | (with_reducible exact impl_MostBiased.mono _ _)
      | (with_reducible exact impl_ReliabilityTable.mono _ _)
      | (with_reducible exact laws_rChances.mono _ _ _)
      | (with_reducible exact laws_rTable.mono _ _ _)
      | (with_reducible exact spec_BaseRate.mono _ _)
      | (with_reducible exact spec_BrierScore.mono _ _)
      | (with_reducible exact spec_DrawReliabilityTable.mono _ _)
      | (with_reducible exact spec_MostBiased.mono _ _)
      | (with_reducible exact spec_ReliabilityTable.mono _ _)
      | (with_reducible exact LeO.refl _)
      | (with_reducible exact LeO.none _)
      | (with_reducible refine LeO.ite ?_ ?_)
      | (with_reducible refine LeO.bind ?_ (fun _ => ?_))
      | exact ih0 _ _ _ _
      | exact ih1 _ _ _ _ _ _
      | exact ih2 _ _ _ _
      | exact ih3 _ _ _ _ _
      | exact ih4 _ _
      | exact impl_BaseRate.mono _ _
      | exact impl_BrierScore.mono _ _
      | exact impl_FlipChances.mono _ _
      | exact impl_IsValidChances.mono _ _
      | exact impl_MostBiased.mono _ _
      | exact impl_ReliabilityTable.mono _ _
      | exact laws_rChances.mono _ _ _
      | exact laws_rTable.mono _ _ _
      | exact spec_BaseRate.mono _ _
      | exact spec_BrierScore.mono _ _
      | exact spec_DrawReliabilityTable.mono _ _
      | exact spec_MostBiased.mono _ _
      | exact spec_ReliabilityTable.mono _ _
      | exact LeO.none _
      | refine LeO.ite ?_ ?_
      | refine LeO.bind ?_ (fun _ => ?_)
    · intro y0 y1 y2 y3
      unfold laws_FnReliability.j2
      repeat' first
      | (with_reducible exact ih0 _ _ _ _)
      | (with_reducible exact ih1 _ _ _ _ _ _)
      | (with_reducible exact ih2 _ _ _ _)
      | (with_reducible exact ih3 _ _ _ _ _)
      | (with_reducible exact ih4 _ _)
      | (with_reducible exact impl_BaseRate.mono _ _)
      | (with_reducible exact impl_BrierScore.mono _ _)
      | (with_reducible exact impl_FlipChances.mono _ _)
      | (with_reducible exact impl_IsValidChances.mono _ _)
      | (with_reducible exact impl_MostBiased.mono _ _)
      | (with_reducible exact impl_ReliabilityTable.mono _ _)
      | (with_reducible exact laws_rChances.mono _ _ _)
      | (with_reducible exact laws_rTable.mono _ _ _)
      | (with_reducible exact spec_BaseRate.mono _ _)
      | (with_reducible exact spec_BrierScore.mono _ _)
      | (with_reducible exact spec_DrawReliabilityTable.mono _ _)
      | (with_reducible exact spec_MostBiased.mono _ _)
      | (with_reducible exact spec_ReliabilityTable.mono _ _)
      | (with_reducible exact LeO.refl _)
      | (with_reducible exact LeO.none _)
      | (with_reducible refine LeO.ite ?_ ?_)
      | (with_reducible refine LeO.bind ?_ (fun _ => ?_))
      | exact ih0 _ _ _ _
      | exact ih1 _ _ _ _ _ _
      | exact ih2 _ _ _ _
      | exact ih3 _ _ _ _ _
      | exact ih4 _ _
      | exact impl_BaseRate.mono _ _
      | exact impl_BrierScore.mono _ _
      | exact impl_FlipChances.mono _ _
      | exact impl_IsValidChances.mono _ _
      | exact impl_MostBiased.mono _ _
      | exact impl_ReliabilityTable.mono _ _
      | exact laws_rChances.mono _ _ _
      | exact laws_rTable.mono _ _ _
      | exact spec_BaseRate.mono _ _
      | exact spec_BrierScore.mono _ _
      | exact spec_DrawReliabilityTable.mono _ _
      | exact spec_MostBiased.mono _ _
      | exact spec_ReliabilityTable.mono _ _
      | exact LeO.none _
      | refine LeO.ite ?_ ?_
      | refine LeO.bind ?_ (fun _ => ?_)
    · intro y0 y1 y2 y3 y4
      unfold laws_FnReliability.j3
      repeat' first
      | (with_reducible exact ih0 _ _ _ _)
      | (with_reducible exact ih1 _ _ _ _ _ _)
      | (with_reducible exact ih2 _ _ _ _)
      | (with_reducible exact ih3 _ _ _ _ _)
      | (with_reducible exact ih4 _ _)
      | (with_reducible exact impl_BaseRate.mono _ _)
      | (with_reducible exact impl_BrierScore.mono _ _)
      | (with_reducible exact impl_FlipChances.mono _ _)
      | (with_reducible exact impl_IsValidChances.mono _ _)
      | (with_reducible exact impl_MostBiased.mono _ _)
      | (with_reducible exact impl_ReliabilityTable.mono _ _)
      | (with_reducible exact laws_rChances.mono _ _ _)
      | (with_reducible exact laws_rTable.mono _ _ _)
      | (with_reducible exact spec_BaseRate.mono _ _)
      | (with_reducible exact spec_BrierScore.mono _ _)
      | (with_reducible exact spec_DrawReliabilityTable.mono _ _)
      | (with_reducible exact spec_MostBiased.mono _ _)
      | (with_reducible exact spec_ReliabilityTable.mono _ _)
      | (with_reducible exact LeO.refl _)
      | (with_reducible exact LeO.none _)
      | (with_reducible refine LeO.ite ?_ ?_)
      | (with_reducible refine LeO.bind ?_ (fun _ => ?_))
      | exact ih0 _ _ _ _
      | exact ih1 _ _ _ _ _ _
      | exact ih2 _ _ _ _
      | exact ih3 _ _ _ _ _
      | exact ih4 _ _
      | exact impl_BaseRate.mono _ _
      | exact impl_BrierScore.mono _ _
      | exact impl_FlipChances.mono _ _
      | exact impl_IsValidChances.mono _ _
      | exact impl_MostBiased.mono _ _
      | exact impl_ReliabilityTable.mono _ _
      | exact laws_rChances.mono _ _ _
      | exact laws_rTable.mono _ _ _
      | exact spec_BaseRate.mono _ _
      | exact spec_BrierScore.mono _ _
      | exact spec_DrawReliabilityTable.mono _ _
      | exact spec_MostBiased.mono _ _
      | exact spec_ReliabilityTable.mono _ _
      | exact LeO.none _
      | refine LeO.ite ?_ ?_
      | refine LeO.bind ?_ (fun _ => ?_)
    · intro y0 y1
      unfold laws_FnReliability.j4
      repeat' first
      | (with_reducible exact ih0 _ _ _ _)
      | (with_reducible exact ih1 _ _ _ _ _ _)
      | (with_reducible exact ih2 _ _ _ _)
      | (with_reducible exact ih3 _ _ _ _ _)
      | (with_reducible exact ih4 _ _)
      | (with_reducible exact impl_BaseRate.mono _ _)
      | (with_reducible exact impl_BrierScore.mono _ _)
      | (with_reducible exact impl_FlipChances.mono _ _)
      | (with_reducible exact impl_IsValidChances.mono _ _)
      | (with_reducible exact impl_MostBiased.mono _ _)
      | (with_reducible exact impl_ReliabilityTable.mono _ _)
      | (with_reducible exact laws_rChances.mono _ _ _)
      | (with_reducible exact laws_rTable.mono _ _ _)
      | (with_reducible exact spec_BaseRate.mono _ _)
      | (with_reducible exact spec_BrierScore.mono _ _)
      | (with_reducible exact spec_DrawReliabilityTable.mono _ _)
      | (with_reducible exact spec_MostBiased.mono _ _)
      | (with_reducible exact spec_ReliabilityTable.mono _ _)
      | (with_reducible exact LeO.refl _)
      | (with_reducible exact LeO.none _)
      | (with_reducible refine LeO.ite ?_ ?_)
      | (with_reducible refine LeO.bind ?_ (fun _ => ?_))
      | exact ih0 _ _ _ _
      | exact ih1 _ _ _ _ _ _
      | exact ih2 _ _ _ _
      | exact ih3 _ _ _ _ _
      | exact ih4 _ _
      | exact impl_BaseRate.mono _ _
      | exact impl_BrierScore.mono _ _
      | exact impl_FlipChances.mono _ _
      | exact impl_IsValidChances.mono _ _
      | exact impl_MostBiased.mono _ _
      | exact impl_ReliabilityTable.mono _ _
      | exact laws_rChances.mono _ _ _
      | exact laws_rTable.mono _ _ _
      | exact spec_BaseRate.mono _ _
      | exact spec_BrierScore.mono _ _
      | exact spec_DrawReliabilityTable.mono _ _
      | exact spec_MostBiased.mono _ _
      | exact spec_ReliabilityTable.mono _ _
      | exact LeO.none _
      | refine LeO.ite ?_ ?_
      | refine LeO.bind ?_ (fun _ => ?_)
theorem laws_FnReliability.mono : ∀ a0 k, LeO (laws_FnReliability.f k a0) (laws_FnReliability.f (k + 1) a0) := by
  intro a0 k
  obtain ⟨ih0, ih1, ih2, ih3, ih4⟩ := laws_FnReliability.mono_l k
  unfold laws_FnReliability.f
  repeat' first
      | (with_reducible exact ih0 _ _ _ _)
      | (with_reducible exact ih1 _ _ _ _ _ _)
      | (with_reducible exact ih2 _ _ _ _)
      | (with_reducible exact ih3 _ _ _ _ _)
      | (with_reducible exact ih4 _ _)
      | (with_reducible exact impl_BaseRate.mono _ _)
      | (with_reducible exact impl_BrierScore.mono _ _)
      | (with_reducible exact impl_FlipChances.mono _ _)
      | (with_reducible exact impl_IsValidChances.mono _ _)
      | (with_reducible exact impl_MostBiased.mono _ _)
      | (with_reducible exact impl_ReliabilityTable.mono _ _)
      | (with_reducible exact laws_rChances.mono _ _ _)
      | (with_reducible exact laws_rTable.mono _ _ _)
      | (with_reducible exact spec_BaseRate.mono _ _)
      | (with_reducible exact spec_BrierScore.mono _ _)
      | (with_reducible exact spec_DrawReliabilityTable.mono _ _)
      | (with_reducible exact spec_MostBiased.mono _ _)
      | (with_reducible exact spec_ReliabilityTable.mono _ _)
      | (with_reducible exact LeO.refl _)
      | (with_reducible exact LeO.none _)
      | (with_reducible refine LeO.ite ?_ ?_)
      | (with_reducible refine LeO.bind ?_ (fun _ => ?_))
      | exact ih0 _ _ _ _
      | exact ih1 _ _ _ _ _ _
      | exact ih2 _ _ _ _
      | exact ih3 _ _ _ _ _
      | exact ih4 _ _
      | exact impl_BaseRate.mono _ _
      | exact impl_BrierScore.mono _ _
      | exact impl_FlipChances.mono _ _
      | exact impl_IsValidChances.mono _ _
      | exact impl_MostBiased.mono _ _
      | exact impl_ReliabilityTable.mono _ _
      | exact laws_rChances.mono _ _ _
      | exact laws_rTable.mono _ _ _
      | exact spec_BaseRate.mono _ _
      | exact spec_BrierScore.mono _ _
      | exact spec_DrawReliabilityTable.mono _ _
      | exact spec_MostBiased.mono _ _
      | exact spec_ReliabilityTable.mono _ _
      | exact LeO.none _
      | refine LeO.ite ?_ ?_
      | refine LeO.bind ?_ (fun _ => ?_)
set_option maxHeartbeats 8000000 in
set_option maxRecDepth 100000 in
theorem laws_FnReliability.calls (k : Nat) (A0 : Option Addr) (c0 : Nat) (l0 : List Int) (r : Bool) (w : World) (hr0 : Kd.C (Kd.int .u8) w A0 l0.length l0) (hc0 : l0.length ≤ c0) (h : laws_FnReliability.f k l0 = some r) :
    Calls Try.prog 6 #[.slice A0 l0.length c0] w fun e w' => e = .returned (.bool r) ∧ Below w.heap.size w w' := by
  have HR0 := Aside0.mk hr0
  have HC0 := Aside0.mk hc0
  clear hr0 hc0
  have HB := Aside0.mk (Below.refl w.heap.size w)
  have H : ((laws_rBig.f l0).bind fun t266 => (if t266 = true then (some true) else ((spec_DrawReliabilityTable.f k l0).bind fun t267 => ((impl_ReliabilityTable.f k t267).bind fun bt270 => ((spec_ReliabilityTable.f k t267).bind fun bt274 => (if (bt270.2 != bt274.2) = true then (laws_FnReliability.j0 k t267 bt270.1 bt270.2 true) else ((laws_rTable.f k bt270.1 bt274.1).bind fun t278 => (if t278 = true then ((impl_IsValidChances.f k t267).bind fun t279 => (laws_FnReliability.j0 k t267 bt270.1 bt270.2 (bt270.2 != t279))) else (laws_FnReliability.j0 k t267 bt270.1 bt270.2 true))))))))) = some r := h
  clear h
  replace H := Option.bind_eq_some_iff.mp H
  obtain ⟨t266, A20, H⟩ := H
  replace H : (if t266 = true then (some true) else ((spec_DrawReliabilityTable.f k l0).bind fun t267 => ((impl_ReliabilityTable.f k t267).bind fun bt270 => ((spec_ReliabilityTable.f k t267).bind fun bt274 => (if (bt270.2 != bt274.2) = true then (laws_FnReliability.j0 k t267 bt270.1 bt270.2 true) else ((laws_rTable.f k bt270.1 bt274.1).bind fun t278 => (if t278 = true then ((impl_IsValidChances.f k t267).bind fun t279 => (laws_FnReliability.j0 k t267 bt270.1 bt270.2 (bt270.2 != t279))) else (laws_FnReliability.j0 k t267 bt270.1 bt270.2 true)))))))) = some r := H
  have A2 := Aside0.mk A20
  clear A20
  by_cases c3 : t266 = true
  · subst c3
    have H1 : (some true) = some r := by rw [if_pos rfl] at H; exact H
    clear H
    have H := H1
    clear H1
    as_aux_lemma =>
      obtain rfl := Option.some.inj H
      go_enter Try.func6, Try.ntmps6
      go_wp2_with (first | ((with_reducible refine gate_callee (f := 9) rfl ?_); refine goesL_ (some 40) rfl rfl Try.func9 (by kernel_rfl) rfl #[.slice A0 l0.length c0] rfl (by (try simp only [List.map_toArray, List.map_cons, List.map_nil]); first | done | rfl | (simp only [List.length_drop, List.length_take]; rfl)) ?_; (with_reducible refine (laws_rBig.calls _ _ l0 true _ ?side1 ?side2 A2.out).mono ?_); (case side1 => repeat (first | exact HR0.out | (with_reducible refine Kd.C_alloc ?_ _) | (with_reducible refine Kd.C_drewN ?_ _) | (with_reducible refine Kd.C_drew ?_))); (case side2 => exact HC0.out); rintro e w' ⟨rfl, ⟨nd, rfl⟩⟩; refine ⟨_, rfl, ?_⟩))
      go_ret
      exact ⟨by first | rfl | (simp [errW_none, errW_some] <;> rfl) | (simp [*, errW_none, errW_some] <;> rfl), by repeat (first | (with_reducible first | exact HB.out | apply below_alloc | apply pw_below_drewN | apply below_drew1) | exact HB.out)⟩
  · replace c3 := Bool.eq_false_iff.mpr c3
    subst c3
    have H1 : ((spec_DrawReliabilityTable.f k l0).bind fun t267 => ((impl_ReliabilityTable.f k t267).bind fun bt270 => ((spec_ReliabilityTable.f k t267).bind fun bt274 => (if (bt270.2 != bt274.2) = true then (laws_FnReliability.j0 k t267 bt270.1 bt270.2 true) else ((laws_rTable.f k bt270.1 bt274.1).bind fun t278 => (if t278 = true then ((impl_IsValidChances.f k t267).bind fun t279 => (laws_FnReliability.j0 k t267 bt270.1 bt270.2 (bt270.2 != t279))) else (laws_FnReliability.j0 k t267 bt270.1 bt270.2 true))))))) = some r := by rw [if_neg (show ¬ (false = true) by decide)] at H; exact H
    clear H
    have H := H1
    clear H1
    replace H := Option.bind_eq_some_iff.mp H
    obtain ⟨t267, A40, H⟩ := H
    replace H : ((impl_ReliabilityTable.f k t267).bind fun bt270 => ((spec_ReliabilityTable.f k t267).bind fun bt274 => (if (bt270.2 != bt274.2) = true then (laws_FnReliability.j0 k t267 bt270.1 bt270.2 true) else ((laws_rTable.f k bt270.1 bt274.1).bind fun t278 => (if t278 = true then ((impl_IsValidChances.f k t267).bind fun t279 => (laws_FnReliability.j0 k t267 bt270.1 bt270.2 (bt270.2 != t279))) else (laws_FnReliability.j0 k t267 bt270.1 bt270.2 true)))))) = some r := H
    have A4 := Aside0.mk A40
    clear A40
    replace H := Option.bind_eq_some_iff.mp H
    obtain ⟨⟨t270, t271⟩, A50, H⟩ := H
    replace H : ((spec_ReliabilityTable.f k t267).bind fun bt274 => (if (t271 != bt274.2) = true then (laws_FnReliability.j0 k t267 t270 t271 true) else ((laws_rTable.f k t270 bt274.1).bind fun t278 => (if t278 = true then ((impl_IsValidChances.f k t267).bind fun t279 => (laws_FnReliability.j0 k t267 t270 t271 (t271 != t279))) else (laws_FnReliability.j0 k t267 t270 t271 true))))) = some r := H
    have A5 := Aside0.mk A50
    clear A50
    replace H := Option.bind_eq_some_iff.mp H
    obtain ⟨⟨t274, t275⟩, A60, H⟩ := H
    replace H : (if (t271 != t275) = true then (laws_FnReliability.j0 k t267 t270 t271 true) else ((laws_rTable.f k t270 t274).bind fun t278 => (if t278 = true then ((impl_IsValidChances.f k t267).bind fun t279 => (laws_FnReliability.j0 k t267 t270 t271 (t271 != t279))) else (laws_FnReliability.j0 k t267 t270 t271 true)))) = some r := H
    have A6 := Aside0.mk A60
    clear A60
    have HC7 := Aside0.mk H
    clear H
    go_enter Try.func6, Try.ntmps6
    go_upto_region 6 with (first | ((with_reducible refine gate_callee (f := 9) rfl ?_); refine goesL_ (some 40) rfl rfl Try.func9 (by kernel_rfl) rfl #[.slice A0 l0.length c0] rfl (by (try simp only [List.map_toArray, List.map_cons, List.map_nil]); first | done | rfl | (simp only [List.length_drop, List.length_take]; rfl)) ?_; (with_reducible refine (laws_rBig.calls _ _ l0 false _ ?side1 ?side2 A2.out).mono ?_); (case side1 => repeat (first | exact HR0.out | (with_reducible refine Kd.C_alloc ?_ _) | (with_reducible refine Kd.C_drewN ?_ _) | (with_reducible refine Kd.C_drew ?_))); (case side2 => exact HC0.out); rintro e w' ⟨rfl, ⟨nd, rfl⟩⟩; refine ⟨_, rfl, ?_⟩) | ((with_reducible refine gate_callee (f := 42) rfl ?_); refine goesL_ (some 42) rfl rfl Try.func42 (by kernel_rfl) rfl #[.slice A0 l0.length c0] rfl (by (try simp only [List.map_toArray, List.map_cons, List.map_nil]); first | done | rfl | (simp only [List.length_drop, List.length_take]; rfl)) ?_; (with_reducible refine (spec_DrawReliabilityTable.calls k _ _ l0 t267 _ ?side1 ?side2 A4.out).mono ?_); (case side1 => repeat (first | exact HR0.out | (with_reducible refine Kd.C_alloc ?_ _) | (with_reducible refine Kd.C_drewN ?_ _) | (with_reducible refine Kd.C_drew ?_))); (case side2 => exact HC0.out); rintro e w8 ⟨v268, rfl, ho0, hb⟩; refine ⟨_, rfl, ?_⟩; have n0_ := Aside0.mk (Kd.R_lower ho0 (below_size (by repeat (first | (with_reducible first | exact HB.out | apply below_alloc | apply pw_below_drewN | apply below_drew1) | exact HB.out)))); have n1_ := Aside0.mk (below_step (by repeat (first | (with_reducible first | exact HB.out | apply below_alloc | apply pw_below_drewN | apply below_drew1) | exact HB.out)) hb); clear HB; have HO269 := n0_; have HB := n1_; clear n0_ n1_; (try clear hb); (try clear hb2); (try clear hk); (try clear hi); (try clear ho0); obtain ⟨Ao9, co9, eo9⟩ := Kd.R_slice HO269.out; subst eo9) | ((with_reducible refine gate_callee (f := 43) rfl ?_); refine goesL_ (some 45) rfl rfl Try.func43 (by kernel_rfl) rfl #[.slice Ao9 t267.length co9] rfl (by (try simp only [List.map_toArray, List.map_cons, List.map_nil]); first | done | rfl | (simp only [List.length_drop, List.length_take]; rfl)) ?_; (with_reducible refine (impl_ReliabilityTable.calls k _ _ t267 t270 t271 _ ?side1 ?side2 A5.out).mono ?_); (case side1 => repeat (first | exact (Kd.R_reads' HO269.out).2.2 | (with_reducible refine Kd.C_alloc ?_ _) | (with_reducible refine Kd.C_drewN ?_ _) | (with_reducible refine Kd.C_drew ?_))); (case side2 => exact (Kd.R_reads' HO269.out).2.1); rintro e w10 ⟨v272, rfl, ho0, hb⟩; refine ⟨_, rfl, ?_⟩; have n0_ := Aside0.mk (Kd.R_below (by (with_reducible repeat (first | apply Kd.R_alloc | apply Kd.R_drewN | apply Kd.R_drew)); exact HO269.out) hb); have n1_ := Aside0.mk (Kd.S_lower ho0 (below_size (by repeat (first | (with_reducible first | exact HB.out | apply below_alloc | apply pw_below_drewN | apply below_drew1) | exact HB.out)))); have n2_ := Aside0.mk (below_step (by repeat (first | (with_reducible first | exact HB.out | apply below_alloc | apply pw_below_drewN | apply below_drew1) | exact HB.out)) hb); clear HO269; clear HB; have HO269 := n0_; have HO273 := n1_; have HB := n2_; clear n0_ n1_ n2_; (try clear hb); (try clear hb2); (try clear hk); (try clear hi); (try clear ho0)) | ((with_reducible refine gate_callee (f := 44) rfl ?_); refine goesL_ (some 50) rfl rfl Try.func44 (by kernel_rfl) rfl #[.slice Ao9 t267.length co9] rfl (by (try simp only [List.map_toArray, List.map_cons, List.map_nil]); first | done | rfl | (simp only [List.length_drop, List.length_take]; rfl)) ?_; (with_reducible refine (spec_ReliabilityTable.calls k _ _ t267 t274 t275 _ ?side1 ?side2 A6.out).mono ?_); (case side1 => repeat (first | exact (Kd.R_reads' HO269.out).2.2 | (with_reducible refine Kd.C_alloc ?_ _) | (with_reducible refine Kd.C_drewN ?_ _) | (with_reducible refine Kd.C_drew ?_))); (case side2 => exact (Kd.R_reads' HO269.out).2.1); rintro e w11 ⟨v276, rfl, ho0, hb⟩; refine ⟨_, rfl, ?_⟩; have n0_ := Aside0.mk (Kd.R_below (by (with_reducible repeat (first | apply Kd.R_alloc | apply Kd.R_drewN | apply Kd.R_drew)); exact HO269.out) hb); have n1_ := Aside0.mk (Kd.S_elder' (by (with_reducible repeat (first | apply Kd.S_alloc | apply Kd.S_drewN | apply Kd.S_drew)); exact HO273.out) (Kd.S_base ho0) hb); have n2_ := Aside0.mk (Kd.S_lower (Kd.S_new' ho0 (Kd.S_lt (by (with_reducible repeat (first | apply Kd.S_alloc | apply Kd.S_drewN | apply Kd.S_drew)); exact HO273.out))) (below_size (by repeat (first | (with_reducible first | exact HB.out | apply below_alloc | apply pw_below_drewN | apply below_drew1) | exact HB.out)))); have n3_ := Aside0.mk (below_step (by repeat (first | (with_reducible first | exact HB.out | apply below_alloc | apply pw_below_drewN | apply below_drew1) | exact HB.out)) hb); clear HO269; clear HO273; clear HB; have HO269 := n0_; have HO273 := n1_; have HO277 := n2_; have HB := n3_; clear n0_ n1_ n2_ n3_; (try clear hb); (try clear hb2); (try clear hk); (try clear hi); (try clear ho0)))
    (try simp only [Act.put, List.setIfInBounds_toArray, List.set_cons_zero, List.set_cons_succ])
    go_cut [67] (fun v67 wc => ∃ (kq : Nat) (x67_6 : Bool), v67 = .bool x67_6 ∧ Aside0 (laws_FnReliability.j0 kq t267 t270 t271 x67_6 = some r) ∧ Aside0 (kq ≤ k) ∧ Aside0 (Kd.R k102 102 wc w.heap.size (fun _ => True) (.slice Ao9 t267.length co9) t267) ∧ Aside0 (Kd.S (Kd.slice 3 (Kd.int .i64)) 31 wc w.heap.size (fun _ => True) v272 t270) ∧ Aside0 (Below w.heap.size w wc))
    case first =>
      as_aux_lemma =>
      have H := HC7.out
      clear HC7
      by_cases c12 : (t271 != t275) = true
      · rw [if_pos c12] at H
        have c12b0 : (t271 != t275) = true := c12
        (try (have c12b1 : decide (t271 = t275) = false := by simpa using c12))
        (try (have c12b2 : (t271 == t275) = false := by simpa using c12))
        (try (have c12b3 : ¬ (t271 = t275) := by simpa using c12))
        clear c12
        (first | rw [c12b0] | (simp only [i64_w, i32_w]; rw [c12b0]) | skip)
        as_aux_lemma =>
          have H' := Aside0.mk H
          clear H
          go_wp2
          go_meet
          case rel => exact ⟨_, (true), (by first | rfl | (simp; done) | (simp [*]; done)), H', ⟨by first | omega | exact Nat.le_refl _⟩, ⟨by (with_reducible repeat (first | apply Kd.R_alloc | apply Kd.R_drewN | apply Kd.R_drew)); exact HO269.out⟩, ⟨by (with_reducible repeat (first | apply Kd.S_alloc | apply Kd.S_drewN | apply Kd.S_drew)); exact Kd.S_mono HO273.out (fun _ hk => trivial)⟩, ⟨by repeat (first | (with_reducible first | exact HB.out | apply below_alloc | apply pw_below_drewN | apply below_drew1) | exact HB.out)⟩⟩
      · rw [if_neg c12] at H
        have c12b0 : (t271 != t275) = false := by simpa using c12
        (try (have c12b1 : decide (t271 = t275) = true := by simpa using c12))
        (try (have c12b2 : (t271 == t275) = true := by simpa using c12))
        clear c12
        (first | rw [c12b0] | (simp only [i64_w, i32_w]; rw [c12b0]) | skip)
        replace H := Option.bind_eq_some_iff.mp H
        obtain ⟨t278, A130, H⟩ := H
        replace H : (if t278 = true then ((impl_IsValidChances.f k t267).bind fun t279 => (laws_FnReliability.j0 k t267 t270 t271 (t271 != t279))) else (laws_FnReliability.j0 k t267 t270 t271 true)) = some r := H
        have A13 := Aside0.mk A130
        clear A130
        by_cases c14 : t278 = true
        · subst c14
          have H1 : ((impl_IsValidChances.f k t267).bind fun t279 => (laws_FnReliability.j0 k t267 t270 t271 (t271 != t279))) = some r := by rw [if_pos rfl] at H; exact H
          clear H
          have H := H1
          clear H1
          replace H := Option.bind_eq_some_iff.mp H
          obtain ⟨t279, A150, H⟩ := H
          replace H : (laws_FnReliability.j0 k t267 t270 t271 (t271 != t279)) = some r := H
          have A15 := Aside0.mk A150
          clear A150
          as_aux_lemma =>
            have H' := Aside0.mk H
            clear H
            obtain ⟨Ao16, co16, eo16⟩ := Kd.S_slice HO273.out
            subst eo16
            obtain ⟨Ao17, co17, eo17⟩ := Kd.S_slice HO277.out
            subst eo17
            go_wp2_with (first | (go_at_call 45; (with_reducible refine (laws_rTable.calls k _ _ t270 _ _ t274 true _ ?side1 ?side2 ?side3 ?side4 A13.out).mono ?_); (case side1 => repeat (first | exact (Kd.S_reads' HO273.out).2.2 | (with_reducible refine Kd.C_alloc ?_ _) | (with_reducible refine Kd.C_drewN ?_ _) | (with_reducible refine Kd.C_drew ?_))); (case side2 => exact (Kd.S_reads' HO273.out).2.1); (case side3 => repeat (first | exact (Kd.S_reads' HO277.out).2.2 | (with_reducible refine Kd.C_alloc ?_ _) | (with_reducible refine Kd.C_drewN ?_ _) | (with_reducible refine Kd.C_drew ?_))); (case side4 => exact (Kd.S_reads' HO277.out).2.1); rintro e w' ⟨rfl, ⟨nd, rfl⟩⟩) | (go_at_call 46; (with_reducible refine (impl_IsValidChances.calls k _ _ t267 t279 _ ?side1 ?side2 A15.out).mono ?_); (case side1 => repeat (first | exact (Kd.R_reads' HO269.out).2.2 | (with_reducible refine Kd.C_alloc ?_ _) | (with_reducible refine Kd.C_drewN ?_ _) | (with_reducible refine Kd.C_drew ?_))); (case side2 => exact (Kd.R_reads' HO269.out).2.1); rintro e w18 ⟨rfl, hb⟩; have n0_ := Aside0.mk (Kd.R_below (by (with_reducible repeat (first | apply Kd.R_alloc | apply Kd.R_drewN | apply Kd.R_drew)); exact HO269.out) hb); have n1_ := Aside0.mk (Kd.S_below (by (with_reducible repeat (first | apply Kd.S_alloc | apply Kd.S_drewN | apply Kd.S_drew)); exact HO273.out) hb); have n2_ := Aside0.mk (Kd.S_below (by (with_reducible repeat (first | apply Kd.S_alloc | apply Kd.S_drewN | apply Kd.S_drew)); exact HO277.out) hb); have n3_ := Aside0.mk (below_step (by repeat (first | (with_reducible first | exact HB.out | apply below_alloc | apply pw_below_drewN | apply below_drew1) | exact HB.out)) hb); clear HO269; clear HO273; clear HO277; clear HB; have HO269 := n0_; have HO273 := n1_; have HO277 := n2_; have HB := n3_; clear n0_ n1_ n2_ n3_; (try clear hb); (try clear hb2); (try clear hk); (try clear hi)))
            go_meet
            case rel => exact ⟨_, ((t271 != t279)), (by first | rfl | (simp; done) | (simp [*]; done)), H', ⟨by first | omega | exact Nat.le_refl _⟩, ⟨by (with_reducible repeat (first | apply Kd.R_alloc | apply Kd.R_drewN | apply Kd.R_drew)); exact HO269.out⟩, ⟨by (with_reducible repeat (first | apply Kd.S_alloc | apply Kd.S_drewN | apply Kd.S_drew)); exact Kd.S_mono HO273.out (fun _ hk => trivial)⟩, ⟨by repeat (first | (with_reducible first | exact HB.out | apply below_alloc | apply pw_below_drewN | apply below_drew1) | exact HB.out)⟩⟩
        · replace c14 := Bool.eq_false_iff.mpr c14
          subst c14
          have H1 : (laws_FnReliability.j0 k t267 t270 t271 true) = some r := by rw [if_neg (show ¬ (false = true) by decide)] at H; exact H
          clear H
          have H := H1
          clear H1
          as_aux_lemma =>
            have H' := Aside0.mk H
            clear H
            obtain ⟨Ao19, co19, eo19⟩ := Kd.S_slice HO273.out
            subst eo19
            obtain ⟨Ao20, co20, eo20⟩ := Kd.S_slice HO277.out
            subst eo20
            go_wp2_with (first | (go_at_call 45; (with_reducible refine (laws_rTable.calls k _ _ t270 _ _ t274 false _ ?side1 ?side2 ?side3 ?side4 A13.out).mono ?_); (case side1 => repeat (first | exact (Kd.S_reads' HO273.out).2.2 | (with_reducible refine Kd.C_alloc ?_ _) | (with_reducible refine Kd.C_drewN ?_ _) | (with_reducible refine Kd.C_drew ?_))); (case side2 => exact (Kd.S_reads' HO273.out).2.1); (case side3 => repeat (first | exact (Kd.S_reads' HO277.out).2.2 | (with_reducible refine Kd.C_alloc ?_ _) | (with_reducible refine Kd.C_drewN ?_ _) | (with_reducible refine Kd.C_drew ?_))); (case side4 => exact (Kd.S_reads' HO277.out).2.1); rintro e w' ⟨rfl, ⟨nd, rfl⟩⟩))
            go_meet
            case rel => exact ⟨_, (true), (by first | rfl | (simp; done) | (simp [*]; done)), H', ⟨by first | omega | exact Nat.le_refl _⟩, ⟨by (with_reducible repeat (first | apply Kd.R_alloc | apply Kd.R_drewN | apply Kd.R_drew)); exact HO269.out⟩, ⟨by (with_reducible repeat (first | apply Kd.S_alloc | apply Kd.S_drewN | apply Kd.S_drew)); exact Kd.S_mono HO273.out (fun _ hk => trivial)⟩, ⟨by repeat (first | (with_reducible first | exact HB.out | apply below_alloc | apply pw_below_drewN | apply below_drew1) | exact HB.out)⟩⟩
    case rest =>
      as_aux_lemma =>
      clear HC7
      try clear c1
      try clear p2
      try clear c3
      try clear c4
      try clear c6
      try clear c9
      try clear c12
      try clear c12b0
      try clear c12b1
      try clear c12b2
      try clear c14
      obtain ⟨kq, x67_6, rfl, HA, HJ6, HO_3, HO_4, HB⟩ := hcut
      cases kq with
      | zero => exact absurd HA.out (by simp [laws_FnReliability.j0])
      | succ kj6 =>
        have H := HA.out
        clear HA
        simp only [laws_FnReliability.j0] at H
        by_cases c21 : x67_6 = true
        · subst c21
          have H1 : (some false) = some r := by rw [if_pos rfl] at H; exact H
          clear H
          have H := H1
          clear H1
          as_aux_lemma =>
            obtain rfl := Option.some.inj H
            go_wp2
            go_ret
            exact ⟨by first | rfl | (simp [errW_none, errW_some] <;> rfl) | (simp [*, errW_none, errW_some] <;> rfl), by repeat (first | (with_reducible first | exact HB.out | apply below_alloc | apply pw_below_drewN | apply below_drew1) | exact HB.out)⟩
        · replace c21 := Bool.eq_false_iff.mpr c21
          subst c21
          have H1 : (laws_FnReliability.l0 kj6 t267 t270 t271 0 0 0) = some r := by rw [if_neg (show ¬ (false = true) by decide)] at H; exact H
          clear H
          have H := H1
          clear H1
          have H' := Aside0.mk H
          clear H
          go_wp2
          go_loopg [8, 9, 10] kj6 (fun kq v8 v9 v10 w' => ∃ (x8_2 : Int) (x9_2 : Int) (x10_2 : Int), v8 = .int .i64 x8_2 ∧ v9 = .int .i64 x9_2 ∧ v10 = .int .i64 x10_2 ∧ Aside0 (laws_FnReliability.l0 kq t267 t270 t271 x8_2 x9_2 x10_2 = some r) ∧ Aside0 (kq ≤ kj6) ∧ Aside0 (Kd.R k102 102 w' w.heap.size (fun _ => True) (.slice Ao9 t267.length co9) t267) ∧ Aside0 (Kd.S (Kd.slice 3 (Kd.int .i64)) 31 w' w.heap.size (fun _ => True) v272 t270) ∧ Aside0 (Below w.heap.size w w'))
          case atStart => exact ⟨(0), (0), (0), (by first | rfl | (simp; done) | (simp [*]; done)), (by first | rfl | (simp; done) | (simp [*]; done)), (by first | rfl | (simp; done) | (simp [*]; done)), H', ⟨Nat.le_refl _⟩, ⟨by (with_reducible repeat (first | apply Kd.R_alloc | apply Kd.R_drewN | apply Kd.R_drew)); exact HO_3.out⟩, ⟨by (with_reducible repeat (first | apply Kd.S_alloc | apply Kd.S_drewN | apply Kd.S_drew)); exact HO_4.out⟩, ⟨by repeat (first | (with_reducible first | exact HB.out | apply below_alloc | apply pw_below_drewN | apply below_drew1) | exact HB.out)⟩⟩
          case round =>
            clear H'
            try clear c1
            try clear c2
            try clear p2
            try clear c3
            try clear c4
            try clear c6
            try clear c9
            try clear c12
            try clear c12b0
            try clear c12b1
            try clear c12b2
            try clear c14
            try clear c21
            try clear p2
            obtain ⟨x8_2, x9_2, x10_2, rfl, rfl, rfl, HA, HK2, HO_3, HO_4, HB⟩ := hrel
            cases gk with
            | zero => exact absurd HA.out (by simp [laws_FnReliability.l0])
            | succ k2 =>
              have H := HA.out
              clear HA
              simp only [laws_FnReliability.l0] at H
              by_cases c22 : x10_2 < (t270.length : Int)
              · rw [if_pos c22] at H
                have c22b0 : decide (x10_2 < (t270.length : Int)) = true := decide_eq_true c22
                clear c22
                by_cases c23 : 0 ≤ x10_2
                · rw [if_pos c23] at H
                  have c23b0 : decide (0 ≤ x10_2) = true := decide_eq_true c23
                  clear c23
                  by_cases c24 : 1 < ((rd_L4 t270 x10_2).length : Int)
                  · rw [if_pos c24] at H
                    have c24b0 : decide (1 < ((rd_L4 t270 x10_2).length : Int)) = true := decide_eq_true c24
                    have c24b1 : decide (1 < (rd_L4 t270 x10_2).length) = true := decide_eq_true (by omega)
                    clear c24
                    by_cases c25 : 2 < ((rd_L4 t270 x10_2).length : Int)
                    · rw [if_pos c25] at H
                      have c25b0 : decide (2 < ((rd_L4 t270 x10_2).length : Int)) = true := decide_eq_true c25
                      have c25b1 : decide (2 < (rd_L4 t270 x10_2).length) = true := decide_eq_true (by omega)
                      clear c25
                      as_aux_lemma =>
                        have H' := Aside0.mk H
                        clear H
                        obtain ⟨Ao26, co26, eo26⟩ := Kd.S_slice HO_4.out
                        subst eo26
                        have p280 : 0 ≤ (x10_2 : Int) := of_decide_eq_true (by first | (with_reducible assumption) | assumption)
                        have q280 : x10_2 < (t270.length : Int) := of_decide_eq_true (by first | (with_reducible assumption) | assumption)
                        obtain ⟨ad280, A280_0, c280_0, e280, hx280_0, hl280_0, hi280_0⟩ := at_L4 (Kd.S_reads' HO_4.out).2.2 x10_2 p280 q280
                        cases e280
                        obtain ⟨ce280, hce280, hMe280, hcc280⟩ := Kd.S_get HO_4.out [] x10_2 p280 (by first | exact q280 | exact of_decide_eq_true (by first | (with_reducible assumption) | assumption) | (have e_ := (Kd.S_reads' HO_4.out).1; omega))
                        obtain ⟨ve280_0, rfl, ge280_0⟩ := hMe280
                        have hv280_0 := hcc280 0 _ rfl
                        rw [Nat.add_zero, show ((Kd.slice 3 (Kd.int .i64))).sz = 1 from rfl, Nat.mul_one] at hv280_0
                        replace hv280_0 := Option.some.inj (hv280_0.symm.trans hx280_0)
                        rw [hv280_0] at ge280_0
                        have HL280_0 := Aside0.mk (show Kd.R (Kd.int .i64) 3 _ _ _ _ (rd_L4 t270 x10_2) from ge280_0)
                        clear hv280_0 ge280_0
                        clear hcc280 hce280
                        have HR280_0 := Aside0.mk hi280_0
                        have HC280_0 := Aside0.mk hl280_0
                        clear hi280_0 hl280_0
                        replace p280 := eq_true p280
                        replace q280 := eq_true q280
                        have p281 : 0 ≤ (1 : Int) := (by omega)
                        have q281 : 1 < ((rd_L4 t270 x10_2).length : Int) := of_decide_eq_true (by first | (with_reducible assumption) | assumption)
                        obtain ⟨ad281, e281, hx281_0⟩ := Kd.at_int (by repeat (first | (with_reducible exact HR280_0.out) | (with_reducible refine Kd.C_alloc ?_ _) | (with_reducible refine Kd.C_drewN ?_ _) | (with_reducible refine Kd.C_drew ?_) | exact HR280_0.out)) 1 p281 q281
                        cases e281
                        (try simp only [show (1 : Int).toNat = 1 from rfl, Nat.reduceMul, Nat.reduceEqDiff, Go.Addr.add, ↓reduceIte] at hx281_0)
                        have qi281 : (1 < (rd_L4 t270 x10_2).length) = True := eq_true (by omega)
                        (try rw [show ((1 : Int)).toNat = 1 from rfl] at hx281_0)
                        replace p281 := eq_true p281
                        replace q281 := eq_true q281
                        have p282 : 0 ≤ (x10_2 : Int) := of_decide_eq_true (by first | (with_reducible assumption) | assumption)
                        have q282 : x10_2 < (t270.length : Int) := of_decide_eq_true (by first | (with_reducible assumption) | assumption)
                        obtain ⟨ad282, A282_0, c282_0, e282, hx282_0, hl282_0, hi282_0⟩ := at_L4 (Kd.S_reads' HO_4.out).2.2 x10_2 p282 q282
                        obtain rfl : ad280 = ad282 := (by injection e282)
                        obtain ⟨ce282, hce282, hMe282, hcc282⟩ := Kd.S_get HO_4.out [] x10_2 p282 (by first | exact q282 | exact of_decide_eq_true (by first | (with_reducible assumption) | assumption) | (have e_ := (Kd.S_reads' HO_4.out).1; omega))
                        obtain ⟨ve282_0, rfl, ge282_0⟩ := hMe282
                        have hv282_0 := hcc282 0 _ rfl
                        rw [Nat.add_zero, show ((Kd.slice 3 (Kd.int .i64))).sz = 1 from rfl, Nat.mul_one] at hv282_0
                        replace hv282_0 := Option.some.inj (hv282_0.symm.trans hx282_0)
                        rw [hv282_0] at ge282_0
                        have HL282_0 := Aside0.mk (show Kd.R (Kd.int .i64) 3 _ _ _ _ (rd_L4 t270 x10_2) from ge282_0)
                        clear hv282_0 ge282_0
                        clear hcc282 hce282
                        have HR282_0 := Aside0.mk hi282_0
                        have HC282_0 := Aside0.mk hl282_0
                        clear hi282_0 hl282_0
                        replace p282 := eq_true p282
                        replace q282 := eq_true q282
                        have ea_ := Option.some.inj (hx280_0.symm.trans hx282_0)
                        injection ea_ with ea_ en_ ec_
                        subst ea_
                        subst ec_
                        clear en_
                        have p283 : 0 ≤ (2 : Int) := (by omega)
                        have q283 : 2 < ((rd_L4 t270 x10_2).length : Int) := of_decide_eq_true (by first | (with_reducible assumption) | assumption)
                        obtain ⟨ad283, e283, hx283_0⟩ := Kd.at_int (by repeat (first | (with_reducible exact HR282_0.out) | (with_reducible refine Kd.C_alloc ?_ _) | (with_reducible refine Kd.C_drewN ?_ _) | (with_reducible refine Kd.C_drew ?_) | exact HR282_0.out)) 2 p283 q283
                        cases e283
                        (try simp only [show (2 : Int).toNat = 2 from rfl, Nat.reduceMul, Nat.reduceEqDiff, Go.Addr.add, ↓reduceIte] at hx283_0)
                        have qi283 : (2 < (rd_L4 t270 x10_2).length) = True := eq_true (by omega)
                        (try rw [show ((2 : Int)).toNat = 2 from rfl] at hx283_0)
                        replace p283 := eq_true p283
                        replace q283 := eq_true q283
                        go_wp2
                        go_roundg k2
                        case measure => have := HJ6.out; have := HK2.out; omega
                        case rel => exact ⟨(wrap64 (x8_2 + (rd (rd_L4 t270 x10_2) 1))), (wrap64 (x9_2 + (rd (rd_L4 t270 x10_2) 2))), (wrap64 (x10_2 + 1)), (by first | rfl | (simp; done) | (simp [*]; done)), (by first | rfl | (simp; done) | (simp [*]; done)), (by first | rfl | (simp; done) | (simp [*]; done)), H', ⟨by have := HJ6.out; have := HK2.out; omega⟩, ⟨by (with_reducible repeat (first | apply Kd.R_alloc | apply Kd.R_drewN | apply Kd.R_drew)); exact HO_3.out⟩, ⟨by (with_reducible repeat (first | apply Kd.S_alloc | apply Kd.S_drewN | apply Kd.S_drew)); exact HO_4.out⟩, ⟨by repeat (first | (with_reducible first | exact HB.out | apply below_alloc | apply pw_below_drewN | apply below_drew1) | exact HB.out)⟩⟩
                    · rw [if_neg c25] at H
                      exact absurd H (by simp)
                  · rw [if_neg c24] at H
                    exact absurd H (by simp)
                · rw [if_neg c23] at H
                  exact absurd H (by simp)
              · rw [if_neg c22] at H
                have c22b0 : decide (x10_2 < (t270.length : Int)) = false := decide_eq_false c22
                clear c22
                have HC27 := Aside0.mk H
                clear H
                obtain ⟨Ao28, co28, eo28⟩ := Kd.S_slice HO_4.out
                subst eo28
                go_upto_region 14 with (fail)
                go_cut [96] (fun v96 wc => ∃ (kq : Nat) (x96_26 : Bool), v96 = .bool x96_26 ∧ Aside0 (laws_FnReliability.j2 kq t267 x8_2 x9_2 x96_26 = some r) ∧ Aside0 (kq ≤ k2) ∧ Aside0 (Kd.R k102 102 wc w.heap.size (fun _ => True) (.slice Ao9 t267.length co9) t267) ∧ Aside0 (Below w.heap.size w wc))
                case first =>
                  as_aux_lemma =>
                  have H := HC27.out
                  clear HC27
                  by_cases c29 : t271 = true
                  · subst c29
                    have H1 : (laws_FnReliability.j2 k2 t267 x8_2 x9_2 (x8_2 != (t267.length : Int))) = some r := by rw [if_pos rfl] at H; exact H
                    clear H
                    have H := H1
                    clear H1
                    as_aux_lemma =>
                      have H' := Aside0.mk H
                      clear H
                      go_wp2
                      go_meet
                      case rel => exact ⟨_, ((x8_2 != (t267.length : Int))), (by first | rfl | (simp; done) | (simp [*]; done)), H', ⟨by have := HJ6.out; have := HK2.out; first | omega | exact Nat.le_refl _⟩, ⟨by (with_reducible repeat (first | apply Kd.R_alloc | apply Kd.R_drewN | apply Kd.R_drew)); exact HO_3.out⟩, ⟨by repeat (first | (with_reducible first | exact HB.out | apply below_alloc | apply pw_below_drewN | apply below_drew1) | exact HB.out)⟩⟩
                  · replace c29 := Bool.eq_false_iff.mpr c29
                    subst c29
                    have H1 : (laws_FnReliability.j2 k2 t267 x8_2 x9_2 false) = some r := by rw [if_neg (show ¬ (false = true) by decide)] at H; exact H
                    clear H
                    have H := H1
                    clear H1
                    as_aux_lemma =>
                      have H' := Aside0.mk H
                      clear H
                      go_wp2
                      go_meet
                      case rel => exact ⟨_, (false), (by first | rfl | (simp; done) | (simp [*]; done)), H', ⟨by have := HJ6.out; have := HK2.out; first | omega | exact Nat.le_refl _⟩, ⟨by (with_reducible repeat (first | apply Kd.R_alloc | apply Kd.R_drewN | apply Kd.R_drew)); exact HO_3.out⟩, ⟨by repeat (first | (with_reducible first | exact HB.out | apply below_alloc | apply pw_below_drewN | apply below_drew1) | exact HB.out)⟩⟩
                case rest =>
                  as_aux_lemma =>
                  clear HC27
                  try clear c1
                  try clear c2
                  try clear p2
                  try clear q2
                  try clear hx2
                  try clear qi2
                  try clear c3
                  try clear c4
                  try clear c6
                  try clear p6
                  try clear c9
                  try clear c12
                  try clear c12b0
                  try clear c12b1
                  try clear c12b2
                  try clear c14
                  try clear c21
                  try clear c22
                  try clear c22b0
                  try clear c23
                  try clear c23b0
                  try clear c24
                  try clear c24b0
                  try clear c24b1
                  try clear c25
                  try clear c25b0
                  try clear c25b1
                  try clear c28
                  try clear p28
                  try clear q28
                  try clear hx28
                  try clear qi28
                  try clear c29
                  try clear hx280_0
                  try clear hx281_0
                  try clear hx282_0
                  try clear hx283_0
                  try clear p2
                  try clear p280
                  try clear p281
                  try clear p282
                  try clear p283
                  try clear q280
                  try clear q281
                  try clear q282
                  try clear q283
                  obtain ⟨kq, x96_26, rfl, HA, HJ26, HO_3, HB⟩ := hcut
                  cases kq with
                  | zero => exact absurd HA.out (by simp [laws_FnReliability.j2])
                  | succ kj26 =>
                    have H := HA.out
                    clear HA
                    simp only [laws_FnReliability.j2] at H
                    by_cases c30 : x96_26 = true
                    · subst c30
                      have H1 : (some false) = some r := by rw [if_pos rfl] at H; exact H
                      clear H
                      have H := H1
                      clear H1
                      as_aux_lemma =>
                        obtain rfl := Option.some.inj H
                        go_wp2
                        go_ret
                        exact ⟨by first | rfl | (simp [errW_none, errW_some] <;> rfl) | (simp [*, errW_none, errW_some] <;> rfl), by repeat (first | (with_reducible first | exact HB.out | apply below_alloc | apply pw_below_drewN | apply below_drew1) | exact HB.out)⟩
                    · replace c30 := Bool.eq_false_iff.mpr c30
                      subst c30
                      have H1 : ((impl_BaseRate.f kj26 t267).bind fun bt284 => ((spec_BaseRate.f kj26 t267).bind fun bt287 => (if bt284.1 = bt287.1 then (if bt284.2.1 = bt287.2.1 then (if (bt284.2.2 != bt287.2.2) = true then (laws_FnReliability.j3 kj26 t267 bt284.1 bt284.2.1 bt284.2.2 true) else (if bt284.2.2 = true then (laws_FnReliability.j3 kj26 t267 bt284.1 bt284.2.1 bt284.2.2 ((wrap64 (bt284.1 * x8_2)) != (wrap64 (x9_2 * bt284.2.1)))) else (laws_FnReliability.j3 kj26 t267 bt284.1 bt284.2.1 bt284.2.2 false))) else (laws_FnReliability.j3 kj26 t267 bt284.1 bt284.2.1 bt284.2.2 true)) else (laws_FnReliability.j3 kj26 t267 bt284.1 bt284.2.1 bt284.2.2 true)))) = some r := by rw [if_neg (show ¬ (false = true) by decide)] at H; exact H
                      clear H
                      have H := H1
                      clear H1
                      replace H := Option.bind_eq_some_iff.mp H
                      obtain ⟨⟨t284, t285, t286⟩, A310, H⟩ := H
                      replace H : ((spec_BaseRate.f kj26 t267).bind fun bt287 => (if t284 = bt287.1 then (if t285 = bt287.2.1 then (if (t286 != bt287.2.2) = true then (laws_FnReliability.j3 kj26 t267 t284 t285 t286 true) else (if t286 = true then (laws_FnReliability.j3 kj26 t267 t284 t285 t286 ((wrap64 (t284 * x8_2)) != (wrap64 (x9_2 * t285)))) else (laws_FnReliability.j3 kj26 t267 t284 t285 t286 false))) else (laws_FnReliability.j3 kj26 t267 t284 t285 t286 true)) else (laws_FnReliability.j3 kj26 t267 t284 t285 t286 true))) = some r := H
                      have A31 := Aside0.mk A310
                      clear A310
                      replace H := Option.bind_eq_some_iff.mp H
                      obtain ⟨⟨t287, t288, t289⟩, A320, H⟩ := H
                      replace H : (if t284 = t287 then (if t285 = t288 then (if (t286 != t289) = true then (laws_FnReliability.j3 kj26 t267 t284 t285 t286 true) else (if t286 = true then (laws_FnReliability.j3 kj26 t267 t284 t285 t286 ((wrap64 (t284 * x8_2)) != (wrap64 (x9_2 * t285)))) else (laws_FnReliability.j3 kj26 t267 t284 t285 t286 false))) else (laws_FnReliability.j3 kj26 t267 t284 t285 t286 true)) else (laws_FnReliability.j3 kj26 t267 t284 t285 t286 true)) = some r := H
                      have A32 := Aside0.mk A320
                      clear A320
                      have HC33 := Aside0.mk H
                      clear H
                      go_upto_region 18 with (first | ((with_reducible refine gate_callee (f := 47) rfl ?_); refine goesL_ (some 99) rfl rfl Try.func47 (by kernel_rfl) rfl #[.slice Ao9 t267.length co9] rfl (by (try simp only [List.map_toArray, List.map_cons, List.map_nil]); first | done | rfl | (simp only [List.length_drop, List.length_take]; rfl)) ?_; (with_reducible refine (impl_BaseRate.calls kj26 _ _ t267 t284 t285 t286 _ ?side1 ?side2 A31.out).mono ?_); (case side1 => repeat (first | exact (Kd.R_reads' HO_3.out).2.2 | (with_reducible refine Kd.C_alloc ?_ _) | (with_reducible refine Kd.C_drewN ?_ _) | (with_reducible refine Kd.C_drew ?_))); (case side2 => exact (Kd.R_reads' HO_3.out).2.1); rintro e w34 ⟨rfl, hb⟩; refine ⟨_, rfl, ?_⟩; have n0_ := Aside0.mk (Kd.R_below (by (with_reducible repeat (first | apply Kd.R_alloc | apply Kd.R_drewN | apply Kd.R_drew)); exact HO_3.out) hb); have n1_ := Aside0.mk (below_step (by repeat (first | (with_reducible first | exact HB.out | apply below_alloc | apply pw_below_drewN | apply below_drew1) | exact HB.out)) hb); clear HO_3; clear HB; have HO_3 := n0_; have HB := n1_; clear n0_ n1_; (try clear hb); (try clear hb2); (try clear hk); (try clear hi)) | ((with_reducible refine gate_callee (f := 48) rfl ?_); refine goesL_ (some 105) rfl rfl Try.func48 (by kernel_rfl) rfl #[.slice Ao9 t267.length co9] rfl (by (try simp only [List.map_toArray, List.map_cons, List.map_nil]); first | done | rfl | (simp only [List.length_drop, List.length_take]; rfl)) ?_; (with_reducible refine (spec_BaseRate.calls kj26 _ _ t267 t287 t288 t289 _ ?side1 ?side2 A32.out).mono ?_); (case side1 => repeat (first | exact (Kd.R_reads' HO_3.out).2.2 | (with_reducible refine Kd.C_alloc ?_ _) | (with_reducible refine Kd.C_drewN ?_ _) | (with_reducible refine Kd.C_drew ?_))); (case side2 => exact (Kd.R_reads' HO_3.out).2.1); rintro e w' ⟨rfl, ⟨nd, rfl⟩⟩; refine ⟨_, rfl, ?_⟩))
                      (try simp only [Act.put, List.setIfInBounds_toArray, List.set_cons_zero, List.set_cons_succ])
                      go_cut [133] (fun v133 wc => ∃ (kq : Nat) (x133_32 : Bool), v133 = .bool x133_32 ∧ Aside0 (laws_FnReliability.j3 kq t267 t284 t285 t286 x133_32 = some r) ∧ Aside0 (kq ≤ kj26) ∧ Aside0 (Kd.R k102 102 wc w.heap.size (fun _ => True) (.slice Ao9 t267.length co9) t267) ∧ Aside0 (Below w.heap.size w wc))
                      case first =>
                        as_aux_lemma =>
                        have H := HC33.out
                        clear HC33
                        by_cases c35 : t284 = t287
                        · rw [if_pos c35] at H
                          have c35b0 : (t284 == t287) = true := beq_iff_eq.mpr c35
                          have c35b1 : (t284 != t287) = false := bne_eq_false_iff_eq.mpr c35
                          clear c35
                          (first | rw [c35b0] | (simp only [i64_w, i32_w]; rw [c35b0]) | skip)
                          by_cases c36 : t285 = t288
                          · rw [if_pos c36] at H
                            have c36b0 : (t285 == t288) = true := beq_iff_eq.mpr c36
                            have c36b1 : (t285 != t288) = false := bne_eq_false_iff_eq.mpr c36
                            clear c36
                            by_cases c37 : (t286 != t289) = true
                            · rw [if_pos c37] at H
                              have c37b0 : (t286 != t289) = true := c37
                              (try (have c37b1 : decide (t286 = t289) = false := by simpa using c37))
                              (try (have c37b2 : (t286 == t289) = false := by simpa using c37))
                              (try (have c37b3 : ¬ (t286 = t289) := by simpa using c37))
                              clear c37
                              as_aux_lemma =>
                                have H' := Aside0.mk H
                                clear H
                                go_wp2
                                go_meet
                                case rel => exact ⟨_, (true), (by first | rfl | (simp; done) | (simp [*]; done)), H', ⟨by have := HJ6.out; have := HK2.out; have := HJ26.out; first | omega | exact Nat.le_refl _⟩, ⟨by (with_reducible repeat (first | apply Kd.R_alloc | apply Kd.R_drewN | apply Kd.R_drew)); exact HO_3.out⟩, ⟨by repeat (first | (with_reducible first | exact HB.out | apply below_alloc | apply pw_below_drewN | apply below_drew1) | exact HB.out)⟩⟩
                            · rw [if_neg c37] at H
                              have c37b0 : (t286 != t289) = false := by simpa using c37
                              (try (have c37b1 : decide (t286 = t289) = true := by simpa using c37))
                              (try (have c37b2 : (t286 == t289) = true := by simpa using c37))
                              clear c37
                              by_cases c38 : t286 = true
                              · subst c38
                                have H1 : (laws_FnReliability.j3 kj26 t267 t284 t285 true ((wrap64 (t284 * x8_2)) != (wrap64 (x9_2 * t285)))) = some r := by rw [if_pos rfl] at H; exact H
                                clear H
                                have H := H1
                                clear H1
                                as_aux_lemma =>
                                  have H' := Aside0.mk H
                                  clear H
                                  go_wp2
                                  go_meet
                                  case rel => exact ⟨_, (((wrap64 (t284 * x8_2)) != (wrap64 (x9_2 * t285)))), (by first | rfl | (simp; done) | (simp [*]; done)), H', ⟨by have := HJ6.out; have := HK2.out; have := HJ26.out; first | omega | exact Nat.le_refl _⟩, ⟨by (with_reducible repeat (first | apply Kd.R_alloc | apply Kd.R_drewN | apply Kd.R_drew)); exact HO_3.out⟩, ⟨by repeat (first | (with_reducible first | exact HB.out | apply below_alloc | apply pw_below_drewN | apply below_drew1) | exact HB.out)⟩⟩
                              · replace c38 := Bool.eq_false_iff.mpr c38
                                subst c38
                                have H1 : (laws_FnReliability.j3 kj26 t267 t284 t285 false false) = some r := by rw [if_neg (show ¬ (false = true) by decide)] at H; exact H
                                clear H
                                have H := H1
                                clear H1
                                as_aux_lemma =>
                                  have H' := Aside0.mk H
                                  clear H
                                  go_wp2
                                  go_meet
                                  case rel => exact ⟨_, (false), (by first | rfl | (simp; done) | (simp [*]; done)), H', ⟨by have := HJ6.out; have := HK2.out; have := HJ26.out; first | omega | exact Nat.le_refl _⟩, ⟨by (with_reducible repeat (first | apply Kd.R_alloc | apply Kd.R_drewN | apply Kd.R_drew)); exact HO_3.out⟩, ⟨by repeat (first | (with_reducible first | exact HB.out | apply below_alloc | apply pw_below_drewN | apply below_drew1) | exact HB.out)⟩⟩
                          · rw [if_neg c36] at H
                            have c36b0 : (t285 == t288) = false := beq_eq_false_iff_ne.mpr c36
                            have c36b1 : (t285 != t288) = true := bne_iff_ne.mpr c36
                            as_aux_lemma =>
                              have H' := Aside0.mk H
                              clear H
                              go_wp2
                              go_meet
                              case rel => exact ⟨_, (true), (by first | rfl | (simp; done) | (simp [*]; done)), H', ⟨by have := HJ6.out; have := HK2.out; have := HJ26.out; first | omega | exact Nat.le_refl _⟩, ⟨by (with_reducible repeat (first | apply Kd.R_alloc | apply Kd.R_drewN | apply Kd.R_drew)); exact HO_3.out⟩, ⟨by repeat (first | (with_reducible first | exact HB.out | apply below_alloc | apply pw_below_drewN | apply below_drew1) | exact HB.out)⟩⟩
                        · rw [if_neg c35] at H
                          have c35b0 : (t284 == t287) = false := beq_eq_false_iff_ne.mpr c35
                          have c35b1 : (t284 != t287) = true := bne_iff_ne.mpr c35
                          (first | rw [c35b0] | (simp only [i64_w, i32_w]; rw [c35b0]) | skip)
                          as_aux_lemma =>
                            have H' := Aside0.mk H
                            clear H
                            go_wp2
                            go_meet
                            case rel => exact ⟨_, (true), (by first | rfl | (simp; done) | (simp [*]; done)), H', ⟨by have := HJ6.out; have := HK2.out; have := HJ26.out; first | omega | exact Nat.le_refl _⟩, ⟨by (with_reducible repeat (first | apply Kd.R_alloc | apply Kd.R_drewN | apply Kd.R_drew)); exact HO_3.out⟩, ⟨by repeat (first | (with_reducible first | exact HB.out | apply below_alloc | apply pw_below_drewN | apply below_drew1) | exact HB.out)⟩⟩
                      case rest =>
                        as_aux_lemma =>
                        clear HC33
                        try clear c1
                        try clear c2
                        try clear p2
                        try clear q2
                        try clear hx2
                        try clear qi2
                        try clear c3
                        try clear c4
                        try clear c6
                        try clear p6
                        try clear c9
                        try clear c12
                        try clear c12b0
                        try clear c12b1
                        try clear c12b2
                        try clear c14
                        try clear c21
                        try clear c22
                        try clear c22b0
                        try clear c23
                        try clear c23b0
                        try clear c24
                        try clear c24b0
                        try clear c24b1
                        try clear c25
                        try clear c25b0
                        try clear c25b1
                        try clear c28
                        try clear p28
                        try clear q28
                        try clear hx28
                        try clear qi28
                        try clear c29
                        try clear c30
                        try clear c35
                        try clear c35b0
                        try clear c35b1
                        try clear c36
                        try clear c36b0
                        try clear c36b1
                        try clear c37
                        try clear c37b0
                        try clear c37b1
                        try clear c37b2
                        try clear c38
                        try clear hx280_0
                        try clear hx281_0
                        try clear hx282_0
                        try clear hx283_0
                        try clear p2
                        try clear p28
                        try clear p280
                        try clear p281
                        try clear p282
                        try clear p283
                        try clear p6
                        try clear q2
                        try clear q28
                        try clear q280
                        try clear q281
                        try clear q282
                        try clear q283
                        obtain ⟨kq, x133_32, rfl, HA, HJ32, HO_3, HB⟩ := hcut
                        cases kq with
                        | zero => exact absurd HA.out (by simp [laws_FnReliability.j3])
                        | succ kj32 =>
                          have H := HA.out
                          clear HA
                          simp only [laws_FnReliability.j3] at H
                          by_cases c39 : x133_32 = true
                          · subst c39
                            have H1 : (some false) = some r := by rw [if_pos rfl] at H; exact H
                            clear H
                            have H := H1
                            clear H1
                            as_aux_lemma =>
                              obtain rfl := Option.some.inj H
                              go_wp2
                              go_ret
                              exact ⟨by first | rfl | (simp [errW_none, errW_some] <;> rfl) | (simp [*, errW_none, errW_some] <;> rfl), by repeat (first | (with_reducible first | exact HB.out | apply below_alloc | apply pw_below_drewN | apply below_drew1) | exact HB.out)⟩
                          · replace c39 := Bool.eq_false_iff.mpr c39
                            subst c39
                            have H1 : (if t286 = true then ((impl_FlipChances.f kj32 t267).bind fun bt290 => ((impl_FlipChances.f kj32 bt290.1).bind fun bt294 => ((impl_BrierScore.f kj32 t267).bind fun bt298 => ((impl_BrierScore.f kj32 bt290.1).bind fun bt301 => ((impl_BaseRate.f kj32 bt290.1).bind fun bt304 => ((spec_BrierScore.f kj32 t267).bind fun bt307 => (if bt290.2 = true then (if bt294.2 = true then (if bt298.2.2 = true then (if bt301.2.2 = true then (if bt304.2.2 = true then ((laws_rChances.f kj32 bt294.1 t267).bind fun t310 => (if t310 = true then (if bt298.1 = bt301.1 then (if bt298.2.1 = bt301.2.1 then (if (wrap64 (bt304.1 * t285)) = (wrap64 ((wrap64 (t285 - t284)) * bt304.2.1)) then (if bt298.1 = bt307.1 then (if bt298.2.1 = bt307.2.1 then (laws_FnReliability.j4 kj32 t267 (decide (bt298.1 > bt298.2.1))) else (laws_FnReliability.j4 kj32 t267 true)) else (laws_FnReliability.j4 kj32 t267 true)) else (laws_FnReliability.j4 kj32 t267 true)) else (laws_FnReliability.j4 kj32 t267 true)) else (laws_FnReliability.j4 kj32 t267 true)) else (laws_FnReliability.j4 kj32 t267 true))) else (laws_FnReliability.j4 kj32 t267 true)) else (laws_FnReliability.j4 kj32 t267 true)) else (laws_FnReliability.j4 kj32 t267 true)) else (laws_FnReliability.j4 kj32 t267 true)) else (laws_FnReliability.j4 kj32 t267 true)))))))) else ((impl_MostBiased.f kj32 t267).bind fun bt317 => ((spec_MostBiased.f kj32 t267).bind fun bt320 => (if bt317.1 = bt320.1 then (if bt317.2.1 = bt320.2.1 then (some (bt317.2.2 == bt320.2.2)) else (some false)) else (some false))))) = some r := by rw [if_neg (show ¬ (false = true) by decide)] at H; exact H
                            clear H
                            have H := H1
                            clear H1
                            by_cases c40 : t286 = true
                            · subst c40
                              have H1 : ((impl_FlipChances.f kj32 t267).bind fun bt290 => ((impl_FlipChances.f kj32 bt290.1).bind fun bt294 => ((impl_BrierScore.f kj32 t267).bind fun bt298 => ((impl_BrierScore.f kj32 bt290.1).bind fun bt301 => ((impl_BaseRate.f kj32 bt290.1).bind fun bt304 => ((spec_BrierScore.f kj32 t267).bind fun bt307 => (if bt290.2 = true then (if bt294.2 = true then (if bt298.2.2 = true then (if bt301.2.2 = true then (if bt304.2.2 = true then ((laws_rChances.f kj32 bt294.1 t267).bind fun t310 => (if t310 = true then (if bt298.1 = bt301.1 then (if bt298.2.1 = bt301.2.1 then (if (wrap64 (bt304.1 * t285)) = (wrap64 ((wrap64 (t285 - t284)) * bt304.2.1)) then (if bt298.1 = bt307.1 then (if bt298.2.1 = bt307.2.1 then (laws_FnReliability.j4 kj32 t267 (decide (bt298.1 > bt298.2.1))) else (laws_FnReliability.j4 kj32 t267 true)) else (laws_FnReliability.j4 kj32 t267 true)) else (laws_FnReliability.j4 kj32 t267 true)) else (laws_FnReliability.j4 kj32 t267 true)) else (laws_FnReliability.j4 kj32 t267 true)) else (laws_FnReliability.j4 kj32 t267 true))) else (laws_FnReliability.j4 kj32 t267 true)) else (laws_FnReliability.j4 kj32 t267 true)) else (laws_FnReliability.j4 kj32 t267 true)) else (laws_FnReliability.j4 kj32 t267 true)) else (laws_FnReliability.j4 kj32 t267 true)))))))) = some r := by rw [if_pos rfl] at H; exact H
                              clear H
                              have H := H1
                              clear H1
                              replace H := Option.bind_eq_some_iff.mp H
                              obtain ⟨⟨t290, t291⟩, A410, H⟩ := H
                              replace H : ((impl_FlipChances.f kj32 t290).bind fun bt294 => ((impl_BrierScore.f kj32 t267).bind fun bt298 => ((impl_BrierScore.f kj32 t290).bind fun bt301 => ((impl_BaseRate.f kj32 t290).bind fun bt304 => ((spec_BrierScore.f kj32 t267).bind fun bt307 => (if t291 = true then (if bt294.2 = true then (if bt298.2.2 = true then (if bt301.2.2 = true then (if bt304.2.2 = true then ((laws_rChances.f kj32 bt294.1 t267).bind fun t310 => (if t310 = true then (if bt298.1 = bt301.1 then (if bt298.2.1 = bt301.2.1 then (if (wrap64 (bt304.1 * t285)) = (wrap64 ((wrap64 (t285 - t284)) * bt304.2.1)) then (if bt298.1 = bt307.1 then (if bt298.2.1 = bt307.2.1 then (laws_FnReliability.j4 kj32 t267 (decide (bt298.1 > bt298.2.1))) else (laws_FnReliability.j4 kj32 t267 true)) else (laws_FnReliability.j4 kj32 t267 true)) else (laws_FnReliability.j4 kj32 t267 true)) else (laws_FnReliability.j4 kj32 t267 true)) else (laws_FnReliability.j4 kj32 t267 true)) else (laws_FnReliability.j4 kj32 t267 true))) else (laws_FnReliability.j4 kj32 t267 true)) else (laws_FnReliability.j4 kj32 t267 true)) else (laws_FnReliability.j4 kj32 t267 true)) else (laws_FnReliability.j4 kj32 t267 true)) else (laws_FnReliability.j4 kj32 t267 true))))))) = some r := H
                              have A41 := Aside0.mk A410
                              clear A410
                              replace H := Option.bind_eq_some_iff.mp H
                              obtain ⟨⟨t294, t295⟩, A420, H⟩ := H
                              replace H : ((impl_BrierScore.f kj32 t267).bind fun bt298 => ((impl_BrierScore.f kj32 t290).bind fun bt301 => ((impl_BaseRate.f kj32 t290).bind fun bt304 => ((spec_BrierScore.f kj32 t267).bind fun bt307 => (if t291 = true then (if t295 = true then (if bt298.2.2 = true then (if bt301.2.2 = true then (if bt304.2.2 = true then ((laws_rChances.f kj32 t294 t267).bind fun t310 => (if t310 = true then (if bt298.1 = bt301.1 then (if bt298.2.1 = bt301.2.1 then (if (wrap64 (bt304.1 * t285)) = (wrap64 ((wrap64 (t285 - t284)) * bt304.2.1)) then (if bt298.1 = bt307.1 then (if bt298.2.1 = bt307.2.1 then (laws_FnReliability.j4 kj32 t267 (decide (bt298.1 > bt298.2.1))) else (laws_FnReliability.j4 kj32 t267 true)) else (laws_FnReliability.j4 kj32 t267 true)) else (laws_FnReliability.j4 kj32 t267 true)) else (laws_FnReliability.j4 kj32 t267 true)) else (laws_FnReliability.j4 kj32 t267 true)) else (laws_FnReliability.j4 kj32 t267 true))) else (laws_FnReliability.j4 kj32 t267 true)) else (laws_FnReliability.j4 kj32 t267 true)) else (laws_FnReliability.j4 kj32 t267 true)) else (laws_FnReliability.j4 kj32 t267 true)) else (laws_FnReliability.j4 kj32 t267 true)))))) = some r := H
                              have A42 := Aside0.mk A420
                              clear A420
                              replace H := Option.bind_eq_some_iff.mp H
                              obtain ⟨⟨t298, t299, t300⟩, A430, H⟩ := H
                              replace H : ((impl_BrierScore.f kj32 t290).bind fun bt301 => ((impl_BaseRate.f kj32 t290).bind fun bt304 => ((spec_BrierScore.f kj32 t267).bind fun bt307 => (if t291 = true then (if t295 = true then (if t300 = true then (if bt301.2.2 = true then (if bt304.2.2 = true then ((laws_rChances.f kj32 t294 t267).bind fun t310 => (if t310 = true then (if t298 = bt301.1 then (if t299 = bt301.2.1 then (if (wrap64 (bt304.1 * t285)) = (wrap64 ((wrap64 (t285 - t284)) * bt304.2.1)) then (if t298 = bt307.1 then (if t299 = bt307.2.1 then (laws_FnReliability.j4 kj32 t267 (decide (t298 > t299))) else (laws_FnReliability.j4 kj32 t267 true)) else (laws_FnReliability.j4 kj32 t267 true)) else (laws_FnReliability.j4 kj32 t267 true)) else (laws_FnReliability.j4 kj32 t267 true)) else (laws_FnReliability.j4 kj32 t267 true)) else (laws_FnReliability.j4 kj32 t267 true))) else (laws_FnReliability.j4 kj32 t267 true)) else (laws_FnReliability.j4 kj32 t267 true)) else (laws_FnReliability.j4 kj32 t267 true)) else (laws_FnReliability.j4 kj32 t267 true)) else (laws_FnReliability.j4 kj32 t267 true))))) = some r := H
                              have A43 := Aside0.mk A430
                              clear A430
                              replace H := Option.bind_eq_some_iff.mp H
                              obtain ⟨⟨t301, t302, t303⟩, A440, H⟩ := H
                              replace H : ((impl_BaseRate.f kj32 t290).bind fun bt304 => ((spec_BrierScore.f kj32 t267).bind fun bt307 => (if t291 = true then (if t295 = true then (if t300 = true then (if t303 = true then (if bt304.2.2 = true then ((laws_rChances.f kj32 t294 t267).bind fun t310 => (if t310 = true then (if t298 = t301 then (if t299 = t302 then (if (wrap64 (bt304.1 * t285)) = (wrap64 ((wrap64 (t285 - t284)) * bt304.2.1)) then (if t298 = bt307.1 then (if t299 = bt307.2.1 then (laws_FnReliability.j4 kj32 t267 (decide (t298 > t299))) else (laws_FnReliability.j4 kj32 t267 true)) else (laws_FnReliability.j4 kj32 t267 true)) else (laws_FnReliability.j4 kj32 t267 true)) else (laws_FnReliability.j4 kj32 t267 true)) else (laws_FnReliability.j4 kj32 t267 true)) else (laws_FnReliability.j4 kj32 t267 true))) else (laws_FnReliability.j4 kj32 t267 true)) else (laws_FnReliability.j4 kj32 t267 true)) else (laws_FnReliability.j4 kj32 t267 true)) else (laws_FnReliability.j4 kj32 t267 true)) else (laws_FnReliability.j4 kj32 t267 true)))) = some r := H
                              have A44 := Aside0.mk A440
                              clear A440
                              replace H := Option.bind_eq_some_iff.mp H
                              obtain ⟨⟨t304, t305, t306⟩, A450, H⟩ := H
                              replace H : ((spec_BrierScore.f kj32 t267).bind fun bt307 => (if t291 = true then (if t295 = true then (if t300 = true then (if t303 = true then (if t306 = true then ((laws_rChances.f kj32 t294 t267).bind fun t310 => (if t310 = true then (if t298 = t301 then (if t299 = t302 then (if (wrap64 (t304 * t285)) = (wrap64 ((wrap64 (t285 - t284)) * t305)) then (if t298 = bt307.1 then (if t299 = bt307.2.1 then (laws_FnReliability.j4 kj32 t267 (decide (t298 > t299))) else (laws_FnReliability.j4 kj32 t267 true)) else (laws_FnReliability.j4 kj32 t267 true)) else (laws_FnReliability.j4 kj32 t267 true)) else (laws_FnReliability.j4 kj32 t267 true)) else (laws_FnReliability.j4 kj32 t267 true)) else (laws_FnReliability.j4 kj32 t267 true))) else (laws_FnReliability.j4 kj32 t267 true)) else (laws_FnReliability.j4 kj32 t267 true)) else (laws_FnReliability.j4 kj32 t267 true)) else (laws_FnReliability.j4 kj32 t267 true)) else (laws_FnReliability.j4 kj32 t267 true))) = some r := H
                              have A45 := Aside0.mk A450
                              clear A450
                              replace H := Option.bind_eq_some_iff.mp H
                              obtain ⟨⟨t307, t308, t309⟩, A460, H⟩ := H
                              replace H : (if t291 = true then (if t295 = true then (if t300 = true then (if t303 = true then (if t306 = true then ((laws_rChances.f kj32 t294 t267).bind fun t310 => (if t310 = true then (if t298 = t301 then (if t299 = t302 then (if (wrap64 (t304 * t285)) = (wrap64 ((wrap64 (t285 - t284)) * t305)) then (if t298 = t307 then (if t299 = t308 then (laws_FnReliability.j4 kj32 t267 (decide (t298 > t299))) else (laws_FnReliability.j4 kj32 t267 true)) else (laws_FnReliability.j4 kj32 t267 true)) else (laws_FnReliability.j4 kj32 t267 true)) else (laws_FnReliability.j4 kj32 t267 true)) else (laws_FnReliability.j4 kj32 t267 true)) else (laws_FnReliability.j4 kj32 t267 true))) else (laws_FnReliability.j4 kj32 t267 true)) else (laws_FnReliability.j4 kj32 t267 true)) else (laws_FnReliability.j4 kj32 t267 true)) else (laws_FnReliability.j4 kj32 t267 true)) else (laws_FnReliability.j4 kj32 t267 true)) = some r := H
                              have A46 := Aside0.mk A460
                              clear A460
                              have HC47 := Aside0.mk H
                              clear H
                              go_upto_region 27 with (first | ((with_reducible refine gate_callee (f := 39) rfl ?_); refine goesL_ (some 137) rfl rfl Try.func39 (by kernel_rfl) rfl #[.slice Ao9 t267.length co9] rfl (by (try simp only [List.map_toArray, List.map_cons, List.map_nil]); first | done | rfl | (simp only [List.length_drop, List.length_take]; rfl)) ?_; (with_reducible refine (impl_FlipChances.calls kj32 _ _ t267 t290 t291 _ ?side1 ?side2 A41.out).mono ?_); (case side1 => repeat (first | exact (Kd.R_reads' HO_3.out).2.2 | (with_reducible refine Kd.C_alloc ?_ _) | (with_reducible refine Kd.C_drewN ?_ _) | (with_reducible refine Kd.C_drew ?_))); (case side2 => exact (Kd.R_reads' HO_3.out).2.1); rintro e w48 ⟨v292, rfl, ho0, hb⟩; refine ⟨_, rfl, ?_⟩; have n0_ := Aside0.mk (Kd.R_elder' (by (with_reducible repeat (first | apply Kd.R_alloc | apply Kd.R_drewN | apply Kd.R_drew)); exact HO_3.out) (Kd.R_base ho0) hb); have n1_ := Aside0.mk (Kd.R_lower (Kd.R_new' ho0 (Kd.R_lt (by (with_reducible repeat (first | apply Kd.R_alloc | apply Kd.R_drewN | apply Kd.R_drew)); exact HO_3.out))) (below_size (by repeat (first | (with_reducible first | exact HB.out | apply below_alloc | apply pw_below_drewN | apply below_drew1) | exact HB.out)))); have n2_ := Aside0.mk (below_step (by repeat (first | (with_reducible first | exact HB.out | apply below_alloc | apply pw_below_drewN | apply below_drew1) | exact HB.out)) hb); clear HO_3; clear HB; have HO_3 := n0_; have HO293 := n1_; have HB := n2_; clear n0_ n1_ n2_; (try clear hb); (try clear hb2); (try clear hk); (try clear hi); (try clear ho0); obtain ⟨Ao49, co49, eo49⟩ := Kd.R_slice HO293.out; subst eo49) | ((with_reducible refine gate_callee (f := 39) rfl ?_); refine goesL_ (some 142) rfl rfl Try.func39 (by kernel_rfl) rfl #[.slice Ao49 t290.length co49] rfl (by (try simp only [List.map_toArray, List.map_cons, List.map_nil]); first | done | rfl | (simp only [List.length_drop, List.length_take]; rfl)) ?_; (with_reducible refine (impl_FlipChances.calls kj32 _ _ t290 t294 t295 _ ?side1 ?side2 A42.out).mono ?_); (case side1 => repeat (first | exact (Kd.R_reads' HO293.out).2.2 | (with_reducible refine Kd.C_alloc ?_ _) | (with_reducible refine Kd.C_drewN ?_ _) | (with_reducible refine Kd.C_drew ?_))); (case side2 => exact (Kd.R_reads' HO293.out).2.1); rintro e w50 ⟨v296, rfl, ho0, hb⟩; refine ⟨_, rfl, ?_⟩; have n0_ := Aside0.mk (Kd.R_elder' (by (with_reducible repeat (first | apply Kd.R_alloc | apply Kd.R_drewN | apply Kd.R_drew)); exact HO_3.out) (Kd.R_base ho0) hb); have n1_ := Aside0.mk (Kd.R_elder' (by (with_reducible repeat (first | apply Kd.R_alloc | apply Kd.R_drewN | apply Kd.R_drew)); exact HO293.out) (Kd.R_base ho0) hb); have n2_ := Aside0.mk (Kd.R_lower (Kd.R_new' (Kd.R_new' ho0 (Kd.R_lt (by (with_reducible repeat (first | apply Kd.R_alloc | apply Kd.R_drewN | apply Kd.R_drew)); exact HO_3.out))) (Kd.R_lt (by (with_reducible repeat (first | apply Kd.R_alloc | apply Kd.R_drewN | apply Kd.R_drew)); exact HO293.out))) (below_size (by repeat (first | (with_reducible first | exact HB.out | apply below_alloc | apply pw_below_drewN | apply below_drew1) | exact HB.out)))); have n3_ := Aside0.mk (below_step (by repeat (first | (with_reducible first | exact HB.out | apply below_alloc | apply pw_below_drewN | apply below_drew1) | exact HB.out)) hb); clear HO_3; clear HO293; clear HB; have HO_3 := n0_; have HO293 := n1_; have HO297 := n2_; have HB := n3_; clear n0_ n1_ n2_ n3_; (try clear hb); (try clear hb2); (try clear hk); (try clear hi); (try clear ho0)) | ((with_reducible refine gate_callee (f := 49) rfl ?_); refine goesL_ (some 147) rfl rfl Try.func49 (by kernel_rfl) rfl #[.slice Ao9 t267.length co9] rfl (by (try simp only [List.map_toArray, List.map_cons, List.map_nil]); first | done | rfl | (simp only [List.length_drop, List.length_take]; rfl)) ?_; (with_reducible refine (impl_BrierScore.calls kj32 _ _ t267 t298 t299 t300 _ ?side1 ?side2 A43.out).mono ?_); (case side1 => repeat (first | exact (Kd.R_reads' HO_3.out).2.2 | (with_reducible refine Kd.C_alloc ?_ _) | (with_reducible refine Kd.C_drewN ?_ _) | (with_reducible refine Kd.C_drew ?_))); (case side2 => exact (Kd.R_reads' HO_3.out).2.1); rintro e w51 ⟨rfl, hb⟩; refine ⟨_, rfl, ?_⟩; have n0_ := Aside0.mk (Kd.R_below (by (with_reducible repeat (first | apply Kd.R_alloc | apply Kd.R_drewN | apply Kd.R_drew)); exact HO_3.out) hb); have n1_ := Aside0.mk (Kd.R_below (by (with_reducible repeat (first | apply Kd.R_alloc | apply Kd.R_drewN | apply Kd.R_drew)); exact HO293.out) hb); have n2_ := Aside0.mk (Kd.R_below (by (with_reducible repeat (first | apply Kd.R_alloc | apply Kd.R_drewN | apply Kd.R_drew)); exact HO297.out) hb); have n3_ := Aside0.mk (below_step (by repeat (first | (with_reducible first | exact HB.out | apply below_alloc | apply pw_below_drewN | apply below_drew1) | exact HB.out)) hb); clear HO_3; clear HO293; clear HO297; clear HB; have HO_3 := n0_; have HO293 := n1_; have HO297 := n2_; have HB := n3_; clear n0_ n1_ n2_ n3_; (try clear hb); (try clear hb2); (try clear hk); (try clear hi)) | ((with_reducible refine gate_callee (f := 49) rfl ?_); refine goesL_ (some 153) rfl rfl Try.func49 (by kernel_rfl) rfl #[.slice Ao49 t290.length co49] rfl (by (try simp only [List.map_toArray, List.map_cons, List.map_nil]); first | done | rfl | (simp only [List.length_drop, List.length_take]; rfl)) ?_; (with_reducible refine (impl_BrierScore.calls kj32 _ _ t290 t301 t302 t303 _ ?side1 ?side2 A44.out).mono ?_); (case side1 => repeat (first | exact (Kd.R_reads' HO293.out).2.2 | (with_reducible refine Kd.C_alloc ?_ _) | (with_reducible refine Kd.C_drewN ?_ _) | (with_reducible refine Kd.C_drew ?_))); (case side2 => exact (Kd.R_reads' HO293.out).2.1); rintro e w52 ⟨rfl, hb⟩; refine ⟨_, rfl, ?_⟩; have n0_ := Aside0.mk (Kd.R_below (by (with_reducible repeat (first | apply Kd.R_alloc | apply Kd.R_drewN | apply Kd.R_drew)); exact HO_3.out) hb); have n1_ := Aside0.mk (Kd.R_below (by (with_reducible repeat (first | apply Kd.R_alloc | apply Kd.R_drewN | apply Kd.R_drew)); exact HO293.out) hb); have n2_ := Aside0.mk (Kd.R_below (by (with_reducible repeat (first | apply Kd.R_alloc | apply Kd.R_drewN | apply Kd.R_drew)); exact HO297.out) hb); have n3_ := Aside0.mk (below_step (by repeat (first | (with_reducible first | exact HB.out | apply below_alloc | apply pw_below_drewN | apply below_drew1) | exact HB.out)) hb); clear HO_3; clear HO293; clear HO297; clear HB; have HO_3 := n0_; have HO293 := n1_; have HO297 := n2_; have HB := n3_; clear n0_ n1_ n2_ n3_; (try clear hb); (try clear hb2); (try clear hk); (try clear hi)) | ((with_reducible refine gate_callee (f := 47) rfl ?_); refine goesL_ (some 159) rfl rfl Try.func47 (by kernel_rfl) rfl #[.slice Ao49 t290.length co49] rfl (by (try simp only [List.map_toArray, List.map_cons, List.map_nil]); first | done | rfl | (simp only [List.length_drop, List.length_take]; rfl)) ?_; (with_reducible refine (impl_BaseRate.calls kj32 _ _ t290 t304 t305 t306 _ ?side1 ?side2 A45.out).mono ?_); (case side1 => repeat (first | exact (Kd.R_reads' HO293.out).2.2 | (with_reducible refine Kd.C_alloc ?_ _) | (with_reducible refine Kd.C_drewN ?_ _) | (with_reducible refine Kd.C_drew ?_))); (case side2 => exact (Kd.R_reads' HO293.out).2.1); rintro e w53 ⟨rfl, hb⟩; refine ⟨_, rfl, ?_⟩; have n0_ := Aside0.mk (Kd.R_below (by (with_reducible repeat (first | apply Kd.R_alloc | apply Kd.R_drewN | apply Kd.R_drew)); exact HO_3.out) hb); have n1_ := Aside0.mk (Kd.R_below (by (with_reducible repeat (first | apply Kd.R_alloc | apply Kd.R_drewN | apply Kd.R_drew)); exact HO293.out) hb); have n2_ := Aside0.mk (Kd.R_below (by (with_reducible repeat (first | apply Kd.R_alloc | apply Kd.R_drewN | apply Kd.R_drew)); exact HO297.out) hb); have n3_ := Aside0.mk (below_step (by repeat (first | (with_reducible first | exact HB.out | apply below_alloc | apply pw_below_drewN | apply below_drew1) | exact HB.out)) hb); clear HO_3; clear HO293; clear HO297; clear HB; have HO_3 := n0_; have HO293 := n1_; have HO297 := n2_; have HB := n3_; clear n0_ n1_ n2_ n3_; (try clear hb); (try clear hb2); (try clear hk); (try clear hi)) | ((with_reducible refine gate_callee (f := 50) rfl ?_); refine goesL_ (some 165) rfl rfl Try.func50 (by kernel_rfl) rfl #[.slice Ao9 t267.length co9] rfl (by (try simp only [List.map_toArray, List.map_cons, List.map_nil]); first | done | rfl | (simp only [List.length_drop, List.length_take]; rfl)) ?_; (with_reducible refine (spec_BrierScore.calls kj32 _ _ t267 t307 t308 t309 _ ?side1 ?side2 A46.out).mono ?_); (case side1 => repeat (first | exact (Kd.R_reads' HO_3.out).2.2 | (with_reducible refine Kd.C_alloc ?_ _) | (with_reducible refine Kd.C_drewN ?_ _) | (with_reducible refine Kd.C_drew ?_))); (case side2 => exact (Kd.R_reads' HO_3.out).2.1); rintro e w' ⟨rfl, ⟨nd, rfl⟩⟩; refine ⟨_, rfl, ?_⟩))
                              (try simp only [Act.put, List.setIfInBounds_toArray, List.set_cons_zero, List.set_cons_succ])
                              go_cut [228] (fun v228 wc => ∃ (kq : Nat) (x228_46 : Bool), v228 = .bool x228_46 ∧ Aside0 (laws_FnReliability.j4 kq t267 x228_46 = some r) ∧ Aside0 (kq ≤ kj32) ∧ Aside0 (Kd.R k102 102 wc w.heap.size (fun _ => True) (.slice Ao9 t267.length co9) t267) ∧ Aside0 (Below w.heap.size w wc))
                              case first =>
                                as_aux_lemma =>
                                have H := HC47.out
                                clear HC47
                                by_cases c54 : t291 = true
                                · subst c54
                                  have H1 : (if t295 = true then (if t300 = true then (if t303 = true then (if t306 = true then ((laws_rChances.f kj32 t294 t267).bind fun t310 => (if t310 = true then (if t298 = t301 then (if t299 = t302 then (if (wrap64 (t304 * t285)) = (wrap64 ((wrap64 (t285 - t284)) * t305)) then (if t298 = t307 then (if t299 = t308 then (laws_FnReliability.j4 kj32 t267 (decide (t298 > t299))) else (laws_FnReliability.j4 kj32 t267 true)) else (laws_FnReliability.j4 kj32 t267 true)) else (laws_FnReliability.j4 kj32 t267 true)) else (laws_FnReliability.j4 kj32 t267 true)) else (laws_FnReliability.j4 kj32 t267 true)) else (laws_FnReliability.j4 kj32 t267 true))) else (laws_FnReliability.j4 kj32 t267 true)) else (laws_FnReliability.j4 kj32 t267 true)) else (laws_FnReliability.j4 kj32 t267 true)) else (laws_FnReliability.j4 kj32 t267 true)) = some r := by rw [if_pos rfl] at H; exact H
                                  clear H
                                  have H := H1
                                  clear H1
                                  by_cases c55 : t295 = true
                                  · subst c55
                                    have H1 : (if t300 = true then (if t303 = true then (if t306 = true then ((laws_rChances.f kj32 t294 t267).bind fun t310 => (if t310 = true then (if t298 = t301 then (if t299 = t302 then (if (wrap64 (t304 * t285)) = (wrap64 ((wrap64 (t285 - t284)) * t305)) then (if t298 = t307 then (if t299 = t308 then (laws_FnReliability.j4 kj32 t267 (decide (t298 > t299))) else (laws_FnReliability.j4 kj32 t267 true)) else (laws_FnReliability.j4 kj32 t267 true)) else (laws_FnReliability.j4 kj32 t267 true)) else (laws_FnReliability.j4 kj32 t267 true)) else (laws_FnReliability.j4 kj32 t267 true)) else (laws_FnReliability.j4 kj32 t267 true))) else (laws_FnReliability.j4 kj32 t267 true)) else (laws_FnReliability.j4 kj32 t267 true)) else (laws_FnReliability.j4 kj32 t267 true)) = some r := by rw [if_pos rfl] at H; exact H
                                    clear H
                                    have H := H1
                                    clear H1
                                    by_cases c56 : t300 = true
                                    · subst c56
                                      have H1 : (if t303 = true then (if t306 = true then ((laws_rChances.f kj32 t294 t267).bind fun t310 => (if t310 = true then (if t298 = t301 then (if t299 = t302 then (if (wrap64 (t304 * t285)) = (wrap64 ((wrap64 (t285 - t284)) * t305)) then (if t298 = t307 then (if t299 = t308 then (laws_FnReliability.j4 kj32 t267 (decide (t298 > t299))) else (laws_FnReliability.j4 kj32 t267 true)) else (laws_FnReliability.j4 kj32 t267 true)) else (laws_FnReliability.j4 kj32 t267 true)) else (laws_FnReliability.j4 kj32 t267 true)) else (laws_FnReliability.j4 kj32 t267 true)) else (laws_FnReliability.j4 kj32 t267 true))) else (laws_FnReliability.j4 kj32 t267 true)) else (laws_FnReliability.j4 kj32 t267 true)) = some r := by rw [if_pos rfl] at H; exact H
                                      clear H
                                      have H := H1
                                      clear H1
                                      by_cases c57 : t303 = true
                                      · subst c57
                                        have H1 : (if t306 = true then ((laws_rChances.f kj32 t294 t267).bind fun t310 => (if t310 = true then (if t298 = t301 then (if t299 = t302 then (if (wrap64 (t304 * t285)) = (wrap64 ((wrap64 (t285 - t284)) * t305)) then (if t298 = t307 then (if t299 = t308 then (laws_FnReliability.j4 kj32 t267 (decide (t298 > t299))) else (laws_FnReliability.j4 kj32 t267 true)) else (laws_FnReliability.j4 kj32 t267 true)) else (laws_FnReliability.j4 kj32 t267 true)) else (laws_FnReliability.j4 kj32 t267 true)) else (laws_FnReliability.j4 kj32 t267 true)) else (laws_FnReliability.j4 kj32 t267 true))) else (laws_FnReliability.j4 kj32 t267 true)) = some r := by rw [if_pos rfl] at H; exact H
                                        clear H
                                        have H := H1
                                        clear H1
                                        by_cases c58 : t306 = true
                                        · subst c58
                                          have H1 : ((laws_rChances.f kj32 t294 t267).bind fun t310 => (if t310 = true then (if t298 = t301 then (if t299 = t302 then (if (wrap64 (t304 * t285)) = (wrap64 ((wrap64 (t285 - t284)) * t305)) then (if t298 = t307 then (if t299 = t308 then (laws_FnReliability.j4 kj32 t267 (decide (t298 > t299))) else (laws_FnReliability.j4 kj32 t267 true)) else (laws_FnReliability.j4 kj32 t267 true)) else (laws_FnReliability.j4 kj32 t267 true)) else (laws_FnReliability.j4 kj32 t267 true)) else (laws_FnReliability.j4 kj32 t267 true)) else (laws_FnReliability.j4 kj32 t267 true))) = some r := by rw [if_pos rfl] at H; exact H
                                          clear H
                                          have H := H1
                                          clear H1
                                          replace H := Option.bind_eq_some_iff.mp H
                                          obtain ⟨t310, A590, H⟩ := H
                                          replace H : (if t310 = true then (if t298 = t301 then (if t299 = t302 then (if (wrap64 (t304 * t285)) = (wrap64 ((wrap64 (t285 - t284)) * t305)) then (if t298 = t307 then (if t299 = t308 then (laws_FnReliability.j4 kj32 t267 (decide (t298 > t299))) else (laws_FnReliability.j4 kj32 t267 true)) else (laws_FnReliability.j4 kj32 t267 true)) else (laws_FnReliability.j4 kj32 t267 true)) else (laws_FnReliability.j4 kj32 t267 true)) else (laws_FnReliability.j4 kj32 t267 true)) else (laws_FnReliability.j4 kj32 t267 true)) = some r := H
                                          have A59 := Aside0.mk A590
                                          clear A590
                                          by_cases c60 : t310 = true
                                          · subst c60
                                            have H1 : (if t298 = t301 then (if t299 = t302 then (if (wrap64 (t304 * t285)) = (wrap64 ((wrap64 (t285 - t284)) * t305)) then (if t298 = t307 then (if t299 = t308 then (laws_FnReliability.j4 kj32 t267 (decide (t298 > t299))) else (laws_FnReliability.j4 kj32 t267 true)) else (laws_FnReliability.j4 kj32 t267 true)) else (laws_FnReliability.j4 kj32 t267 true)) else (laws_FnReliability.j4 kj32 t267 true)) else (laws_FnReliability.j4 kj32 t267 true)) = some r := by rw [if_pos rfl] at H; exact H
                                            clear H
                                            have H := H1
                                            clear H1
                                            by_cases c61 : t298 = t301
                                            · rw [if_pos c61] at H
                                              have c61b0 : (t298 == t301) = true := beq_iff_eq.mpr c61
                                              have c61b1 : (t298 != t301) = false := bne_eq_false_iff_eq.mpr c61
                                              clear c61
                                              (first | rw [c61b0] | (simp only [i64_w, i32_w]; rw [c61b0]) | skip)
                                              by_cases c62 : t299 = t302
                                              · rw [if_pos c62] at H
                                                have c62b0 : (t299 == t302) = true := beq_iff_eq.mpr c62
                                                have c62b1 : (t299 != t302) = false := bne_eq_false_iff_eq.mpr c62
                                                clear c62
                                                by_cases c63 : (wrap64 (t304 * t285)) = (wrap64 ((wrap64 (t285 - t284)) * t305))
                                                · rw [if_pos c63] at H
                                                  have c63b0 : ((wrap64 (t304 * t285)) == (wrap64 ((wrap64 (t285 - t284)) * t305))) = true := beq_iff_eq.mpr c63
                                                  have c63b1 : ((wrap64 (t304 * t285)) != (wrap64 ((wrap64 (t285 - t284)) * t305))) = false := bne_eq_false_iff_eq.mpr c63
                                                  clear c63
                                                  by_cases c64 : t298 = t307
                                                  · rw [if_pos c64] at H
                                                    have c64b0 : (t298 == t307) = true := beq_iff_eq.mpr c64
                                                    have c64b1 : (t298 != t307) = false := bne_eq_false_iff_eq.mpr c64
                                                    clear c64
                                                    by_cases c65 : t299 = t308
                                                    · rw [if_pos c65] at H
                                                      have c65b0 : (t299 == t308) = true := beq_iff_eq.mpr c65
                                                      have c65b1 : (t299 != t308) = false := bne_eq_false_iff_eq.mpr c65
                                                      clear c65
                                                      as_aux_lemma =>
                                                        have H' := Aside0.mk H
                                                        clear H
                                                        obtain ⟨Ao66, co66, eo66⟩ := Kd.R_slice HO297.out
                                                        subst eo66
                                                        go_wp2_with (first | (go_at_call 41; (with_reducible refine (laws_rChances.calls kj32 _ _ t294 _ _ t267 true _ ?side1 ?side2 ?side3 ?side4 A59.out).mono ?_); (case side1 => repeat (first | exact (Kd.R_reads' HO297.out).2.2 | (with_reducible refine Kd.C_alloc ?_ _) | (with_reducible refine Kd.C_drewN ?_ _) | (with_reducible refine Kd.C_drew ?_))); (case side2 => exact (Kd.R_reads' HO297.out).2.1); (case side3 => repeat (first | exact (Kd.R_reads' HO_3.out).2.2 | (with_reducible refine Kd.C_alloc ?_ _) | (with_reducible refine Kd.C_drewN ?_ _) | (with_reducible refine Kd.C_drew ?_))); (case side4 => exact (Kd.R_reads' HO_3.out).2.1); rintro e w' ⟨rfl, ⟨nd, rfl⟩⟩))
                                                        go_meet
                                                        case rel => exact ⟨_, (decide (t298 > t299)), (by first | rfl | (simp; done) | (simp [*]; done)), H', ⟨by have := HJ6.out; have := HK2.out; have := HJ26.out; have := HJ32.out; first | omega | exact Nat.le_refl _⟩, ⟨by (with_reducible repeat (first | apply Kd.R_alloc | apply Kd.R_drewN | apply Kd.R_drew)); exact Kd.R_mono HO_3.out (fun _ hk => trivial)⟩, ⟨by repeat (first | (with_reducible first | exact HB.out | apply below_alloc | apply pw_below_drewN | apply below_drew1) | exact HB.out)⟩⟩
                                                    · rw [if_neg c65] at H
                                                      have c65b0 : (t299 == t308) = false := beq_eq_false_iff_ne.mpr c65
                                                      have c65b1 : (t299 != t308) = true := bne_iff_ne.mpr c65
                                                      as_aux_lemma =>
                                                        have H' := Aside0.mk H
                                                        clear H
                                                        obtain ⟨Ao67, co67, eo67⟩ := Kd.R_slice HO297.out
                                                        subst eo67
                                                        go_wp2_with (first | (go_at_call 41; (with_reducible refine (laws_rChances.calls kj32 _ _ t294 _ _ t267 true _ ?side1 ?side2 ?side3 ?side4 A59.out).mono ?_); (case side1 => repeat (first | exact (Kd.R_reads' HO297.out).2.2 | (with_reducible refine Kd.C_alloc ?_ _) | (with_reducible refine Kd.C_drewN ?_ _) | (with_reducible refine Kd.C_drew ?_))); (case side2 => exact (Kd.R_reads' HO297.out).2.1); (case side3 => repeat (first | exact (Kd.R_reads' HO_3.out).2.2 | (with_reducible refine Kd.C_alloc ?_ _) | (with_reducible refine Kd.C_drewN ?_ _) | (with_reducible refine Kd.C_drew ?_))); (case side4 => exact (Kd.R_reads' HO_3.out).2.1); rintro e w' ⟨rfl, ⟨nd, rfl⟩⟩))
                                                        go_meet
                                                        case rel => exact ⟨_, (true), (by first | rfl | (simp; done) | (simp [*]; done)), H', ⟨by have := HJ6.out; have := HK2.out; have := HJ26.out; have := HJ32.out; first | omega | exact Nat.le_refl _⟩, ⟨by (with_reducible repeat (first | apply Kd.R_alloc | apply Kd.R_drewN | apply Kd.R_drew)); exact Kd.R_mono HO_3.out (fun _ hk => trivial)⟩, ⟨by repeat (first | (with_reducible first | exact HB.out | apply below_alloc | apply pw_below_drewN | apply below_drew1) | exact HB.out)⟩⟩
                                                  · rw [if_neg c64] at H
                                                    have c64b0 : (t298 == t307) = false := beq_eq_false_iff_ne.mpr c64
                                                    have c64b1 : (t298 != t307) = true := bne_iff_ne.mpr c64
                                                    as_aux_lemma =>
                                                      have H' := Aside0.mk H
                                                      clear H
                                                      obtain ⟨Ao68, co68, eo68⟩ := Kd.R_slice HO297.out
                                                      subst eo68
                                                      go_wp2_with (first | (go_at_call 41; (with_reducible refine (laws_rChances.calls kj32 _ _ t294 _ _ t267 true _ ?side1 ?side2 ?side3 ?side4 A59.out).mono ?_); (case side1 => repeat (first | exact (Kd.R_reads' HO297.out).2.2 | (with_reducible refine Kd.C_alloc ?_ _) | (with_reducible refine Kd.C_drewN ?_ _) | (with_reducible refine Kd.C_drew ?_))); (case side2 => exact (Kd.R_reads' HO297.out).2.1); (case side3 => repeat (first | exact (Kd.R_reads' HO_3.out).2.2 | (with_reducible refine Kd.C_alloc ?_ _) | (with_reducible refine Kd.C_drewN ?_ _) | (with_reducible refine Kd.C_drew ?_))); (case side4 => exact (Kd.R_reads' HO_3.out).2.1); rintro e w' ⟨rfl, ⟨nd, rfl⟩⟩))
                                                      go_meet
                                                      case rel => exact ⟨_, (true), (by first | rfl | (simp; done) | (simp [*]; done)), H', ⟨by have := HJ6.out; have := HK2.out; have := HJ26.out; have := HJ32.out; first | omega | exact Nat.le_refl _⟩, ⟨by (with_reducible repeat (first | apply Kd.R_alloc | apply Kd.R_drewN | apply Kd.R_drew)); exact Kd.R_mono HO_3.out (fun _ hk => trivial)⟩, ⟨by repeat (first | (with_reducible first | exact HB.out | apply below_alloc | apply pw_below_drewN | apply below_drew1) | exact HB.out)⟩⟩
                                                · rw [if_neg c63] at H
                                                  have c63b0 : ((wrap64 (t304 * t285)) == (wrap64 ((wrap64 (t285 - t284)) * t305))) = false := beq_eq_false_iff_ne.mpr c63
                                                  have c63b1 : ((wrap64 (t304 * t285)) != (wrap64 ((wrap64 (t285 - t284)) * t305))) = true := bne_iff_ne.mpr c63
                                                  as_aux_lemma =>
                                                    have H' := Aside0.mk H
                                                    clear H
                                                    obtain ⟨Ao69, co69, eo69⟩ := Kd.R_slice HO297.out
                                                    subst eo69
                                                    go_wp2_with (first | (go_at_call 41; (with_reducible refine (laws_rChances.calls kj32 _ _ t294 _ _ t267 true _ ?side1 ?side2 ?side3 ?side4 A59.out).mono ?_); (case side1 => repeat (first | exact (Kd.R_reads' HO297.out).2.2 | (with_reducible refine Kd.C_alloc ?_ _) | (with_reducible refine Kd.C_drewN ?_ _) | (with_reducible refine Kd.C_drew ?_))); (case side2 => exact (Kd.R_reads' HO297.out).2.1); (case side3 => repeat (first | exact (Kd.R_reads' HO_3.out).2.2 | (with_reducible refine Kd.C_alloc ?_ _) | (with_reducible refine Kd.C_drewN ?_ _) | (with_reducible refine Kd.C_drew ?_))); (case side4 => exact (Kd.R_reads' HO_3.out).2.1); rintro e w' ⟨rfl, ⟨nd, rfl⟩⟩))
                                                    go_meet
                                                    case rel => exact ⟨_, (true), (by first | rfl | (simp; done) | (simp [*]; done)), H', ⟨by have := HJ6.out; have := HK2.out; have := HJ26.out; have := HJ32.out; first | omega | exact Nat.le_refl _⟩, ⟨by (with_reducible repeat (first | apply Kd.R_alloc | apply Kd.R_drewN | apply Kd.R_drew)); exact Kd.R_mono HO_3.out (fun _ hk => trivial)⟩, ⟨by repeat (first | (with_reducible first | exact HB.out | apply below_alloc | apply pw_below_drewN | apply below_drew1) | exact HB.out)⟩⟩
                                              · rw [if_neg c62] at H
                                                have c62b0 : (t299 == t302) = false := beq_eq_false_iff_ne.mpr c62
                                                have c62b1 : (t299 != t302) = true := bne_iff_ne.mpr c62
                                                as_aux_lemma =>
                                                  have H' := Aside0.mk H
                                                  clear H
                                                  obtain ⟨Ao70, co70, eo70⟩ := Kd.R_slice HO297.out
                                                  subst eo70
                                                  go_wp2_with (first | (go_at_call 41; (with_reducible refine (laws_rChances.calls kj32 _ _ t294 _ _ t267 true _ ?side1 ?side2 ?side3 ?side4 A59.out).mono ?_); (case side1 => repeat (first | exact (Kd.R_reads' HO297.out).2.2 | (with_reducible refine Kd.C_alloc ?_ _) | (with_reducible refine Kd.C_drewN ?_ _) | (with_reducible refine Kd.C_drew ?_))); (case side2 => exact (Kd.R_reads' HO297.out).2.1); (case side3 => repeat (first | exact (Kd.R_reads' HO_3.out).2.2 | (with_reducible refine Kd.C_alloc ?_ _) | (with_reducible refine Kd.C_drewN ?_ _) | (with_reducible refine Kd.C_drew ?_))); (case side4 => exact (Kd.R_reads' HO_3.out).2.1); rintro e w' ⟨rfl, ⟨nd, rfl⟩⟩))
                                                  go_meet
                                                  case rel => exact ⟨_, (true), (by first | rfl | (simp; done) | (simp [*]; done)), H', ⟨by have := HJ6.out; have := HK2.out; have := HJ26.out; have := HJ32.out; first | omega | exact Nat.le_refl _⟩, ⟨by (with_reducible repeat (first | apply Kd.R_alloc | apply Kd.R_drewN | apply Kd.R_drew)); exact Kd.R_mono HO_3.out (fun _ hk => trivial)⟩, ⟨by repeat (first | (with_reducible first | exact HB.out | apply below_alloc | apply pw_below_drewN | apply below_drew1) | exact HB.out)⟩⟩
                                            · rw [if_neg c61] at H
                                              have c61b0 : (t298 == t301) = false := beq_eq_false_iff_ne.mpr c61
                                              have c61b1 : (t298 != t301) = true := bne_iff_ne.mpr c61
                                              (first | rw [c61b0] | (simp only [i64_w, i32_w]; rw [c61b0]) | skip)
                                              as_aux_lemma =>
                                                have H' := Aside0.mk H
                                                clear H
                                                obtain ⟨Ao71, co71, eo71⟩ := Kd.R_slice HO297.out
                                                subst eo71
                                                go_wp2_with (first | (go_at_call 41; (with_reducible refine (laws_rChances.calls kj32 _ _ t294 _ _ t267 true _ ?side1 ?side2 ?side3 ?side4 A59.out).mono ?_); (case side1 => repeat (first | exact (Kd.R_reads' HO297.out).2.2 | (with_reducible refine Kd.C_alloc ?_ _) | (with_reducible refine Kd.C_drewN ?_ _) | (with_reducible refine Kd.C_drew ?_))); (case side2 => exact (Kd.R_reads' HO297.out).2.1); (case side3 => repeat (first | exact (Kd.R_reads' HO_3.out).2.2 | (with_reducible refine Kd.C_alloc ?_ _) | (with_reducible refine Kd.C_drewN ?_ _) | (with_reducible refine Kd.C_drew ?_))); (case side4 => exact (Kd.R_reads' HO_3.out).2.1); rintro e w' ⟨rfl, ⟨nd, rfl⟩⟩))
                                                go_meet
                                                case rel => exact ⟨_, (true), (by first | rfl | (simp; done) | (simp [*]; done)), H', ⟨by have := HJ6.out; have := HK2.out; have := HJ26.out; have := HJ32.out; first | omega | exact Nat.le_refl _⟩, ⟨by (with_reducible repeat (first | apply Kd.R_alloc | apply Kd.R_drewN | apply Kd.R_drew)); exact Kd.R_mono HO_3.out (fun _ hk => trivial)⟩, ⟨by repeat (first | (with_reducible first | exact HB.out | apply below_alloc | apply pw_below_drewN | apply below_drew1) | exact HB.out)⟩⟩
                                          · replace c60 := Bool.eq_false_iff.mpr c60
                                            subst c60
                                            have H1 : (laws_FnReliability.j4 kj32 t267 true) = some r := by rw [if_neg (show ¬ (false = true) by decide)] at H; exact H
                                            clear H
                                            have H := H1
                                            clear H1
                                            as_aux_lemma =>
                                              have H' := Aside0.mk H
                                              clear H
                                              obtain ⟨Ao72, co72, eo72⟩ := Kd.R_slice HO297.out
                                              subst eo72
                                              go_wp2_with (first | (go_at_call 41; (with_reducible refine (laws_rChances.calls kj32 _ _ t294 _ _ t267 false _ ?side1 ?side2 ?side3 ?side4 A59.out).mono ?_); (case side1 => repeat (first | exact (Kd.R_reads' HO297.out).2.2 | (with_reducible refine Kd.C_alloc ?_ _) | (with_reducible refine Kd.C_drewN ?_ _) | (with_reducible refine Kd.C_drew ?_))); (case side2 => exact (Kd.R_reads' HO297.out).2.1); (case side3 => repeat (first | exact (Kd.R_reads' HO_3.out).2.2 | (with_reducible refine Kd.C_alloc ?_ _) | (with_reducible refine Kd.C_drewN ?_ _) | (with_reducible refine Kd.C_drew ?_))); (case side4 => exact (Kd.R_reads' HO_3.out).2.1); rintro e w' ⟨rfl, ⟨nd, rfl⟩⟩))
                                              go_meet
                                              case rel => exact ⟨_, (true), (by first | rfl | (simp; done) | (simp [*]; done)), H', ⟨by have := HJ6.out; have := HK2.out; have := HJ26.out; have := HJ32.out; first | omega | exact Nat.le_refl _⟩, ⟨by (with_reducible repeat (first | apply Kd.R_alloc | apply Kd.R_drewN | apply Kd.R_drew)); exact Kd.R_mono HO_3.out (fun _ hk => trivial)⟩, ⟨by repeat (first | (with_reducible first | exact HB.out | apply below_alloc | apply pw_below_drewN | apply below_drew1) | exact HB.out)⟩⟩
                                        · replace c58 := Bool.eq_false_iff.mpr c58
                                          subst c58
                                          have H1 : (laws_FnReliability.j4 kj32 t267 true) = some r := by rw [if_neg (show ¬ (false = true) by decide)] at H; exact H
                                          clear H
                                          have H := H1
                                          clear H1
                                          as_aux_lemma =>
                                            have H' := Aside0.mk H
                                            clear H
                                            go_wp2
                                            go_meet
                                            case rel => exact ⟨_, (true), (by first | rfl | (simp; done) | (simp [*]; done)), H', ⟨by have := HJ6.out; have := HK2.out; have := HJ26.out; have := HJ32.out; first | omega | exact Nat.le_refl _⟩, ⟨by (with_reducible repeat (first | apply Kd.R_alloc | apply Kd.R_drewN | apply Kd.R_drew)); exact Kd.R_mono HO_3.out (fun _ hk => trivial)⟩, ⟨by repeat (first | (with_reducible first | exact HB.out | apply below_alloc | apply pw_below_drewN | apply below_drew1) | exact HB.out)⟩⟩
                                      · replace c57 := Bool.eq_false_iff.mpr c57
                                        subst c57
                                        have H1 : (laws_FnReliability.j4 kj32 t267 true) = some r := by rw [if_neg (show ¬ (false = true) by decide)] at H; exact H
                                        clear H
                                        have H := H1
                                        clear H1
                                        as_aux_lemma =>
                                          have H' := Aside0.mk H
                                          clear H
                                          go_wp2
                                          go_meet
                                          case rel => exact ⟨_, (true), (by first | rfl | (simp; done) | (simp [*]; done)), H', ⟨by have := HJ6.out; have := HK2.out; have := HJ26.out; have := HJ32.out; first | omega | exact Nat.le_refl _⟩, ⟨by (with_reducible repeat (first | apply Kd.R_alloc | apply Kd.R_drewN | apply Kd.R_drew)); exact Kd.R_mono HO_3.out (fun _ hk => trivial)⟩, ⟨by repeat (first | (with_reducible first | exact HB.out | apply below_alloc | apply pw_below_drewN | apply below_drew1) | exact HB.out)⟩⟩
                                    · replace c56 := Bool.eq_false_iff.mpr c56
                                      subst c56
                                      have H1 : (laws_FnReliability.j4 kj32 t267 true) = some r := by rw [if_neg (show ¬ (false = true) by decide)] at H; exact H
                                      clear H
                                      have H := H1
                                      clear H1
                                      as_aux_lemma =>
                                        have H' := Aside0.mk H
                                        clear H
                                        go_wp2
                                        go_meet
                                        case rel => exact ⟨_, (true), (by first | rfl | (simp; done) | (simp [*]; done)), H', ⟨by have := HJ6.out; have := HK2.out; have := HJ26.out; have := HJ32.out; first | omega | exact Nat.le_refl _⟩, ⟨by (with_reducible repeat (first | apply Kd.R_alloc | apply Kd.R_drewN | apply Kd.R_drew)); exact Kd.R_mono HO_3.out (fun _ hk => trivial)⟩, ⟨by repeat (first | (with_reducible first | exact HB.out | apply below_alloc | apply pw_below_drewN | apply below_drew1) | exact HB.out)⟩⟩
                                  · replace c55 := Bool.eq_false_iff.mpr c55
                                    subst c55
                                    have H1 : (laws_FnReliability.j4 kj32 t267 true) = some r := by rw [if_neg (show ¬ (false = true) by decide)] at H; exact H
                                    clear H
                                    have H := H1
                                    clear H1
                                    as_aux_lemma =>
                                      have H' := Aside0.mk H
                                      clear H
                                      go_wp2
                                      go_meet
                                      case rel => exact ⟨_, (true), (by first | rfl | (simp; done) | (simp [*]; done)), H', ⟨by have := HJ6.out; have := HK2.out; have := HJ26.out; have := HJ32.out; first | omega | exact Nat.le_refl _⟩, ⟨by (with_reducible repeat (first | apply Kd.R_alloc | apply Kd.R_drewN | apply Kd.R_drew)); exact Kd.R_mono HO_3.out (fun _ hk => trivial)⟩, ⟨by repeat (first | (with_reducible first | exact HB.out | apply below_alloc | apply pw_below_drewN | apply below_drew1) | exact HB.out)⟩⟩
                                · replace c54 := Bool.eq_false_iff.mpr c54
                                  subst c54
                                  have H1 : (laws_FnReliability.j4 kj32 t267 true) = some r := by rw [if_neg (show ¬ (false = true) by decide)] at H; exact H
                                  clear H
                                  have H := H1
                                  clear H1
                                  as_aux_lemma =>
                                    have H' := Aside0.mk H
                                    clear H
                                    go_wp2
                                    go_meet
                                    case rel => exact ⟨_, (true), (by first | rfl | (simp; done) | (simp [*]; done)), H', ⟨by have := HJ6.out; have := HK2.out; have := HJ26.out; have := HJ32.out; first | omega | exact Nat.le_refl _⟩, ⟨by (with_reducible repeat (first | apply Kd.R_alloc | apply Kd.R_drewN | apply Kd.R_drew)); exact Kd.R_mono HO_3.out (fun _ hk => trivial)⟩, ⟨by repeat (first | (with_reducible first | exact HB.out | apply below_alloc | apply pw_below_drewN | apply below_drew1) | exact HB.out)⟩⟩
                              case rest =>
                                as_aux_lemma =>
                                clear HC47
                                try clear c1
                                try clear c2
                                try clear p2
                                try clear q2
                                try clear hx2
                                try clear qi2
                                try clear c3
                                try clear c4
                                try clear c5
                                try clear c6
                                try clear p6
                                try clear c9
                                try clear c12
                                try clear c12b0
                                try clear c12b1
                                try clear c12b2
                                try clear c14
                                try clear c21
                                try clear c22
                                try clear c22b0
                                try clear c23
                                try clear c23b0
                                try clear c24
                                try clear c24b0
                                try clear c24b1
                                try clear c25
                                try clear c25b0
                                try clear c25b1
                                try clear c28
                                try clear p28
                                try clear q28
                                try clear hx28
                                try clear qi28
                                try clear c29
                                try clear c30
                                try clear c35
                                try clear c35b0
                                try clear c35b1
                                try clear c36
                                try clear c36b0
                                try clear c36b1
                                try clear c37
                                try clear c37b0
                                try clear c37b1
                                try clear c37b2
                                try clear c38
                                try clear c39
                                try clear c40
                                try clear c47
                                try clear c48
                                try clear c49
                                try clear c50
                                try clear c54
                                try clear c55
                                try clear c56
                                try clear c57
                                try clear c58
                                try clear c60
                                try clear c61
                                try clear c61b0
                                try clear c61b1
                                try clear c62
                                try clear c62b0
                                try clear c62b1
                                try clear c63
                                try clear c63b0
                                try clear c63b1
                                try clear c64
                                try clear c64b0
                                try clear c64b1
                                try clear p64
                                try clear c65
                                try clear c65b0
                                try clear c65b1
                                try clear hx280_0
                                try clear hx281_0
                                try clear hx282_0
                                try clear hx283_0
                                try clear p2
                                try clear p28
                                try clear p280
                                try clear p281
                                try clear p282
                                try clear p283
                                try clear p6
                                try clear q2
                                try clear q28
                                try clear q280
                                try clear q281
                                try clear q282
                                try clear q283
                                obtain ⟨kq, x228_46, rfl, HA, HJ46, HO_3, HB⟩ := hcut
                                cases kq with
                                | zero => exact absurd HA.out (by simp [laws_FnReliability.j4])
                                | succ kj46 =>
                                  have H := HA.out
                                  clear HA
                                  simp only [laws_FnReliability.j4] at H
                                  by_cases c73 : x228_46 = true
                                  · subst c73
                                    have H1 : (some false) = some r := by rw [if_pos rfl] at H; exact H
                                    clear H
                                    have H := H1
                                    clear H1
                                    as_aux_lemma =>
                                      obtain rfl := Option.some.inj H
                                      go_wp2
                                      go_ret
                                      exact ⟨by first | rfl | (simp [errW_none, errW_some] <;> rfl) | (simp [*, errW_none, errW_some] <;> rfl), by repeat (first | (with_reducible first | exact HB.out | apply below_alloc | apply pw_below_drewN | apply below_drew1) | exact HB.out)⟩
                                  · replace c73 := Bool.eq_false_iff.mpr c73
                                    subst c73
                                    have H1 : ((impl_MostBiased.f kj46 t267).bind fun bt311 => ((spec_MostBiased.f kj46 t267).bind fun bt314 => (if bt311.1 = bt314.1 then (if bt311.2.1 = bt314.2.1 then (some (bt311.2.2 == bt314.2.2)) else (some false)) else (some false)))) = some r := by rw [if_neg (show ¬ (false = true) by decide)] at H; exact H
                                    clear H
                                    have H := H1
                                    clear H1
                                    replace H := Option.bind_eq_some_iff.mp H
                                    obtain ⟨⟨t311, t312, t313⟩, A740, H⟩ := H
                                    replace H : ((spec_MostBiased.f kj46 t267).bind fun bt314 => (if t311 = bt314.1 then (if t312 = bt314.2.1 then (some (t313 == bt314.2.2)) else (some false)) else (some false))) = some r := H
                                    have A74 := Aside0.mk A740
                                    clear A740
                                    replace H := Option.bind_eq_some_iff.mp H
                                    obtain ⟨⟨t314, t315, t316⟩, A750, H⟩ := H
                                    replace H : (if t311 = t314 then (if t312 = t315 then (some (t313 == t316)) else (some false)) else (some false)) = some r := H
                                    have A75 := Aside0.mk A750
                                    clear A750
                                    by_cases c76 : t311 = t314
                                    · rw [if_pos c76] at H
                                      have c76b0 : (t311 == t314) = true := beq_iff_eq.mpr c76
                                      have c76b1 : (t311 != t314) = false := bne_eq_false_iff_eq.mpr c76
                                      clear c76
                                      by_cases c77 : t312 = t315
                                      · rw [if_pos c77] at H
                                        have c77b0 : (t312 == t315) = true := beq_iff_eq.mpr c77
                                        have c77b1 : (t312 != t315) = false := bne_eq_false_iff_eq.mpr c77
                                        clear c77
                                        as_aux_lemma =>
                                          obtain rfl := Option.some.inj H
                                          go_wp2_with (first | ((with_reducible refine gate_callee (f := 51) rfl ?_); refine goesL_ (some 231) rfl rfl Try.func51 (by kernel_rfl) rfl #[.slice Ao9 t267.length co9] rfl (by (try simp only [List.map_toArray, List.map_cons, List.map_nil]); first | done | rfl | (simp only [List.length_drop, List.length_take]; rfl)) ?_; (with_reducible refine (impl_MostBiased.calls kj46 _ _ t267 t311 t312 t313 _ ?side1 ?side2 A74.out).mono ?_); (case side1 => repeat (first | exact (Kd.R_reads' HO_3.out).2.2 | (with_reducible refine Kd.C_alloc ?_ _) | (with_reducible refine Kd.C_drewN ?_ _) | (with_reducible refine Kd.C_drew ?_))); (case side2 => exact (Kd.R_reads' HO_3.out).2.1); rintro e w78 ⟨rfl, hb⟩; refine ⟨_, rfl, ?_⟩; have n0_ := Aside0.mk (Kd.R_below (by (with_reducible repeat (first | apply Kd.R_alloc | apply Kd.R_drewN | apply Kd.R_drew)); exact HO_3.out) hb); have n1_ := Aside0.mk (below_step (by repeat (first | (with_reducible first | exact HB.out | apply below_alloc | apply pw_below_drewN | apply below_drew1) | exact HB.out)) hb); clear HO_3; clear HB; have HO_3 := n0_; have HB := n1_; clear n0_ n1_; (try clear hb); (try clear hb2); (try clear hk); (try clear hi)) | ((with_reducible refine gate_callee (f := 52) rfl ?_); refine goesL_ (some 237) rfl rfl Try.func52 (by kernel_rfl) rfl #[.slice Ao9 t267.length co9] rfl (by (try simp only [List.map_toArray, List.map_cons, List.map_nil]); first | done | rfl | (simp only [List.length_drop, List.length_take]; rfl)) ?_; (with_reducible refine (spec_MostBiased.calls kj46 _ _ t267 t314 t315 t316 _ ?side1 ?side2 A75.out).mono ?_); (case side1 => repeat (first | exact (Kd.R_reads' HO_3.out).2.2 | (with_reducible refine Kd.C_alloc ?_ _) | (with_reducible refine Kd.C_drewN ?_ _) | (with_reducible refine Kd.C_drew ?_))); (case side2 => exact (Kd.R_reads' HO_3.out).2.1); rintro e w' ⟨rfl, ⟨nd, rfl⟩⟩; refine ⟨_, rfl, ?_⟩))
                                          go_ret
                                          exact ⟨by first | rfl | (simp [errW_none, errW_some] <;> rfl) | (simp [*, errW_none, errW_some] <;> rfl), by repeat (first | (with_reducible first | exact HB.out | apply below_alloc | apply pw_below_drewN | apply below_drew1) | exact HB.out)⟩
                                      · rw [if_neg c77] at H
                                        have c77b0 : (t312 == t315) = false := beq_eq_false_iff_ne.mpr c77
                                        have c77b1 : (t312 != t315) = true := bne_iff_ne.mpr c77
                                        as_aux_lemma =>
                                          obtain rfl := Option.some.inj H
                                          go_wp2_with (first | ((with_reducible refine gate_callee (f := 51) rfl ?_); refine goesL_ (some 231) rfl rfl Try.func51 (by kernel_rfl) rfl #[.slice Ao9 t267.length co9] rfl (by (try simp only [List.map_toArray, List.map_cons, List.map_nil]); first | done | rfl | (simp only [List.length_drop, List.length_take]; rfl)) ?_; (with_reducible refine (impl_MostBiased.calls kj46 _ _ t267 t311 t312 t313 _ ?side1 ?side2 A74.out).mono ?_); (case side1 => repeat (first | exact (Kd.R_reads' HO_3.out).2.2 | (with_reducible refine Kd.C_alloc ?_ _) | (with_reducible refine Kd.C_drewN ?_ _) | (with_reducible refine Kd.C_drew ?_))); (case side2 => exact (Kd.R_reads' HO_3.out).2.1); rintro e w79 ⟨rfl, hb⟩; refine ⟨_, rfl, ?_⟩; have n0_ := Aside0.mk (Kd.R_below (by (with_reducible repeat (first | apply Kd.R_alloc | apply Kd.R_drewN | apply Kd.R_drew)); exact HO_3.out) hb); have n1_ := Aside0.mk (below_step (by repeat (first | (with_reducible first | exact HB.out | apply below_alloc | apply pw_below_drewN | apply below_drew1) | exact HB.out)) hb); clear HO_3; clear HB; have HO_3 := n0_; have HB := n1_; clear n0_ n1_; (try clear hb); (try clear hb2); (try clear hk); (try clear hi)) | ((with_reducible refine gate_callee (f := 52) rfl ?_); refine goesL_ (some 237) rfl rfl Try.func52 (by kernel_rfl) rfl #[.slice Ao9 t267.length co9] rfl (by (try simp only [List.map_toArray, List.map_cons, List.map_nil]); first | done | rfl | (simp only [List.length_drop, List.length_take]; rfl)) ?_; (with_reducible refine (spec_MostBiased.calls kj46 _ _ t267 t314 t315 t316 _ ?side1 ?side2 A75.out).mono ?_); (case side1 => repeat (first | exact (Kd.R_reads' HO_3.out).2.2 | (with_reducible refine Kd.C_alloc ?_ _) | (with_reducible refine Kd.C_drewN ?_ _) | (with_reducible refine Kd.C_drew ?_))); (case side2 => exact (Kd.R_reads' HO_3.out).2.1); rintro e w' ⟨rfl, ⟨nd, rfl⟩⟩; refine ⟨_, rfl, ?_⟩))
                                          go_ret
                                          exact ⟨by first | rfl | (simp [errW_none, errW_some] <;> rfl) | (simp [*, errW_none, errW_some] <;> rfl), by repeat (first | (with_reducible first | exact HB.out | apply below_alloc | apply pw_below_drewN | apply below_drew1) | exact HB.out)⟩
                                    · rw [if_neg c76] at H
                                      have c76b0 : (t311 == t314) = false := beq_eq_false_iff_ne.mpr c76
                                      have c76b1 : (t311 != t314) = true := bne_iff_ne.mpr c76
                                      as_aux_lemma =>
                                        obtain rfl := Option.some.inj H
                                        go_wp2_with (first | ((with_reducible refine gate_callee (f := 51) rfl ?_); refine goesL_ (some 231) rfl rfl Try.func51 (by kernel_rfl) rfl #[.slice Ao9 t267.length co9] rfl (by (try simp only [List.map_toArray, List.map_cons, List.map_nil]); first | done | rfl | (simp only [List.length_drop, List.length_take]; rfl)) ?_; (with_reducible refine (impl_MostBiased.calls kj46 _ _ t267 t311 t312 t313 _ ?side1 ?side2 A74.out).mono ?_); (case side1 => repeat (first | exact (Kd.R_reads' HO_3.out).2.2 | (with_reducible refine Kd.C_alloc ?_ _) | (with_reducible refine Kd.C_drewN ?_ _) | (with_reducible refine Kd.C_drew ?_))); (case side2 => exact (Kd.R_reads' HO_3.out).2.1); rintro e w80 ⟨rfl, hb⟩; refine ⟨_, rfl, ?_⟩; have n0_ := Aside0.mk (Kd.R_below (by (with_reducible repeat (first | apply Kd.R_alloc | apply Kd.R_drewN | apply Kd.R_drew)); exact HO_3.out) hb); have n1_ := Aside0.mk (below_step (by repeat (first | (with_reducible first | exact HB.out | apply below_alloc | apply pw_below_drewN | apply below_drew1) | exact HB.out)) hb); clear HO_3; clear HB; have HO_3 := n0_; have HB := n1_; clear n0_ n1_; (try clear hb); (try clear hb2); (try clear hk); (try clear hi)) | ((with_reducible refine gate_callee (f := 52) rfl ?_); refine goesL_ (some 237) rfl rfl Try.func52 (by kernel_rfl) rfl #[.slice Ao9 t267.length co9] rfl (by (try simp only [List.map_toArray, List.map_cons, List.map_nil]); first | done | rfl | (simp only [List.length_drop, List.length_take]; rfl)) ?_; (with_reducible refine (spec_MostBiased.calls kj46 _ _ t267 t314 t315 t316 _ ?side1 ?side2 A75.out).mono ?_); (case side1 => repeat (first | exact (Kd.R_reads' HO_3.out).2.2 | (with_reducible refine Kd.C_alloc ?_ _) | (with_reducible refine Kd.C_drewN ?_ _) | (with_reducible refine Kd.C_drew ?_))); (case side2 => exact (Kd.R_reads' HO_3.out).2.1); rintro e w' ⟨rfl, ⟨nd, rfl⟩⟩; refine ⟨_, rfl, ?_⟩))
                                        go_ret
                                        exact ⟨by first | rfl | (simp [errW_none, errW_some] <;> rfl) | (simp [*, errW_none, errW_some] <;> rfl), by repeat (first | (with_reducible first | exact HB.out | apply below_alloc | apply pw_below_drewN | apply below_drew1) | exact HB.out)⟩
                            · replace c40 := Bool.eq_false_iff.mpr c40
                              subst c40
                              have H1 : ((impl_MostBiased.f kj32 t267).bind fun bt317 => ((spec_MostBiased.f kj32 t267).bind fun bt320 => (if bt317.1 = bt320.1 then (if bt317.2.1 = bt320.2.1 then (some (bt317.2.2 == bt320.2.2)) else (some false)) else (some false)))) = some r := by rw [if_neg (show ¬ (false = true) by decide)] at H; exact H
                              clear H
                              have H := H1
                              clear H1
                              replace H := Option.bind_eq_some_iff.mp H
                              obtain ⟨⟨t317, t318, t319⟩, A810, H⟩ := H
                              replace H : ((spec_MostBiased.f kj32 t267).bind fun bt320 => (if t317 = bt320.1 then (if t318 = bt320.2.1 then (some (t319 == bt320.2.2)) else (some false)) else (some false))) = some r := H
                              have A81 := Aside0.mk A810
                              clear A810
                              replace H := Option.bind_eq_some_iff.mp H
                              obtain ⟨⟨t320, t321, t322⟩, A820, H⟩ := H
                              replace H : (if t317 = t320 then (if t318 = t321 then (some (t319 == t322)) else (some false)) else (some false)) = some r := H
                              have A82 := Aside0.mk A820
                              clear A820
                              by_cases c83 : t317 = t320
                              · rw [if_pos c83] at H
                                have c83b0 : (t317 == t320) = true := beq_iff_eq.mpr c83
                                have c83b1 : (t317 != t320) = false := bne_eq_false_iff_eq.mpr c83
                                clear c83
                                by_cases c84 : t318 = t321
                                · rw [if_pos c84] at H
                                  have c84b0 : (t318 == t321) = true := beq_iff_eq.mpr c84
                                  have c84b1 : (t318 != t321) = false := bne_eq_false_iff_eq.mpr c84
                                  clear c84
                                  as_aux_lemma =>
                                    obtain rfl := Option.some.inj H
                                    go_wp2_with (first | ((with_reducible refine gate_callee (f := 51) rfl ?_); refine goesL_ (some 231) rfl rfl Try.func51 (by kernel_rfl) rfl #[.slice Ao9 t267.length co9] rfl (by (try simp only [List.map_toArray, List.map_cons, List.map_nil]); first | done | rfl | (simp only [List.length_drop, List.length_take]; rfl)) ?_; (with_reducible refine (impl_MostBiased.calls kj32 _ _ t267 t317 t318 t319 _ ?side1 ?side2 A81.out).mono ?_); (case side1 => repeat (first | exact (Kd.R_reads' HO_3.out).2.2 | (with_reducible refine Kd.C_alloc ?_ _) | (with_reducible refine Kd.C_drewN ?_ _) | (with_reducible refine Kd.C_drew ?_))); (case side2 => exact (Kd.R_reads' HO_3.out).2.1); rintro e w85 ⟨rfl, hb⟩; refine ⟨_, rfl, ?_⟩; have n0_ := Aside0.mk (Kd.R_below (by (with_reducible repeat (first | apply Kd.R_alloc | apply Kd.R_drewN | apply Kd.R_drew)); exact HO_3.out) hb); have n1_ := Aside0.mk (below_step (by repeat (first | (with_reducible first | exact HB.out | apply below_alloc | apply pw_below_drewN | apply below_drew1) | exact HB.out)) hb); clear HO_3; clear HB; have HO_3 := n0_; have HB := n1_; clear n0_ n1_; (try clear hb); (try clear hb2); (try clear hk); (try clear hi)) | ((with_reducible refine gate_callee (f := 52) rfl ?_); refine goesL_ (some 237) rfl rfl Try.func52 (by kernel_rfl) rfl #[.slice Ao9 t267.length co9] rfl (by (try simp only [List.map_toArray, List.map_cons, List.map_nil]); first | done | rfl | (simp only [List.length_drop, List.length_take]; rfl)) ?_; (with_reducible refine (spec_MostBiased.calls kj32 _ _ t267 t320 t321 t322 _ ?side1 ?side2 A82.out).mono ?_); (case side1 => repeat (first | exact (Kd.R_reads' HO_3.out).2.2 | (with_reducible refine Kd.C_alloc ?_ _) | (with_reducible refine Kd.C_drewN ?_ _) | (with_reducible refine Kd.C_drew ?_))); (case side2 => exact (Kd.R_reads' HO_3.out).2.1); rintro e w' ⟨rfl, ⟨nd, rfl⟩⟩; refine ⟨_, rfl, ?_⟩))
                                    go_ret
                                    exact ⟨by first | rfl | (simp [errW_none, errW_some] <;> rfl) | (simp [*, errW_none, errW_some] <;> rfl), by repeat (first | (with_reducible first | exact HB.out | apply below_alloc | apply pw_below_drewN | apply below_drew1) | exact HB.out)⟩
                                · rw [if_neg c84] at H
                                  have c84b0 : (t318 == t321) = false := beq_eq_false_iff_ne.mpr c84
                                  have c84b1 : (t318 != t321) = true := bne_iff_ne.mpr c84
                                  as_aux_lemma =>
                                    obtain rfl := Option.some.inj H
                                    go_wp2_with (first | ((with_reducible refine gate_callee (f := 51) rfl ?_); refine goesL_ (some 231) rfl rfl Try.func51 (by kernel_rfl) rfl #[.slice Ao9 t267.length co9] rfl (by (try simp only [List.map_toArray, List.map_cons, List.map_nil]); first | done | rfl | (simp only [List.length_drop, List.length_take]; rfl)) ?_; (with_reducible refine (impl_MostBiased.calls kj32 _ _ t267 t317 t318 t319 _ ?side1 ?side2 A81.out).mono ?_); (case side1 => repeat (first | exact (Kd.R_reads' HO_3.out).2.2 | (with_reducible refine Kd.C_alloc ?_ _) | (with_reducible refine Kd.C_drewN ?_ _) | (with_reducible refine Kd.C_drew ?_))); (case side2 => exact (Kd.R_reads' HO_3.out).2.1); rintro e w86 ⟨rfl, hb⟩; refine ⟨_, rfl, ?_⟩; have n0_ := Aside0.mk (Kd.R_below (by (with_reducible repeat (first | apply Kd.R_alloc | apply Kd.R_drewN | apply Kd.R_drew)); exact HO_3.out) hb); have n1_ := Aside0.mk (below_step (by repeat (first | (with_reducible first | exact HB.out | apply below_alloc | apply pw_below_drewN | apply below_drew1) | exact HB.out)) hb); clear HO_3; clear HB; have HO_3 := n0_; have HB := n1_; clear n0_ n1_; (try clear hb); (try clear hb2); (try clear hk); (try clear hi)) | ((with_reducible refine gate_callee (f := 52) rfl ?_); refine goesL_ (some 237) rfl rfl Try.func52 (by kernel_rfl) rfl #[.slice Ao9 t267.length co9] rfl (by (try simp only [List.map_toArray, List.map_cons, List.map_nil]); first | done | rfl | (simp only [List.length_drop, List.length_take]; rfl)) ?_; (with_reducible refine (spec_MostBiased.calls kj32 _ _ t267 t320 t321 t322 _ ?side1 ?side2 A82.out).mono ?_); (case side1 => repeat (first | exact (Kd.R_reads' HO_3.out).2.2 | (with_reducible refine Kd.C_alloc ?_ _) | (with_reducible refine Kd.C_drewN ?_ _) | (with_reducible refine Kd.C_drew ?_))); (case side2 => exact (Kd.R_reads' HO_3.out).2.1); rintro e w' ⟨rfl, ⟨nd, rfl⟩⟩; refine ⟨_, rfl, ?_⟩))
                                    go_ret
                                    exact ⟨by first | rfl | (simp [errW_none, errW_some] <;> rfl) | (simp [*, errW_none, errW_some] <;> rfl), by repeat (first | (with_reducible first | exact HB.out | apply below_alloc | apply pw_below_drewN | apply below_drew1) | exact HB.out)⟩
                              · rw [if_neg c83] at H
                                have c83b0 : (t317 == t320) = false := beq_eq_false_iff_ne.mpr c83
                                have c83b1 : (t317 != t320) = true := bne_iff_ne.mpr c83
                                as_aux_lemma =>
                                  obtain rfl := Option.some.inj H
                                  go_wp2_with (first | ((with_reducible refine gate_callee (f := 51) rfl ?_); refine goesL_ (some 231) rfl rfl Try.func51 (by kernel_rfl) rfl #[.slice Ao9 t267.length co9] rfl (by (try simp only [List.map_toArray, List.map_cons, List.map_nil]); first | done | rfl | (simp only [List.length_drop, List.length_take]; rfl)) ?_; (with_reducible refine (impl_MostBiased.calls kj32 _ _ t267 t317 t318 t319 _ ?side1 ?side2 A81.out).mono ?_); (case side1 => repeat (first | exact (Kd.R_reads' HO_3.out).2.2 | (with_reducible refine Kd.C_alloc ?_ _) | (with_reducible refine Kd.C_drewN ?_ _) | (with_reducible refine Kd.C_drew ?_))); (case side2 => exact (Kd.R_reads' HO_3.out).2.1); rintro e w87 ⟨rfl, hb⟩; refine ⟨_, rfl, ?_⟩; have n0_ := Aside0.mk (Kd.R_below (by (with_reducible repeat (first | apply Kd.R_alloc | apply Kd.R_drewN | apply Kd.R_drew)); exact HO_3.out) hb); have n1_ := Aside0.mk (below_step (by repeat (first | (with_reducible first | exact HB.out | apply below_alloc | apply pw_below_drewN | apply below_drew1) | exact HB.out)) hb); clear HO_3; clear HB; have HO_3 := n0_; have HB := n1_; clear n0_ n1_; (try clear hb); (try clear hb2); (try clear hk); (try clear hi)) | ((with_reducible refine gate_callee (f := 52) rfl ?_); refine goesL_ (some 237) rfl rfl Try.func52 (by kernel_rfl) rfl #[.slice Ao9 t267.length co9] rfl (by (try simp only [List.map_toArray, List.map_cons, List.map_nil]); first | done | rfl | (simp only [List.length_drop, List.length_take]; rfl)) ?_; (with_reducible refine (spec_MostBiased.calls kj32 _ _ t267 t320 t321 t322 _ ?side1 ?side2 A82.out).mono ?_); (case side1 => repeat (first | exact (Kd.R_reads' HO_3.out).2.2 | (with_reducible refine Kd.C_alloc ?_ _) | (with_reducible refine Kd.C_drewN ?_ _) | (with_reducible refine Kd.C_drew ?_))); (case side2 => exact (Kd.R_reads' HO_3.out).2.1); rintro e w' ⟨rfl, ⟨nd, rfl⟩⟩; refine ⟨_, rfl, ?_⟩))
                                  go_ret
                                  exact ⟨by first | rfl | (simp [errW_none, errW_some] <;> rfl) | (simp [*, errW_none, errW_some] <;> rfl), by repeat (first | (with_reducible first | exact HB.out | apply below_alloc | apply pw_below_drewN | apply below_drew1) | exact HB.out)⟩

/-- THE ONE PURE STATEMENT of laws_FnReliability: yours. -/
def laws_FnReliability.Pure : Prop := ∀ (l0 : List Int), l0.length ≤ maxLen → l0.length * 1 ≤ 140737488351232 → (∀ x ∈ l0, (Lit.int .u8 x).wf = true) → ∃ k, laws_FnReliability.f k l0 = some true
theorem laws_FnReliability.walk (P : laws_FnReliability.Pure) (a0 : Option Addr) (len0 cap0 : Nat) (z0 : List Int) (w : World) (w0 : (a0 = none ∧ len0 = 0 ∧ cap0 = 0 ∧ z0 = []) ∨ ∃ x, a0 = some x ∧ len0 ≤ cap0 ∧ cap0 ≤ maxLen ∧ z0.length = cap0 ∧ (∀ i, i < z0.length → w.cell? (x.add i) = some (.int .u8 (z0.getD i 0))) ∧ ∀ n ∈ z0, (Lit.int .u8 n).wf = true) (y0 : len0 * 1 ≤ 140737488351232) :
    Calls Try.prog 6 #[.slice a0 len0 cap0] w fun e w' => e = .returned (.bool true) ∧ Below w.heap.size w w' := by
  obtain ⟨l0, rfl, hr0, hm0, hw0, hc0⟩ := ReadsInt.ofRowC w0
  obtain ⟨k, h⟩ := P l0 hm0 y0 hw0
  refine (laws_FnReliability.calls k _ _ l0 true w (Kd.C_of_reads (d := (0 : Int)) (h1 := fun _ => rfl) hr0) hc0 h).mono ?_
  rintro e w' ⟨rfl, hd⟩
  exact ⟨rfl, hd⟩

end Go.Proofs.Ytmgckbjdhjbciaa.XFnReliability
