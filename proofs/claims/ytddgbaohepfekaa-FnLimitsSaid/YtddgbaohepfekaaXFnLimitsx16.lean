-- written by wip/tools/xprint.py (a program of this project) out of the translation
import Derived.Test.YtddgbaohepfekaaXFnLimitsx0
import Derived.Test.YtddgbaohepfekaaXFnLimitsx1
import Derived.Test.YtddgbaohepfekaaXFnLimitsx2
import Derived.Test.YtddgbaohepfekaaXFnLimitsx3
import Derived.Test.YtddgbaohepfekaaXFnLimitsx5
import Derived.Test.YtddgbaohepfekaaXFnLimitsx6
import Derived.Test.YtddgbaohepfekaaXFnLimitsx10
import Derived.Test.YtddgbaohepfekaaXFnLimitsx11
import Derived.Test.YtddgbaohepfekaaXFnLimitsx14
import Derived.Test.YtddgbaohepfekaaXFnLimitsx15
namespace Go.Proofs.Ytddgbaohepfekaa.XFnLimits
open Go.RowKit Go.Proofs.YtddgbaohepfekaaW.PrintWords Go.Proofs.YtddgbaohepfekaaW.PrintLast Go.Proofs.YtddgbaohepfekaaW.PrintMore
attribute [local go_sem] max2_int min2_int max_two min_two max_three min_three max_four min_four   -- for this text's walks alone
set_option linter.unusedVariables false
set_option linter.unusedSimpArgs false

attribute [local go_sem high] eqA30 eqA37
/-! ### laws_FnLimits: function 4 -/
mutual
def laws_FnLimits.j0 : Nat → List Int → Int → Bool → Bool → Int → Int → List Int → Int → Int → List Int → Int → Int → Option (Bool)
 | 0, _, _, _, _, _, _, _, _, _, _, _, _ => none
 | k + 1, x0, x5, x8, x68, x548000, x548001, x548002, x549000, x549001, x549002, x554000, x554001 => if x68 = true then (some false) else (if x8 = true then ((impl_CountTable.f k x548000 x548001 x548002 x549000 x549001 x549002 x5).bind fun bt559 => (if bt559.2.2.2.2 = true then ((laws_vHas.f k x548002 (wrap64 (x5 + 1))).bind fun t565 => (laws_FnLimits.j1 k x0 t565 x554000 x554001 bt559.1 bt559.2.1 bt559.2.2.1 bt559.2.2.2.1)) else (laws_FnLimits.j1 k x0 false x554000 x554001 bt559.1 bt559.2.1 bt559.2.2.1 bt559.2.2.2.1))) else (laws_FnLimits.j2 k x0))
def laws_FnLimits.j2 : Nat → List Int → Option (Bool)
 | 0, _ => none
 | k + 1, x0 => (spec_DrawCompareTables.f x0).bind fun bt570 => ((impl_CompareTables.f k bt570.1 bt570.2.1 bt570.2.2.1 bt570.2.2.2.1 bt570.2.2.2.2.1 bt570.2.2.2.2.2.1 bt570.2.2.2.2.2.2.1 bt570.2.2.2.2.2.2.2).bind fun bt580 => ((impl_CompareTables.f k bt570.2.2.2.2.1 bt570.2.2.2.2.2.1 bt570.2.2.2.2.2.2.1 bt570.2.2.2.2.2.2.2 bt570.1 bt570.2.1 bt570.2.2.1 bt570.2.2.2.1).bind fun bt582 => ((spec_CompareTables.f k bt570.1 bt570.2.1 bt570.2.2.1 bt570.2.2.2.1 bt570.2.2.2.2.1 bt570.2.2.2.2.2.1 bt570.2.2.2.2.2.2.1 bt570.2.2.2.2.2.2.2).bind fun bt584 => (if bt580.1 = bt584.1 then (if (bt580.2 != bt584.2) = true then (laws_FnLimits.j3 k x0 true) else (if (bt582.2 != bt580.2) = true then (laws_FnLimits.j3 k x0 true) else (if bt580.2 = true then (laws_FnLimits.j3 k x0 ((Int.tmod (wrap64 (bt580.1 + bt582.1)) 3) != 0)) else (laws_FnLimits.j3 k x0 false)))) else (laws_FnLimits.j3 k x0 true)))))
def laws_FnLimits.j3 : Nat → List Int → Bool → Option (Bool)
 | 0, _, _ => none
 | k + 1, x0, x149 => if x149 = true then (some false) else ((spec_DrawAddTables.f x0).bind fun bt586 => ((impl_AddTables.f k bt586.1 bt586.2.1 bt586.2.2.1 bt586.2.2.2.1 bt586.2.2.2.2.1 bt586.2.2.2.2.2.1 bt586.2.2.2.2.2.2.1 bt586.2.2.2.2.2.2.2).bind fun bt596 => ((impl_AddTables.f k bt586.2.2.2.2.1 bt586.2.2.2.2.2.1 bt586.2.2.2.2.2.2.1 bt586.2.2.2.2.2.2.2 bt586.1 bt586.2.1 bt586.2.2.1 bt586.2.2.2.1).bind fun bt602 => ((spec_AddTables.f bt586.1 bt586.2.1 bt586.2.2.1 bt586.2.2.2.1 bt586.2.2.2.2.1 bt586.2.2.2.2.2.1 bt586.2.2.2.2.2.2.1 bt586.2.2.2.2.2.2.2).bind fun bt608 => (if (bt596.1 == bt608.1 && (bt596.2.1 == bt608.2.1 && (bt596.2.2.1 == bt608.2.2.1 && (bt596.2.2.2.1 == bt608.2.2.2.1)))) = true then (if (bt596.2.2.2.2 == bt608.2.2.2.2) = true then (if (bt602.2.2.2.2 == bt596.2.2.2.2) = true then (some (bt602.1 == bt596.1 && (bt602.2.1 == bt596.2.1 && (bt602.2.2.1 == bt596.2.2.1 && (bt602.2.2.2.1 == bt596.2.2.2.1))))) else (some false)) else (some false)) else (some false))))))
def laws_FnLimits.j1 : Nat → List Int → Bool → Int → Int → Int → Int → Int → Int → Option (Bool)
 | 0, _, _, _, _, _, _, _, _ => none
 | k + 1, x0, x84, x554000, x554001, x565000, x565001, x565002, x565003 => if x84 = true then ((impl_ThreatScore.f k x565000 x565001 x565002 x565003).bind fun bt566 => (if bt566.2.2 = true then (if (wrap64 (x554000 * bt566.2.1)) < (wrap64 (bt566.1 * x554001)) then (some false) else (laws_FnLimits.j2 k x0)) else (laws_FnLimits.j2 k x0))) else (laws_FnLimits.j2 k x0)
end
def laws_FnLimits.f (k : Nat) (l0 : List Int) : Option (Bool) := (laws_vBig.f l0).bind fun t535 => (if t535 = true then (some true) else ((spec_DrawBestLimit.f k l0).bind fun bt536 => ((impl_BestLimit.f k bt536.1 bt536.2.1 bt536.2.2.1 bt536.2.2.2.1 bt536.2.2.2.2.1 bt536.2.2.2.2.2.1 bt536.2.2.2.2.2.2).bind fun bt549 => ((spec_BestLimit.f k bt536.1 bt536.2.1 bt536.2.2.1 bt536.2.2.2.1 bt536.2.2.2.2.1 bt536.2.2.2.2.2.1 bt536.2.2.2.2.2.2).bind fun bt554 => (if bt549.1 = bt554.1 then (if (!(bt549.2.1 == bt554.2.1) || (!(bt549.2.2.1 == bt554.2.2.1))) = true then (laws_FnLimits.j0 k l0 bt536.2.2.2.2.2.2 bt549.2.2.2 true bt536.1 bt536.2.1 bt536.2.2.1 bt536.2.2.2.1 bt536.2.2.2.2.1 bt536.2.2.2.2.2.1 bt549.2.1 bt549.2.2.1) else (laws_FnLimits.j0 k l0 bt536.2.2.2.2.2.2 bt549.2.2.2 (bt549.2.2.2 != bt554.2.2.2) bt536.1 bt536.2.1 bt536.2.2.1 bt536.2.2.2.1 bt536.2.2.2.2.1 bt536.2.2.2.2.2.1 bt549.2.1 bt549.2.2.1)) else (laws_FnLimits.j0 k l0 bt536.2.2.2.2.2.2 bt549.2.2.2 true bt536.1 bt536.2.1 bt536.2.2.1 bt536.2.2.2.1 bt536.2.2.2.2.1 bt536.2.2.2.2.2.1 bt549.2.1 bt549.2.2.1))))))
theorem laws_FnLimits.mono_l : ∀ k, (∀ y0 y1 y2 y3 y4 y5 y6 y7 y8 y9 y10 y11, LeO (laws_FnLimits.j0 k y0 y1 y2 y3 y4 y5 y6 y7 y8 y9 y10 y11) (laws_FnLimits.j0 (k + 1) y0 y1 y2 y3 y4 y5 y6 y7 y8 y9 y10 y11)) ∧ (∀ y0, LeO (laws_FnLimits.j2 k y0) (laws_FnLimits.j2 (k + 1) y0)) ∧ (∀ y0 y1, LeO (laws_FnLimits.j3 k y0 y1) (laws_FnLimits.j3 (k + 1) y0 y1)) ∧ (∀ y0 y1 y2 y3 y4 y5 y6 y7, LeO (laws_FnLimits.j1 k y0 y1 y2 y3 y4 y5 y6 y7) (laws_FnLimits.j1 (k + 1) y0 y1 y2 y3 y4 y5 y6 y7))
 | 0 => ⟨fun _ _ _ _ _ _ _ _ _ _ _ _ r h => by simp [laws_FnLimits.j0] at h, fun _ r h => by simp [laws_FnLimits.j2] at h, fun _ _ r h => by simp [laws_FnLimits.j3] at h, fun _ _ _ _ _ _ _ _ r h => by simp [laws_FnLimits.j1] at h⟩
 | k + 1 => by
  obtain ⟨ih0, ih1, ih2, ih3⟩ := laws_FnLimits.mono_l k
  refine ⟨?_, ?_, ?_, ?_⟩
  ·intro y0 y1 y2 y3 y4 y5 y6 y7 y8 y9 y10 y11
   unfold laws_FnLimits.j0
   repeat' first
   | (with_reducible exact ih0 _ _ _ _ _ _ _ _ _ _ _ _)
   | (with_reducible exact ih1 _)
   | (with_reducible exact ih2 _ _)
   | (with_reducible exact ih3 _ _ _ _ _ _ _ _)
   | (with_reducible exact impl_AddTables.mono _ _ _ _ _ _ _ _ _)
   | (with_reducible exact impl_BestLimit.mono _ _ _ _ _ _ _ _)
   | (with_reducible exact impl_CompareTables.mono _ _ _ _ _ _ _ _ _)
   | (with_reducible exact impl_CountTable.mono _ _ _ _ _ _ _ _)
   | (with_reducible exact impl_ThreatScore.mono _ _ _ _ _)
   | (with_reducible exact laws_vHas.mono _ _ _)
   | (with_reducible exact spec_BestLimit.mono _ _ _ _ _ _ _ _)
   | (with_reducible exact spec_CompareTables.mono _ _ _ _ _ _ _ _ _)
   | (with_reducible exact spec_DrawBestLimit.mono _ _)
   | (with_reducible exact LeO.refl _)
   | (with_reducible exact LeO.none _)
   | (with_reducible refine LeO.ite ?_ ?_)
   | (with_reducible refine LeO.bind ?_ (fun _ => ?_))
   | exact ih0 _ _ _ _ _ _ _ _ _ _ _ _
   | exact ih1 _
   | exact ih2 _ _
   | exact ih3 _ _ _ _ _ _ _ _
   | exact impl_AddTables.mono _ _ _ _ _ _ _ _ _
   | exact impl_BestLimit.mono _ _ _ _ _ _ _ _
   | exact impl_CompareTables.mono _ _ _ _ _ _ _ _ _
   | exact impl_CountTable.mono _ _ _ _ _ _ _ _
   | exact impl_ThreatScore.mono _ _ _ _ _
   | exact laws_vHas.mono _ _ _
   | exact spec_BestLimit.mono _ _ _ _ _ _ _ _
   | exact spec_CompareTables.mono _ _ _ _ _ _ _ _ _
   | exact spec_DrawBestLimit.mono _ _
   | exact LeO.none _
   | refine LeO.ite ?_ ?_
   | refine LeO.bind ?_ (fun _ => ?_)
  ·intro y0
   unfold laws_FnLimits.j2
   repeat' first
   | (with_reducible exact ih0 _ _ _ _ _ _ _ _ _ _ _ _)
   | (with_reducible exact ih1 _)
   | (with_reducible exact ih2 _ _)
   | (with_reducible exact ih3 _ _ _ _ _ _ _ _)
   | (with_reducible exact impl_AddTables.mono _ _ _ _ _ _ _ _ _)
   | (with_reducible exact impl_BestLimit.mono _ _ _ _ _ _ _ _)
   | (with_reducible exact impl_CompareTables.mono _ _ _ _ _ _ _ _ _)
   | (with_reducible exact impl_CountTable.mono _ _ _ _ _ _ _ _)
   | (with_reducible exact impl_ThreatScore.mono _ _ _ _ _)
   | (with_reducible exact laws_vHas.mono _ _ _)
   | (with_reducible exact spec_BestLimit.mono _ _ _ _ _ _ _ _)
   | (with_reducible exact spec_CompareTables.mono _ _ _ _ _ _ _ _ _)
   | (with_reducible exact spec_DrawBestLimit.mono _ _)
   | (with_reducible exact LeO.refl _)
   | (with_reducible exact LeO.none _)
   | (with_reducible refine LeO.ite ?_ ?_)
   | (with_reducible refine LeO.bind ?_ (fun _ => ?_))
   | exact ih0 _ _ _ _ _ _ _ _ _ _ _ _
   | exact ih1 _
   | exact ih2 _ _
   | exact ih3 _ _ _ _ _ _ _ _
   | exact impl_AddTables.mono _ _ _ _ _ _ _ _ _
   | exact impl_BestLimit.mono _ _ _ _ _ _ _ _
   | exact impl_CompareTables.mono _ _ _ _ _ _ _ _ _
   | exact impl_CountTable.mono _ _ _ _ _ _ _ _
   | exact impl_ThreatScore.mono _ _ _ _ _
   | exact laws_vHas.mono _ _ _
   | exact spec_BestLimit.mono _ _ _ _ _ _ _ _
   | exact spec_CompareTables.mono _ _ _ _ _ _ _ _ _
   | exact spec_DrawBestLimit.mono _ _
   | exact LeO.none _
   | refine LeO.ite ?_ ?_
   | refine LeO.bind ?_ (fun _ => ?_)
  ·intro y0 y1
   unfold laws_FnLimits.j3
   repeat' first
   | (with_reducible exact ih0 _ _ _ _ _ _ _ _ _ _ _ _)
   | (with_reducible exact ih1 _)
   | (with_reducible exact ih2 _ _)
   | (with_reducible exact ih3 _ _ _ _ _ _ _ _)
   | (with_reducible exact impl_AddTables.mono _ _ _ _ _ _ _ _ _)
   | (with_reducible exact impl_BestLimit.mono _ _ _ _ _ _ _ _)
   | (with_reducible exact impl_CompareTables.mono _ _ _ _ _ _ _ _ _)
   | (with_reducible exact impl_CountTable.mono _ _ _ _ _ _ _ _)
   | (with_reducible exact impl_ThreatScore.mono _ _ _ _ _)
   | (with_reducible exact laws_vHas.mono _ _ _)
   | (with_reducible exact spec_BestLimit.mono _ _ _ _ _ _ _ _)
   | (with_reducible exact spec_CompareTables.mono _ _ _ _ _ _ _ _ _)
   | (with_reducible exact spec_DrawBestLimit.mono _ _)
   | (with_reducible exact LeO.refl _)
   | (with_reducible exact LeO.none _)
   | (with_reducible refine LeO.ite ?_ ?_)
   | (with_reducible refine LeO.bind ?_ (fun _ => ?_))
   | exact ih0 _ _ _ _ _ _ _ _ _ _ _ _
   | exact ih1 _
   | exact ih2 _ _
   | exact ih3 _ _ _ _ _ _ _ _
   | exact impl_AddTables.mono _ _ _ _ _ _ _ _ _
   | exact impl_BestLimit.mono _ _ _ _ _ _ _ _
   | exact impl_CompareTables.mono _ _ _ _ _ _ _ _ _
   | exact impl_CountTable.mono _ _ _ _ _ _ _ _
   | exact impl_ThreatScore.mono _ _ _ _ _
   | exact laws_vHas.mono _ _ _
   | exact spec_BestLimit.mono _ _ _ _ _ _ _ _
   | exact spec_CompareTables.mono _ _ _ _ _ _ _ _ _
   | exact spec_DrawBestLimit.mono _ _
   | exact LeO.none _
   | refine LeO.ite ?_ ?_
   | refine LeO.bind ?_ (fun _ => ?_)
  ·intro y0 y1 y2 y3 y4 y5 y6 y7
   unfold laws_FnLimits.j1
   repeat' first
   | (with_reducible exact ih0 _ _ _ _ _ _ _ _ _ _ _ _)
   | (with_reducible exact ih1 _)
   | (with_reducible exact ih2 _ _)
   | (with_reducible exact ih3 _ _ _ _ _ _ _ _)
   | (with_reducible exact impl_AddTables.mono _ _ _ _ _ _ _ _ _)
   | (with_reducible exact impl_BestLimit.mono _ _ _ _ _ _ _ _)
   | (with_reducible exact impl_CompareTables.mono _ _ _ _ _ _ _ _ _)
   | (with_reducible exact impl_CountTable.mono _ _ _ _ _ _ _ _)
   | (with_reducible exact impl_ThreatScore.mono _ _ _ _ _)
   | (with_reducible exact laws_vHas.mono _ _ _)
   | (with_reducible exact spec_BestLimit.mono _ _ _ _ _ _ _ _)
   | (with_reducible exact spec_CompareTables.mono _ _ _ _ _ _ _ _ _)
   | (with_reducible exact spec_DrawBestLimit.mono _ _)
   | (with_reducible exact LeO.refl _)
   | (with_reducible exact LeO.none _)
   | (with_reducible refine LeO.ite ?_ ?_)
   | (with_reducible refine LeO.bind ?_ (fun _ => ?_))
   | exact ih0 _ _ _ _ _ _ _ _ _ _ _ _
   | exact ih1 _
   | exact ih2 _ _
   | exact ih3 _ _ _ _ _ _ _ _
   | exact impl_AddTables.mono _ _ _ _ _ _ _ _ _
   | exact impl_BestLimit.mono _ _ _ _ _ _ _ _
   | exact impl_CompareTables.mono _ _ _ _ _ _ _ _ _
   | exact impl_CountTable.mono _ _ _ _ _ _ _ _
   | exact impl_ThreatScore.mono _ _ _ _ _
   | exact laws_vHas.mono _ _ _
   | exact spec_BestLimit.mono _ _ _ _ _ _ _ _
   | exact spec_CompareTables.mono _ _ _ _ _ _ _ _ _
   | exact spec_DrawBestLimit.mono _ _
   | exact LeO.none _
   | refine LeO.ite ?_ ?_
   | refine LeO.bind ?_ (fun _ => ?_)
theorem laws_FnLimits.mono : ∀ a0 k, LeO (laws_FnLimits.f k a0) (laws_FnLimits.f (k + 1) a0) := by
 intro a0 k
 obtain ⟨ih0, ih1, ih2, ih3⟩ := laws_FnLimits.mono_l k
 unfold laws_FnLimits.f
 repeat' first
  | (with_reducible exact ih0 _ _ _ _ _ _ _ _ _ _ _ _)
  | (with_reducible exact ih1 _)
  | (with_reducible exact ih2 _ _)
  | (with_reducible exact ih3 _ _ _ _ _ _ _ _)
  | (with_reducible exact impl_AddTables.mono _ _ _ _ _ _ _ _ _)
  | (with_reducible exact impl_BestLimit.mono _ _ _ _ _ _ _ _)
  | (with_reducible exact impl_CompareTables.mono _ _ _ _ _ _ _ _ _)
  | (with_reducible exact impl_CountTable.mono _ _ _ _ _ _ _ _)
  | (with_reducible exact impl_ThreatScore.mono _ _ _ _ _)
  | (with_reducible exact laws_vHas.mono _ _ _)
  | (with_reducible exact spec_BestLimit.mono _ _ _ _ _ _ _ _)
  | (with_reducible exact spec_CompareTables.mono _ _ _ _ _ _ _ _ _)
  | (with_reducible exact spec_DrawBestLimit.mono _ _)
  | (with_reducible exact LeO.refl _)
  | (with_reducible exact LeO.none _)
  | (with_reducible refine LeO.ite ?_ ?_)
  | (with_reducible refine LeO.bind ?_ (fun _ => ?_))
  | exact ih0 _ _ _ _ _ _ _ _ _ _ _ _
  | exact ih1 _
  | exact ih2 _ _
  | exact ih3 _ _ _ _ _ _ _ _
  | exact impl_AddTables.mono _ _ _ _ _ _ _ _ _
  | exact impl_BestLimit.mono _ _ _ _ _ _ _ _
  | exact impl_CompareTables.mono _ _ _ _ _ _ _ _ _
  | exact impl_CountTable.mono _ _ _ _ _ _ _ _
  | exact impl_ThreatScore.mono _ _ _ _ _
  | exact laws_vHas.mono _ _ _
  | exact spec_BestLimit.mono _ _ _ _ _ _ _ _
  | exact spec_CompareTables.mono _ _ _ _ _ _ _ _ _
  | exact spec_DrawBestLimit.mono _ _
  | exact LeO.none _
  | refine LeO.ite ?_ ?_
  | refine LeO.bind ?_ (fun _ => ?_)
set_option maxHeartbeats 24000000 in
set_option maxRecDepth 100000 in
theorem laws_FnLimits.calls (k : Nat) (A0 : Option Addr) (c0 : Nat) (l0 : List Int) (r : Bool) (w : World) (hr0 : Kd.C (Kd.int .u8) w A0 l0.length l0) (hc0 : l0.length ≤ c0) (h : laws_FnLimits.f k l0 = some r) (hr_ : r = true) :
 Calls Try.prog 4 #[.slice A0 l0.length c0] w fun e w' => e = .returned (.bool r) ∧ Below w.heap.size w w' := by
 have hu26 := Try.underlying26
 have hu37 := Try.underlying37
 have hu30 := Try.underlying30
 have HR0 := Aside0.mk hr0
 have HC0 := Aside0.mk hc0
 clear hr0 hc0
 have HB := Aside0.mk (Below.refl w.heap.size w)
 have H : ((laws_vBig.f l0).bind fun t535 => (if t535 = true then (some true) else ((spec_DrawBestLimit.f k l0).bind fun bt536 => ((impl_BestLimit.f k bt536.1 bt536.2.1 bt536.2.2.1 bt536.2.2.2.1 bt536.2.2.2.2.1 bt536.2.2.2.2.2.1 bt536.2.2.2.2.2.2).bind fun bt549 => ((spec_BestLimit.f k bt536.1 bt536.2.1 bt536.2.2.1 bt536.2.2.2.1 bt536.2.2.2.2.1 bt536.2.2.2.2.2.1 bt536.2.2.2.2.2.2).bind fun bt554 => (if bt549.1 = bt554.1 then (if (!(bt549.2.1 == bt554.2.1) || (!(bt549.2.2.1 == bt554.2.2.1))) = true then (laws_FnLimits.j0 k l0 bt536.2.2.2.2.2.2 bt549.2.2.2 true bt536.1 bt536.2.1 bt536.2.2.1 bt536.2.2.2.1 bt536.2.2.2.2.1 bt536.2.2.2.2.2.1 bt549.2.1 bt549.2.2.1) else (laws_FnLimits.j0 k l0 bt536.2.2.2.2.2.2 bt549.2.2.2 (bt549.2.2.2 != bt554.2.2.2) bt536.1 bt536.2.1 bt536.2.2.1 bt536.2.2.2.1 bt536.2.2.2.2.1 bt536.2.2.2.2.2.1 bt549.2.1 bt549.2.2.1)) else (laws_FnLimits.j0 k l0 bt536.2.2.2.2.2.2 bt549.2.2.2 true bt536.1 bt536.2.1 bt536.2.2.1 bt536.2.2.2.1 bt536.2.2.2.2.1 bt536.2.2.2.2.2.1 bt549.2.1 bt549.2.2.1))))))) = some r := h
 clear h
 replace H := Option.bind_eq_some_iff.mp H
 obtain ⟨t535, A20, H⟩ := H
 replace H : (if t535 = true then (some true) else ((spec_DrawBestLimit.f k l0).bind fun bt536 => ((impl_BestLimit.f k bt536.1 bt536.2.1 bt536.2.2.1 bt536.2.2.2.1 bt536.2.2.2.2.1 bt536.2.2.2.2.2.1 bt536.2.2.2.2.2.2).bind fun bt549 => ((spec_BestLimit.f k bt536.1 bt536.2.1 bt536.2.2.1 bt536.2.2.2.1 bt536.2.2.2.2.1 bt536.2.2.2.2.2.1 bt536.2.2.2.2.2.2).bind fun bt554 => (if bt549.1 = bt554.1 then (if (!(bt549.2.1 == bt554.2.1) || (!(bt549.2.2.1 == bt554.2.2.1))) = true then (laws_FnLimits.j0 k l0 bt536.2.2.2.2.2.2 bt549.2.2.2 true bt536.1 bt536.2.1 bt536.2.2.1 bt536.2.2.2.1 bt536.2.2.2.2.1 bt536.2.2.2.2.2.1 bt549.2.1 bt549.2.2.1) else (laws_FnLimits.j0 k l0 bt536.2.2.2.2.2.2 bt549.2.2.2 (bt549.2.2.2 != bt554.2.2.2) bt536.1 bt536.2.1 bt536.2.2.1 bt536.2.2.2.1 bt536.2.2.2.2.1 bt536.2.2.2.2.2.1 bt549.2.1 bt549.2.2.1)) else (laws_FnLimits.j0 k l0 bt536.2.2.2.2.2.2 bt549.2.2.2 true bt536.1 bt536.2.1 bt536.2.2.1 bt536.2.2.2.1 bt536.2.2.2.2.1 bt536.2.2.2.2.2.1 bt549.2.1 bt549.2.2.1)))))) = some r := H
 have A2 := Aside0.mk A20
 clear A20
 by_cases c3 : t535 = true
 ·subst c3
  rw [if_pos rfl] at H
  as_aux_lemma =>
   obtain rfl := Option.some.inj H
   go_enter Try.func4, Try.ntmps4
   go_wp2_with (first | ((with_reducible refine gate_callee (f := 5) rfl ?_); refine goesL_ (some 33) rfl rfl Try.func5 (by kernel_rfl) rfl #[.slice A0 l0.length c0] rfl zlx ?_; (with_reducible refine (laws_vBig.calls _ _ l0 true _ ?side1 ?side2 A2.out).mono ?_); (case side1 => exact zCx HR0.out); (case side2 => exact HC0.out); rintro e w' ⟨rfl, ⟨nd, rfl⟩⟩; refine ⟨_, rfl, ?_⟩))
   go_ret
   exact ⟨by first | rfl | (simp [errW_none, errW_some] <;> rfl) | (simp [*, errW_none, errW_some] <;> rfl), by exact zBx HB.out⟩
 ·replace c3 := Bool.eq_false_iff.mpr c3
  subst c3
  rw [if_neg (show ¬ (false = true) by decide)] at H
  replace H := Option.bind_eq_some_iff.mp H
  obtain ⟨⟨t536, t537, t538, t541, t542, t543, t546⟩, A40, H⟩ := H
  replace H : ((impl_BestLimit.f k t536 t537 t538 t541 t542 t543 t546).bind fun bt549 => ((spec_BestLimit.f k t536 t537 t538 t541 t542 t543 t546).bind fun bt554 => (if bt549.1 = bt554.1 then (if (!(bt549.2.1 == bt554.2.1) || (!(bt549.2.2.1 == bt554.2.2.1))) = true then (laws_FnLimits.j0 k l0 t546 bt549.2.2.2 true t536 t537 t538 t541 t542 t543 bt549.2.1 bt549.2.2.1) else (laws_FnLimits.j0 k l0 t546 bt549.2.2.2 (bt549.2.2.2 != bt554.2.2.2) t536 t537 t538 t541 t542 t543 bt549.2.1 bt549.2.2.1)) else (laws_FnLimits.j0 k l0 t546 bt549.2.2.2 true t536 t537 t538 t541 t542 t543 bt549.2.1 bt549.2.2.1)))) = some r := H
  have A4 := Aside0.mk A40
  clear A40
  replace H := Option.bind_eq_some_iff.mp H
  obtain ⟨⟨t549, t550, t551, t552⟩, A50, H⟩ := H
  replace H : ((spec_BestLimit.f k t536 t537 t538 t541 t542 t543 t546).bind fun bt554 => (if t549 = bt554.1 then (if (!(t550 == bt554.2.1) || (!(t551 == bt554.2.2.1))) = true then (laws_FnLimits.j0 k l0 t546 t552 true t536 t537 t538 t541 t542 t543 t550 t551) else (laws_FnLimits.j0 k l0 t546 t552 (t552 != bt554.2.2.2) t536 t537 t538 t541 t542 t543 t550 t551)) else (laws_FnLimits.j0 k l0 t546 t552 true t536 t537 t538 t541 t542 t543 t550 t551))) = some r := H
  have A5 := Aside0.mk A50
  clear A50
  replace H := Option.bind_eq_some_iff.mp H
  obtain ⟨⟨t554, t555, t556, t557⟩, A60, H⟩ := H
  replace H : (if t549 = t554 then (if (!(t550 == t555) || (!(t551 == t556))) = true then (laws_FnLimits.j0 k l0 t546 t552 true t536 t537 t538 t541 t542 t543 t550 t551) else (laws_FnLimits.j0 k l0 t546 t552 (t552 != t557) t536 t537 t538 t541 t542 t543 t550 t551)) else (laws_FnLimits.j0 k l0 t546 t552 true t536 t537 t538 t541 t542 t543 t550 t551)) = some r := H
  have A6 := Aside0.mk A60
  clear A60
  have HC7 := Aside0.mk H
  clear H
  go_enter Try.func4, Try.ntmps4
  go_upto_region 6 with (first | ((with_reducible refine gate_callee (f := 5) rfl ?_); refine goesL_ (some 33) rfl rfl Try.func5 (by kernel_rfl) rfl #[.slice A0 l0.length c0] rfl zlx ?_; (with_reducible refine (laws_vBig.calls _ _ l0 false _ ?side1 ?side2 A2.out).mono ?_); (case side1 => exact zCx HR0.out); (case side2 => exact HC0.out); rintro e w' ⟨rfl, ⟨nd, rfl⟩⟩; refine ⟨_, rfl, ?_⟩) | ((with_reducible refine gate_callee (f := 21) rfl ?_); refine goesL_ (some 36) rfl rfl Try.func21 (by kernel_rfl) rfl #[.slice A0 l0.length c0] rfl zlx ?_; (with_reducible refine (spec_DrawBestLimit.calls k _ _ l0 t536 t537 t538 t541 t542 t543 t546 _ ?side1 ?side2 A4.out).mono ?_); (case side1 => exact zCx HR0.out); (case side2 => exact HC0.out); rintro e w8 ⟨v539, v544, rfl, ho0, ho1, hb⟩; refine ⟨_, rfl, ?_⟩; have HO540 := Aside0.mk (Kd.Q_lower ho0 (below_size (zBx HB.out))); have HO545 := Aside0.mk (Kd.R_lower ho1 (below_size (zBx HB.out))); replace HB := Aside0.mk (below_step (zBx HB.out) hb); (try clear hb); (try clear ho0); (try clear ho1)) | ((with_reducible refine gate_dst (N := 3) rfl ?_); refine box_event ?hg (N := 3) ?hd (cs := #[.int .i64 0, .int .i64 0, .slice none 0 0]) (t := 26) ?hr ?_; (case hd => rfl); (case hg => rfl); (case hr => exact zsx); intro gb547 hg w9 hbox hb; replace HO540 := Aside0.mk (Kd.Q_below (by refine zDQ ?_; exact HO540.out) hb); replace HO545 := Aside0.mk (Kd.R_below (zRx HO545.out) hb); have BK547 := Aside0.mk (hbox); have GW547 := zns hg HB.out; have GE547 := zns hg HB.out; replace HB := Aside0.mk (below_step (zBx HB.out) hb); clear hb hbox hg) | ((with_reducible refine gate_dst (N := 4) rfl ?_); refine box_event ?hg (N := 4) ?hd (cs := #[.int .i64 0, .int .i64 0, .slice none 0 0]) (t := 26) ?hr ?_; (case hd => rfl); (case hg => rfl); (case hr => exact zsx); intro gb548 hg w10 hbox hb; replace HO540 := Aside0.mk (Kd.Q_below (by refine zDQ ?_; exact HO540.out) hb); replace HO545 := Aside0.mk (Kd.R_below (zRx HO545.out) hb); have BK548 := Aside0.mk (hbox); have GW548 := zns hg HB.out; have GE548 := zns hg HB.out; replace HB := Aside0.mk (below_step (zBy HB.out GE547.out) hb); have NB547_548 := znl hg BK547.out; have NB548_547 := zng hg BK547.out; replace BK547 := zbl BK547.out hb; clear hb hbox hg; have hnb11 := NB547_548.out; have hnc11 := NB548_547.out; have hcz12_0 : w10.cell? ⟨gb547, 0, none⟩ = some (.int .i64 0) := (blk_cell BK547.out 0).trans rfl; have hcz12_1 : w10.cell? ⟨gb547, 1, none⟩ = some (.int .i64 0) := (blk_cell BK547.out 1).trans rfl; have hcz12_2 : w10.cell? ⟨gb547, 2, none⟩ = some (.slice none 0 0) := (blk_cell BK547.out 2).trans rfl; have hfz12_0 := blk_frozen BK547.out 0; have hfz12_1 := blk_frozen BK547.out 1; have hfz12_2 := blk_frozen BK547.out 2; obtain ⟨Ao13, co13, eo13, _⟩ := Kd.Q_slice HO540.out; subst eo13) | ((with_reducible refine gate_store (t := 26) (p := 3) rfl ?_); refine store_event (t := 26) (p := 3) (v := ?vo_w14) (w1 := (((w10.setCell ⟨gb547, 0, none⟩ (.int .i64 t536)).setCell ⟨gb547, 1, none⟩ (.int .i64 t537)).setCell ⟨gb547, 2, none⟩ (.slice Ao13 t538.length co13))) ?hg ?ho ?hn ?hr ?_; (case ho => rfl); (case hg => rfl); (case hn => rfl); (case hr => exact zsx); intro w14 hw; replace HO540 : Aside0 (Kd.Q (Kd.int .i64) 3 w14 w.heap.size (fun k_ => some k_ ≠ (v544 : Value).ownBlock) (.slice Ao13 t538.length co13) t538) := ⟨(by rw [hw]; exact (by refine zDQ ?_; exact Kd.Q_mono (Kd.Q_far (p := ⟨gb547, 2, none⟩) (Kd.Q_far (p := ⟨gb547, 1, none⟩) (Kd.Q_far (p := ⟨gb547, 0, none⟩) (Kd.Q_types HO540.out BK547.out (by decide)) (fun _ hk => hk.2) (.int .i64 t536)) (fun _ hk => hk.2) (.int .i64 t537)) (fun _ hk => hk.2) (.slice Ao13 t538.length co13)) (fun _ hk => hk.1)))⟩; replace HO545 : Aside0 (Kd.R (Kd.int .i64) 3 w14 w.heap.size (fun k_ => some k_ ≠ (.slice Ao13 t538.length co13 : Value).ownBlock) v544 t543) := ⟨(by rw [hw]; exact (by refine zDR ?_; exact Kd.R_mono (Kd.R_far (p := ⟨gb547, 2, none⟩) (Kd.R_far (p := ⟨gb547, 1, none⟩) (Kd.R_far (p := ⟨gb547, 0, none⟩) (Kd.R_types HO545.out BK547.out (by decide)) (fun _ hk => hk.2) (.int .i64 t536)) (fun _ hk => hk.2) (.int .i64 t537)) (fun _ hk => hk.2) (.slice Ao13 t538.length co13)) (fun _ hk => hk.1)))⟩; replace BK547 : Aside0 (w14.heap[gb547]? = some (.cells #[.int .i64 t536, .int .i64 t537, .slice Ao13 t538.length co13] 26 (0, 0))) := ⟨(by rw [hw]; exact (zbp BK547.out))⟩; replace BK548 : Aside0 (w14.heap[gb548]? = some (.cells #[.int .i64 0, .int .i64 0, .slice none 0 0] 26 (0, 0))) := ⟨(by rw [hw]; exact (zbq BK548.out))⟩; replace HB : Aside0 (Below w.heap.size w w14) := ⟨(by rw [hw]; exact (zBz HB.out GE547.out GE548.out))⟩; clear hw; have hcz15_0 : w14.cell? ⟨gb548, 0, none⟩ = some (.int .i64 0) := (blk_cell BK548.out 0).trans rfl; have hcz15_1 : w14.cell? ⟨gb548, 1, none⟩ = some (.int .i64 0) := (blk_cell BK548.out 1).trans rfl; have hcz15_2 : w14.cell? ⟨gb548, 2, none⟩ = some (.slice none 0 0) := (blk_cell BK548.out 2).trans rfl; have hfz15_0 := blk_frozen BK548.out 0; have hfz15_1 := blk_frozen BK548.out 1; have hfz15_2 := blk_frozen BK548.out 2; obtain ⟨Ao16, co16, eo16⟩ := Kd.R_slice HO545.out; subst eo16) | ((with_reducible refine gate_store (t := 26) (p := 4) rfl ?_); refine store_event (t := 26) (p := 4) (v := ?vo_w17) (w1 := (((w14.setCell ⟨gb548, 0, none⟩ (.int .i64 t541)).setCell ⟨gb548, 1, none⟩ (.int .i64 t542)).setCell ⟨gb548, 2, none⟩ (.slice Ao16 t543.length co16))) ?hg ?ho ?hn ?hr ?_; (case ho => rfl); (case hg => rfl); (case hn => rfl); (case hr => exact zsx); intro w17 hw; replace HO540 : Aside0 (Kd.Q (Kd.int .i64) 3 w17 w.heap.size (fun k_ => some k_ ≠ (.slice Ao16 t543.length co16 : Value).ownBlock) (.slice Ao13 t538.length co13) t538) := ⟨(by rw [hw]; exact (by refine zDQ ?_; exact Kd.Q_mono (Kd.Q_far (p := ⟨gb548, 2, none⟩) (Kd.Q_far (p := ⟨gb548, 1, none⟩) (Kd.Q_far (p := ⟨gb548, 0, none⟩) (Kd.Q_types HO540.out BK548.out (by decide)) (fun _ hk => hk.2) (.int .i64 t541)) (fun _ hk => hk.2) (.int .i64 t542)) (fun _ hk => hk.2) (.slice Ao16 t543.length co16)) (fun _ hk => hk.1)))⟩; replace HO545 : Aside0 (Kd.R (Kd.int .i64) 3 w17 w.heap.size (fun k_ => some k_ ≠ (.slice Ao13 t538.length co13 : Value).ownBlock) (.slice Ao16 t543.length co16) t543) := ⟨(by rw [hw]; exact (by refine zDR ?_; exact Kd.R_mono (Kd.R_far (p := ⟨gb548, 2, none⟩) (Kd.R_far (p := ⟨gb548, 1, none⟩) (Kd.R_far (p := ⟨gb548, 0, none⟩) (Kd.R_types HO545.out BK548.out (by decide)) (fun _ hk => hk.2) (.int .i64 t541)) (fun _ hk => hk.2) (.int .i64 t542)) (fun _ hk => hk.2) (.slice Ao16 t543.length co16)) (fun _ hk => hk.1)))⟩; replace BK547 : Aside0 (w17.heap[gb547]? = some (.cells #[.int .i64 t536, .int .i64 t537, .slice Ao13 t538.length co13] 26 (0, 0))) := ⟨(by rw [hw]; exact (zbq BK547.out))⟩; replace BK548 : Aside0 (w17.heap[gb548]? = some (.cells #[.int .i64 t541, .int .i64 t542, .slice Ao16 t543.length co16] 26 (0, 0))) := ⟨(by rw [hw]; exact (zbp BK548.out))⟩; replace HB : Aside0 (Below w.heap.size w w17) := ⟨(by rw [hw]; exact (zBz HB.out GE547.out GE548.out))⟩; clear hw; have hcz18_0 : w17.cell? ⟨gb547, 0, none⟩ = some (.int .i64 t536) := (blk_cell BK547.out 0).trans rfl; have hcz18_1 : w17.cell? ⟨gb547, 1, none⟩ = some (.int .i64 t537) := (blk_cell BK547.out 1).trans rfl; have hcz18_2 : w17.cell? ⟨gb547, 2, none⟩ = some (.slice Ao13 t538.length co13) := (blk_cell BK547.out 2).trans rfl; have hfz18_0 := blk_frozen BK547.out 0; have hfz18_1 := blk_frozen BK547.out 1; have hfz18_2 := blk_frozen BK547.out 2; have hcz19_0 : w17.cell? ⟨gb548, 0, none⟩ = some (.int .i64 t541) := (blk_cell BK548.out 0).trans rfl; have hcz19_1 : w17.cell? ⟨gb548, 1, none⟩ = some (.int .i64 t542) := (blk_cell BK548.out 1).trans rfl; have hcz19_2 : w17.cell? ⟨gb548, 2, none⟩ = some (.slice Ao16 t543.length co16) := (blk_cell BK548.out 2).trans rfl; have hfz19_0 := blk_frozen BK548.out 0; have hfz19_1 := blk_frozen BK548.out 1; have hfz19_2 := blk_frozen BK548.out 2) | ((with_reducible refine gate_callee (f := 22) rfl ?_); refine goesL_ (some 44) rfl rfl Try.func22 (by kernel_rfl) rfl #[.agg #[.int .i64 t536, .int .i64 t537, .slice Ao13 t538.length co13], .agg #[.int .i64 t541, .int .i64 t542, .slice Ao16 t543.length co16], .int .i64 t546] rfl zlx ?_; (with_reducible refine (impl_BestLimit.calls k t536 t537 (fun k_ => some k_ = (.slice Ao13 t538.length co13 : Value).ownBlock) _ _ t538 t541 t542 (fun k_ => some k_ = (.slice Ao16 t543.length co16 : Value).ownBlock) _ _ t543 t546 t549 t550 t551 t552 _ ?side1 ?side2 A5.out).mono ?_); (case side1 => exact Kd.Q_V (Kd.Q_tight rfl (Kd.Q_types (Kd.Q_types (HO540.out) BK547.out (by decide)) BK548.out (by decide)))); (case side2 => exact Kd.R_V (Kd.R_tight rfl (Kd.R_types (Kd.R_types (HO545.out) BK547.out (by decide)) BK548.out (by decide)))); rintro e w20 ⟨rfl, hb⟩; refine ⟨_, rfl, ?_⟩; replace HO540 := Aside0.mk (Kd.Q_below (by refine zDQ ?_; exact HO540.out) hb); replace HO545 := Aside0.mk (Kd.R_below (zRx HO545.out) hb); replace BK547 := zbl BK547.out hb; replace BK548 := zbl BK548.out hb; replace HB := Aside0.mk (below_step (zBz HB.out GE547.out GE548.out) hb); (try clear hb)) | ((with_reducible refine gate_dst (N := 7) rfl ?_); refine box_event ?hg (N := 7) ?hd (cs := #[.int .i64 0, .int .i64 0]) (t := 37) ?hr ?_; (case hd => rfl); (case hg => rfl); (case hr => exact zsx); intro gb553 hg w21 hbox hb; replace HO540 := Aside0.mk (Kd.Q_below (by refine zDQ ?_; exact HO540.out) hb); replace HO545 := Aside0.mk (Kd.R_below (zRx HO545.out) hb); have BK553 := Aside0.mk (hbox); have GW553 := zns hg HB.out; have GE553 := zns hg HB.out; replace HB := Aside0.mk (below_step (zBz HB.out GE547.out GE548.out) hb); have NB547_553 := znl hg BK547.out; have NB553_547 := zng hg BK547.out; replace BK547 := zbl BK547.out hb; have NB548_553 := znl hg BK548.out; have NB553_548 := zng hg BK548.out; replace BK548 := zbl BK548.out hb; clear hb hbox hg; have hnb22 := NB553_547.out; have hnc22 := NB547_553.out; have hnb23 := NB553_548.out; have hnc23 := NB548_553.out; have hcz24_0 : w21.cell? ⟨gb553, 0, none⟩ = some (.int .i64 0) := (blk_cell BK553.out 0).trans rfl; have hcz24_1 : w21.cell? ⟨gb553, 1, none⟩ = some (.int .i64 0) := (blk_cell BK553.out 1).trans rfl; have hfz24_0 := blk_frozen BK553.out 0; have hfz24_1 := blk_frozen BK553.out 1; have hcz25_0 : w21.cell? ⟨gb547, 0, none⟩ = some (.int .i64 t536) := (blk_cell BK547.out 0).trans rfl; have hcz25_1 : w21.cell? ⟨gb547, 1, none⟩ = some (.int .i64 t537) := (blk_cell BK547.out 1).trans rfl; have hcz25_2 : w21.cell? ⟨gb547, 2, none⟩ = some (.slice Ao13 t538.length co13) := (blk_cell BK547.out 2).trans rfl; have hfz25_0 := blk_frozen BK547.out 0; have hfz25_1 := blk_frozen BK547.out 1; have hfz25_2 := blk_frozen BK547.out 2; have hcz26_0 : w21.cell? ⟨gb548, 0, none⟩ = some (.int .i64 t541) := (blk_cell BK548.out 0).trans rfl; have hcz26_1 : w21.cell? ⟨gb548, 1, none⟩ = some (.int .i64 t542) := (blk_cell BK548.out 1).trans rfl; have hcz26_2 : w21.cell? ⟨gb548, 2, none⟩ = some (.slice Ao16 t543.length co16) := (blk_cell BK548.out 2).trans rfl; have hfz26_0 := blk_frozen BK548.out 0; have hfz26_1 := blk_frozen BK548.out 1; have hfz26_2 := blk_frozen BK548.out 2) | ((with_reducible refine gate_callee (f := 23) rfl ?_); refine goesL_ (some 52) rfl rfl Try.func23 (by kernel_rfl) rfl #[.agg #[.int .i64 t536, .int .i64 t537, .slice Ao13 t538.length co13], .agg #[.int .i64 t541, .int .i64 t542, .slice Ao16 t543.length co16], .int .i64 t546] rfl zlx ?_; (with_reducible refine (spec_BestLimit.calls k t536 t537 _ _ t538 t541 t542 _ _ t543 t546 t554 t555 t556 t557 _ ?side1 ?side2 ?side3 ?side4 A6.out).mono ?_); (case side1 => refine (Kd.Q_reads' (e := 3) (base := w.heap.size) (ok := fun k_ => some k_ ≠ (.slice Ao16 t543.length co16 : Value).ownBlock) (n := t538.length) (c := co13) ?_).2.2; exact (by (with_reducible repeat (first | apply Kd.Q_alloc | apply Kd.Q_drewN | apply Kd.Q_drew)); exact (Kd.Q_mono (Kd.Q_far (p := ⟨gb553, 1, none⟩) (Kd.Q_far (p := ⟨gb553, 0, none⟩) (Kd.Q_types HO540.out BK553.out (by decide)) (fun _ hk => hk.2) (.int .i64 t550)) (fun _ hk => hk.2) (.int .i64 t551)) (fun _ h_ => h_.1)))); (case side2 => exact (Kd.Q_reads' HO540.out).2.1); (case side3 => refine (Kd.R_reads' (e := 3) (base := w.heap.size) (ok := fun k_ => some k_ ≠ (.slice Ao13 t538.length co13 : Value).ownBlock) (n := t543.length) (c := co16) ?_).2.2; exact (by (with_reducible repeat (first | apply Kd.R_alloc | apply Kd.R_drewN | apply Kd.R_drew)); exact (Kd.R_mono (Kd.R_far (p := ⟨gb553, 1, none⟩) (Kd.R_far (p := ⟨gb553, 0, none⟩) (Kd.R_types HO545.out BK553.out (by decide)) (fun _ hk => hk.2) (.int .i64 t550)) (fun _ hk => hk.2) (.int .i64 t551)) (fun _ h_ => h_.1)))); (case side4 => exact (Kd.R_reads' HO545.out).2.1); rintro e w27 ⟨rfl, hb⟩; refine ⟨_, rfl, ?_⟩; replace HO540 := Aside0.mk (Kd.Q_below (by (with_reducible repeat (first | apply Kd.Q_alloc | apply Kd.Q_drewN | apply Kd.Q_drew)); exact (Kd.Q_mono (Kd.Q_far (p := ⟨gb553, 1, none⟩) (Kd.Q_far (p := ⟨gb553, 0, none⟩) (Kd.Q_types HO540.out BK553.out (by decide)) (fun _ hk => hk.2) (.int .i64 t550)) (fun _ hk => hk.2) (.int .i64 t551)) (fun _ h_ => h_.1))) hb); replace HO545 := Aside0.mk (Kd.R_below (by (with_reducible repeat (first | apply Kd.R_alloc | apply Kd.R_drewN | apply Kd.R_drew)); exact (Kd.R_mono (Kd.R_far (p := ⟨gb553, 1, none⟩) (Kd.R_far (p := ⟨gb553, 0, none⟩) (Kd.R_types HO545.out BK553.out (by decide)) (fun _ hk => hk.2) (.int .i64 t550)) (fun _ hk => hk.2) (.int .i64 t551)) (fun _ h_ => h_.1))) hb); replace BK547 := zbl BK547.out hb; replace BK548 := zbl BK548.out hb; replace BK553 := Aside0.mk (blk_below (g := gb553) (o := .cells #[.int .i64 t550, .int .i64 t551] 37 (0, 0)) (zbp BK553.out) hb); replace HB := Aside0.mk (below_step (zhB HB.out) hb); (try clear hb); (try clear hk)) | ((with_reducible refine gate_dst (N := 10) rfl ?_); refine box_event ?hg (N := 10) ?hd (cs := #[.int .i64 0, .int .i64 0]) (t := 37) ?hr ?_; (case hd => rfl); (case hg => rfl); (case hr => exact zsx); intro gb558 hg w28 hbox hb; replace HO540 := Aside0.mk (Kd.Q_below (by refine zDQ ?_; exact HO540.out) hb); replace HO545 := Aside0.mk (Kd.R_below (zRx HO545.out) hb); have BK558 := Aside0.mk (hbox); have GW558 := zns hg HB.out; have GE558 := zns hg HB.out; replace HB := Aside0.mk (below_step (zhB HB.out) hb); have NB547_558 := znl hg BK547.out; have NB558_547 := zng hg BK547.out; replace BK547 := zbl BK547.out hb; have NB548_558 := znl hg BK548.out; have NB558_548 := zng hg BK548.out; replace BK548 := zbl BK548.out hb; have NB553_558 := znl hg BK553.out; have NB558_553 := zng hg BK553.out; replace BK553 := zbl BK553.out hb; clear hb hbox hg; have hnb29 := NB558_547.out; have hnc29 := NB547_558.out; have hnb30 := NB558_548.out; have hnc30 := NB548_558.out; have hnb31 := NB558_553.out; have hnc31 := NB553_558.out; have hcz32_0 : w28.cell? ⟨gb558, 0, none⟩ = some (.int .i64 0) := (blk_cell BK558.out 0).trans rfl; have hcz32_1 : w28.cell? ⟨gb558, 1, none⟩ = some (.int .i64 0) := (blk_cell BK558.out 1).trans rfl; have hfz32_0 := blk_frozen BK558.out 0; have hfz32_1 := blk_frozen BK558.out 1))
  (try simp only [Act.put, List.setIfInBounds_toArray, List.set_cons_zero, List.set_cons_succ])
  go_cut [68] (fun v68 wc => ∃ (kq : Nat) (x68_6 : Bool), v68 = .bool x68_6 ∧ Aside0 (laws_FnLimits.j0 kq l0 t546 t552 x68_6 t536 t537 t538 t541 t542 t543 t550 t551 = some r) ∧ Aside0 (kq ≤ k) ∧ Aside0 (Kd.Q (Kd.int .i64) 3 wc w.heap.size (fun k_ => some k_ ≠ ((.slice Ao16 t543.length co16) : Value).ownBlock) (.slice Ao13 t538.length co13) t538) ∧ Aside0 (Kd.Q (Kd.int .i64) 3 wc w.heap.size (fun k_ => some k_ ≠ ((.slice Ao13 t538.length co13) : Value).ownBlock) (.slice Ao16 t543.length co16) t543) ∧ Aside0 (wc.heap[gb547]? = some (.cells #[.int .i64 t536, .int .i64 t537, (.slice Ao13 t538.length co13)] 26 (0, 0))) ∧ Aside0 (wc.heap[gb548]? = some (.cells #[.int .i64 t541, .int .i64 t542, (.slice Ao16 t543.length co16)] 26 (0, 0))) ∧ Aside0 (wc.heap[gb553]? = some (.cells #[.int .i64 t550, .int .i64 t551] 37 (0, 0))) ∧ Aside0 (wc.heap[gb558]? = some (.cells #[.int .i64 t555, .int .i64 t556] 37 (0, 0))) ∧ Aside0 (Below w.heap.size w wc))
  case first =>
   as_aux_lemma =>
   have H := HC7.out
   clear HC7
   by_cases c33 : t549 = t554
   ·rw [if_pos c33] at H
    have c33b0 : (t549 == t554) = true := beq_iff_eq.mpr c33
    have c33b1 : (t549 != t554) = false := bne_eq_false_iff_eq.mpr c33
    clear c33
    (first | rw [c33b0] | (simp only [i64_w, i32_w]; rw [c33b0]) | skip)
    by_cases c34 : (!(t550 == t555) || (!(t551 == t556))) = true
    ·rw [if_pos c34] at H
     have c34b0 : (!(t550 == t555) || (!(t551 == t556))) = true := c34
     clear c34
     as_aux_lemma =>
      have H' := Aside0.mk H
      clear H
      have hnb35 := NB553_547.out
      have hnc35 := NB547_553.out
      have hnb36 := NB553_548.out
      have hnc36 := NB548_553.out
      have hnb37 := NB553_558.out
      have hnc37 := NB558_553.out
      have hcz38_0 : w28.cell? ⟨gb553, 0, none⟩ = some (.int .i64 t550) := (blk_cell BK553.out 0).trans rfl
      have hcz38_1 : w28.cell? ⟨gb553, 1, none⟩ = some (.int .i64 t551) := (blk_cell BK553.out 1).trans rfl
      have hfz38_0 := blk_frozen BK553.out 0
      have hfz38_1 := blk_frozen BK553.out 1
      have hnb39 := NB558_547.out
      have hnc39 := NB547_558.out
      have hnb40 := NB558_548.out
      have hnc40 := NB548_558.out
      have hcz41_0 : w28.cell? ⟨gb558, 0, none⟩ = some (.int .i64 0) := (blk_cell BK558.out 0).trans rfl
      have hcz41_1 : w28.cell? ⟨gb558, 1, none⟩ = some (.int .i64 0) := (blk_cell BK558.out 1).trans rfl
      have hfz41_0 := blk_frozen BK558.out 0
      have hfz41_1 := blk_frozen BK558.out 1
      go_wp2
      go_meet
      case rel => exact ⟨_, (true), zrx, H', ⟨by first | omega | exact Nat.le_refl _⟩, ⟨by refine zDQ ?_; exact Kd.Q_mono (Kd.Q_far (p := ⟨gb558, 1, none⟩) (Kd.Q_far (p := ⟨gb558, 0, none⟩) (Kd.Q_types HO540.out BK558.out (by decide)) (fun _ hk => hk.2) (.int .i64 t555)) (fun _ hk => hk.2) (.int .i64 t556)) (fun _ hk => hk.1)⟩, ⟨Kd.Q_of_R (by refine zDR ?_; exact Kd.R_mono (Kd.R_far (p := ⟨gb558, 1, none⟩) (Kd.R_far (p := ⟨gb558, 0, none⟩) (Kd.R_types HO545.out BK558.out (by decide)) (fun _ hk => hk.2) (.int .i64 t555)) (fun _ hk => hk.2) (.int .i64 t556)) (fun _ hk => hk.1))⟩, ⟨zbp BK547.out⟩, ⟨zbp BK548.out⟩, ⟨zbp BK553.out⟩, ⟨zbp BK558.out⟩, ⟨zhB HB.out⟩⟩
    ·rw [if_neg c34] at H
     have c34b0 : (!(t550 == t555) || (!(t551 == t556))) = false := by simpa using c34
     clear c34
     as_aux_lemma =>
      have H' := Aside0.mk H
      clear H
      have hnb42 := NB553_547.out
      have hnc42 := NB547_553.out
      have hnb43 := NB553_548.out
      have hnc43 := NB548_553.out
      have hnb44 := NB553_558.out
      have hnc44 := NB558_553.out
      have hcz45_0 : w28.cell? ⟨gb553, 0, none⟩ = some (.int .i64 t550) := (blk_cell BK553.out 0).trans rfl
      have hcz45_1 : w28.cell? ⟨gb553, 1, none⟩ = some (.int .i64 t551) := (blk_cell BK553.out 1).trans rfl
      have hfz45_0 := blk_frozen BK553.out 0
      have hfz45_1 := blk_frozen BK553.out 1
      have hnb46 := NB558_547.out
      have hnc46 := NB547_558.out
      have hnb47 := NB558_548.out
      have hnc47 := NB548_558.out
      have hcz48_0 : w28.cell? ⟨gb558, 0, none⟩ = some (.int .i64 0) := (blk_cell BK558.out 0).trans rfl
      have hcz48_1 : w28.cell? ⟨gb558, 1, none⟩ = some (.int .i64 0) := (blk_cell BK558.out 1).trans rfl
      have hfz48_0 := blk_frozen BK558.out 0
      have hfz48_1 := blk_frozen BK558.out 1
      go_wp2
      go_meet
      case rel => exact ⟨_, ((t552 != t557)), zrx, H', ⟨by first | omega | exact Nat.le_refl _⟩, ⟨by refine zDQ ?_; exact Kd.Q_mono (Kd.Q_far (p := ⟨gb558, 1, none⟩) (Kd.Q_far (p := ⟨gb558, 0, none⟩) (Kd.Q_types HO540.out BK558.out (by decide)) (fun _ hk => hk.2) (.int .i64 t555)) (fun _ hk => hk.2) (.int .i64 t556)) (fun _ hk => hk.1)⟩, ⟨Kd.Q_of_R (by refine zDR ?_; exact Kd.R_mono (Kd.R_far (p := ⟨gb558, 1, none⟩) (Kd.R_far (p := ⟨gb558, 0, none⟩) (Kd.R_types HO545.out BK558.out (by decide)) (fun _ hk => hk.2) (.int .i64 t555)) (fun _ hk => hk.2) (.int .i64 t556)) (fun _ hk => hk.1))⟩, ⟨zbp BK547.out⟩, ⟨zbp BK548.out⟩, ⟨zbp BK553.out⟩, ⟨zbp BK558.out⟩, ⟨zhB HB.out⟩⟩
   ·rw [if_neg c33] at H
    have c33b0 : (t549 == t554) = false := beq_eq_false_iff_ne.mpr c33
    have c33b1 : (t549 != t554) = true := bne_iff_ne.mpr c33
    (first | rw [c33b0] | (simp only [i64_w, i32_w]; rw [c33b0]) | skip)
    as_aux_lemma =>
     have H' := Aside0.mk H
     clear H
     go_wp2
     go_meet
     case rel => exact ⟨_, (true), zrx, H', ⟨by first | omega | exact Nat.le_refl _⟩, ⟨by refine zDQ ?_; exact Kd.Q_mono (Kd.Q_far (p := ⟨gb558, 1, none⟩) (Kd.Q_far (p := ⟨gb558, 0, none⟩) (Kd.Q_types HO540.out BK558.out (by decide)) (fun _ hk => hk.2) (.int .i64 t555)) (fun _ hk => hk.2) (.int .i64 t556)) (fun _ hk => hk.1)⟩, ⟨Kd.Q_of_R (by refine zDR ?_; exact Kd.R_mono (Kd.R_far (p := ⟨gb558, 1, none⟩) (Kd.R_far (p := ⟨gb558, 0, none⟩) (Kd.R_types HO545.out BK558.out (by decide)) (fun _ hk => hk.2) (.int .i64 t555)) (fun _ hk => hk.2) (.int .i64 t556)) (fun _ hk => hk.1))⟩, ⟨zbp BK547.out⟩, ⟨zbp BK548.out⟩, ⟨zbp BK553.out⟩, ⟨zbp BK558.out⟩, ⟨zhB HB.out⟩⟩
  case rest =>
   clear HC7
   try clear c1
   try clear c2
   try clear p2
   try clear c3
   try clear c4
   try clear c5
   try clear c11
   try clear c21
   try clear c22
   try clear c23
   try clear c29
   try clear c30
   try clear c31
   try clear c33
   try clear c33b0
   try clear c33b1
   try clear c34
   try clear c34b0
   try clear c35
   try clear c36
   try clear c37
   try clear c39
   try clear c40
   try clear c42
   try clear c43
   try clear c44
   try clear c46
   try clear c47
   try clear hcz12_0
   try clear hcz12_1
   try clear hcz12_2
   try clear hcz15_0
   try clear hcz15_1
   try clear hcz15_2
   try clear hcz18_0
   try clear hcz18_1
   try clear hcz18_2
   try clear hcz19_0
   try clear hcz19_1
   try clear hcz19_2
   try clear hcz24_0
   try clear hcz24_1
   try clear hcz25_0
   try clear hcz25_1
   try clear hcz25_2
   try clear hcz26_0
   try clear hcz26_1
   try clear hcz26_2
   try clear hcz32_0
   try clear hcz32_1
   try clear hcz38_0
   try clear hcz38_1
   try clear hcz41_0
   try clear hcz41_1
   try clear hcz45_0
   try clear hcz45_1
   try clear hcz48_0
   try clear hcz48_1
   try clear hfz12_0
   try clear hfz12_1
   try clear hfz12_2
   try clear hfz15_0
   try clear hfz15_1
   try clear hfz15_2
   try clear hfz18_0
   try clear hfz18_1
   try clear hfz18_2
   try clear hfz19_0
   try clear hfz19_1
   try clear hfz19_2
   try clear hfz24_0
   try clear hfz24_1
   try clear hfz25_0
   try clear hfz25_1
   try clear hfz25_2
   try clear hfz26_0
   try clear hfz26_1
   try clear hfz26_2
   try clear hfz32_0
   try clear hfz32_1
   try clear hfz38_0
   try clear hfz38_1
   try clear hfz41_0
   try clear hfz41_1
   try clear hfz45_0
   try clear hfz45_1
   try clear hfz48_0
   try clear hfz48_1
   obtain ⟨kq, x68_6, rfl, HA, HJ6, HO_548002, HO_549002, BK547, BK548, BK553, BK558, HB⟩ := hcut
   cases kq with
   | zero => exact absurd HA.out (by simp [laws_FnLimits.j0])
   | succ kj6 =>
    have H := HA.out
    clear HA
    simp only [laws_FnLimits.j0] at H
    by_cases c49 : x68_6 = true
    ·subst c49
     rw [if_pos rfl] at H
     as_aux_lemma =>
      exact absurd (Option.some.inj H) (by rw [hr_]; decide)
    ·replace c49 := Bool.eq_false_iff.mpr c49
     subst c49
     rw [if_neg (show ¬ (false = true) by decide)] at H
     have HC50 := Aside0.mk H
     clear H
     go_upto_if 69 with (fail)
     go_cut [] (fun wc => ∃ (kq : Nat), Aside0 (laws_FnLimits.j2 kq l0 = some r) ∧ Aside0 (kq ≤ kj6) ∧ Aside0 (Kd.Q (Kd.int .i64) 3 wc w.heap.size (fun k_ => some k_ ≠ ((.slice Ao16 t543.length co16) : Value).ownBlock) (.slice Ao13 t538.length co13) t538) ∧ Aside0 (Kd.Q (Kd.int .i64) 3 wc w.heap.size (fun k_ => some k_ ≠ ((.slice Ao13 t538.length co13) : Value).ownBlock) (.slice Ao16 t543.length co16) t543) ∧ Aside0 (wc.heap[gb547]? = some (.cells #[.int .i64 t536, .int .i64 t537, (.slice Ao13 t538.length co13)] 26 (0, 0))) ∧ Aside0 (wc.heap[gb548]? = some (.cells #[.int .i64 t541, .int .i64 t542, (.slice Ao16 t543.length co16)] 26 (0, 0))) ∧ Aside0 (wc.heap[gb553]? = some (.cells #[.int .i64 t550, .int .i64 t551] 37 (0, 0))) ∧ Aside0 (wc.heap[gb558]? = some (.cells #[.int .i64 t555, .int .i64 t556] 37 (0, 0))) ∧ Aside0 (Below w.heap.size w wc))
     case first =>
      as_aux_lemma =>
      have H := HC50.out
      clear HC50
      by_cases c51 : t552 = true
      ·subst c51
       rw [if_pos rfl] at H
       replace H := Option.bind_eq_some_iff.mp H
       obtain ⟨⟨t559, t560, t561, t562, t563⟩, A520, H⟩ := H
       replace H : (if t563 = true then ((laws_vHas.f kj6 t538 (wrap64 (t546 + 1))).bind fun t565 => (laws_FnLimits.j1 kj6 l0 t565 t550 t551 t559 t560 t561 t562)) else (laws_FnLimits.j1 kj6 l0 false t550 t551 t559 t560 t561 t562)) = some r := H
       have A52 := Aside0.mk A520
       clear A520
       have HC53 := Aside0.mk H
       clear H
       have hnb54 := NB547_548.out
       have hnc54 := NB548_547.out
       have hnb55 := NB547_553.out
       have hnc55 := NB553_547.out
       have hnb56 := NB547_558.out
       have hnc56 := NB558_547.out
       have hcz57_0 : wc.cell? ⟨gb547, 0, none⟩ = some (.int .i64 t536) := (blk_cell BK547.out 0).trans rfl
       have hcz57_1 : wc.cell? ⟨gb547, 1, none⟩ = some (.int .i64 t537) := (blk_cell BK547.out 1).trans rfl
       have hcz57_2 : wc.cell? ⟨gb547, 2, none⟩ = some (.slice Ao13 t538.length co13) := (blk_cell BK547.out 2).trans rfl
       have hfz57_0 := blk_frozen BK547.out 0
       have hfz57_1 := blk_frozen BK547.out 1
       have hfz57_2 := blk_frozen BK547.out 2
       have hnb58 := NB548_553.out
       have hnc58 := NB553_548.out
       have hnb59 := NB548_558.out
       have hnc59 := NB558_548.out
       have hcz60_0 : wc.cell? ⟨gb548, 0, none⟩ = some (.int .i64 t541) := (blk_cell BK548.out 0).trans rfl
       have hcz60_1 : wc.cell? ⟨gb548, 1, none⟩ = some (.int .i64 t542) := (blk_cell BK548.out 1).trans rfl
       have hcz60_2 : wc.cell? ⟨gb548, 2, none⟩ = some (.slice Ao16 t543.length co16) := (blk_cell BK548.out 2).trans rfl
       have hfz60_0 := blk_frozen BK548.out 0
       have hfz60_1 := blk_frozen BK548.out 1
       have hfz60_2 := blk_frozen BK548.out 2
       go_upto_region 10 with (first | ((with_reducible refine gate_callee (f := 7) rfl ?_); refine goesL_ (some 74) rfl rfl Try.func7 (by kernel_rfl) rfl #[.agg #[.int .i64 t536, .int .i64 t537, .slice Ao13 t538.length co13], .agg #[.int .i64 t541, .int .i64 t542, .slice Ao16 t543.length co16], .int .i64 t546] rfl zlx ?_; (with_reducible refine (impl_CountTable.calls kj6 t536 t537 (fun k_ => some k_ = (.slice Ao13 t538.length co13 : Value).ownBlock) _ _ t538 t541 t542 (fun k_ => some k_ = (.slice Ao16 t543.length co16 : Value).ownBlock) _ _ t543 t546 t559 t560 t561 t562 t563 _ ?side1 ?side2 A52.out).mono ?_); (case side1 => exact Kd.Q_V (Kd.Q_tight rfl (Kd.Q_types (Kd.Q_types (Kd.Q_types (Kd.Q_types (HO_548002.out) BK547.out (by decide)) BK548.out (by decide)) BK553.out (by decide)) BK558.out (by decide)))); (case side2 => exact Kd.Q_V (Kd.Q_tight rfl (Kd.Q_types (Kd.Q_types (Kd.Q_types (Kd.Q_types (HO_549002.out) BK547.out (by decide)) BK548.out (by decide)) BK553.out (by decide)) BK558.out (by decide)))); rintro e w61 ⟨rfl, hb⟩; refine ⟨_, rfl, ?_⟩; replace HO_548002 := Aside0.mk (Kd.Q_below (by refine zDQ ?_; exact HO_548002.out) hb); replace HO_549002 := Aside0.mk (Kd.Q_below (by refine zDQ ?_; exact HO_549002.out) hb); replace BK547 := zbl BK547.out hb; replace BK548 := zbl BK548.out hb; replace BK553 := zbl BK553.out hb; replace BK558 := zbl BK558.out hb; replace HB := Aside0.mk (below_step (zhB HB.out) hb); (try clear hb)) | ((with_reducible refine gate_dst (N := 12) rfl ?_); refine box_event ?hg (N := 12) ?hd (cs := #[.int .i64 0, .int .i64 0, .int .i64 0, .int .i64 0]) (t := 30) ?hr ?_; (case hd => rfl); (case hg => rfl); (case hr => exact zsx); intro gb564 hg w62 hbox hb; replace HO_548002 := Aside0.mk (Kd.Q_below (by refine zDQ ?_; exact HO_548002.out) hb); replace HO_549002 := Aside0.mk (Kd.Q_below (by refine zDQ ?_; exact HO_549002.out) hb); have BK564 := Aside0.mk (hbox); have GW564 := zns hg HB.out; have GE564 := zns hg HB.out; replace HB := Aside0.mk (below_step (zhB HB.out) hb); have NB547_564 := znl hg BK547.out; have NB564_547 := zng hg BK547.out; replace BK547 := zbl BK547.out hb; have NB548_564 := znl hg BK548.out; have NB564_548 := zng hg BK548.out; replace BK548 := zbl BK548.out hb; have NB553_564 := znl hg BK553.out; have NB564_553 := zng hg BK553.out; replace BK553 := zbl BK553.out hb; have NB558_564 := znl hg BK558.out; have NB564_558 := zng hg BK558.out; replace BK558 := zbl BK558.out hb; clear hb hbox hg; have hnb63 := NB564_547.out; have hnc63 := NB547_564.out; have hnb64 := NB564_548.out; have hnc64 := NB548_564.out; have hnb65 := NB564_553.out; have hnc65 := NB553_564.out; have hnb66 := NB564_558.out; have hnc66 := NB558_564.out; have hcz67_0 : w62.cell? ⟨gb564, 0, none⟩ = some (.int .i64 0) := (blk_cell BK564.out 0).trans rfl; have hcz67_1 : w62.cell? ⟨gb564, 1, none⟩ = some (.int .i64 0) := (blk_cell BK564.out 1).trans rfl; have hcz67_2 : w62.cell? ⟨gb564, 2, none⟩ = some (.int .i64 0) := (blk_cell BK564.out 2).trans rfl; have hcz67_3 : w62.cell? ⟨gb564, 3, none⟩ = some (.int .i64 0) := (blk_cell BK564.out 3).trans rfl; have hfz67_0 := blk_frozen BK564.out 0; have hfz67_1 := blk_frozen BK564.out 1; have hfz67_2 := blk_frozen BK564.out 2; have hfz67_3 := blk_frozen BK564.out 3))
       (try simp only [Act.put, List.setIfInBounds_toArray, List.set_cons_zero, List.set_cons_succ])
       go_cut [84] (fun v84 wc => ∃ (kq : Nat) (x84_52 : Bool), v84 = .bool x84_52 ∧ Aside0 (laws_FnLimits.j1 kq l0 x84_52 t550 t551 t559 t560 t561 t562 = some r) ∧ Aside0 (kq ≤ kj6) ∧ Aside0 (Kd.Q (Kd.int .i64) 3 wc w.heap.size (fun k_ => some k_ ≠ ((.slice Ao16 t543.length co16) : Value).ownBlock) (.slice Ao13 t538.length co13) t538) ∧ Aside0 (Kd.Q (Kd.int .i64) 3 wc w.heap.size (fun k_ => some k_ ≠ ((.slice Ao13 t538.length co13) : Value).ownBlock) (.slice Ao16 t543.length co16) t543) ∧ Aside0 (wc.heap[gb547]? = some (.cells #[.int .i64 t536, .int .i64 t537, (.slice Ao13 t538.length co13)] 26 (0, 0))) ∧ Aside0 (wc.heap[gb548]? = some (.cells #[.int .i64 t541, .int .i64 t542, (.slice Ao16 t543.length co16)] 26 (0, 0))) ∧ Aside0 (wc.heap[gb553]? = some (.cells #[.int .i64 t550, .int .i64 t551] 37 (0, 0))) ∧ Aside0 (wc.heap[gb558]? = some (.cells #[.int .i64 t555, .int .i64 t556] 37 (0, 0))) ∧ Aside0 (wc.heap[gb564]? = some (.cells #[.int .i64 t559, .int .i64 t560, .int .i64 t561, .int .i64 t562] 30 (0, 0))) ∧ Aside0 (Below w.heap.size w wc))
       case first =>
        as_aux_lemma =>
        have H := HC53.out
        clear HC53
        by_cases c68 : t563 = true
        ·subst c68
         rw [if_pos rfl] at H
         replace H := Option.bind_eq_some_iff.mp H
         obtain ⟨t565, A690, H⟩ := H
         replace H : (laws_FnLimits.j1 kj6 l0 t565 t550 t551 t559 t560 t561 t562) = some r := H
         have A69 := Aside0.mk A690
         clear A690
         as_aux_lemma =>
          have H' := Aside0.mk H
          clear H
          have hnb70 := NB547_548.out
          have hnc70 := NB548_547.out
          have hnb71 := NB547_553.out
          have hnc71 := NB553_547.out
          have hnb72 := NB547_558.out
          have hnc72 := NB558_547.out
          have hnb73 := NB547_564.out
          have hnc73 := NB564_547.out
          have hcz74_0 : w62.cell? ⟨gb547, 0, none⟩ = some (.int .i64 t536) := (blk_cell BK547.out 0).trans rfl
          have hcz74_1 : w62.cell? ⟨gb547, 1, none⟩ = some (.int .i64 t537) := (blk_cell BK547.out 1).trans rfl
          have hcz74_2 : w62.cell? ⟨gb547, 2, none⟩ = some (.slice Ao13 t538.length co13) := (blk_cell BK547.out 2).trans rfl
          have hfz74_0 := blk_frozen BK547.out 0
          have hfz74_1 := blk_frozen BK547.out 1
          have hfz74_2 := blk_frozen BK547.out 2
          go_wp2_with (first | (go_at_call 24; (with_reducible refine (laws_vHas.calls kj6 _ _ t538 (wrap64 (t546 + 1)) t565 _ ?side1 ?side2 A69.out).mono ?_); (case side1 => refine (Kd.Q_reads' (e := 3) (base := w.heap.size) (ok := fun k_ => some k_ ≠ (.slice Ao16 t543.length co16 : Value).ownBlock) (n := t538.length) (c := co13) ?_).2.2; exact (by (with_reducible repeat (first | apply Kd.Q_alloc | apply Kd.Q_drewN | apply Kd.Q_drew)); exact (Kd.Q_mono (Kd.Q_far (p := ⟨gb564, 3, none⟩) (Kd.Q_far (p := ⟨gb564, 2, none⟩) (Kd.Q_far (p := ⟨gb564, 1, none⟩) (Kd.Q_far (p := ⟨gb564, 0, none⟩) (Kd.Q_types HO_548002.out BK564.out (by decide)) (fun _ hk => hk.2) (.int .i64 t559)) (fun _ hk => hk.2) (.int .i64 t560)) (fun _ hk => hk.2) (.int .i64 t561)) (fun _ hk => hk.2) (.int .i64 t562)) (fun _ h_ => h_.1)))); (case side2 => exact (Kd.Q_reads' HO_548002.out).2.1); rintro e w' ⟨rfl, ⟨nd, rfl⟩⟩))
          go_meet
          case rel => exact ⟨_, (t565), zrx, H', ⟨by have := HJ6.out; first | omega | exact Nat.le_refl _⟩, ⟨by refine zDQ ?_; exact Kd.Q_mono (Kd.Q_far (p := ⟨gb564, 3, none⟩) (Kd.Q_far (p := ⟨gb564, 2, none⟩) (Kd.Q_far (p := ⟨gb564, 1, none⟩) (Kd.Q_far (p := ⟨gb564, 0, none⟩) (Kd.Q_types HO_548002.out BK564.out (by decide)) (fun _ hk => hk.2) (.int .i64 t559)) (fun _ hk => hk.2) (.int .i64 t560)) (fun _ hk => hk.2) (.int .i64 t561)) (fun _ hk => hk.2) (.int .i64 t562)) (fun _ hk => hk.1)⟩, ⟨by refine zDQ ?_; exact Kd.Q_mono (Kd.Q_far (p := ⟨gb564, 3, none⟩) (Kd.Q_far (p := ⟨gb564, 2, none⟩) (Kd.Q_far (p := ⟨gb564, 1, none⟩) (Kd.Q_far (p := ⟨gb564, 0, none⟩) (Kd.Q_types HO_549002.out BK564.out (by decide)) (fun _ hk => hk.2) (.int .i64 t559)) (fun _ hk => hk.2) (.int .i64 t560)) (fun _ hk => hk.2) (.int .i64 t561)) (fun _ hk => hk.2) (.int .i64 t562)) (fun _ hk => hk.1)⟩, ⟨zbp BK547.out⟩, ⟨zbp BK548.out⟩, ⟨zbp BK553.out⟩, ⟨zbp BK558.out⟩, ⟨zbp BK564.out⟩, ⟨zhB HB.out⟩⟩
        ·replace c68 := Bool.eq_false_iff.mpr c68
         subst c68
         rw [if_neg (show ¬ (false = true) by decide)] at H
         as_aux_lemma =>
          have H' := Aside0.mk H
          clear H
          go_wp2
          go_meet
          case rel => exact ⟨_, (false), zrx, H', ⟨by have := HJ6.out; first | omega | exact Nat.le_refl _⟩, ⟨by refine zDQ ?_; exact Kd.Q_mono (Kd.Q_far (p := ⟨gb564, 3, none⟩) (Kd.Q_far (p := ⟨gb564, 2, none⟩) (Kd.Q_far (p := ⟨gb564, 1, none⟩) (Kd.Q_far (p := ⟨gb564, 0, none⟩) (Kd.Q_types HO_548002.out BK564.out (by decide)) (fun _ hk => hk.2) (.int .i64 t559)) (fun _ hk => hk.2) (.int .i64 t560)) (fun _ hk => hk.2) (.int .i64 t561)) (fun _ hk => hk.2) (.int .i64 t562)) (fun _ hk => hk.1)⟩, ⟨by refine zDQ ?_; exact Kd.Q_mono (Kd.Q_far (p := ⟨gb564, 3, none⟩) (Kd.Q_far (p := ⟨gb564, 2, none⟩) (Kd.Q_far (p := ⟨gb564, 1, none⟩) (Kd.Q_far (p := ⟨gb564, 0, none⟩) (Kd.Q_types HO_549002.out BK564.out (by decide)) (fun _ hk => hk.2) (.int .i64 t559)) (fun _ hk => hk.2) (.int .i64 t560)) (fun _ hk => hk.2) (.int .i64 t561)) (fun _ hk => hk.2) (.int .i64 t562)) (fun _ hk => hk.1)⟩, ⟨zbp BK547.out⟩, ⟨zbp BK548.out⟩, ⟨zbp BK553.out⟩, ⟨zbp BK558.out⟩, ⟨zbp BK564.out⟩, ⟨zhB HB.out⟩⟩
       case rest =>
        clear HC53
        try clear c1
        try clear c2
        try clear p2
        try clear c3
        try clear c4
        try clear c5
        try clear c6
        try clear p6
        try clear c7
        try clear c11
        try clear c21
        try clear c22
        try clear c23
        try clear c29
        try clear c30
        try clear c31
        try clear c33
        try clear c33b0
        try clear c33b1
        try clear c34
        try clear c34b0
        try clear c35
        try clear c36
        try clear c37
        try clear c39
        try clear c40
        try clear c42
        try clear c43
        try clear c44
        try clear c46
        try clear c47
        try clear c49
        try clear c51
        try clear c54
        try clear c55
        try clear c56
        try clear c58
        try clear c59
        try clear c63
        try clear c64
        try clear p64
        try clear c65
        try clear c66
        try clear c68
        try clear c70
        try clear c71
        try clear c72
        try clear c73
        try clear hcz12_0
        try clear hcz12_1
        try clear hcz12_2
        try clear hcz15_0
        try clear hcz15_1
        try clear hcz15_2
        try clear hcz18_0
        try clear hcz18_1
        try clear hcz18_2
        try clear hcz19_0
        try clear hcz19_1
        try clear hcz19_2
        try clear hcz24_0
        try clear hcz24_1
        try clear hcz25_0
        try clear hcz25_1
        try clear hcz25_2
        try clear hcz26_0
        try clear hcz26_1
        try clear hcz26_2
        try clear hcz32_0
        try clear hcz32_1
        try clear hcz38_0
        try clear hcz38_1
        try clear hcz41_0
        try clear hcz41_1
        try clear hcz45_0
        try clear hcz45_1
        try clear hcz48_0
        try clear hcz48_1
        try clear hcz57_0
        try clear hcz57_1
        try clear hcz57_2
        try clear hcz60_0
        try clear hcz60_1
        try clear hcz60_2
        try clear hcz67_0
        try clear hcz67_1
        try clear hcz67_2
        try clear hcz67_3
        try clear hcz74_0
        try clear hcz74_1
        try clear hcz74_2
        try clear hfz12_0
        try clear hfz12_1
        try clear hfz12_2
        try clear hfz15_0
        try clear hfz15_1
        try clear hfz15_2
        try clear hfz18_0
        try clear hfz18_1
        try clear hfz18_2
        try clear hfz19_0
        try clear hfz19_1
        try clear hfz19_2
        try clear hfz24_0
        try clear hfz24_1
        try clear hfz25_0
        try clear hfz25_1
        try clear hfz25_2
        try clear hfz26_0
        try clear hfz26_1
        try clear hfz26_2
        try clear hfz32_0
        try clear hfz32_1
        try clear hfz38_0
        try clear hfz38_1
        try clear hfz41_0
        try clear hfz41_1
        try clear hfz45_0
        try clear hfz45_1
        try clear hfz48_0
        try clear hfz48_1
        try clear hfz57_0
        try clear hfz57_1
        try clear hfz57_2
        try clear hfz60_0
        try clear hfz60_1
        try clear hfz60_2
        try clear hfz67_0
        try clear hfz67_1
        try clear hfz67_2
        try clear hfz67_3
        try clear hfz74_0
        try clear hfz74_1
        try clear hfz74_2
        try clear p2
        obtain ⟨kq, x84_52, rfl, HA, HJ52, HO_548002, HO_549002, BK547, BK548, BK553, BK558, BK564, HB⟩ := hcut
        cases kq with
        | zero => exact absurd HA.out (by simp [laws_FnLimits.j1])
        | succ kj52 =>
         have H := HA.out
         clear HA
         simp only [laws_FnLimits.j1] at H
         by_cases c75 : x84_52 = true
         ·subst c75
          rw [if_pos rfl] at H
          replace H := Option.bind_eq_some_iff.mp H
          obtain ⟨⟨t566, t567, t568⟩, A760, H⟩ := H
          replace H : (if t568 = true then (if (wrap64 (t550 * t567)) < (wrap64 (t566 * t551)) then (some false) else (laws_FnLimits.j2 kj52 l0)) else (laws_FnLimits.j2 kj52 l0)) = some r := H
          have A76 := Aside0.mk A760
          clear A760
          by_cases c77 : t568 = true
          ·subst c77
           rw [if_pos rfl] at H
           by_cases c78 : (wrap64 (t550 * t567)) < (wrap64 (t566 * t551))
           ·rw [if_pos c78] at H
            have c78b0 : decide ((wrap64 (t550 * t567)) < (wrap64 (t566 * t551))) = true := decide_eq_true c78
            clear c78
            as_aux_lemma =>
             exact absurd (Option.some.inj H) (by rw [hr_]; decide)
           ·rw [if_neg c78] at H
            have c78b0 : decide ((wrap64 (t550 * t567)) < (wrap64 (t566 * t551))) = false := decide_eq_false c78
            clear c78
            as_aux_lemma =>
             have H' := Aside0.mk H
             clear H
             have hnb96 := NB564_547.out
             have hnc96 := NB547_564.out
             have hnb97 := NB564_548.out
             have hnc97 := NB548_564.out
             have hnb98 := NB564_553.out
             have hnc98 := NB553_564.out
             have hnb99 := NB564_558.out
             have hnc99 := NB558_564.out
             have hcz100_0 : wc.cell? ⟨gb564, 0, none⟩ = some (.int .i64 t559) := (blk_cell BK564.out 0).trans rfl
             have hcz100_1 : wc.cell? ⟨gb564, 1, none⟩ = some (.int .i64 t560) := (blk_cell BK564.out 1).trans rfl
             have hcz100_2 : wc.cell? ⟨gb564, 2, none⟩ = some (.int .i64 t561) := (blk_cell BK564.out 2).trans rfl
             have hcz100_3 : wc.cell? ⟨gb564, 3, none⟩ = some (.int .i64 t562) := (blk_cell BK564.out 3).trans rfl
             have hfz100_0 := blk_frozen BK564.out 0
             have hfz100_1 := blk_frozen BK564.out 1
             have hfz100_2 := blk_frozen BK564.out 2
             have hfz100_3 := blk_frozen BK564.out 3
             go_wp2_with (first | ((with_reducible refine gate_callee (f := 11) rfl ?_); refine goesL_ (some 87) rfl rfl Try.func11 (by kernel_rfl) rfl #[.agg #[.int .i64 t559, .int .i64 t560, .int .i64 t561, .int .i64 t562]] rfl zlx ?_; (with_reducible refine (impl_ThreatScore.calls kj52 t559 t560 t561 t562 t566 t567 true _ A76.out).mono ?_); rintro e w101 ⟨rfl, hb⟩; refine ⟨_, rfl, ?_⟩; replace HO_548002 := Aside0.mk (Kd.Q_below (by refine zDQ ?_; exact HO_548002.out) hb); replace HO_549002 := Aside0.mk (Kd.Q_below (by refine zDQ ?_; exact HO_549002.out) hb); replace BK547 := zbl BK547.out hb; replace BK548 := zbl BK548.out hb; replace BK553 := zbl BK553.out hb; replace BK558 := zbl BK558.out hb; replace BK564 := zbl BK564.out hb; replace HB := Aside0.mk (below_step (zhB HB.out) hb); (try clear hb)) | ((with_reducible refine gate_dst (N := 14) rfl ?_); refine box_event ?hg (N := 14) ?hd (cs := #[.int .i64 0, .int .i64 0]) (t := 37) ?hr ?_; (case hd => rfl); (case hg => rfl); (case hr => exact zsx); intro gb569 hg w102 hbox hb; replace HO_548002 := Aside0.mk (Kd.Q_below (by refine zDQ ?_; exact HO_548002.out) hb); replace HO_549002 := Aside0.mk (Kd.Q_below (by refine zDQ ?_; exact HO_549002.out) hb); have BK569 := Aside0.mk (hbox); have GW569 := zns hg HB.out; have GE569 := zns hg HB.out; replace HB := Aside0.mk (below_step (zhB HB.out) hb); have NB547_569 := znl hg BK547.out; have NB569_547 := zng hg BK547.out; replace BK547 := zbl BK547.out hb; have NB548_569 := znl hg BK548.out; have NB569_548 := zng hg BK548.out; replace BK548 := zbl BK548.out hb; have NB553_569 := znl hg BK553.out; have NB569_553 := zng hg BK553.out; replace BK553 := zbl BK553.out hb; have NB558_569 := znl hg BK558.out; have NB569_558 := zng hg BK558.out; replace BK558 := zbl BK558.out hb; have NB564_569 := znl hg BK564.out; have NB569_564 := zng hg BK564.out; replace BK564 := zbl BK564.out hb; clear hb hbox hg; have hnb103 := NB569_547.out; have hnc103 := NB547_569.out; have hnb104 := NB569_548.out; have hnc104 := NB548_569.out; have hnb105 := NB569_553.out; have hnc105 := NB553_569.out; have hnb106 := NB569_558.out; have hnc106 := NB558_569.out; have hnb107 := NB569_564.out; have hnc107 := NB564_569.out; have hcz108_0 : w102.cell? ⟨gb569, 0, none⟩ = some (.int .i64 0) := (blk_cell BK569.out 0).trans rfl; have hcz108_1 : w102.cell? ⟨gb569, 1, none⟩ = some (.int .i64 0) := (blk_cell BK569.out 1).trans rfl; have hfz108_0 := blk_frozen BK569.out 0; have hfz108_1 := blk_frozen BK569.out 1; have hnb109 := NB553_547.out; have hnc109 := NB547_553.out; have hnb110 := NB553_548.out; have hnc110 := NB548_553.out; have hnb111 := NB553_558.out; have hnc111 := NB558_553.out; have hcz112_0 : w102.cell? ⟨gb553, 0, none⟩ = some (.int .i64 t550) := (blk_cell BK553.out 0).trans rfl; have hcz112_1 : w102.cell? ⟨gb553, 1, none⟩ = some (.int .i64 t551) := (blk_cell BK553.out 1).trans rfl; have hfz112_0 := blk_frozen BK553.out 0; have hfz112_1 := blk_frozen BK553.out 1))
             go_meet
             case rel => exact ⟨_, H', ⟨by have := HJ6.out; have := HJ52.out; first | omega | exact Nat.le_refl _⟩, ⟨by refine zDQ ?_; exact Kd.Q_mono (Kd.Q_far (p := ⟨gb569, 1, none⟩) (Kd.Q_far (p := ⟨gb569, 0, none⟩) (Kd.Q_types HO_548002.out BK569.out (by decide)) (fun _ hk => hk.2) (.int .i64 t566)) (fun _ hk => hk.2) (.int .i64 t567)) (fun _ hk => hk.1)⟩, ⟨by refine zDQ ?_; exact Kd.Q_mono (Kd.Q_far (p := ⟨gb569, 1, none⟩) (Kd.Q_far (p := ⟨gb569, 0, none⟩) (Kd.Q_types HO_549002.out BK569.out (by decide)) (fun _ hk => hk.2) (.int .i64 t566)) (fun _ hk => hk.2) (.int .i64 t567)) (fun _ hk => hk.1)⟩, ⟨zbp BK547.out⟩, ⟨zbp BK548.out⟩, ⟨zbp BK553.out⟩, ⟨zbp BK558.out⟩, ⟨zhB HB.out⟩⟩
          ·replace c77 := Bool.eq_false_iff.mpr c77
           subst c77
           rw [if_neg (show ¬ (false = true) by decide)] at H
           as_aux_lemma =>
            have H' := Aside0.mk H
            clear H
            have hnb113 := NB564_547.out
            have hnc113 := NB547_564.out
            have hnb114 := NB564_548.out
            have hnc114 := NB548_564.out
            have hnb115 := NB564_553.out
            have hnc115 := NB553_564.out
            have hnb116 := NB564_558.out
            have hnc116 := NB558_564.out
            have hcz117_0 : wc.cell? ⟨gb564, 0, none⟩ = some (.int .i64 t559) := (blk_cell BK564.out 0).trans rfl
            have hcz117_1 : wc.cell? ⟨gb564, 1, none⟩ = some (.int .i64 t560) := (blk_cell BK564.out 1).trans rfl
            have hcz117_2 : wc.cell? ⟨gb564, 2, none⟩ = some (.int .i64 t561) := (blk_cell BK564.out 2).trans rfl
            have hcz117_3 : wc.cell? ⟨gb564, 3, none⟩ = some (.int .i64 t562) := (blk_cell BK564.out 3).trans rfl
            have hfz117_0 := blk_frozen BK564.out 0
            have hfz117_1 := blk_frozen BK564.out 1
            have hfz117_2 := blk_frozen BK564.out 2
            have hfz117_3 := blk_frozen BK564.out 3
            go_wp2_with (first | ((with_reducible refine gate_callee (f := 11) rfl ?_); refine goesL_ (some 87) rfl rfl Try.func11 (by kernel_rfl) rfl #[.agg #[.int .i64 t559, .int .i64 t560, .int .i64 t561, .int .i64 t562]] rfl zlx ?_; (with_reducible refine (impl_ThreatScore.calls kj52 t559 t560 t561 t562 t566 t567 false _ A76.out).mono ?_); rintro e w118 ⟨rfl, hb⟩; refine ⟨_, rfl, ?_⟩; replace HO_548002 := Aside0.mk (Kd.Q_below (by refine zDQ ?_; exact HO_548002.out) hb); replace HO_549002 := Aside0.mk (Kd.Q_below (by refine zDQ ?_; exact HO_549002.out) hb); replace BK547 := zbl BK547.out hb; replace BK548 := zbl BK548.out hb; replace BK553 := zbl BK553.out hb; replace BK558 := zbl BK558.out hb; replace BK564 := zbl BK564.out hb; replace HB := Aside0.mk (below_step (zhB HB.out) hb); (try clear hb)) | ((with_reducible refine gate_dst (N := 14) rfl ?_); refine box_event ?hg (N := 14) ?hd (cs := #[.int .i64 0, .int .i64 0]) (t := 37) ?hr ?_; (case hd => rfl); (case hg => rfl); (case hr => exact zsx); intro gb569 hg w119 hbox hb; replace HO_548002 := Aside0.mk (Kd.Q_below (by refine zDQ ?_; exact HO_548002.out) hb); replace HO_549002 := Aside0.mk (Kd.Q_below (by refine zDQ ?_; exact HO_549002.out) hb); have BK569 := Aside0.mk (hbox); have GW569 := zns hg HB.out; have GE569 := zns hg HB.out; replace HB := Aside0.mk (below_step (zhB HB.out) hb); have NB547_569 := znl hg BK547.out; have NB569_547 := zng hg BK547.out; replace BK547 := zbl BK547.out hb; have NB548_569 := znl hg BK548.out; have NB569_548 := zng hg BK548.out; replace BK548 := zbl BK548.out hb; have NB553_569 := znl hg BK553.out; have NB569_553 := zng hg BK553.out; replace BK553 := zbl BK553.out hb; have NB558_569 := znl hg BK558.out; have NB569_558 := zng hg BK558.out; replace BK558 := zbl BK558.out hb; have NB564_569 := znl hg BK564.out; have NB569_564 := zng hg BK564.out; replace BK564 := zbl BK564.out hb; clear hb hbox hg; have hnb120 := NB569_547.out; have hnc120 := NB547_569.out; have hnb121 := NB569_548.out; have hnc121 := NB548_569.out; have hnb122 := NB569_553.out; have hnc122 := NB553_569.out; have hnb123 := NB569_558.out; have hnc123 := NB558_569.out; have hnb124 := NB569_564.out; have hnc124 := NB564_569.out; have hcz125_0 : w119.cell? ⟨gb569, 0, none⟩ = some (.int .i64 0) := (blk_cell BK569.out 0).trans rfl; have hcz125_1 : w119.cell? ⟨gb569, 1, none⟩ = some (.int .i64 0) := (blk_cell BK569.out 1).trans rfl; have hfz125_0 := blk_frozen BK569.out 0; have hfz125_1 := blk_frozen BK569.out 1))
            go_meet
            case rel => exact ⟨_, H', ⟨by have := HJ6.out; have := HJ52.out; first | omega | exact Nat.le_refl _⟩, ⟨by refine zDQ ?_; exact Kd.Q_mono (Kd.Q_far (p := ⟨gb569, 1, none⟩) (Kd.Q_far (p := ⟨gb569, 0, none⟩) (Kd.Q_types HO_548002.out BK569.out (by decide)) (fun _ hk => hk.2) (.int .i64 t566)) (fun _ hk => hk.2) (.int .i64 t567)) (fun _ hk => hk.1)⟩, ⟨by refine zDQ ?_; exact Kd.Q_mono (Kd.Q_far (p := ⟨gb569, 1, none⟩) (Kd.Q_far (p := ⟨gb569, 0, none⟩) (Kd.Q_types HO_549002.out BK569.out (by decide)) (fun _ hk => hk.2) (.int .i64 t566)) (fun _ hk => hk.2) (.int .i64 t567)) (fun _ hk => hk.1)⟩, ⟨zbp BK547.out⟩, ⟨zbp BK548.out⟩, ⟨zbp BK553.out⟩, ⟨zbp BK558.out⟩, ⟨zhB HB.out⟩⟩
         ·replace c75 := Bool.eq_false_iff.mpr c75
          subst c75
          rw [if_neg (show ¬ (false = true) by decide)] at H
          as_aux_lemma =>
           have H' := Aside0.mk H
           clear H
           go_wp2
           go_meet
           case rel => exact ⟨_, H', ⟨by have := HJ6.out; have := HJ52.out; first | omega | exact Nat.le_refl _⟩, ⟨by refine zDQ ?_; exact HO_548002.out⟩, ⟨by refine zDQ ?_; exact HO_549002.out⟩, ⟨by refine zbx ?_; exact BK547.out⟩, ⟨by refine zbx ?_; exact BK548.out⟩, ⟨by refine zbx ?_; exact BK553.out⟩, ⟨by refine zbx ?_; exact BK558.out⟩, ⟨zhB HB.out⟩⟩
      ·replace c51 := Bool.eq_false_iff.mpr c51
       subst c51
       rw [if_neg (show ¬ (false = true) by decide)] at H
       as_aux_lemma =>
        have H' := Aside0.mk H
        clear H
        go_wp2
        go_meet
        case rel => exact ⟨_, H', ⟨by have := HJ6.out; first | omega | exact Nat.le_refl _⟩, ⟨by refine zDQ ?_; exact HO_548002.out⟩, ⟨by refine zDQ ?_; exact HO_549002.out⟩, ⟨by refine zbx ?_; exact BK547.out⟩, ⟨by refine zbx ?_; exact BK548.out⟩, ⟨by refine zbx ?_; exact BK553.out⟩, ⟨by refine zbx ?_; exact BK558.out⟩, ⟨zhB HB.out⟩⟩
     case rest =>
      clear HC50
      try clear c1
      try clear c2
      try clear p2
      try clear c3
      try clear c4
      try clear c5
      try clear c6
      try clear p6
      try clear c7
      try clear c8
      try clear c9
      try clear c10
      try clear c11
      try clear c12
      try clear c21
      try clear c22
      try clear c23
      try clear c29
      try clear c30
      try clear c31
      try clear c33
      try clear c33b0
      try clear c33b1
      try clear c34
      try clear c34b0
      try clear c35
      try clear c36
      try clear c37
      try clear c39
      try clear c40
      try clear c42
      try clear c43
      try clear c44
      try clear c46
      try clear c47
      try clear c49
      try clear c51
      try clear c54
      try clear c55
      try clear c56
      try clear c58
      try clear c59
      try clear c63
      try clear c64
      try clear p64
      try clear c65
      try clear c66
      try clear c68
      try clear c70
      try clear c71
      try clear c72
      try clear c73
      try clear c75
      try clear c77
      try clear c78
      try clear c78b0
      try clear c79
      try clear c80
      try clear c81
      try clear c82
      try clear c86
      try clear c87
      try clear c88
      try clear c89
      try clear c90
      try clear c92
      try clear c93
      try clear c94
      try clear c96
      try clear c97
      try clear c98
      try clear c99
      try clear c103
      try clear c104
      try clear c105
      try clear c106
      try clear c107
      try clear c109
      try clear c110
      try clear c111
      try clear c113
      try clear c114
      try clear c115
      try clear c116
      try clear c120
      try clear c121
      try clear c122
      try clear c123
      try clear c124
      try clear hcz100_0
      try clear hcz100_1
      try clear hcz100_2
      try clear hcz100_3
      try clear hcz108_0
      try clear hcz108_1
      try clear hcz112_0
      try clear hcz112_1
      try clear hcz117_0
      try clear hcz117_1
      try clear hcz117_2
      try clear hcz117_3
      try clear hcz125_0
      try clear hcz125_1
      try clear hcz12_0
      try clear hcz12_1
      try clear hcz12_2
      try clear hcz15_0
      try clear hcz15_1
      try clear hcz15_2
      try clear hcz18_0
      try clear hcz18_1
      try clear hcz18_2
      try clear hcz19_0
      try clear hcz19_1
      try clear hcz19_2
      try clear hcz24_0
      try clear hcz24_1
      try clear hcz25_0
      try clear hcz25_1
      try clear hcz25_2
      try clear hcz26_0
      try clear hcz26_1
      try clear hcz26_2
      try clear hcz32_0
      try clear hcz32_1
      try clear hcz38_0
      try clear hcz38_1
      try clear hcz41_0
      try clear hcz41_1
      try clear hcz45_0
      try clear hcz45_1
      try clear hcz48_0
      try clear hcz48_1
      try clear hcz57_0
      try clear hcz57_1
      try clear hcz57_2
      try clear hcz60_0
      try clear hcz60_1
      try clear hcz60_2
      try clear hcz67_0
      try clear hcz67_1
      try clear hcz67_2
      try clear hcz67_3
      try clear hcz74_0
      try clear hcz74_1
      try clear hcz74_2
      try clear hcz83_0
      try clear hcz83_1
      try clear hcz83_2
      try clear hcz83_3
      try clear hcz91_0
      try clear hcz91_1
      try clear hcz95_0
      try clear hcz95_1
      try clear hfz100_0
      try clear hfz100_1
      try clear hfz100_2
      try clear hfz100_3
      try clear hfz108_0
      try clear hfz108_1
      try clear hfz112_0
      try clear hfz112_1
      try clear hfz117_0
      try clear hfz117_1
      try clear hfz117_2
      try clear hfz117_3
      try clear hfz125_0
      try clear hfz125_1
      try clear hfz12_0
      try clear hfz12_1
      try clear hfz12_2
      try clear hfz15_0
      try clear hfz15_1
      try clear hfz15_2
      try clear hfz18_0
      try clear hfz18_1
      try clear hfz18_2
      try clear hfz19_0
      try clear hfz19_1
      try clear hfz19_2
      try clear hfz24_0
      try clear hfz24_1
      try clear hfz25_0
      try clear hfz25_1
      try clear hfz25_2
      try clear hfz26_0
      try clear hfz26_1
      try clear hfz26_2
      try clear hfz32_0
      try clear hfz32_1
      try clear hfz38_0
      try clear hfz38_1
      try clear hfz41_0
      try clear hfz41_1
      try clear hfz45_0
      try clear hfz45_1
      try clear hfz48_0
      try clear hfz48_1
      try clear hfz57_0
      try clear hfz57_1
      try clear hfz57_2
      try clear hfz60_0
      try clear hfz60_1
      try clear hfz60_2
      try clear hfz67_0
      try clear hfz67_1
      try clear hfz67_2
      try clear hfz67_3
      try clear hfz74_0
      try clear hfz74_1
      try clear hfz74_2
      try clear hfz83_0
      try clear hfz83_1
      try clear hfz83_2
      try clear hfz83_3
      try clear hfz91_0
      try clear hfz91_1
      try clear hfz95_0
      try clear hfz95_1
      try clear p2
      try clear p6
      try clear p64
      obtain ⟨kq, HA, HJ49, HO_548002, HO_549002, BK547, BK548, BK553, BK558, HB⟩ := hcut
      cases kq with
      | zero => exact absurd HA.out (by simp [laws_FnLimits.j2])
      | succ kj49 =>
       have H := HA.out
       clear HA
       simp only [laws_FnLimits.j2] at H
       replace H := Option.bind_eq_some_iff.mp H
       obtain ⟨⟨t570, t571, t572, t573, t574, t575, t576, t577⟩, A1260, H⟩ := H
       replace H : ((impl_CompareTables.f kj49 t570 t571 t572 t573 t574 t575 t576 t577).bind fun bt580 => ((impl_CompareTables.f kj49 t574 t575 t576 t577 t570 t571 t572 t573).bind fun bt582 => ((spec_CompareTables.f kj49 t570 t571 t572 t573 t574 t575 t576 t577).bind fun bt584 => (if bt580.1 = bt584.1 then (if (bt580.2 != bt584.2) = true then (laws_FnLimits.j3 kj49 l0 true) else (if (bt582.2 != bt580.2) = true then (laws_FnLimits.j3 kj49 l0 true) else (if bt580.2 = true then (laws_FnLimits.j3 kj49 l0 ((Int.tmod (wrap64 (bt580.1 + bt582.1)) 3) != 0)) else (laws_FnLimits.j3 kj49 l0 false)))) else (laws_FnLimits.j3 kj49 l0 true))))) = some r := H
       have A126 := Aside0.mk A1260
       clear A1260
       replace H := Option.bind_eq_some_iff.mp H
       obtain ⟨⟨t580, t581⟩, A1270, H⟩ := H
       replace H : ((impl_CompareTables.f kj49 t574 t575 t576 t577 t570 t571 t572 t573).bind fun bt582 => ((spec_CompareTables.f kj49 t570 t571 t572 t573 t574 t575 t576 t577).bind fun bt584 => (if t580 = bt584.1 then (if (t581 != bt584.2) = true then (laws_FnLimits.j3 kj49 l0 true) else (if (bt582.2 != t581) = true then (laws_FnLimits.j3 kj49 l0 true) else (if t581 = true then (laws_FnLimits.j3 kj49 l0 ((Int.tmod (wrap64 (t580 + bt582.1)) 3) != 0)) else (laws_FnLimits.j3 kj49 l0 false)))) else (laws_FnLimits.j3 kj49 l0 true)))) = some r := H
       have A127 := Aside0.mk A1270
       clear A1270
       replace H := Option.bind_eq_some_iff.mp H
       obtain ⟨⟨t582, t583⟩, A1280, H⟩ := H
       replace H : ((spec_CompareTables.f kj49 t570 t571 t572 t573 t574 t575 t576 t577).bind fun bt584 => (if t580 = bt584.1 then (if (t581 != bt584.2) = true then (laws_FnLimits.j3 kj49 l0 true) else (if (t583 != t581) = true then (laws_FnLimits.j3 kj49 l0 true) else (if t581 = true then (laws_FnLimits.j3 kj49 l0 ((Int.tmod (wrap64 (t580 + t582)) 3) != 0)) else (laws_FnLimits.j3 kj49 l0 false)))) else (laws_FnLimits.j3 kj49 l0 true))) = some r := H
       have A128 := Aside0.mk A1280
       clear A1280
       replace H := Option.bind_eq_some_iff.mp H
       obtain ⟨⟨t584, t585⟩, A1290, H⟩ := H
       replace H : (if t580 = t584 then (if (t581 != t585) = true then (laws_FnLimits.j3 kj49 l0 true) else (if (t583 != t581) = true then (laws_FnLimits.j3 kj49 l0 true) else (if t581 = true then (laws_FnLimits.j3 kj49 l0 ((Int.tmod (wrap64 (t580 + t582)) 3) != 0)) else (laws_FnLimits.j3 kj49 l0 false)))) else (laws_FnLimits.j3 kj49 l0 true)) = some r := H
       have A129 := Aside0.mk A1290
       clear A1290
       have HC130 := Aside0.mk H
       clear H
       go_upto_region 18 with (first | ((with_reducible refine gate_callee (f := 25) rfl ?_); refine goesL_ (some 106) rfl rfl Try.func25 (by kernel_rfl) rfl #[.slice A0 l0.length c0] rfl zlx ?_; (with_reducible refine (spec_DrawCompareTables.calls _ _ l0 t570 t571 t572 t573 t574 t575 t576 t577 _ ?side1 ?side2 A126.out).mono ?_); (case side1 => exact zCx (Kd.C_below HR0.out HB.out)); (case side2 => exact HC0.out); rintro e w131 ⟨rfl, hb⟩; refine ⟨_, rfl, ?_⟩; replace HO_548002 := Aside0.mk (Kd.Q_below (by refine zDQ ?_; exact HO_548002.out) hb); replace HO_549002 := Aside0.mk (Kd.Q_below (by refine zDQ ?_; exact HO_549002.out) hb); replace BK547 := zbl BK547.out hb; replace BK548 := zbl BK548.out hb; replace BK553 := zbl BK553.out hb; replace BK558 := zbl BK558.out hb; replace HB := Aside0.mk (below_step (zhB HB.out) hb); (try clear hb)) | ((with_reducible refine gate_dst (N := 16) rfl ?_); refine box_event ?hg (N := 16) ?hd (cs := #[.int .i64 0, .int .i64 0, .int .i64 0, .int .i64 0]) (t := 30) ?hr ?_; (case hd => rfl); (case hg => rfl); (case hr => exact zsx); intro gb578 hg w132 hbox hb; replace HO_548002 := Aside0.mk (Kd.Q_below (by refine zDQ ?_; exact HO_548002.out) hb); replace HO_549002 := Aside0.mk (Kd.Q_below (by refine zDQ ?_; exact HO_549002.out) hb); have BK578 := Aside0.mk (hbox); have GW578 := zns hg HB.out; have GE578 := zns hg HB.out; replace HB := Aside0.mk (below_step (zhB HB.out) hb); have NB547_578 := znl hg BK547.out; have NB578_547 := zng hg BK547.out; replace BK547 := zbl BK547.out hb; have NB548_578 := znl hg BK548.out; have NB578_548 := zng hg BK548.out; replace BK548 := zbl BK548.out hb; have NB553_578 := znl hg BK553.out; have NB578_553 := zng hg BK553.out; replace BK553 := zbl BK553.out hb; have NB558_578 := znl hg BK558.out; have NB578_558 := zng hg BK558.out; replace BK558 := zbl BK558.out hb; clear hb hbox hg) | ((with_reducible refine gate_dst (N := 17) rfl ?_); refine box_event ?hg (N := 17) ?hd (cs := #[.int .i64 0, .int .i64 0, .int .i64 0, .int .i64 0]) (t := 30) ?hr ?_; (case hd => rfl); (case hg => rfl); (case hr => exact zsx); intro gb579 hg w133 hbox hb; replace HO_548002 := Aside0.mk (Kd.Q_below (by refine zDQ ?_; exact HO_548002.out) hb); replace HO_549002 := Aside0.mk (Kd.Q_below (by refine zDQ ?_; exact HO_549002.out) hb); have BK579 := Aside0.mk (hbox); have GW579 := zns hg HB.out; have GE579 := zns hg HB.out; replace HB := Aside0.mk (below_step (zhB HB.out) hb); have NB547_579 := znl hg BK547.out; have NB579_547 := zng hg BK547.out; replace BK547 := zbl BK547.out hb; have NB548_579 := znl hg BK548.out; have NB579_548 := zng hg BK548.out; replace BK548 := zbl BK548.out hb; have NB553_579 := znl hg BK553.out; have NB579_553 := zng hg BK553.out; replace BK553 := zbl BK553.out hb; have NB558_579 := znl hg BK558.out; have NB579_558 := zng hg BK558.out; replace BK558 := zbl BK558.out hb; have NB578_579 := znl hg BK578.out; have NB579_578 := zng hg BK578.out; replace BK578 := zbl BK578.out hb; clear hb hbox hg; have hnb134 := NB578_547.out; have hnc134 := NB547_578.out; have hnb135 := NB578_548.out; have hnc135 := NB548_578.out; have hnb136 := NB578_553.out; have hnc136 := NB553_578.out; have hnb137 := NB578_558.out; have hnc137 := NB558_578.out; have hnb138 := NB578_579.out; have hnc138 := NB579_578.out; have hcz139_0 : w133.cell? ⟨gb578, 0, none⟩ = some (.int .i64 0) := (blk_cell BK578.out 0).trans rfl; have hcz139_1 : w133.cell? ⟨gb578, 1, none⟩ = some (.int .i64 0) := (blk_cell BK578.out 1).trans rfl; have hcz139_2 : w133.cell? ⟨gb578, 2, none⟩ = some (.int .i64 0) := (blk_cell BK578.out 2).trans rfl; have hcz139_3 : w133.cell? ⟨gb578, 3, none⟩ = some (.int .i64 0) := (blk_cell BK578.out 3).trans rfl; have hfz139_0 := blk_frozen BK578.out 0; have hfz139_1 := blk_frozen BK578.out 1; have hfz139_2 := blk_frozen BK578.out 2; have hfz139_3 := blk_frozen BK578.out 3; have hnb140 := NB579_547.out; have hnc140 := NB547_579.out; have hnb141 := NB579_548.out; have hnc141 := NB548_579.out; have hnb142 := NB579_553.out; have hnc142 := NB553_579.out; have hnb143 := NB579_558.out; have hnc143 := NB558_579.out; have hcz144_0 : w133.cell? ⟨gb579, 0, none⟩ = some (.int .i64 0) := (blk_cell BK579.out 0).trans rfl; have hcz144_1 : w133.cell? ⟨gb579, 1, none⟩ = some (.int .i64 0) := (blk_cell BK579.out 1).trans rfl; have hcz144_2 : w133.cell? ⟨gb579, 2, none⟩ = some (.int .i64 0) := (blk_cell BK579.out 2).trans rfl; have hcz144_3 : w133.cell? ⟨gb579, 3, none⟩ = some (.int .i64 0) := (blk_cell BK579.out 3).trans rfl; have hfz144_0 := blk_frozen BK579.out 0; have hfz144_1 := blk_frozen BK579.out 1; have hfz144_2 := blk_frozen BK579.out 2; have hfz144_3 := blk_frozen BK579.out 3) | ((with_reducible refine gate_callee (f := 26) rfl ?_); refine goesL_ (some 112) rfl rfl Try.func26 (by kernel_rfl) rfl #[.agg #[.int .i64 t570, .int .i64 t571, .int .i64 t572, .int .i64 t573], .agg #[.int .i64 t574, .int .i64 t575, .int .i64 t576, .int .i64 t577]] rfl zlx ?_; (with_reducible refine (impl_CompareTables.calls kj49 t570 t571 t572 t573 t574 t575 t576 t577 t580 t581 _ A127.out).mono ?_); rintro e w145 ⟨rfl, hb⟩; refine ⟨_, rfl, ?_⟩; replace HO_548002 := Aside0.mk (Kd.Q_below (by (with_reducible repeat (first | apply Kd.Q_alloc | apply Kd.Q_drewN | apply Kd.Q_drew)); exact (Kd.Q_mono (Kd.Q_mono (Kd.Q_far (p := ⟨gb579, 3, none⟩) (Kd.Q_far (p := ⟨gb579, 2, none⟩) (Kd.Q_far (p := ⟨gb579, 1, none⟩) (Kd.Q_far (p := ⟨gb579, 0, none⟩) (Kd.Q_far (p := ⟨gb578, 3, none⟩) (Kd.Q_far (p := ⟨gb578, 2, none⟩) (Kd.Q_far (p := ⟨gb578, 1, none⟩) (Kd.Q_far (p := ⟨gb578, 0, none⟩) (Kd.Q_types (Kd.Q_types HO_548002.out BK578.out (by decide)) BK579.out (by decide)) (fun _ hk => hk.1.2) (.int .i64 t570)) (fun _ hk => hk.1.2) (.int .i64 t571)) (fun _ hk => hk.1.2) (.int .i64 t572)) (fun _ hk => hk.1.2) (.int .i64 t573)) (fun _ hk => hk.2) (.int .i64 t574)) (fun _ hk => hk.2) (.int .i64 t575)) (fun _ hk => hk.2) (.int .i64 t576)) (fun _ hk => hk.2) (.int .i64 t577)) (fun _ h_ => h_.1)) (fun _ h_ => h_.1))) hb); replace HO_549002 := Aside0.mk (Kd.Q_below (by (with_reducible repeat (first | apply Kd.Q_alloc | apply Kd.Q_drewN | apply Kd.Q_drew)); exact (Kd.Q_mono (Kd.Q_mono (Kd.Q_far (p := ⟨gb579, 3, none⟩) (Kd.Q_far (p := ⟨gb579, 2, none⟩) (Kd.Q_far (p := ⟨gb579, 1, none⟩) (Kd.Q_far (p := ⟨gb579, 0, none⟩) (Kd.Q_far (p := ⟨gb578, 3, none⟩) (Kd.Q_far (p := ⟨gb578, 2, none⟩) (Kd.Q_far (p := ⟨gb578, 1, none⟩) (Kd.Q_far (p := ⟨gb578, 0, none⟩) (Kd.Q_types (Kd.Q_types HO_549002.out BK578.out (by decide)) BK579.out (by decide)) (fun _ hk => hk.1.2) (.int .i64 t570)) (fun _ hk => hk.1.2) (.int .i64 t571)) (fun _ hk => hk.1.2) (.int .i64 t572)) (fun _ hk => hk.1.2) (.int .i64 t573)) (fun _ hk => hk.2) (.int .i64 t574)) (fun _ hk => hk.2) (.int .i64 t575)) (fun _ hk => hk.2) (.int .i64 t576)) (fun _ hk => hk.2) (.int .i64 t577)) (fun _ h_ => h_.1)) (fun _ h_ => h_.1))) hb); replace BK547 := zbl BK547.out hb; replace BK548 := zbl BK548.out hb; replace BK553 := zbl BK553.out hb; replace BK558 := zbl BK558.out hb; replace BK578 := Aside0.mk (blk_below (g := gb578) (o := .cells #[.int .i64 t570, .int .i64 t571, .int .i64 t572, .int .i64 t573] 30 (0, 0)) (zbp BK578.out) hb); replace BK579 := Aside0.mk (blk_below (g := gb579) (o := .cells #[.int .i64 t574, .int .i64 t575, .int .i64 t576, .int .i64 t577] 30 (0, 0)) (zbp BK579.out) hb); replace HB := Aside0.mk (below_step (zhB HB.out) hb); (try clear hb); (try clear hk); have hcz146_0 : w145.cell? ⟨gb579, 0, none⟩ = some (.int .i64 t574) := (blk_cell BK579.out 0).trans rfl; have hcz146_1 : w145.cell? ⟨gb579, 1, none⟩ = some (.int .i64 t575) := (blk_cell BK579.out 1).trans rfl; have hcz146_2 : w145.cell? ⟨gb579, 2, none⟩ = some (.int .i64 t576) := (blk_cell BK579.out 2).trans rfl; have hcz146_3 : w145.cell? ⟨gb579, 3, none⟩ = some (.int .i64 t577) := (blk_cell BK579.out 3).trans rfl; have hfz146_0 := blk_frozen BK579.out 0; have hfz146_1 := blk_frozen BK579.out 1; have hfz146_2 := blk_frozen BK579.out 2; have hfz146_3 := blk_frozen BK579.out 3; have hcz147_0 : w145.cell? ⟨gb578, 0, none⟩ = some (.int .i64 t570) := (blk_cell BK578.out 0).trans rfl; have hcz147_1 : w145.cell? ⟨gb578, 1, none⟩ = some (.int .i64 t571) := (blk_cell BK578.out 1).trans rfl; have hcz147_2 : w145.cell? ⟨gb578, 2, none⟩ = some (.int .i64 t572) := (blk_cell BK578.out 2).trans rfl; have hcz147_3 : w145.cell? ⟨gb578, 3, none⟩ = some (.int .i64 t573) := (blk_cell BK578.out 3).trans rfl; have hfz147_0 := blk_frozen BK578.out 0; have hfz147_1 := blk_frozen BK578.out 1; have hfz147_2 := blk_frozen BK578.out 2; have hfz147_3 := blk_frozen BK578.out 3) | ((with_reducible refine gate_callee (f := 26) rfl ?_); refine goesL_ (some 118) rfl rfl Try.func26 (by kernel_rfl) rfl #[.agg #[.int .i64 t574, .int .i64 t575, .int .i64 t576, .int .i64 t577], .agg #[.int .i64 t570, .int .i64 t571, .int .i64 t572, .int .i64 t573]] rfl zlx ?_; (with_reducible refine (impl_CompareTables.calls kj49 t574 t575 t576 t577 t570 t571 t572 t573 t582 t583 _ A128.out).mono ?_); rintro e w148 ⟨rfl, hb⟩; refine ⟨_, rfl, ?_⟩; replace HO_548002 := Aside0.mk (Kd.Q_below (by refine zDQ ?_; exact HO_548002.out) hb); replace HO_549002 := Aside0.mk (Kd.Q_below (by refine zDQ ?_; exact HO_549002.out) hb); replace BK547 := zbl BK547.out hb; replace BK548 := zbl BK548.out hb; replace BK553 := zbl BK553.out hb; replace BK558 := zbl BK558.out hb; replace BK578 := zbl BK578.out hb; replace BK579 := zbl BK579.out hb; replace HB := Aside0.mk (below_step (zhB HB.out) hb); (try clear hb); have hcz149_0 : w148.cell? ⟨gb578, 0, none⟩ = some (.int .i64 t570) := (blk_cell BK578.out 0).trans rfl; have hcz149_1 : w148.cell? ⟨gb578, 1, none⟩ = some (.int .i64 t571) := (blk_cell BK578.out 1).trans rfl; have hcz149_2 : w148.cell? ⟨gb578, 2, none⟩ = some (.int .i64 t572) := (blk_cell BK578.out 2).trans rfl; have hcz149_3 : w148.cell? ⟨gb578, 3, none⟩ = some (.int .i64 t573) := (blk_cell BK578.out 3).trans rfl; have hfz149_0 := blk_frozen BK578.out 0; have hfz149_1 := blk_frozen BK578.out 1; have hfz149_2 := blk_frozen BK578.out 2; have hfz149_3 := blk_frozen BK578.out 3; have hcz150_0 : w148.cell? ⟨gb579, 0, none⟩ = some (.int .i64 t574) := (blk_cell BK579.out 0).trans rfl; have hcz150_1 : w148.cell? ⟨gb579, 1, none⟩ = some (.int .i64 t575) := (blk_cell BK579.out 1).trans rfl; have hcz150_2 : w148.cell? ⟨gb579, 2, none⟩ = some (.int .i64 t576) := (blk_cell BK579.out 2).trans rfl; have hcz150_3 : w148.cell? ⟨gb579, 3, none⟩ = some (.int .i64 t577) := (blk_cell BK579.out 3).trans rfl; have hfz150_0 := blk_frozen BK579.out 0; have hfz150_1 := blk_frozen BK579.out 1; have hfz150_2 := blk_frozen BK579.out 2; have hfz150_3 := blk_frozen BK579.out 3) | ((with_reducible refine gate_callee (f := 27) rfl ?_); refine goesL_ (some 124) rfl rfl Try.func27 (by kernel_rfl) rfl #[.agg #[.int .i64 t570, .int .i64 t571, .int .i64 t572, .int .i64 t573], .agg #[.int .i64 t574, .int .i64 t575, .int .i64 t576, .int .i64 t577]] rfl zlx ?_; (with_reducible refine (spec_CompareTables.calls kj49 t570 t571 t572 t573 t574 t575 t576 t577 t584 t585 _ A129.out).mono ?_); rintro e w151 ⟨rfl, hb⟩; refine ⟨_, rfl, ?_⟩; replace HO_548002 := Aside0.mk (Kd.Q_below (by refine zDQ ?_; exact HO_548002.out) hb); replace HO_549002 := Aside0.mk (Kd.Q_below (by refine zDQ ?_; exact HO_549002.out) hb); replace BK547 := zbl BK547.out hb; replace BK548 := zbl BK548.out hb; replace BK553 := zbl BK553.out hb; replace BK558 := zbl BK558.out hb; replace BK578 := zbl BK578.out hb; replace BK579 := zbl BK579.out hb; replace HB := Aside0.mk (below_step (zhB HB.out) hb); (try clear hb)))
       (try simp only [Act.put, List.setIfInBounds_toArray, List.set_cons_zero, List.set_cons_succ])
       go_cut [149] (fun v149 wc => ∃ (kq : Nat) (x149_129 : Bool), v149 = .bool x149_129 ∧ Aside0 (laws_FnLimits.j3 kq l0 x149_129 = some r) ∧ Aside0 (kq ≤ kj49) ∧ Aside0 (Kd.Q (Kd.int .i64) 3 wc w.heap.size (fun k_ => some k_ ≠ ((.slice Ao16 t543.length co16) : Value).ownBlock) (.slice Ao13 t538.length co13) t538) ∧ Aside0 (Kd.Q (Kd.int .i64) 3 wc w.heap.size (fun k_ => some k_ ≠ ((.slice Ao13 t538.length co13) : Value).ownBlock) (.slice Ao16 t543.length co16) t543) ∧ Aside0 (wc.heap[gb547]? = some (.cells #[.int .i64 t536, .int .i64 t537, (.slice Ao13 t538.length co13)] 26 (0, 0))) ∧ Aside0 (wc.heap[gb548]? = some (.cells #[.int .i64 t541, .int .i64 t542, (.slice Ao16 t543.length co16)] 26 (0, 0))) ∧ Aside0 (wc.heap[gb553]? = some (.cells #[.int .i64 t550, .int .i64 t551] 37 (0, 0))) ∧ Aside0 (wc.heap[gb558]? = some (.cells #[.int .i64 t555, .int .i64 t556] 37 (0, 0))) ∧ Aside0 (wc.heap[gb578]? = some (.cells #[.int .i64 t570, .int .i64 t571, .int .i64 t572, .int .i64 t573] 30 (0, 0))) ∧ Aside0 (wc.heap[gb579]? = some (.cells #[.int .i64 t574, .int .i64 t575, .int .i64 t576, .int .i64 t577] 30 (0, 0))) ∧ Aside0 (Below w.heap.size w wc))
       case first =>
        as_aux_lemma =>
        have H := HC130.out
        clear HC130
        by_cases c152 : t580 = t584
        ·rw [if_pos c152] at H
         have c152b0 : (t580 == t584) = true := beq_iff_eq.mpr c152
         have c152b1 : (t580 != t584) = false := bne_eq_false_iff_eq.mpr c152
         clear c152
         (first | rw [c152b0] | (simp only [i64_w, i32_w]; rw [c152b0]) | skip)
         by_cases c153 : (t581 != t585) = true
         ·rw [if_pos c153] at H
          have c153b0 : (t581 != t585) = true := c153
          (try (have c153b1 : decide (t581 = t585) = false := by simpa using c153))
          (try (have c153b2 : (t581 == t585) = false := by simpa using c153))
          (try (have c153b3 : ¬ (t581 = t585) := by simpa using c153))
          clear c153
          as_aux_lemma =>
           have H' := Aside0.mk H
           clear H
           go_wp2
           go_meet
           case rel => exact ⟨_, (true), zrx, H', ⟨by have := HJ6.out; have := HJ49.out; first | omega | exact Nat.le_refl _⟩, ⟨by refine zDQ ?_; exact HO_548002.out⟩, ⟨by refine zDQ ?_; exact HO_549002.out⟩, ⟨by refine zbx ?_; exact BK547.out⟩, ⟨by refine zbx ?_; exact BK548.out⟩, ⟨by refine zbx ?_; exact BK553.out⟩, ⟨by refine zbx ?_; exact BK558.out⟩, ⟨by refine zbx ?_; exact BK578.out⟩, ⟨by refine zbx ?_; exact BK579.out⟩, ⟨zhB HB.out⟩⟩
         ·rw [if_neg c153] at H
          have c153b0 : (t581 != t585) = false := by simpa using c153
          (try (have c153b1 : decide (t581 = t585) = true := by simpa using c153))
          (try (have c153b2 : (t581 == t585) = true := by simpa using c153))
          clear c153
          by_cases c154 : (t583 != t581) = true
          ·rw [if_pos c154] at H
           have c154b0 : (t583 != t581) = true := c154
           (try (have c154b1 : decide (t583 = t581) = false := by simpa using c154))
           (try (have c154b2 : (t583 == t581) = false := by simpa using c154))
           (try (have c154b3 : ¬ (t583 = t581) := by simpa using c154))
           clear c154
           as_aux_lemma =>
            have H' := Aside0.mk H
            clear H
            go_wp2
            go_meet
            case rel => exact ⟨_, (true), zrx, H', ⟨by have := HJ6.out; have := HJ49.out; first | omega | exact Nat.le_refl _⟩, ⟨by refine zDQ ?_; exact HO_548002.out⟩, ⟨by refine zDQ ?_; exact HO_549002.out⟩, ⟨by refine zbx ?_; exact BK547.out⟩, ⟨by refine zbx ?_; exact BK548.out⟩, ⟨by refine zbx ?_; exact BK553.out⟩, ⟨by refine zbx ?_; exact BK558.out⟩, ⟨by refine zbx ?_; exact BK578.out⟩, ⟨by refine zbx ?_; exact BK579.out⟩, ⟨zhB HB.out⟩⟩
          ·rw [if_neg c154] at H
           have c154b0 : (t583 != t581) = false := by simpa using c154
           (try (have c154b1 : decide (t583 = t581) = true := by simpa using c154))
           (try (have c154b2 : (t583 == t581) = true := by simpa using c154))
           clear c154
           by_cases c155 : t581 = true
           ·subst c155
            rw [if_pos rfl] at H
            as_aux_lemma =>
             have H' := Aside0.mk H
             clear H
             go_wp2
             go_meet
             case rel => exact ⟨_, (((Int.tmod (wrap64 (t580 + t582)) 3) != 0)), zrx, H', ⟨by have := HJ6.out; have := HJ49.out; first | omega | exact Nat.le_refl _⟩, ⟨by refine zDQ ?_; exact HO_548002.out⟩, ⟨by refine zDQ ?_; exact HO_549002.out⟩, ⟨by refine zbx ?_; exact BK547.out⟩, ⟨by refine zbx ?_; exact BK548.out⟩, ⟨by refine zbx ?_; exact BK553.out⟩, ⟨by refine zbx ?_; exact BK558.out⟩, ⟨by refine zbx ?_; exact BK578.out⟩, ⟨by refine zbx ?_; exact BK579.out⟩, ⟨zhB HB.out⟩⟩
           ·replace c155 := Bool.eq_false_iff.mpr c155
            subst c155
            rw [if_neg (show ¬ (false = true) by decide)] at H
            as_aux_lemma =>
             have H' := Aside0.mk H
             clear H
             go_wp2
             go_meet
             case rel => exact ⟨_, (false), zrx, H', ⟨by have := HJ6.out; have := HJ49.out; first | omega | exact Nat.le_refl _⟩, ⟨by refine zDQ ?_; exact HO_548002.out⟩, ⟨by refine zDQ ?_; exact HO_549002.out⟩, ⟨by refine zbx ?_; exact BK547.out⟩, ⟨by refine zbx ?_; exact BK548.out⟩, ⟨by refine zbx ?_; exact BK553.out⟩, ⟨by refine zbx ?_; exact BK558.out⟩, ⟨by refine zbx ?_; exact BK578.out⟩, ⟨by refine zbx ?_; exact BK579.out⟩, ⟨zhB HB.out⟩⟩
        ·rw [if_neg c152] at H
         have c152b0 : (t580 == t584) = false := beq_eq_false_iff_ne.mpr c152
         have c152b1 : (t580 != t584) = true := bne_iff_ne.mpr c152
         (first | rw [c152b0] | (simp only [i64_w, i32_w]; rw [c152b0]) | skip)
         as_aux_lemma =>
          have H' := Aside0.mk H
          clear H
          go_wp2
          go_meet
          case rel => exact ⟨_, (true), zrx, H', ⟨by have := HJ6.out; have := HJ49.out; first | omega | exact Nat.le_refl _⟩, ⟨by refine zDQ ?_; exact HO_548002.out⟩, ⟨by refine zDQ ?_; exact HO_549002.out⟩, ⟨by refine zbx ?_; exact BK547.out⟩, ⟨by refine zbx ?_; exact BK548.out⟩, ⟨by refine zbx ?_; exact BK553.out⟩, ⟨by refine zbx ?_; exact BK558.out⟩, ⟨by refine zbx ?_; exact BK578.out⟩, ⟨by refine zbx ?_; exact BK579.out⟩, ⟨zhB HB.out⟩⟩
       case rest =>
        clear HC130
        try clear c1
        try clear c2
        try clear p2
        try clear c3
        try clear c4
        try clear c5
        try clear c6
        try clear p6
        try clear c7
        try clear c8
        try clear c9
        try clear c10
        try clear c11
        try clear c12
        try clear c13
        try clear c14
        try clear c15
        try clear c21
        try clear c22
        try clear c23
        try clear c25
        try clear c26
        try clear c27
        try clear c29
        try clear c30
        try clear c31
        try clear c33
        try clear c33b0
        try clear c33b1
        try clear c34
        try clear c34b0
        try clear c35
        try clear c36
        try clear c37
        try clear c39
        try clear c40
        try clear c42
        try clear c43
        try clear c44
        try clear c46
        try clear c47
        try clear c49
        try clear c51
        try clear c54
        try clear c55
        try clear c56
        try clear c58
        try clear c59
        try clear c63
        try clear c64
        try clear p64
        try clear c65
        try clear c66
        try clear c68
        try clear c70
        try clear c71
        try clear c72
        try clear c73
        try clear c75
        try clear c77
        try clear c78
        try clear c78b0
        try clear c79
        try clear c80
        try clear c81
        try clear c82
        try clear c86
        try clear c87
        try clear c88
        try clear c89
        try clear c90
        try clear c92
        try clear c93
        try clear c94
        try clear c96
        try clear c97
        try clear c98
        try clear c99
        try clear c103
        try clear c104
        try clear c105
        try clear c106
        try clear c107
        try clear c109
        try clear c110
        try clear c111
        try clear c113
        try clear c114
        try clear c115
        try clear c116
        try clear c120
        try clear c121
        try clear c122
        try clear c123
        try clear c124
        try clear c134
        try clear c135
        try clear c136
        try clear c137
        try clear c138
        try clear c140
        try clear c141
        try clear c142
        try clear c143
        try clear c152
        try clear c152b0
        try clear c152b1
        try clear c153
        try clear c153b0
        try clear c153b1
        try clear c153b2
        try clear c154
        try clear c154b0
        try clear c154b1
        try clear c154b2
        try clear c155
        try clear hcz100_0
        try clear hcz100_1
        try clear hcz100_2
        try clear hcz100_3
        try clear hcz108_0
        try clear hcz108_1
        try clear hcz112_0
        try clear hcz112_1
        try clear hcz117_0
        try clear hcz117_1
        try clear hcz117_2
        try clear hcz117_3
        try clear hcz125_0
        try clear hcz125_1
        try clear hcz12_0
        try clear hcz12_1
        try clear hcz12_2
        try clear hcz139_0
        try clear hcz139_1
        try clear hcz139_2
        try clear hcz139_3
        try clear hcz144_0
        try clear hcz144_1
        try clear hcz144_2
        try clear hcz144_3
        try clear hcz146_0
        try clear hcz146_1
        try clear hcz146_2
        try clear hcz146_3
        try clear hcz147_0
        try clear hcz147_1
        try clear hcz147_2
        try clear hcz147_3
        try clear hcz149_0
        try clear hcz149_1
        try clear hcz149_2
        try clear hcz149_3
        try clear hcz150_0
        try clear hcz150_1
        try clear hcz150_2
        try clear hcz150_3
        try clear hcz15_0
        try clear hcz15_1
        try clear hcz15_2
        try clear hcz18_0
        try clear hcz18_1
        try clear hcz18_2
        try clear hcz19_0
        try clear hcz19_1
        try clear hcz19_2
        try clear hcz24_0
        try clear hcz24_1
        try clear hcz25_0
        try clear hcz25_1
        try clear hcz25_2
        try clear hcz26_0
        try clear hcz26_1
        try clear hcz26_2
        try clear hcz32_0
        try clear hcz32_1
        try clear hcz38_0
        try clear hcz38_1
        try clear hcz41_0
        try clear hcz41_1
        try clear hcz45_0
        try clear hcz45_1
        try clear hcz48_0
        try clear hcz48_1
        try clear hcz57_0
        try clear hcz57_1
        try clear hcz57_2
        try clear hcz60_0
        try clear hcz60_1
        try clear hcz60_2
        try clear hcz67_0
        try clear hcz67_1
        try clear hcz67_2
        try clear hcz67_3
        try clear hcz74_0
        try clear hcz74_1
        try clear hcz74_2
        try clear hcz83_0
        try clear hcz83_1
        try clear hcz83_2
        try clear hcz83_3
        try clear hcz91_0
        try clear hcz91_1
        try clear hcz95_0
        try clear hcz95_1
        try clear hfz100_0
        try clear hfz100_1
        try clear hfz100_2
        try clear hfz100_3
        try clear hfz108_0
        try clear hfz108_1
        try clear hfz112_0
        try clear hfz112_1
        try clear hfz117_0
        try clear hfz117_1
        try clear hfz117_2
        try clear hfz117_3
        try clear hfz125_0
        try clear hfz125_1
        try clear hfz12_0
        try clear hfz12_1
        try clear hfz12_2
        try clear hfz139_0
        try clear hfz139_1
        try clear hfz139_2
        try clear hfz139_3
        try clear hfz144_0
        try clear hfz144_1
        try clear hfz144_2
        try clear hfz144_3
        try clear hfz146_0
        try clear hfz146_1
        try clear hfz146_2
        try clear hfz146_3
        try clear hfz147_0
        try clear hfz147_1
        try clear hfz147_2
        try clear hfz147_3
        try clear hfz149_0
        try clear hfz149_1
        try clear hfz149_2
        try clear hfz149_3
        try clear hfz150_0
        try clear hfz150_1
        try clear hfz150_2
        try clear hfz150_3
        try clear hfz15_0
        try clear hfz15_1
        try clear hfz15_2
        try clear hfz18_0
        try clear hfz18_1
        try clear hfz18_2
        try clear hfz19_0
        try clear hfz19_1
        try clear hfz19_2
        try clear hfz24_0
        try clear hfz24_1
        try clear hfz25_0
        try clear hfz25_1
        try clear hfz25_2
        try clear hfz26_0
        try clear hfz26_1
        try clear hfz26_2
        try clear hfz32_0
        try clear hfz32_1
        try clear hfz38_0
        try clear hfz38_1
        try clear hfz41_0
        try clear hfz41_1
        try clear hfz45_0
        try clear hfz45_1
        try clear hfz48_0
        try clear hfz48_1
        try clear hfz57_0
        try clear hfz57_1
        try clear hfz57_2
        try clear hfz60_0
        try clear hfz60_1
        try clear hfz60_2
        try clear hfz67_0
        try clear hfz67_1
        try clear hfz67_2
        try clear hfz67_3
        try clear hfz74_0
        try clear hfz74_1
        try clear hfz74_2
        try clear hfz83_0
        try clear hfz83_1
        try clear hfz83_2
        try clear hfz83_3
        try clear hfz91_0
        try clear hfz91_1
        try clear hfz95_0
        try clear hfz95_1
        try clear p2
        try clear p6
        try clear p64
        obtain ⟨kq, x149_129, rfl, HA, HJ129, HO_548002, HO_549002, BK547, BK548, BK553, BK558, BK578, BK579, HB⟩ := hcut
        cases kq with
        | zero => exact absurd HA.out (by simp [laws_FnLimits.j3])
        | succ kj129 =>
         have H := HA.out
         clear HA
         simp only [laws_FnLimits.j3] at H
         by_cases c156 : x149_129 = true
         ·subst c156
          rw [if_pos rfl] at H
          as_aux_lemma =>
           exact absurd (Option.some.inj H) (by rw [hr_]; decide)
         ·replace c156 := Bool.eq_false_iff.mpr c156
          subst c156
          rw [if_neg (show ¬ (false = true) by decide)] at H
          replace H := Option.bind_eq_some_iff.mp H
          obtain ⟨⟨t586, t587, t588, t589, t590, t591, t592, t593⟩, A1570, H⟩ := H
          replace H : ((impl_AddTables.f kj129 t586 t587 t588 t589 t590 t591 t592 t593).bind fun bt596 => ((impl_AddTables.f kj129 t590 t591 t592 t593 t586 t587 t588 t589).bind fun bt602 => ((spec_AddTables.f t586 t587 t588 t589 t590 t591 t592 t593).bind fun bt608 => (if (bt596.1 == bt608.1 && (bt596.2.1 == bt608.2.1 && (bt596.2.2.1 == bt608.2.2.1 && (bt596.2.2.2.1 == bt608.2.2.2.1)))) = true then (if (bt596.2.2.2.2 == bt608.2.2.2.2) = true then (if (bt602.2.2.2.2 == bt596.2.2.2.2) = true then (some (bt602.1 == bt596.1 && (bt602.2.1 == bt596.2.1 && (bt602.2.2.1 == bt596.2.2.1 && (bt602.2.2.2.1 == bt596.2.2.2.1))))) else (some false)) else (some false)) else (some false))))) = some r := H
          have A157 := Aside0.mk A1570
          clear A1570
          replace H := Option.bind_eq_some_iff.mp H
          obtain ⟨⟨t596, t597, t598, t599, t600⟩, A1580, H⟩ := H
          replace H : ((impl_AddTables.f kj129 t590 t591 t592 t593 t586 t587 t588 t589).bind fun bt602 => ((spec_AddTables.f t586 t587 t588 t589 t590 t591 t592 t593).bind fun bt608 => (if (t596 == bt608.1 && (t597 == bt608.2.1 && (t598 == bt608.2.2.1 && (t599 == bt608.2.2.2.1)))) = true then (if (t600 == bt608.2.2.2.2) = true then (if (bt602.2.2.2.2 == t600) = true then (some (bt602.1 == t596 && (bt602.2.1 == t597 && (bt602.2.2.1 == t598 && (bt602.2.2.2.1 == t599))))) else (some false)) else (some false)) else (some false)))) = some r := H
          have A158 := Aside0.mk A1580
          clear A1580
          replace H := Option.bind_eq_some_iff.mp H
          obtain ⟨⟨t602, t603, t604, t605, t606⟩, A1590, H⟩ := H
          replace H : ((spec_AddTables.f t586 t587 t588 t589 t590 t591 t592 t593).bind fun bt608 => (if (t596 == bt608.1 && (t597 == bt608.2.1 && (t598 == bt608.2.2.1 && (t599 == bt608.2.2.2.1)))) = true then (if (t600 == bt608.2.2.2.2) = true then (if (t606 == t600) = true then (some (t602 == t596 && (t603 == t597 && (t604 == t598 && (t605 == t599))))) else (some false)) else (some false)) else (some false))) = some r := H
          have A159 := Aside0.mk A1590
          clear A1590
          replace H := Option.bind_eq_some_iff.mp H
          obtain ⟨⟨t608, t609, t610, t611, t612⟩, A1600, H⟩ := H
          replace H : (if (t596 == t608 && (t597 == t609 && (t598 == t610 && (t599 == t611)))) = true then (if (t600 == t612) = true then (if (t606 == t600) = true then (some (t602 == t596 && (t603 == t597 && (t604 == t598 && (t605 == t599))))) else (some false)) else (some false)) else (some false)) = some r := H
          have A160 := Aside0.mk A1600
          clear A1600
          by_cases c161 : (t596 == t608 && (t597 == t609 && (t598 == t610 && (t599 == t611)))) = true
          ·rw [if_pos c161] at H
           have c161b0 : (t596 == t608 && (t597 == t609 && (t598 == t610 && (t599 == t611)))) = true := c161
           (try (have c161b1 : decide (t596 = t608 && (t597 == t609 && (t598 == t610 && (t599 == t611)))) = true := by simpa using c161))
           (try (have c161b2 : (t596 == t608 && (t597 == t609 && (t598 == t610 && (t599 == t611)))) = true := by simpa using c161))
           clear c161
           by_cases c162 : (t600 == t612) = true
           ·rw [if_pos c162] at H
            have c162b0 : (t600 == t612) = true := c162
            (try (have c162b1 : decide (t600 = t612) = true := by simpa using c162))
            (try (have c162b2 : (t600 == t612) = true := by simpa using c162))
            clear c162
            by_cases c163 : (t606 == t600) = true
            ·rw [if_pos c163] at H
             have c163b0 : (t606 == t600) = true := c163
             (try (have c163b1 : decide (t606 = t600) = true := by simpa using c163))
             (try (have c163b2 : (t606 == t600) = true := by simpa using c163))
             clear c163
             focus
              obtain rfl := Option.some.inj H
              go_wp2_with (first | ((with_reducible refine gate_callee (f := 28) rfl ?_); refine goesL_ (some 152) rfl rfl Try.func28 (by kernel_rfl) rfl #[.slice A0 l0.length c0] rfl zlx ?_; (with_reducible refine (spec_DrawAddTables.calls _ _ l0 t586 t587 t588 t589 t590 t591 t592 t593 _ ?side1 ?side2 A157.out).mono ?_); (case side1 => exact zCx (Kd.C_below HR0.out HB.out)); (case side2 => exact HC0.out); rintro e w164 ⟨rfl, hb⟩; refine ⟨_, rfl, ?_⟩; replace HO_548002 := Aside0.mk (Kd.Q_below (by refine zDQ ?_; exact HO_548002.out) hb); replace HO_549002 := Aside0.mk (Kd.Q_below (by refine zDQ ?_; exact HO_549002.out) hb); replace BK547 := zbl BK547.out hb; replace BK548 := zbl BK548.out hb; replace BK553 := zbl BK553.out hb; replace BK558 := zbl BK558.out hb; replace BK578 := zbl BK578.out hb; replace BK579 := zbl BK579.out hb; replace HB := Aside0.mk (below_step (zhB HB.out) hb); (try clear hb)) | ((with_reducible refine gate_dst (N := 24) rfl ?_); refine box_event ?hg (N := 24) ?hd (cs := #[.int .i64 0, .int .i64 0, .int .i64 0, .int .i64 0]) (t := 30) ?hr ?_; (case hd => rfl); (case hg => rfl); (case hr => exact zsx); intro gb594 hg w165 hbox hb; replace HO_548002 := Aside0.mk (Kd.Q_below (by refine zDQ ?_; exact HO_548002.out) hb); replace HO_549002 := Aside0.mk (Kd.Q_below (by refine zDQ ?_; exact HO_549002.out) hb); have BK594 := Aside0.mk (hbox); have GW594 := zns hg HB.out; have GE594 := zns hg HB.out; replace HB := Aside0.mk (below_step (zhB HB.out) hb); have NB547_594 := znl hg BK547.out; have NB594_547 := zng hg BK547.out; replace BK547 := zbl BK547.out hb; have NB548_594 := znl hg BK548.out; have NB594_548 := zng hg BK548.out; replace BK548 := zbl BK548.out hb; have NB553_594 := znl hg BK553.out; have NB594_553 := zng hg BK553.out; replace BK553 := zbl BK553.out hb; have NB558_594 := znl hg BK558.out; have NB594_558 := zng hg BK558.out; replace BK558 := zbl BK558.out hb; have NB578_594 := znl hg BK578.out; have NB594_578 := zng hg BK578.out; replace BK578 := zbl BK578.out hb; have NB579_594 := znl hg BK579.out; have NB594_579 := zng hg BK579.out; replace BK579 := zbl BK579.out hb; clear hb hbox hg) | ((with_reducible refine gate_dst (N := 25) rfl ?_); refine box_event ?hg (N := 25) ?hd (cs := #[.int .i64 0, .int .i64 0, .int .i64 0, .int .i64 0]) (t := 30) ?hr ?_; (case hd => rfl); (case hg => rfl); (case hr => exact zsx); intro gb595 hg w166 hbox hb; replace HO_548002 := Aside0.mk (Kd.Q_below (by refine zDQ ?_; exact HO_548002.out) hb); replace HO_549002 := Aside0.mk (Kd.Q_below (by refine zDQ ?_; exact HO_549002.out) hb); have BK595 := Aside0.mk (hbox); have GW595 := zns hg HB.out; have GE595 := zns hg HB.out; replace HB := Aside0.mk (below_step (zhB HB.out) hb); have NB547_595 := znl hg BK547.out; have NB595_547 := zng hg BK547.out; replace BK547 := zbl BK547.out hb; have NB548_595 := znl hg BK548.out; have NB595_548 := zng hg BK548.out; replace BK548 := zbl BK548.out hb; have NB553_595 := znl hg BK553.out; have NB595_553 := zng hg BK553.out; replace BK553 := zbl BK553.out hb; have NB558_595 := znl hg BK558.out; have NB595_558 := zng hg BK558.out; replace BK558 := zbl BK558.out hb; have NB578_595 := znl hg BK578.out; have NB595_578 := zng hg BK578.out; replace BK578 := zbl BK578.out hb; have NB579_595 := znl hg BK579.out; have NB595_579 := zng hg BK579.out; replace BK579 := zbl BK579.out hb; have NB594_595 := znl hg BK594.out; have NB595_594 := zng hg BK594.out; replace BK594 := zbl BK594.out hb; clear hb hbox hg; have hnb167 := NB594_547.out; have hnc167 := NB547_594.out; have hnb168 := NB594_548.out; have hnc168 := NB548_594.out; have hnb169 := NB594_553.out; have hnc169 := NB553_594.out; have hnb170 := NB594_558.out; have hnc170 := NB558_594.out; have hnb171 := NB594_578.out; have hnc171 := NB578_594.out; have hnb172 := NB594_579.out; have hnc172 := NB579_594.out; have hnb173 := NB594_595.out; have hnc173 := NB595_594.out; have hcz174_0 : w166.cell? ⟨gb594, 0, none⟩ = some (.int .i64 0) := (blk_cell BK594.out 0).trans rfl; have hcz174_1 : w166.cell? ⟨gb594, 1, none⟩ = some (.int .i64 0) := (blk_cell BK594.out 1).trans rfl; have hcz174_2 : w166.cell? ⟨gb594, 2, none⟩ = some (.int .i64 0) := (blk_cell BK594.out 2).trans rfl; have hcz174_3 : w166.cell? ⟨gb594, 3, none⟩ = some (.int .i64 0) := (blk_cell BK594.out 3).trans rfl; have hfz174_0 := blk_frozen BK594.out 0; have hfz174_1 := blk_frozen BK594.out 1; have hfz174_2 := blk_frozen BK594.out 2; have hfz174_3 := blk_frozen BK594.out 3; have hnb175 := NB595_547.out; have hnc175 := NB547_595.out; have hnb176 := NB595_548.out; have hnc176 := NB548_595.out; have hnb177 := NB595_553.out; have hnc177 := NB553_595.out; have hnb178 := NB595_558.out; have hnc178 := NB558_595.out; have hnb179 := NB595_578.out; have hnc179 := NB578_595.out; have hnb180 := NB595_579.out; have hnc180 := NB579_595.out; have hcz181_0 : w166.cell? ⟨gb595, 0, none⟩ = some (.int .i64 0) := (blk_cell BK595.out 0).trans rfl; have hcz181_1 : w166.cell? ⟨gb595, 1, none⟩ = some (.int .i64 0) := (blk_cell BK595.out 1).trans rfl; have hcz181_2 : w166.cell? ⟨gb595, 2, none⟩ = some (.int .i64 0) := (blk_cell BK595.out 2).trans rfl; have hcz181_3 : w166.cell? ⟨gb595, 3, none⟩ = some (.int .i64 0) := (blk_cell BK595.out 3).trans rfl; have hfz181_0 := blk_frozen BK595.out 0; have hfz181_1 := blk_frozen BK595.out 1; have hfz181_2 := blk_frozen BK595.out 2; have hfz181_3 := blk_frozen BK595.out 3) | ((with_reducible refine gate_callee (f := 29) rfl ?_); refine goesL_ (some 158) rfl rfl Try.func29 (by kernel_rfl) rfl #[.agg #[.int .i64 t586, .int .i64 t587, .int .i64 t588, .int .i64 t589], .agg #[.int .i64 t590, .int .i64 t591, .int .i64 t592, .int .i64 t593]] rfl zlx ?_; (with_reducible refine (impl_AddTables.calls kj129 t586 t587 t588 t589 t590 t591 t592 t593 t596 t597 t598 t599 t600 _ A158.out).mono ?_); rintro e w182 ⟨rfl, hb⟩; refine ⟨_, rfl, ?_⟩; replace HO_548002 := Aside0.mk (Kd.Q_below (by (with_reducible repeat (first | apply Kd.Q_alloc | apply Kd.Q_drewN | apply Kd.Q_drew)); exact (Kd.Q_mono (Kd.Q_mono (Kd.Q_far (p := ⟨gb595, 3, none⟩) (Kd.Q_far (p := ⟨gb595, 2, none⟩) (Kd.Q_far (p := ⟨gb595, 1, none⟩) (Kd.Q_far (p := ⟨gb595, 0, none⟩) (Kd.Q_far (p := ⟨gb594, 3, none⟩) (Kd.Q_far (p := ⟨gb594, 2, none⟩) (Kd.Q_far (p := ⟨gb594, 1, none⟩) (Kd.Q_far (p := ⟨gb594, 0, none⟩) (Kd.Q_types (Kd.Q_types HO_548002.out BK594.out (by decide)) BK595.out (by decide)) (fun _ hk => hk.1.2) (.int .i64 t586)) (fun _ hk => hk.1.2) (.int .i64 t587)) (fun _ hk => hk.1.2) (.int .i64 t588)) (fun _ hk => hk.1.2) (.int .i64 t589)) (fun _ hk => hk.2) (.int .i64 t590)) (fun _ hk => hk.2) (.int .i64 t591)) (fun _ hk => hk.2) (.int .i64 t592)) (fun _ hk => hk.2) (.int .i64 t593)) (fun _ h_ => h_.1)) (fun _ h_ => h_.1))) hb); replace HO_549002 := Aside0.mk (Kd.Q_below (by (with_reducible repeat (first | apply Kd.Q_alloc | apply Kd.Q_drewN | apply Kd.Q_drew)); exact (Kd.Q_mono (Kd.Q_mono (Kd.Q_far (p := ⟨gb595, 3, none⟩) (Kd.Q_far (p := ⟨gb595, 2, none⟩) (Kd.Q_far (p := ⟨gb595, 1, none⟩) (Kd.Q_far (p := ⟨gb595, 0, none⟩) (Kd.Q_far (p := ⟨gb594, 3, none⟩) (Kd.Q_far (p := ⟨gb594, 2, none⟩) (Kd.Q_far (p := ⟨gb594, 1, none⟩) (Kd.Q_far (p := ⟨gb594, 0, none⟩) (Kd.Q_types (Kd.Q_types HO_549002.out BK594.out (by decide)) BK595.out (by decide)) (fun _ hk => hk.1.2) (.int .i64 t586)) (fun _ hk => hk.1.2) (.int .i64 t587)) (fun _ hk => hk.1.2) (.int .i64 t588)) (fun _ hk => hk.1.2) (.int .i64 t589)) (fun _ hk => hk.2) (.int .i64 t590)) (fun _ hk => hk.2) (.int .i64 t591)) (fun _ hk => hk.2) (.int .i64 t592)) (fun _ hk => hk.2) (.int .i64 t593)) (fun _ h_ => h_.1)) (fun _ h_ => h_.1))) hb); replace BK547 := zbl BK547.out hb; replace BK548 := zbl BK548.out hb; replace BK553 := zbl BK553.out hb; replace BK558 := zbl BK558.out hb; replace BK578 := zbl BK578.out hb; replace BK579 := zbl BK579.out hb; replace BK594 := Aside0.mk (blk_below (g := gb594) (o := .cells #[.int .i64 t586, .int .i64 t587, .int .i64 t588, .int .i64 t589] 30 (0, 0)) (zbp BK594.out) hb); replace BK595 := Aside0.mk (blk_below (g := gb595) (o := .cells #[.int .i64 t590, .int .i64 t591, .int .i64 t592, .int .i64 t593] 30 (0, 0)) (zbp BK595.out) hb); replace HB := Aside0.mk (below_step (zhB HB.out) hb); (try clear hb); (try clear hk)) | ((with_reducible refine gate_dst (N := 26) rfl ?_); refine box_event ?hg (N := 26) ?hd (cs := #[.int .i64 0, .int .i64 0, .int .i64 0, .int .i64 0]) (t := 30) ?hr ?_; (case hd => rfl); (case hg => rfl); (case hr => exact zsx); intro gb601 hg w183 hbox hb; replace HO_548002 := Aside0.mk (Kd.Q_below (by refine zDQ ?_; exact HO_548002.out) hb); replace HO_549002 := Aside0.mk (Kd.Q_below (by refine zDQ ?_; exact HO_549002.out) hb); have BK601 := Aside0.mk (hbox); have GW601 := zns hg HB.out; have GE601 := zns hg HB.out; replace HB := Aside0.mk (below_step (zhB HB.out) hb); have NB547_601 := znl hg BK547.out; have NB601_547 := zng hg BK547.out; replace BK547 := zbl BK547.out hb; have NB548_601 := znl hg BK548.out; have NB601_548 := zng hg BK548.out; replace BK548 := zbl BK548.out hb; have NB553_601 := znl hg BK553.out; have NB601_553 := zng hg BK553.out; replace BK553 := zbl BK553.out hb; have NB558_601 := znl hg BK558.out; have NB601_558 := zng hg BK558.out; replace BK558 := zbl BK558.out hb; have NB578_601 := znl hg BK578.out; have NB601_578 := zng hg BK578.out; replace BK578 := zbl BK578.out hb; have NB579_601 := znl hg BK579.out; have NB601_579 := zng hg BK579.out; replace BK579 := zbl BK579.out hb; have NB594_601 := znl hg BK594.out; have NB601_594 := zng hg BK594.out; replace BK594 := zbl BK594.out hb; have NB595_601 := znl hg BK595.out; have NB601_595 := zng hg BK595.out; replace BK595 := zbl BK595.out hb; clear hb hbox hg; have hnb184 := NB601_547.out; have hnc184 := NB547_601.out; have hnb185 := NB601_548.out; have hnc185 := NB548_601.out; have hnb186 := NB601_553.out; have hnc186 := NB553_601.out; have hnb187 := NB601_558.out; have hnc187 := NB558_601.out; have hnb188 := NB601_578.out; have hnc188 := NB578_601.out; have hnb189 := NB601_579.out; have hnc189 := NB579_601.out; have hnb190 := NB601_594.out; have hnc190 := NB594_601.out; have hnb191 := NB601_595.out; have hnc191 := NB595_601.out; have hcz192_0 : w183.cell? ⟨gb601, 0, none⟩ = some (.int .i64 0) := (blk_cell BK601.out 0).trans rfl; have hcz192_1 : w183.cell? ⟨gb601, 1, none⟩ = some (.int .i64 0) := (blk_cell BK601.out 1).trans rfl; have hcz192_2 : w183.cell? ⟨gb601, 2, none⟩ = some (.int .i64 0) := (blk_cell BK601.out 2).trans rfl; have hcz192_3 : w183.cell? ⟨gb601, 3, none⟩ = some (.int .i64 0) := (blk_cell BK601.out 3).trans rfl; have hfz192_0 := blk_frozen BK601.out 0; have hfz192_1 := blk_frozen BK601.out 1; have hfz192_2 := blk_frozen BK601.out 2; have hfz192_3 := blk_frozen BK601.out 3; have hcz193_0 : w183.cell? ⟨gb595, 0, none⟩ = some (.int .i64 t590) := (blk_cell BK595.out 0).trans rfl; have hcz193_1 : w183.cell? ⟨gb595, 1, none⟩ = some (.int .i64 t591) := (blk_cell BK595.out 1).trans rfl; have hcz193_2 : w183.cell? ⟨gb595, 2, none⟩ = some (.int .i64 t592) := (blk_cell BK595.out 2).trans rfl; have hcz193_3 : w183.cell? ⟨gb595, 3, none⟩ = some (.int .i64 t593) := (blk_cell BK595.out 3).trans rfl; have hfz193_0 := blk_frozen BK595.out 0; have hfz193_1 := blk_frozen BK595.out 1; have hfz193_2 := blk_frozen BK595.out 2; have hfz193_3 := blk_frozen BK595.out 3; have hcz194_0 : w183.cell? ⟨gb594, 0, none⟩ = some (.int .i64 t586) := (blk_cell BK594.out 0).trans rfl; have hcz194_1 : w183.cell? ⟨gb594, 1, none⟩ = some (.int .i64 t587) := (blk_cell BK594.out 1).trans rfl; have hcz194_2 : w183.cell? ⟨gb594, 2, none⟩ = some (.int .i64 t588) := (blk_cell BK594.out 2).trans rfl; have hcz194_3 : w183.cell? ⟨gb594, 3, none⟩ = some (.int .i64 t589) := (blk_cell BK594.out 3).trans rfl; have hfz194_0 := blk_frozen BK594.out 0; have hfz194_1 := blk_frozen BK594.out 1; have hfz194_2 := blk_frozen BK594.out 2; have hfz194_3 := blk_frozen BK594.out 3) | ((with_reducible refine gate_callee (f := 29) rfl ?_); refine goesL_ (some 164) rfl rfl Try.func29 (by kernel_rfl) rfl #[.agg #[.int .i64 t590, .int .i64 t591, .int .i64 t592, .int .i64 t593], .agg #[.int .i64 t586, .int .i64 t587, .int .i64 t588, .int .i64 t589]] rfl zlx ?_; (with_reducible refine (impl_AddTables.calls kj129 t590 t591 t592 t593 t586 t587 t588 t589 t602 t603 t604 t605 t606 _ A159.out).mono ?_); rintro e w195 ⟨rfl, hb⟩; refine ⟨_, rfl, ?_⟩; replace HO_548002 := Aside0.mk (Kd.Q_below (by (with_reducible repeat (first | apply Kd.Q_alloc | apply Kd.Q_drewN | apply Kd.Q_drew)); exact (Kd.Q_mono (Kd.Q_far (p := ⟨gb601, 3, none⟩) (Kd.Q_far (p := ⟨gb601, 2, none⟩) (Kd.Q_far (p := ⟨gb601, 1, none⟩) (Kd.Q_far (p := ⟨gb601, 0, none⟩) (Kd.Q_types HO_548002.out BK601.out (by decide)) (fun _ hk => hk.2) (.int .i64 t596)) (fun _ hk => hk.2) (.int .i64 t597)) (fun _ hk => hk.2) (.int .i64 t598)) (fun _ hk => hk.2) (.int .i64 t599)) (fun _ h_ => h_.1))) hb); replace HO_549002 := Aside0.mk (Kd.Q_below (by (with_reducible repeat (first | apply Kd.Q_alloc | apply Kd.Q_drewN | apply Kd.Q_drew)); exact (Kd.Q_mono (Kd.Q_far (p := ⟨gb601, 3, none⟩) (Kd.Q_far (p := ⟨gb601, 2, none⟩) (Kd.Q_far (p := ⟨gb601, 1, none⟩) (Kd.Q_far (p := ⟨gb601, 0, none⟩) (Kd.Q_types HO_549002.out BK601.out (by decide)) (fun _ hk => hk.2) (.int .i64 t596)) (fun _ hk => hk.2) (.int .i64 t597)) (fun _ hk => hk.2) (.int .i64 t598)) (fun _ hk => hk.2) (.int .i64 t599)) (fun _ h_ => h_.1))) hb); replace BK547 := zbl BK547.out hb; replace BK548 := zbl BK548.out hb; replace BK553 := zbl BK553.out hb; replace BK558 := zbl BK558.out hb; replace BK578 := zbl BK578.out hb; replace BK579 := zbl BK579.out hb; replace BK594 := zbl BK594.out hb; replace BK595 := zbl BK595.out hb; replace BK601 := Aside0.mk (blk_below (g := gb601) (o := .cells #[.int .i64 t596, .int .i64 t597, .int .i64 t598, .int .i64 t599] 30 (0, 0)) (zbp BK601.out) hb); replace HB := Aside0.mk (below_step (zhB HB.out) hb); (try clear hb); (try clear hk)) | ((with_reducible refine gate_dst (N := 28) rfl ?_); refine box_event ?hg (N := 28) ?hd (cs := #[.int .i64 0, .int .i64 0, .int .i64 0, .int .i64 0]) (t := 30) ?hr ?_; (case hd => rfl); (case hg => rfl); (case hr => exact zsx); intro gb607 hg w196 hbox hb; replace HO_548002 := Aside0.mk (Kd.Q_below (by refine zDQ ?_; exact HO_548002.out) hb); replace HO_549002 := Aside0.mk (Kd.Q_below (by refine zDQ ?_; exact HO_549002.out) hb); have BK607 := Aside0.mk (hbox); have GW607 := zns hg HB.out; have GE607 := zns hg HB.out; replace HB := Aside0.mk (below_step (zhB HB.out) hb); have NB547_607 := znl hg BK547.out; have NB607_547 := zng hg BK547.out; replace BK547 := zbl BK547.out hb; have NB548_607 := znl hg BK548.out; have NB607_548 := zng hg BK548.out; replace BK548 := zbl BK548.out hb; have NB553_607 := znl hg BK553.out; have NB607_553 := zng hg BK553.out; replace BK553 := zbl BK553.out hb; have NB558_607 := znl hg BK558.out; have NB607_558 := zng hg BK558.out; replace BK558 := zbl BK558.out hb; have NB578_607 := znl hg BK578.out; have NB607_578 := zng hg BK578.out; replace BK578 := zbl BK578.out hb; have NB579_607 := znl hg BK579.out; have NB607_579 := zng hg BK579.out; replace BK579 := zbl BK579.out hb; have NB594_607 := znl hg BK594.out; have NB607_594 := zng hg BK594.out; replace BK594 := zbl BK594.out hb; have NB595_607 := znl hg BK595.out; have NB607_595 := zng hg BK595.out; replace BK595 := zbl BK595.out hb; have NB601_607 := znl hg BK601.out; have NB607_601 := zng hg BK601.out; replace BK601 := zbl BK601.out hb; clear hb hbox hg; have hnb197 := NB607_547.out; have hnc197 := NB547_607.out; have hnb198 := NB607_548.out; have hnc198 := NB548_607.out; have hnb199 := NB607_553.out; have hnc199 := NB553_607.out; have hnb200 := NB607_558.out; have hnc200 := NB558_607.out; have hnb201 := NB607_578.out; have hnc201 := NB578_607.out; have hnb202 := NB607_579.out; have hnc202 := NB579_607.out; have hnb203 := NB607_594.out; have hnc203 := NB594_607.out; have hnb204 := NB607_595.out; have hnc204 := NB595_607.out; have hnb205 := NB607_601.out; have hnc205 := NB601_607.out; have hcz206_0 : w196.cell? ⟨gb607, 0, none⟩ = some (.int .i64 0) := (blk_cell BK607.out 0).trans rfl; have hcz206_1 : w196.cell? ⟨gb607, 1, none⟩ = some (.int .i64 0) := (blk_cell BK607.out 1).trans rfl; have hcz206_2 : w196.cell? ⟨gb607, 2, none⟩ = some (.int .i64 0) := (blk_cell BK607.out 2).trans rfl; have hcz206_3 : w196.cell? ⟨gb607, 3, none⟩ = some (.int .i64 0) := (blk_cell BK607.out 3).trans rfl; have hfz206_0 := blk_frozen BK607.out 0; have hfz206_1 := blk_frozen BK607.out 1; have hfz206_2 := blk_frozen BK607.out 2; have hfz206_3 := blk_frozen BK607.out 3; have hcz207_0 : w196.cell? ⟨gb594, 0, none⟩ = some (.int .i64 t586) := (blk_cell BK594.out 0).trans rfl; have hcz207_1 : w196.cell? ⟨gb594, 1, none⟩ = some (.int .i64 t587) := (blk_cell BK594.out 1).trans rfl; have hcz207_2 : w196.cell? ⟨gb594, 2, none⟩ = some (.int .i64 t588) := (blk_cell BK594.out 2).trans rfl; have hcz207_3 : w196.cell? ⟨gb594, 3, none⟩ = some (.int .i64 t589) := (blk_cell BK594.out 3).trans rfl; have hfz207_0 := blk_frozen BK594.out 0; have hfz207_1 := blk_frozen BK594.out 1; have hfz207_2 := blk_frozen BK594.out 2; have hfz207_3 := blk_frozen BK594.out 3; have hcz208_0 : w196.cell? ⟨gb595, 0, none⟩ = some (.int .i64 t590) := (blk_cell BK595.out 0).trans rfl; have hcz208_1 : w196.cell? ⟨gb595, 1, none⟩ = some (.int .i64 t591) := (blk_cell BK595.out 1).trans rfl; have hcz208_2 : w196.cell? ⟨gb595, 2, none⟩ = some (.int .i64 t592) := (blk_cell BK595.out 2).trans rfl; have hcz208_3 : w196.cell? ⟨gb595, 3, none⟩ = some (.int .i64 t593) := (blk_cell BK595.out 3).trans rfl; have hfz208_0 := blk_frozen BK595.out 0; have hfz208_1 := blk_frozen BK595.out 1; have hfz208_2 := blk_frozen BK595.out 2; have hfz208_3 := blk_frozen BK595.out 3) | ((with_reducible refine gate_callee (f := 30) rfl ?_); refine goesL_ (some 170) rfl rfl Try.func30 (by kernel_rfl) rfl #[.agg #[.int .i64 t586, .int .i64 t587, .int .i64 t588, .int .i64 t589], .agg #[.int .i64 t590, .int .i64 t591, .int .i64 t592, .int .i64 t593]] rfl zlx ?_; (with_reducible refine (spec_AddTables.calls t586 t587 t588 t589 t590 t591 t592 t593 t608 t609 t610 t611 t612 _ A160.out).mono ?_); rintro e w209 ⟨rfl, hb⟩; refine ⟨_, rfl, ?_⟩; replace HO_548002 := Aside0.mk (Kd.Q_below (by (with_reducible repeat (first | apply Kd.Q_alloc | apply Kd.Q_drewN | apply Kd.Q_drew)); exact (Kd.Q_mono (Kd.Q_far (p := ⟨gb607, 3, none⟩) (Kd.Q_far (p := ⟨gb607, 2, none⟩) (Kd.Q_far (p := ⟨gb607, 1, none⟩) (Kd.Q_far (p := ⟨gb607, 0, none⟩) (Kd.Q_types HO_548002.out BK607.out (by decide)) (fun _ hk => hk.2) (.int .i64 t602)) (fun _ hk => hk.2) (.int .i64 t603)) (fun _ hk => hk.2) (.int .i64 t604)) (fun _ hk => hk.2) (.int .i64 t605)) (fun _ h_ => h_.1))) hb); replace HO_549002 := Aside0.mk (Kd.Q_below (by (with_reducible repeat (first | apply Kd.Q_alloc | apply Kd.Q_drewN | apply Kd.Q_drew)); exact (Kd.Q_mono (Kd.Q_far (p := ⟨gb607, 3, none⟩) (Kd.Q_far (p := ⟨gb607, 2, none⟩) (Kd.Q_far (p := ⟨gb607, 1, none⟩) (Kd.Q_far (p := ⟨gb607, 0, none⟩) (Kd.Q_types HO_549002.out BK607.out (by decide)) (fun _ hk => hk.2) (.int .i64 t602)) (fun _ hk => hk.2) (.int .i64 t603)) (fun _ hk => hk.2) (.int .i64 t604)) (fun _ hk => hk.2) (.int .i64 t605)) (fun _ h_ => h_.1))) hb); replace BK547 := zbl BK547.out hb; replace BK548 := zbl BK548.out hb; replace BK553 := zbl BK553.out hb; replace BK558 := zbl BK558.out hb; replace BK578 := zbl BK578.out hb; replace BK579 := zbl BK579.out hb; replace BK594 := zbl BK594.out hb; replace BK595 := zbl BK595.out hb; replace BK601 := zbl BK601.out hb; replace BK607 := Aside0.mk (blk_below (g := gb607) (o := .cells #[.int .i64 t602, .int .i64 t603, .int .i64 t604, .int .i64 t605] 30 (0, 0)) (zbp BK607.out) hb); replace HB := Aside0.mk (below_step (zhB HB.out) hb); (try clear hb); (try clear hk)) | ((with_reducible refine gate_dst (N := 30) rfl ?_); refine box_event ?hg (N := 30) ?hd (cs := #[.int .i64 0, .int .i64 0, .int .i64 0, .int .i64 0]) (t := 30) ?hr ?_; (case hd => rfl); (case hg => rfl); (case hr => exact zsx); intro gb613 hg w210 hbox hb; replace HO_548002 := Aside0.mk (Kd.Q_below (by refine zDQ ?_; exact HO_548002.out) hb); replace HO_549002 := Aside0.mk (Kd.Q_below (by refine zDQ ?_; exact HO_549002.out) hb); have BK613 := Aside0.mk (hbox); have GW613 := zns hg HB.out; have GE613 := zns hg HB.out; replace HB := Aside0.mk (below_step (zhB HB.out) hb); have NB547_613 := znl hg BK547.out; have NB613_547 := zng hg BK547.out; replace BK547 := zbl BK547.out hb; have NB548_613 := znl hg BK548.out; have NB613_548 := zng hg BK548.out; replace BK548 := zbl BK548.out hb; have NB553_613 := znl hg BK553.out; have NB613_553 := zng hg BK553.out; replace BK553 := zbl BK553.out hb; have NB558_613 := znl hg BK558.out; have NB613_558 := zng hg BK558.out; replace BK558 := zbl BK558.out hb; have NB578_613 := znl hg BK578.out; have NB613_578 := zng hg BK578.out; replace BK578 := zbl BK578.out hb; have NB579_613 := znl hg BK579.out; have NB613_579 := zng hg BK579.out; replace BK579 := zbl BK579.out hb; have NB594_613 := znl hg BK594.out; have NB613_594 := zng hg BK594.out; replace BK594 := zbl BK594.out hb; have NB595_613 := znl hg BK595.out; have NB613_595 := zng hg BK595.out; replace BK595 := zbl BK595.out hb; have NB601_613 := znl hg BK601.out; have NB613_601 := zng hg BK601.out; replace BK601 := zbl BK601.out hb; have NB607_613 := znl hg BK607.out; have NB613_607 := zng hg BK607.out; replace BK607 := zbl BK607.out hb; clear hb hbox hg; have hnb211 := NB613_547.out; have hnc211 := NB547_613.out; have hnb212 := NB613_548.out; have hnc212 := NB548_613.out; have hnb213 := NB613_553.out; have hnc213 := NB553_613.out; have hnb214 := NB613_558.out; have hnc214 := NB558_613.out; have hnb215 := NB613_578.out; have hnc215 := NB578_613.out; have hnb216 := NB613_579.out; have hnc216 := NB579_613.out; have hnb217 := NB613_594.out; have hnc217 := NB594_613.out; have hnb218 := NB613_595.out; have hnc218 := NB595_613.out; have hnb219 := NB613_601.out; have hnc219 := NB601_613.out; have hnb220 := NB613_607.out; have hnc220 := NB607_613.out; have hcz221_0 : w210.cell? ⟨gb613, 0, none⟩ = some (.int .i64 0) := (blk_cell BK613.out 0).trans rfl; have hcz221_1 : w210.cell? ⟨gb613, 1, none⟩ = some (.int .i64 0) := (blk_cell BK613.out 1).trans rfl; have hcz221_2 : w210.cell? ⟨gb613, 2, none⟩ = some (.int .i64 0) := (blk_cell BK613.out 2).trans rfl; have hcz221_3 : w210.cell? ⟨gb613, 3, none⟩ = some (.int .i64 0) := (blk_cell BK613.out 3).trans rfl; have hfz221_0 := blk_frozen BK613.out 0; have hfz221_1 := blk_frozen BK613.out 1; have hfz221_2 := blk_frozen BK613.out 2; have hfz221_3 := blk_frozen BK613.out 3; have hcz222_0 : w210.cell? ⟨gb601, 0, none⟩ = some (.int .i64 t596) := (blk_cell BK601.out 0).trans rfl; have hcz222_1 : w210.cell? ⟨gb601, 1, none⟩ = some (.int .i64 t597) := (blk_cell BK601.out 1).trans rfl; have hcz222_2 : w210.cell? ⟨gb601, 2, none⟩ = some (.int .i64 t598) := (blk_cell BK601.out 2).trans rfl; have hcz222_3 : w210.cell? ⟨gb601, 3, none⟩ = some (.int .i64 t599) := (blk_cell BK601.out 3).trans rfl; have hfz222_0 := blk_frozen BK601.out 0; have hfz222_1 := blk_frozen BK601.out 1; have hfz222_2 := blk_frozen BK601.out 2; have hfz222_3 := blk_frozen BK601.out 3; have hcz223_0 : w210.cell? ⟨gb607, 0, none⟩ = some (.int .i64 t602) := (blk_cell BK607.out 0).trans rfl; have hcz223_1 : w210.cell? ⟨gb607, 1, none⟩ = some (.int .i64 t603) := (blk_cell BK607.out 1).trans rfl; have hcz223_2 : w210.cell? ⟨gb607, 2, none⟩ = some (.int .i64 t604) := (blk_cell BK607.out 2).trans rfl; have hcz223_3 : w210.cell? ⟨gb607, 3, none⟩ = some (.int .i64 t605) := (blk_cell BK607.out 3).trans rfl; have hfz223_0 := blk_frozen BK607.out 0; have hfz223_1 := blk_frozen BK607.out 1; have hfz223_2 := blk_frozen BK607.out 2; have hfz223_3 := blk_frozen BK607.out 3))
              go_ret
              exact ⟨by first | rfl | (simp [errW_none, errW_some] <;> rfl) | (simp [*, errW_none, errW_some] <;> rfl), zhB HB.out⟩
            ·rw [if_neg c163] at H
             have c163b0 : (t606 == t600) = false := by simpa using c163
             (try (have c163b1 : decide (t606 = t600) = false := by simpa using c163))
             (try (have c163b2 : (t606 == t600) = false := by simpa using c163))
             (try (have c163b3 : ¬ (t606 = t600) := by simpa using c163))
             clear c163
             as_aux_lemma =>
              exact absurd (Option.some.inj H) (by rw [hr_]; decide)
           ·rw [if_neg c162] at H
            have c162b0 : (t600 == t612) = false := by simpa using c162
            (try (have c162b1 : decide (t600 = t612) = false := by simpa using c162))
            (try (have c162b2 : (t600 == t612) = false := by simpa using c162))
            (try (have c162b3 : ¬ (t600 = t612) := by simpa using c162))
            clear c162
            as_aux_lemma =>
             exact absurd (Option.some.inj H) (by rw [hr_]; decide)
          ·rw [if_neg c161] at H
           have c161b0 : (t596 == t608 && (t597 == t609 && (t598 == t610 && (t599 == t611)))) = false := by simpa using c161
           (try (have c161b1 : decide (t596 = t608 && (t597 == t609 && (t598 == t610 && (t599 == t611)))) = false := by simpa using c161))
           (try (have c161b2 : (t596 == t608 && (t597 == t609 && (t598 == t610 && (t599 == t611)))) = false := by simpa using c161))
           (try (have c161b3 : ¬ (t596 = t608 && (t597 == t609 && (t598 == t610 && (t599 == t611)))) := by simpa using c161))
           clear c161
           as_aux_lemma =>
            exact absurd (Option.some.inj H) (by rw [hr_]; decide)

/-- THE ONE PURE STATEMENT of laws_FnLimits: yours. -/
def laws_FnLimits.Pure : Prop := ∀ (l0 : List Int), l0.length ≤ maxLen → l0.length * 1 ≤ 140737488351232 → (∀ x ∈ l0, (Lit.int .u8 x).wf = true) → ∃ k, laws_FnLimits.f k l0 = some true
theorem laws_FnLimits.walk (P : laws_FnLimits.Pure) (a0 : Option Addr) (len0 cap0 : Nat) (z0 : List Int) (w : World) (w0 : (a0 = none ∧ len0 = 0 ∧ cap0 = 0 ∧ z0 = []) ∨ ∃ x, a0 = some x ∧ len0 ≤ cap0 ∧ cap0 ≤ maxLen ∧ z0.length = cap0 ∧ (∀ i, i < z0.length → w.cell? (x.add i) = some (.int .u8 (z0.getD i 0))) ∧ ∀ n ∈ z0, (Lit.int .u8 n).wf = true) (y0 : len0 * 1 ≤ 140737488351232) :
 Calls Try.prog 4 #[.slice a0 len0 cap0] w fun e w' => e = .returned (.bool true) ∧ Below w.heap.size w w' := by
 obtain ⟨l0, rfl, hr0, hm0, hw0, hc0⟩ := ReadsInt.ofRowC w0
 obtain ⟨k, h⟩ := P l0 hm0 y0 hw0
 refine (laws_FnLimits.calls k _ _ l0 true w (Kd.C_of_reads (d := (0 : Int)) (h1 := fun _ => rfl) hr0) hc0 h rfl).mono ?_
 rintro e w' ⟨rfl, hd⟩
 exact ⟨rfl, hd⟩

end Go.Proofs.Ytddgbaohepfekaa.XFnLimits
