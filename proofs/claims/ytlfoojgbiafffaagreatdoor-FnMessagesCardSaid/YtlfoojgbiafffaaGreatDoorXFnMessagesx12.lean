-- written by wip/tools/xprint.py (a program of this project) out of the translation
import Derived.Test.YtlfoojgbiafffaaGreatDoorXFnMessagesx0
import Derived.Test.YtlfoojgbiafffaaGreatDoorStrsE
import Derived.Test.YtlfoojgbiafffaaGreatDoorXFnMessagesx1
import Derived.Test.YtlfoojgbiafffaaGreatDoorXFnMessagesx2
import Derived.Test.YtlfoojgbiafffaaGreatDoorXFnMessagesx3
import Derived.Test.YtlfoojgbiafffaaGreatDoorXFnMessagesx5
import Derived.Test.YtlfoojgbiafffaaGreatDoorXFnMessagesx7
import Derived.Test.YtlfoojgbiafffaaGreatDoorXFnMessagesx8
import Derived.Test.YtlfoojgbiafffaaGreatDoorXFnMessagesx9
import Derived.Test.YtlfoojgbiafffaaGreatDoorXFnMessagesx11
namespace Go.Proofs.YtlfoojgbiafffaaGreatDoor.XFnMessages
open Go.RowKit Go.Proofs.YtlfoojgbiafffaaGreatDoorW.PrintWords Go.Proofs.YtlfoojgbiafffaaGreatDoorW.PrintLast Go.Proofs.YtlfoojgbiafffaaGreatDoorW.PrintMore
open Go.Proofs.YtlfoojgbiafffaaGreatDoor.Strs
attribute [local go_sem] max2_int min2_int max_two min_two max_three min_three max_four min_four   -- for this text's walks alone
set_option linter.unusedVariables false
set_option linter.unusedSimpArgs false

attribute [local go_sem high] eqA25
/-! ### laws_FnMessages: function 3 -/
mutual
def laws_FnMessages.j0 : Nat → List Int → Bool → Option (Bool)
 | 0, _, _ => none
 | k + 1, x0, x88 => if x88 = true then (some false) else ((spec_DrawParseWarningLine.f k x0).bind fun t406 => ((impl_ParseWarningLine.f t406).bind fun bt407 => ((impl_WarningLine.f bt407.1 bt407.2.1 bt407.2.2.1 bt407.2.2.2.1 bt407.2.2.2.2.1 bt407.2.2.2.2.2.1).bind fun bt415 => (if bt407.2.2.2.2.2.2 = true then (if bt415.2 = true then (laws_FnMessages.j1 k x0 (bt415.1.toList != t406.toList)) else (laws_FnMessages.j1 k x0 true)) else (laws_FnMessages.j1 k x0 false)))))
def laws_FnMessages.j1 : Nat → List Int → Bool → Option (Bool)
 | 0, _, _ => none
 | k + 1, x0, x110 => if x110 = true then (some false) else ((spec_DrawParseCode.f k x0).bind fun t417 => ((impl_ParseCode.f k t417).bind fun bt418 => ((impl_WarningCode.f k bt418.1 bt418.2.1 bt418.2.2.1 bt418.2.2.2.1 bt418.2.2.2.2.1 bt418.2.2.2.2.2.1).bind fun bt426 => ((spec_ParseCode.f k t417).bind fun bt428 => (if (bt418.1 == bt428.1 && (bt418.2.1 == bt428.2.1 && (bt418.2.2.1 == bt428.2.2.1 && (bt418.2.2.2.1 == bt428.2.2.2.1 && (bt418.2.2.2.2.1 == bt428.2.2.2.2.1 && (bt418.2.2.2.2.2.1 == bt428.2.2.2.2.2.1)))))) = true then (if (bt418.2.2.2.2.2.2 == bt428.2.2.2.2.2.2) = true then (if bt418.2.2.2.2.2.2 = true then (if bt426.2 = true then (some (bt426.1.toList == t417.toList)) else (some false)) else (some true)) else (some false)) else (some false))))))
end
def laws_FnMessages.f (k : Nat) (l0 : List Int) : Option (Bool) := (laws_vBig.f l0).bind fun t376 => (if t376 = true then (some true) else ((spec_DrawWarningLine.f l0).bind fun bt377 => ((impl_WarningLine.f bt377.1 bt377.2.1 bt377.2.2.1 bt377.2.2.2.1 bt377.2.2.2.2.1 bt377.2.2.2.2.2).bind fun bt384 => ((impl_ParseWarningLine.f bt384.1).bind fun bt386 => ((impl_WarningCode.f k bt377.1 bt377.2.1 bt377.2.2.1 bt377.2.2.2.1 bt377.2.2.2.2.1 bt377.2.2.2.2.2).bind fun bt394 => ((impl_ParseCode.f k bt394.1).bind fun bt396 => ((spec_WarningLine.f k bt377.1 bt377.2.1 bt377.2.2.1 bt377.2.2.2.1 bt377.2.2.2.2.1 bt377.2.2.2.2.2).bind fun bt404 => (if bt384.1.toList = bt404.1.toList then (if (bt384.2 != bt404.2) = true then (laws_FnMessages.j0 k l0 true) else (if (bt394.2 != bt384.2) = true then (laws_FnMessages.j0 k l0 true) else (if bt384.2 = true then (if bt386.2.2.2.2.2.2 = true then (if (!(bt386.1 == bt377.1) || (!(bt386.2.1 == bt377.2.1) || (!(bt386.2.2.1 == bt377.2.2.1) || (!(bt386.2.2.2.1 == bt377.2.2.2.1) || (!(bt386.2.2.2.2.1 == bt377.2.2.2.2.1) || (!(bt386.2.2.2.2.2.1 == bt377.2.2.2.2.2))))))) = true then (laws_FnMessages.j0 k l0 true) else (if bt396.2.2.2.2.2.2 = true then (laws_FnMessages.j0 k l0 (!(bt396.1 == bt377.1) || (!(bt396.2.1 == bt377.2.1) || (!(bt396.2.2.1 == bt377.2.2.1) || (!(bt396.2.2.2.1 == bt377.2.2.2.1) || (!(bt396.2.2.2.2.1 == bt377.2.2.2.2.1) || (!(bt396.2.2.2.2.2.1 == bt377.2.2.2.2.2)))))))) else (laws_FnMessages.j0 k l0 true))) else (laws_FnMessages.j0 k l0 true)) else (laws_FnMessages.j0 k l0 false)))) else (laws_FnMessages.j0 k l0 true)))))))))
theorem laws_FnMessages.mono_l : ∀ k, (∀ y0 y1, LeO (laws_FnMessages.j0 k y0 y1) (laws_FnMessages.j0 (k + 1) y0 y1)) ∧ (∀ y0 y1, LeO (laws_FnMessages.j1 k y0 y1) (laws_FnMessages.j1 (k + 1) y0 y1))
 | 0 => ⟨fun _ _ r h => by simp [laws_FnMessages.j0] at h, fun _ _ r h => by simp [laws_FnMessages.j1] at h⟩
 | k + 1 => by
  obtain ⟨ih0, ih1⟩ := laws_FnMessages.mono_l k
  refine ⟨?_, ?_⟩
  ·intro y0 y1
   unfold laws_FnMessages.j0
   repeat' first
   | (with_reducible exact ih0 _ _)
   | (with_reducible exact ih1 _ _)
   | (with_reducible exact impl_ParseCode.mono _ _)
   | (with_reducible exact impl_WarningCode.mono _ _ _ _ _ _ _)
   | (with_reducible exact spec_DrawParseCode.mono _ _)
   | (with_reducible exact spec_DrawParseWarningLine.mono _ _)
   | (with_reducible exact spec_ParseCode.mono _ _)
   | (with_reducible exact spec_WarningLine.mono _ _ _ _ _ _ _)
   | (with_reducible exact LeO.refl _)
   | (with_reducible exact LeO.none _)
   | (with_reducible refine LeO.ite ?_ ?_)
   | (with_reducible refine LeO.bind ?_ (fun _ => ?_))
   | exact ih0 _ _
   | exact ih1 _ _
   | exact impl_ParseCode.mono _ _
   | exact impl_WarningCode.mono _ _ _ _ _ _ _
   | exact spec_DrawParseCode.mono _ _
   | exact spec_DrawParseWarningLine.mono _ _
   | exact spec_ParseCode.mono _ _
   | exact spec_WarningLine.mono _ _ _ _ _ _ _
   | exact LeO.none _
   | refine LeO.ite ?_ ?_
   | refine LeO.bind ?_ (fun _ => ?_)
  ·intro y0 y1
   unfold laws_FnMessages.j1
   repeat' first
   | (with_reducible exact ih0 _ _)
   | (with_reducible exact ih1 _ _)
   | (with_reducible exact impl_ParseCode.mono _ _)
   | (with_reducible exact impl_WarningCode.mono _ _ _ _ _ _ _)
   | (with_reducible exact spec_DrawParseCode.mono _ _)
   | (with_reducible exact spec_DrawParseWarningLine.mono _ _)
   | (with_reducible exact spec_ParseCode.mono _ _)
   | (with_reducible exact spec_WarningLine.mono _ _ _ _ _ _ _)
   | (with_reducible exact LeO.refl _)
   | (with_reducible exact LeO.none _)
   | (with_reducible refine LeO.ite ?_ ?_)
   | (with_reducible refine LeO.bind ?_ (fun _ => ?_))
   | exact ih0 _ _
   | exact ih1 _ _
   | exact impl_ParseCode.mono _ _
   | exact impl_WarningCode.mono _ _ _ _ _ _ _
   | exact spec_DrawParseCode.mono _ _
   | exact spec_DrawParseWarningLine.mono _ _
   | exact spec_ParseCode.mono _ _
   | exact spec_WarningLine.mono _ _ _ _ _ _ _
   | exact LeO.none _
   | refine LeO.ite ?_ ?_
   | refine LeO.bind ?_ (fun _ => ?_)
theorem laws_FnMessages.mono : ∀ a0 k, LeO (laws_FnMessages.f k a0) (laws_FnMessages.f (k + 1) a0) := by
 intro a0 k
 obtain ⟨ih0, ih1⟩ := laws_FnMessages.mono_l k
 unfold laws_FnMessages.f
 repeat' first
  | (with_reducible exact ih0 _ _)
  | (with_reducible exact ih1 _ _)
  | (with_reducible exact impl_ParseCode.mono _ _)
  | (with_reducible exact impl_WarningCode.mono _ _ _ _ _ _ _)
  | (with_reducible exact spec_DrawParseCode.mono _ _)
  | (with_reducible exact spec_DrawParseWarningLine.mono _ _)
  | (with_reducible exact spec_ParseCode.mono _ _)
  | (with_reducible exact spec_WarningLine.mono _ _ _ _ _ _ _)
  | (with_reducible exact LeO.refl _)
  | (with_reducible exact LeO.none _)
  | (with_reducible refine LeO.ite ?_ ?_)
  | (with_reducible refine LeO.bind ?_ (fun _ => ?_))
  | exact ih0 _ _
  | exact ih1 _ _
  | exact impl_ParseCode.mono _ _
  | exact impl_WarningCode.mono _ _ _ _ _ _ _
  | exact spec_DrawParseCode.mono _ _
  | exact spec_DrawParseWarningLine.mono _ _
  | exact spec_ParseCode.mono _ _
  | exact spec_WarningLine.mono _ _ _ _ _ _ _
  | exact LeO.none _
  | refine LeO.ite ?_ ?_
  | refine LeO.bind ?_ (fun _ => ?_)
set_option maxHeartbeats 8000000 in
set_option maxRecDepth 100000 in
theorem laws_FnMessages.calls (k : Nat) (A0 : Option Addr) (c0 : Nat) (l0 : List Int) (r : Bool) (w : World) (hr0 : Kd.C (Kd.int .u8) w A0 l0.length l0) (hc0 : l0.length ≤ c0) (hL : Laid w) (h : laws_FnMessages.f k l0 = some r) (hr_ : r = true) :
 Calls Tryz.prog 3 #[.slice A0 l0.length c0] w fun e w' => e = .returned (.bool r) ∧ Below w.heap.size w w' := by
 have hu25 := Tryz.underlying25
 have HR0 := Aside0.mk hr0
 have HC0 := Aside0.mk hc0
 clear hr0 hc0
 have HL := Aside0.mk hL
 clear hL
 have HB := Aside0.mk (Below.refl w.heap.size w)
 have H : ((laws_vBig.f l0).bind fun t376 => (if t376 = true then (some true) else ((spec_DrawWarningLine.f l0).bind fun bt377 => ((impl_WarningLine.f bt377.1 bt377.2.1 bt377.2.2.1 bt377.2.2.2.1 bt377.2.2.2.2.1 bt377.2.2.2.2.2).bind fun bt384 => ((impl_ParseWarningLine.f bt384.1).bind fun bt386 => ((impl_WarningCode.f k bt377.1 bt377.2.1 bt377.2.2.1 bt377.2.2.2.1 bt377.2.2.2.2.1 bt377.2.2.2.2.2).bind fun bt394 => ((impl_ParseCode.f k bt394.1).bind fun bt396 => ((spec_WarningLine.f k bt377.1 bt377.2.1 bt377.2.2.1 bt377.2.2.2.1 bt377.2.2.2.2.1 bt377.2.2.2.2.2).bind fun bt404 => (if bt384.1.toList = bt404.1.toList then (if (bt384.2 != bt404.2) = true then (laws_FnMessages.j0 k l0 true) else (if (bt394.2 != bt384.2) = true then (laws_FnMessages.j0 k l0 true) else (if bt384.2 = true then (if bt386.2.2.2.2.2.2 = true then (if (!(bt386.1 == bt377.1) || (!(bt386.2.1 == bt377.2.1) || (!(bt386.2.2.1 == bt377.2.2.1) || (!(bt386.2.2.2.1 == bt377.2.2.2.1) || (!(bt386.2.2.2.2.1 == bt377.2.2.2.2.1) || (!(bt386.2.2.2.2.2.1 == bt377.2.2.2.2.2))))))) = true then (laws_FnMessages.j0 k l0 true) else (if bt396.2.2.2.2.2.2 = true then (laws_FnMessages.j0 k l0 (!(bt396.1 == bt377.1) || (!(bt396.2.1 == bt377.2.1) || (!(bt396.2.2.1 == bt377.2.2.1) || (!(bt396.2.2.2.1 == bt377.2.2.2.1) || (!(bt396.2.2.2.2.1 == bt377.2.2.2.2.1) || (!(bt396.2.2.2.2.2.1 == bt377.2.2.2.2.2)))))))) else (laws_FnMessages.j0 k l0 true))) else (laws_FnMessages.j0 k l0 true)) else (laws_FnMessages.j0 k l0 false)))) else (laws_FnMessages.j0 k l0 true)))))))))) = some r := h
 clear h
 replace H := Option.bind_eq_some_iff.mp H
 obtain ⟨t376, A20, H⟩ := H
 replace H : (if t376 = true then (some true) else ((spec_DrawWarningLine.f l0).bind fun bt377 => ((impl_WarningLine.f bt377.1 bt377.2.1 bt377.2.2.1 bt377.2.2.2.1 bt377.2.2.2.2.1 bt377.2.2.2.2.2).bind fun bt384 => ((impl_ParseWarningLine.f bt384.1).bind fun bt386 => ((impl_WarningCode.f k bt377.1 bt377.2.1 bt377.2.2.1 bt377.2.2.2.1 bt377.2.2.2.2.1 bt377.2.2.2.2.2).bind fun bt394 => ((impl_ParseCode.f k bt394.1).bind fun bt396 => ((spec_WarningLine.f k bt377.1 bt377.2.1 bt377.2.2.1 bt377.2.2.2.1 bt377.2.2.2.2.1 bt377.2.2.2.2.2).bind fun bt404 => (if bt384.1.toList = bt404.1.toList then (if (bt384.2 != bt404.2) = true then (laws_FnMessages.j0 k l0 true) else (if (bt394.2 != bt384.2) = true then (laws_FnMessages.j0 k l0 true) else (if bt384.2 = true then (if bt386.2.2.2.2.2.2 = true then (if (!(bt386.1 == bt377.1) || (!(bt386.2.1 == bt377.2.1) || (!(bt386.2.2.1 == bt377.2.2.1) || (!(bt386.2.2.2.1 == bt377.2.2.2.1) || (!(bt386.2.2.2.2.1 == bt377.2.2.2.2.1) || (!(bt386.2.2.2.2.2.1 == bt377.2.2.2.2.2))))))) = true then (laws_FnMessages.j0 k l0 true) else (if bt396.2.2.2.2.2.2 = true then (laws_FnMessages.j0 k l0 (!(bt396.1 == bt377.1) || (!(bt396.2.1 == bt377.2.1) || (!(bt396.2.2.1 == bt377.2.2.1) || (!(bt396.2.2.2.1 == bt377.2.2.2.1) || (!(bt396.2.2.2.2.1 == bt377.2.2.2.2.1) || (!(bt396.2.2.2.2.2.1 == bt377.2.2.2.2.2)))))))) else (laws_FnMessages.j0 k l0 true))) else (laws_FnMessages.j0 k l0 true)) else (laws_FnMessages.j0 k l0 false)))) else (laws_FnMessages.j0 k l0 true))))))))) = some r := H
 have A2 := Aside0.mk A20
 clear A20
 by_cases c3 : t376 = true
 ·subst c3
  rw [if_pos rfl] at H
  as_aux_lemma =>
   obtain rfl := Option.some.inj H
   go_enter Tryz.func3, Tryz.ntmps3
   go_wp2_with (first | ((with_reducible refine gate_callee (f := 6) rfl ?_); refine goesL_ (some 27) rfl rfl Tryz.func6 (by kernel_rfl) rfl #[.slice A0 l0.length c0] rfl zlx ?_; (with_reducible refine (laws_vBig.calls _ _ l0 true _ ?side1 ?side2 A2.out).mono ?_); (case side1 => exact zCx HR0.out); (case side2 => exact HC0.out); rintro e w' ⟨rfl, ⟨nd, rfl⟩⟩; refine ⟨_, rfl, ?_⟩))
   go_ret
   exact ⟨by first | rfl | (simp [errW_none, errW_some] <;> rfl) | (simp [*, errW_none, errW_some] <;> rfl), by exact zBx HB.out⟩
 ·replace c3 := Bool.eq_false_iff.mpr c3
  subst c3
  rw [if_neg (show ¬ (false = true) by decide)] at H
  replace H := Option.bind_eq_some_iff.mp H
  obtain ⟨⟨t377, t378, t379, t380, t381, t382⟩, A40, H⟩ := H
  replace H : ((impl_WarningLine.f t377 t378 t379 t380 t381 t382).bind fun bt384 => ((impl_ParseWarningLine.f bt384.1).bind fun bt386 => ((impl_WarningCode.f k t377 t378 t379 t380 t381 t382).bind fun bt394 => ((impl_ParseCode.f k bt394.1).bind fun bt396 => ((spec_WarningLine.f k t377 t378 t379 t380 t381 t382).bind fun bt404 => (if bt384.1.toList = bt404.1.toList then (if (bt384.2 != bt404.2) = true then (laws_FnMessages.j0 k l0 true) else (if (bt394.2 != bt384.2) = true then (laws_FnMessages.j0 k l0 true) else (if bt384.2 = true then (if bt386.2.2.2.2.2.2 = true then (if (!(bt386.1 == t377) || (!(bt386.2.1 == t378) || (!(bt386.2.2.1 == t379) || (!(bt386.2.2.2.1 == t380) || (!(bt386.2.2.2.2.1 == t381) || (!(bt386.2.2.2.2.2.1 == t382))))))) = true then (laws_FnMessages.j0 k l0 true) else (if bt396.2.2.2.2.2.2 = true then (laws_FnMessages.j0 k l0 (!(bt396.1 == t377) || (!(bt396.2.1 == t378) || (!(bt396.2.2.1 == t379) || (!(bt396.2.2.2.1 == t380) || (!(bt396.2.2.2.2.1 == t381) || (!(bt396.2.2.2.2.2.1 == t382)))))))) else (laws_FnMessages.j0 k l0 true))) else (laws_FnMessages.j0 k l0 true)) else (laws_FnMessages.j0 k l0 false)))) else (laws_FnMessages.j0 k l0 true))))))) = some r := H
  have A4 := Aside0.mk A40
  clear A40
  replace H := Option.bind_eq_some_iff.mp H
  obtain ⟨⟨t384, t385⟩, A50, H⟩ := H
  replace H : ((impl_ParseWarningLine.f t384).bind fun bt386 => ((impl_WarningCode.f k t377 t378 t379 t380 t381 t382).bind fun bt394 => ((impl_ParseCode.f k bt394.1).bind fun bt396 => ((spec_WarningLine.f k t377 t378 t379 t380 t381 t382).bind fun bt404 => (if t384.toList = bt404.1.toList then (if (t385 != bt404.2) = true then (laws_FnMessages.j0 k l0 true) else (if (bt394.2 != t385) = true then (laws_FnMessages.j0 k l0 true) else (if t385 = true then (if bt386.2.2.2.2.2.2 = true then (if (!(bt386.1 == t377) || (!(bt386.2.1 == t378) || (!(bt386.2.2.1 == t379) || (!(bt386.2.2.2.1 == t380) || (!(bt386.2.2.2.2.1 == t381) || (!(bt386.2.2.2.2.2.1 == t382))))))) = true then (laws_FnMessages.j0 k l0 true) else (if bt396.2.2.2.2.2.2 = true then (laws_FnMessages.j0 k l0 (!(bt396.1 == t377) || (!(bt396.2.1 == t378) || (!(bt396.2.2.1 == t379) || (!(bt396.2.2.2.1 == t380) || (!(bt396.2.2.2.2.1 == t381) || (!(bt396.2.2.2.2.2.1 == t382)))))))) else (laws_FnMessages.j0 k l0 true))) else (laws_FnMessages.j0 k l0 true)) else (laws_FnMessages.j0 k l0 false)))) else (laws_FnMessages.j0 k l0 true)))))) = some r := H
  have A5 := Aside0.mk A50
  clear A50
  replace H := Option.bind_eq_some_iff.mp H
  obtain ⟨⟨t386, t387, t388, t389, t390, t391, t392⟩, A60, H⟩ := H
  replace H : ((impl_WarningCode.f k t377 t378 t379 t380 t381 t382).bind fun bt394 => ((impl_ParseCode.f k bt394.1).bind fun bt396 => ((spec_WarningLine.f k t377 t378 t379 t380 t381 t382).bind fun bt404 => (if t384.toList = bt404.1.toList then (if (t385 != bt404.2) = true then (laws_FnMessages.j0 k l0 true) else (if (bt394.2 != t385) = true then (laws_FnMessages.j0 k l0 true) else (if t385 = true then (if t392 = true then (if (!(t386 == t377) || (!(t387 == t378) || (!(t388 == t379) || (!(t389 == t380) || (!(t390 == t381) || (!(t391 == t382))))))) = true then (laws_FnMessages.j0 k l0 true) else (if bt396.2.2.2.2.2.2 = true then (laws_FnMessages.j0 k l0 (!(bt396.1 == t377) || (!(bt396.2.1 == t378) || (!(bt396.2.2.1 == t379) || (!(bt396.2.2.2.1 == t380) || (!(bt396.2.2.2.2.1 == t381) || (!(bt396.2.2.2.2.2.1 == t382)))))))) else (laws_FnMessages.j0 k l0 true))) else (laws_FnMessages.j0 k l0 true)) else (laws_FnMessages.j0 k l0 false)))) else (laws_FnMessages.j0 k l0 true))))) = some r := H
  have A6 := Aside0.mk A60
  clear A60
  replace H := Option.bind_eq_some_iff.mp H
  obtain ⟨⟨t394, t395⟩, A70, H⟩ := H
  replace H : ((impl_ParseCode.f k t394).bind fun bt396 => ((spec_WarningLine.f k t377 t378 t379 t380 t381 t382).bind fun bt404 => (if t384.toList = bt404.1.toList then (if (t385 != bt404.2) = true then (laws_FnMessages.j0 k l0 true) else (if (t395 != t385) = true then (laws_FnMessages.j0 k l0 true) else (if t385 = true then (if t392 = true then (if (!(t386 == t377) || (!(t387 == t378) || (!(t388 == t379) || (!(t389 == t380) || (!(t390 == t381) || (!(t391 == t382))))))) = true then (laws_FnMessages.j0 k l0 true) else (if bt396.2.2.2.2.2.2 = true then (laws_FnMessages.j0 k l0 (!(bt396.1 == t377) || (!(bt396.2.1 == t378) || (!(bt396.2.2.1 == t379) || (!(bt396.2.2.2.1 == t380) || (!(bt396.2.2.2.2.1 == t381) || (!(bt396.2.2.2.2.2.1 == t382)))))))) else (laws_FnMessages.j0 k l0 true))) else (laws_FnMessages.j0 k l0 true)) else (laws_FnMessages.j0 k l0 false)))) else (laws_FnMessages.j0 k l0 true)))) = some r := H
  have A7 := Aside0.mk A70
  clear A70
  replace H := Option.bind_eq_some_iff.mp H
  obtain ⟨⟨t396, t397, t398, t399, t400, t401, t402⟩, A80, H⟩ := H
  replace H : ((spec_WarningLine.f k t377 t378 t379 t380 t381 t382).bind fun bt404 => (if t384.toList = bt404.1.toList then (if (t385 != bt404.2) = true then (laws_FnMessages.j0 k l0 true) else (if (t395 != t385) = true then (laws_FnMessages.j0 k l0 true) else (if t385 = true then (if t392 = true then (if (!(t386 == t377) || (!(t387 == t378) || (!(t388 == t379) || (!(t389 == t380) || (!(t390 == t381) || (!(t391 == t382))))))) = true then (laws_FnMessages.j0 k l0 true) else (if t402 = true then (laws_FnMessages.j0 k l0 (!(t396 == t377) || (!(t397 == t378) || (!(t398 == t379) || (!(t399 == t380) || (!(t400 == t381) || (!(t401 == t382)))))))) else (laws_FnMessages.j0 k l0 true))) else (laws_FnMessages.j0 k l0 true)) else (laws_FnMessages.j0 k l0 false)))) else (laws_FnMessages.j0 k l0 true))) = some r := H
  have A8 := Aside0.mk A80
  clear A80
  replace H := Option.bind_eq_some_iff.mp H
  obtain ⟨⟨t404, t405⟩, A90, H⟩ := H
  replace H : (if t384.toList = t404.toList then (if (t385 != t405) = true then (laws_FnMessages.j0 k l0 true) else (if (t395 != t385) = true then (laws_FnMessages.j0 k l0 true) else (if t385 = true then (if t392 = true then (if (!(t386 == t377) || (!(t387 == t378) || (!(t388 == t379) || (!(t389 == t380) || (!(t390 == t381) || (!(t391 == t382))))))) = true then (laws_FnMessages.j0 k l0 true) else (if t402 = true then (laws_FnMessages.j0 k l0 (!(t396 == t377) || (!(t397 == t378) || (!(t398 == t379) || (!(t399 == t380) || (!(t400 == t381) || (!(t401 == t382)))))))) else (laws_FnMessages.j0 k l0 true))) else (laws_FnMessages.j0 k l0 true)) else (laws_FnMessages.j0 k l0 false)))) else (laws_FnMessages.j0 k l0 true)) = some r := H
  have A9 := Aside0.mk A90
  clear A90
  have HC10 := Aside0.mk H
  clear H
  go_enter Tryz.func3, Tryz.ntmps3
  go_upto_region 9 with (first | ((with_reducible refine gate_callee (f := 6) rfl ?_); refine goesL_ (some 27) rfl rfl Tryz.func6 (by kernel_rfl) rfl #[.slice A0 l0.length c0] rfl zlx ?_; (with_reducible refine (laws_vBig.calls _ _ l0 false _ ?side1 ?side2 A2.out).mono ?_); (case side1 => exact zCx HR0.out); (case side2 => exact HC0.out); rintro e w' ⟨rfl, ⟨nd, rfl⟩⟩; refine ⟨_, rfl, ?_⟩) | ((with_reducible refine gate_callee (f := 7) rfl ?_); refine goesL_ (some 29) rfl rfl Tryz.func7 (by kernel_rfl) rfl #[.slice A0 l0.length c0] rfl zlx ?_; (with_reducible refine (spec_DrawWarningLine.calls _ _ l0 t377 t378 t379 t380 t381 t382 _ ?side1 ?side2 A4.out).mono ?_); (case side1 => exact zCx HR0.out); (case side2 => exact HC0.out); rintro e w11 ⟨rfl, hb⟩; refine ⟨_, rfl, ?_⟩; replace HB := Aside0.mk (below_step (zBx HB.out) hb); (try clear hb)) | ((with_reducible refine gate_dst (N := 3) rfl ?_); refine box_event ?hg (N := 3) ?hd (cs := #[.int .i64 0, .int .i64 0, .int .i64 0, .int .i64 0, .int .i64 0, .int .i64 0]) (t := 25) ?hr ?_; (case hd => rfl); (case hg => rfl); (case hr => exact zsx); intro gb383 hg w12 hbox hb; have BK383 := Aside0.mk (hbox); have GW383 := zns hg HB.out; have GE383 := zns hg HB.out; replace HB := Aside0.mk (below_step (zBx HB.out) hb); clear hb hbox hg; have hcz13_0 : w12.cell? ⟨gb383, 0, none⟩ = some (.int .i64 0) := (blk_cell BK383.out 0).trans rfl; have hcz13_1 : w12.cell? ⟨gb383, 1, none⟩ = some (.int .i64 0) := (blk_cell BK383.out 1).trans rfl; have hcz13_2 : w12.cell? ⟨gb383, 2, none⟩ = some (.int .i64 0) := (blk_cell BK383.out 2).trans rfl; have hcz13_3 : w12.cell? ⟨gb383, 3, none⟩ = some (.int .i64 0) := (blk_cell BK383.out 3).trans rfl; have hcz13_4 : w12.cell? ⟨gb383, 4, none⟩ = some (.int .i64 0) := (blk_cell BK383.out 4).trans rfl; have hcz13_5 : w12.cell? ⟨gb383, 5, none⟩ = some (.int .i64 0) := (blk_cell BK383.out 5).trans rfl; have hfz13_0 := blk_frozen BK383.out 0; have hfz13_1 := blk_frozen BK383.out 1; have hfz13_2 := blk_frozen BK383.out 2; have hfz13_3 := blk_frozen BK383.out 3; have hfz13_4 := blk_frozen BK383.out 4; have hfz13_5 := blk_frozen BK383.out 5) | ((with_reducible refine gate_callee (f := 8) rfl ?_); refine goesL_ (some 32) rfl rfl Tryz.func8 (by kernel_rfl) rfl #[.agg #[.int .i64 t377, .int .i64 t378, .int .i64 t379, .int .i64 t380, .int .i64 t381, .int .i64 t382]] rfl zlx ?_; (with_reducible refine (impl_WarningLine.calls t377 t378 t379 t380 t381 t382 t384 t385 _ ?sideL A5.out).mono ?_); (case sideL => exact Laid.below HL.out (zBy HB.out GE383.out)); rintro e w14 ⟨rfl, hb⟩; refine ⟨_, rfl, ?_⟩; replace BK383 := Aside0.mk (blk_below (g := gb383) (o := .cells #[.int .i64 t377, .int .i64 t378, .int .i64 t379, .int .i64 t380, .int .i64 t381, .int .i64 t382] 25 (0, 0)) (zbp BK383.out) hb); replace HB := Aside0.mk (below_step (zBy HB.out GE383.out) hb); (try clear hb)) | ((with_reducible refine gate_callee (f := 9) rfl ?_); refine goesL_ (some 37) rfl rfl Tryz.func9 (by kernel_rfl) rfl #[.string t384] rfl zlx ?_; (with_reducible refine (impl_ParseWarningLine.calls t384 t386 t387 t388 t389 t390 t391 t392 _ ?sideL A6.out).mono ?_); (case sideL => exact Laid.below HL.out (zBy HB.out GE383.out)); rintro e w15 ⟨rfl, hb⟩; refine ⟨_, rfl, ?_⟩; replace BK383 := zbl BK383.out hb; replace HB := Aside0.mk (below_step (zBy HB.out GE383.out) hb); (try clear hb)) | ((with_reducible refine gate_dst (N := 6) rfl ?_); refine box_event ?hg (N := 6) ?hd (cs := #[.int .i64 0, .int .i64 0, .int .i64 0, .int .i64 0, .int .i64 0, .int .i64 0]) (t := 25) ?hr ?_; (case hd => rfl); (case hg => rfl); (case hr => exact zsx); intro gb393 hg w16 hbox hb; have BK393 := Aside0.mk (hbox); have GW393 := zns hg HB.out; have GE393 := zns hg HB.out; replace HB := Aside0.mk (below_step (zBy HB.out GE383.out) hb); have NB383_393 := znl hg BK383.out; have NB393_383 := zng hg BK383.out; replace BK383 := zbl BK383.out hb; clear hb hbox hg; have hnb17 := NB393_383.out; have hnc17 := NB383_393.out; have hcz18_0 : w16.cell? ⟨gb393, 0, none⟩ = some (.int .i64 0) := (blk_cell BK393.out 0).trans rfl; have hcz18_1 : w16.cell? ⟨gb393, 1, none⟩ = some (.int .i64 0) := (blk_cell BK393.out 1).trans rfl; have hcz18_2 : w16.cell? ⟨gb393, 2, none⟩ = some (.int .i64 0) := (blk_cell BK393.out 2).trans rfl; have hcz18_3 : w16.cell? ⟨gb393, 3, none⟩ = some (.int .i64 0) := (blk_cell BK393.out 3).trans rfl; have hcz18_4 : w16.cell? ⟨gb393, 4, none⟩ = some (.int .i64 0) := (blk_cell BK393.out 4).trans rfl; have hcz18_5 : w16.cell? ⟨gb393, 5, none⟩ = some (.int .i64 0) := (blk_cell BK393.out 5).trans rfl; have hfz18_0 := blk_frozen BK393.out 0; have hfz18_1 := blk_frozen BK393.out 1; have hfz18_2 := blk_frozen BK393.out 2; have hfz18_3 := blk_frozen BK393.out 3; have hfz18_4 := blk_frozen BK393.out 4; have hfz18_5 := blk_frozen BK393.out 5; have hcz19_0 : w16.cell? ⟨gb383, 0, none⟩ = some (.int .i64 t377) := (blk_cell BK383.out 0).trans rfl; have hcz19_1 : w16.cell? ⟨gb383, 1, none⟩ = some (.int .i64 t378) := (blk_cell BK383.out 1).trans rfl; have hcz19_2 : w16.cell? ⟨gb383, 2, none⟩ = some (.int .i64 t379) := (blk_cell BK383.out 2).trans rfl; have hcz19_3 : w16.cell? ⟨gb383, 3, none⟩ = some (.int .i64 t380) := (blk_cell BK383.out 3).trans rfl; have hcz19_4 : w16.cell? ⟨gb383, 4, none⟩ = some (.int .i64 t381) := (blk_cell BK383.out 4).trans rfl; have hcz19_5 : w16.cell? ⟨gb383, 5, none⟩ = some (.int .i64 t382) := (blk_cell BK383.out 5).trans rfl; have hfz19_0 := blk_frozen BK383.out 0; have hfz19_1 := blk_frozen BK383.out 1; have hfz19_2 := blk_frozen BK383.out 2; have hfz19_3 := blk_frozen BK383.out 3; have hfz19_4 := blk_frozen BK383.out 4; have hfz19_5 := blk_frozen BK383.out 5) | ((with_reducible refine gate_callee (f := 10) rfl ?_); refine goesL_ (some 42) rfl rfl Tryz.func10 (by kernel_rfl) rfl #[.agg #[.int .i64 t377, .int .i64 t378, .int .i64 t379, .int .i64 t380, .int .i64 t381, .int .i64 t382]] rfl zlx ?_; (with_reducible refine (impl_WarningCode.calls k t377 t378 t379 t380 t381 t382 t394 t395 _ ?sideL A7.out).mono ?_); (case sideL => exact Laid.below HL.out (zBz HB.out GE383.out GE393.out)); rintro e w20 ⟨rfl, hb⟩; refine ⟨_, rfl, ?_⟩; replace BK383 := zbl BK383.out hb; replace BK393 := Aside0.mk (blk_below (g := gb393) (o := .cells #[.int .i64 t386, .int .i64 t387, .int .i64 t388, .int .i64 t389, .int .i64 t390, .int .i64 t391] 25 (0, 0)) (zbp BK393.out) hb); replace HB := Aside0.mk (below_step (zBz HB.out GE383.out GE393.out) hb); (try clear hb)) | ((with_reducible refine gate_callee (f := 11) rfl ?_); refine goesL_ (some 47) rfl rfl Tryz.func11 (by kernel_rfl) rfl #[.string t394] rfl zlx ?_; (with_reducible refine (impl_ParseCode.calls k t394 t396 t397 t398 t399 t400 t401 t402 _ ?sideL A8.out).mono ?_); (case sideL => exact Laid.below HL.out (zBz HB.out GE383.out GE393.out)); rintro e w21 ⟨rfl, hb⟩; refine ⟨_, rfl, ?_⟩; replace BK383 := zbl BK383.out hb; replace BK393 := zbl BK393.out hb; replace HB := Aside0.mk (below_step (zBz HB.out GE383.out GE393.out) hb); (try clear hb)) | ((with_reducible refine gate_dst (N := 10) rfl ?_); refine box_event ?hg (N := 10) ?hd (cs := #[.int .i64 0, .int .i64 0, .int .i64 0, .int .i64 0, .int .i64 0, .int .i64 0]) (t := 25) ?hr ?_; (case hd => rfl); (case hg => rfl); (case hr => exact zsx); intro gb403 hg w22 hbox hb; have BK403 := Aside0.mk (hbox); have GW403 := zns hg HB.out; have GE403 := zns hg HB.out; replace HB := Aside0.mk (below_step (zBz HB.out GE383.out GE393.out) hb); have NB383_403 := znl hg BK383.out; have NB403_383 := zng hg BK383.out; replace BK383 := zbl BK383.out hb; have NB393_403 := znl hg BK393.out; have NB403_393 := zng hg BK393.out; replace BK393 := zbl BK393.out hb; clear hb hbox hg; have hnb23 := NB403_383.out; have hnc23 := NB383_403.out; have hnb24 := NB403_393.out; have hnc24 := NB393_403.out; have hcz25_0 : w22.cell? ⟨gb403, 0, none⟩ = some (.int .i64 0) := (blk_cell BK403.out 0).trans rfl; have hcz25_1 : w22.cell? ⟨gb403, 1, none⟩ = some (.int .i64 0) := (blk_cell BK403.out 1).trans rfl; have hcz25_2 : w22.cell? ⟨gb403, 2, none⟩ = some (.int .i64 0) := (blk_cell BK403.out 2).trans rfl; have hcz25_3 : w22.cell? ⟨gb403, 3, none⟩ = some (.int .i64 0) := (blk_cell BK403.out 3).trans rfl; have hcz25_4 : w22.cell? ⟨gb403, 4, none⟩ = some (.int .i64 0) := (blk_cell BK403.out 4).trans rfl; have hcz25_5 : w22.cell? ⟨gb403, 5, none⟩ = some (.int .i64 0) := (blk_cell BK403.out 5).trans rfl; have hfz25_0 := blk_frozen BK403.out 0; have hfz25_1 := blk_frozen BK403.out 1; have hfz25_2 := blk_frozen BK403.out 2; have hfz25_3 := blk_frozen BK403.out 3; have hfz25_4 := blk_frozen BK403.out 4; have hfz25_5 := blk_frozen BK403.out 5; have hcz26_0 : w22.cell? ⟨gb383, 0, none⟩ = some (.int .i64 t377) := (blk_cell BK383.out 0).trans rfl; have hcz26_1 : w22.cell? ⟨gb383, 1, none⟩ = some (.int .i64 t378) := (blk_cell BK383.out 1).trans rfl; have hcz26_2 : w22.cell? ⟨gb383, 2, none⟩ = some (.int .i64 t379) := (blk_cell BK383.out 2).trans rfl; have hcz26_3 : w22.cell? ⟨gb383, 3, none⟩ = some (.int .i64 t380) := (blk_cell BK383.out 3).trans rfl; have hcz26_4 : w22.cell? ⟨gb383, 4, none⟩ = some (.int .i64 t381) := (blk_cell BK383.out 4).trans rfl; have hcz26_5 : w22.cell? ⟨gb383, 5, none⟩ = some (.int .i64 t382) := (blk_cell BK383.out 5).trans rfl; have hfz26_0 := blk_frozen BK383.out 0; have hfz26_1 := blk_frozen BK383.out 1; have hfz26_2 := blk_frozen BK383.out 2; have hfz26_3 := blk_frozen BK383.out 3; have hfz26_4 := blk_frozen BK383.out 4; have hfz26_5 := blk_frozen BK383.out 5) | ((with_reducible refine gate_callee (f := 12) rfl ?_); refine goesL_ (some 52) rfl rfl Tryz.func12 (by kernel_rfl) rfl #[.agg #[.int .i64 t377, .int .i64 t378, .int .i64 t379, .int .i64 t380, .int .i64 t381, .int .i64 t382]] rfl zlx ?_; (with_reducible refine (spec_WarningLine.calls k t377 t378 t379 t380 t381 t382 t404 t405 _ A9.out).mono ?_); rintro e w27 ⟨rfl, hb⟩; refine ⟨_, rfl, ?_⟩; replace BK383 := zbl BK383.out hb; replace BK393 := zbl BK393.out hb; replace BK403 := Aside0.mk (blk_below (g := gb403) (o := .cells #[.int .i64 t396, .int .i64 t397, .int .i64 t398, .int .i64 t399, .int .i64 t400, .int .i64 t401] 25 (0, 0)) (zbp BK403.out) hb); replace HB := Aside0.mk (below_step (zhB HB.out) hb); (try clear hb)))
  (try simp only [Act.put, List.setIfInBounds_toArray, List.set_cons_zero, List.set_cons_succ])
  go_cut [88] (fun v88 wc => ∃ (kq : Nat) (x88_9 : Bool), v88 = .bool x88_9 ∧ Aside0 (laws_FnMessages.j0 kq l0 x88_9 = some r) ∧ Aside0 (kq ≤ k) ∧ Aside0 (wc.heap[gb383]? = some (.cells #[.int .i64 t377, .int .i64 t378, .int .i64 t379, .int .i64 t380, .int .i64 t381, .int .i64 t382] 25 (0, 0))) ∧ Aside0 (wc.heap[gb393]? = some (.cells #[.int .i64 t386, .int .i64 t387, .int .i64 t388, .int .i64 t389, .int .i64 t390, .int .i64 t391] 25 (0, 0))) ∧ Aside0 (wc.heap[gb403]? = some (.cells #[.int .i64 t396, .int .i64 t397, .int .i64 t398, .int .i64 t399, .int .i64 t400, .int .i64 t401] 25 (0, 0))) ∧ Aside0 (Below w.heap.size w wc))
  case first =>
   as_aux_lemma =>
   have H := HC10.out
   clear HC10
   by_cases c28 : t384.toList = t404.toList
   ·rw [if_pos c28] at H
    have c28b0 : (t384.toList == t404.toList) = true := beq_iff_eq.mpr c28
    have c28b1 : (t384.toList != t404.toList) = false := bne_eq_false_iff_eq.mpr c28
    clear c28
    (first | rw [c28b0] | (simp only [i64_w, i32_w]; rw [c28b0]) | skip)
    by_cases c29 : (t385 != t405) = true
    ·rw [if_pos c29] at H
     have c29b0 : (t385 != t405) = true := c29
     (try (have c29b1 : decide (t385 = t405) = false := by simpa using c29))
     (try (have c29b2 : (t385 == t405) = false := by simpa using c29))
     (try (have c29b3 : ¬ (t385 = t405) := by simpa using c29))
     clear c29
     as_aux_lemma =>
      have H' := Aside0.mk H
      clear H
      go_wp2
      go_meet
      case rel => exact ⟨_, (true), zrx, H', ⟨by first | omega | exact Nat.le_refl _⟩, ⟨by refine zbx ?_; exact BK383.out⟩, ⟨by refine zbx ?_; exact BK393.out⟩, ⟨by refine zbx ?_; exact BK403.out⟩, ⟨zhB HB.out⟩⟩
    ·rw [if_neg c29] at H
     have c29b0 : (t385 != t405) = false := by simpa using c29
     (try (have c29b1 : decide (t385 = t405) = true := by simpa using c29))
     (try (have c29b2 : (t385 == t405) = true := by simpa using c29))
     clear c29
     by_cases c30 : (t395 != t385) = true
     ·rw [if_pos c30] at H
      have c30b0 : (t395 != t385) = true := c30
      (try (have c30b1 : decide (t395 = t385) = false := by simpa using c30))
      (try (have c30b2 : (t395 == t385) = false := by simpa using c30))
      (try (have c30b3 : ¬ (t395 = t385) := by simpa using c30))
      clear c30
      as_aux_lemma =>
       have H' := Aside0.mk H
       clear H
       go_wp2
       go_meet
       case rel => exact ⟨_, (true), zrx, H', ⟨by first | omega | exact Nat.le_refl _⟩, ⟨by refine zbx ?_; exact BK383.out⟩, ⟨by refine zbx ?_; exact BK393.out⟩, ⟨by refine zbx ?_; exact BK403.out⟩, ⟨zhB HB.out⟩⟩
     ·rw [if_neg c30] at H
      have c30b0 : (t395 != t385) = false := by simpa using c30
      (try (have c30b1 : decide (t395 = t385) = true := by simpa using c30))
      (try (have c30b2 : (t395 == t385) = true := by simpa using c30))
      clear c30
      by_cases c31 : t385 = true
      ·subst c31
       rw [if_pos rfl] at H
       by_cases c32 : t392 = true
       ·subst c32
        rw [if_pos rfl] at H
        by_cases c33 : (!(t386 == t377) || (!(t387 == t378) || (!(t388 == t379) || (!(t389 == t380) || (!(t390 == t381) || (!(t391 == t382))))))) = true
        ·rw [if_pos c33] at H
         have c33b0 : (!(t386 == t377) || (!(t387 == t378) || (!(t388 == t379) || (!(t389 == t380) || (!(t390 == t381) || (!(t391 == t382))))))) = true := c33
         clear c33
         as_aux_lemma =>
          have H' := Aside0.mk H
          clear H
          have hnb34 := NB393_383.out
          have hnc34 := NB383_393.out
          have hnb35 := NB393_403.out
          have hnc35 := NB403_393.out
          have hcz36_0 : w27.cell? ⟨gb393, 0, none⟩ = some (.int .i64 t386) := (blk_cell BK393.out 0).trans rfl
          have hcz36_1 : w27.cell? ⟨gb393, 1, none⟩ = some (.int .i64 t387) := (blk_cell BK393.out 1).trans rfl
          have hcz36_2 : w27.cell? ⟨gb393, 2, none⟩ = some (.int .i64 t388) := (blk_cell BK393.out 2).trans rfl
          have hcz36_3 : w27.cell? ⟨gb393, 3, none⟩ = some (.int .i64 t389) := (blk_cell BK393.out 3).trans rfl
          have hcz36_4 : w27.cell? ⟨gb393, 4, none⟩ = some (.int .i64 t390) := (blk_cell BK393.out 4).trans rfl
          have hcz36_5 : w27.cell? ⟨gb393, 5, none⟩ = some (.int .i64 t391) := (blk_cell BK393.out 5).trans rfl
          have hfz36_0 := blk_frozen BK393.out 0
          have hfz36_1 := blk_frozen BK393.out 1
          have hfz36_2 := blk_frozen BK393.out 2
          have hfz36_3 := blk_frozen BK393.out 3
          have hfz36_4 := blk_frozen BK393.out 4
          have hfz36_5 := blk_frozen BK393.out 5
          have hnb37 := NB383_403.out
          have hnc37 := NB403_383.out
          have hcz38_0 : w27.cell? ⟨gb383, 0, none⟩ = some (.int .i64 t377) := (blk_cell BK383.out 0).trans rfl
          have hcz38_1 : w27.cell? ⟨gb383, 1, none⟩ = some (.int .i64 t378) := (blk_cell BK383.out 1).trans rfl
          have hcz38_2 : w27.cell? ⟨gb383, 2, none⟩ = some (.int .i64 t379) := (blk_cell BK383.out 2).trans rfl
          have hcz38_3 : w27.cell? ⟨gb383, 3, none⟩ = some (.int .i64 t380) := (blk_cell BK383.out 3).trans rfl
          have hcz38_4 : w27.cell? ⟨gb383, 4, none⟩ = some (.int .i64 t381) := (blk_cell BK383.out 4).trans rfl
          have hcz38_5 : w27.cell? ⟨gb383, 5, none⟩ = some (.int .i64 t382) := (blk_cell BK383.out 5).trans rfl
          have hfz38_0 := blk_frozen BK383.out 0
          have hfz38_1 := blk_frozen BK383.out 1
          have hfz38_2 := blk_frozen BK383.out 2
          have hfz38_3 := blk_frozen BK383.out 3
          have hfz38_4 := blk_frozen BK383.out 4
          have hfz38_5 := blk_frozen BK383.out 5
          go_wp2
          go_meet
          case rel => exact ⟨_, (true), zrx, H', ⟨by first | omega | exact Nat.le_refl _⟩, ⟨by refine zbx ?_; exact BK383.out⟩, ⟨by refine zbx ?_; exact BK393.out⟩, ⟨by refine zbx ?_; exact BK403.out⟩, ⟨zhB HB.out⟩⟩
        ·rw [if_neg c33] at H
         have c33b0 : (!(t386 == t377) || (!(t387 == t378) || (!(t388 == t379) || (!(t389 == t380) || (!(t390 == t381) || (!(t391 == t382))))))) = false := by simpa using c33
         clear c33
         by_cases c39 : t402 = true
         ·subst c39
          rw [if_pos rfl] at H
          as_aux_lemma =>
           have H' := Aside0.mk H
           clear H
           have hnb40 := NB393_383.out
           have hnc40 := NB383_393.out
           have hnb41 := NB393_403.out
           have hnc41 := NB403_393.out
           have hcz42_0 : w27.cell? ⟨gb393, 0, none⟩ = some (.int .i64 t386) := (blk_cell BK393.out 0).trans rfl
           have hcz42_1 : w27.cell? ⟨gb393, 1, none⟩ = some (.int .i64 t387) := (blk_cell BK393.out 1).trans rfl
           have hcz42_2 : w27.cell? ⟨gb393, 2, none⟩ = some (.int .i64 t388) := (blk_cell BK393.out 2).trans rfl
           have hcz42_3 : w27.cell? ⟨gb393, 3, none⟩ = some (.int .i64 t389) := (blk_cell BK393.out 3).trans rfl
           have hcz42_4 : w27.cell? ⟨gb393, 4, none⟩ = some (.int .i64 t390) := (blk_cell BK393.out 4).trans rfl
           have hcz42_5 : w27.cell? ⟨gb393, 5, none⟩ = some (.int .i64 t391) := (blk_cell BK393.out 5).trans rfl
           have hfz42_0 := blk_frozen BK393.out 0
           have hfz42_1 := blk_frozen BK393.out 1
           have hfz42_2 := blk_frozen BK393.out 2
           have hfz42_3 := blk_frozen BK393.out 3
           have hfz42_4 := blk_frozen BK393.out 4
           have hfz42_5 := blk_frozen BK393.out 5
           have hnb43 := NB383_403.out
           have hnc43 := NB403_383.out
           have hcz44_0 : w27.cell? ⟨gb383, 0, none⟩ = some (.int .i64 t377) := (blk_cell BK383.out 0).trans rfl
           have hcz44_1 : w27.cell? ⟨gb383, 1, none⟩ = some (.int .i64 t378) := (blk_cell BK383.out 1).trans rfl
           have hcz44_2 : w27.cell? ⟨gb383, 2, none⟩ = some (.int .i64 t379) := (blk_cell BK383.out 2).trans rfl
           have hcz44_3 : w27.cell? ⟨gb383, 3, none⟩ = some (.int .i64 t380) := (blk_cell BK383.out 3).trans rfl
           have hcz44_4 : w27.cell? ⟨gb383, 4, none⟩ = some (.int .i64 t381) := (blk_cell BK383.out 4).trans rfl
           have hcz44_5 : w27.cell? ⟨gb383, 5, none⟩ = some (.int .i64 t382) := (blk_cell BK383.out 5).trans rfl
           have hfz44_0 := blk_frozen BK383.out 0
           have hfz44_1 := blk_frozen BK383.out 1
           have hfz44_2 := blk_frozen BK383.out 2
           have hfz44_3 := blk_frozen BK383.out 3
           have hfz44_4 := blk_frozen BK383.out 4
           have hfz44_5 := blk_frozen BK383.out 5
           have hcz45_0 : w27.cell? ⟨gb403, 0, none⟩ = some (.int .i64 t396) := (blk_cell BK403.out 0).trans rfl
           have hcz45_1 : w27.cell? ⟨gb403, 1, none⟩ = some (.int .i64 t397) := (blk_cell BK403.out 1).trans rfl
           have hcz45_2 : w27.cell? ⟨gb403, 2, none⟩ = some (.int .i64 t398) := (blk_cell BK403.out 2).trans rfl
           have hcz45_3 : w27.cell? ⟨gb403, 3, none⟩ = some (.int .i64 t399) := (blk_cell BK403.out 3).trans rfl
           have hcz45_4 : w27.cell? ⟨gb403, 4, none⟩ = some (.int .i64 t400) := (blk_cell BK403.out 4).trans rfl
           have hcz45_5 : w27.cell? ⟨gb403, 5, none⟩ = some (.int .i64 t401) := (blk_cell BK403.out 5).trans rfl
           have hfz45_0 := blk_frozen BK403.out 0
           have hfz45_1 := blk_frozen BK403.out 1
           have hfz45_2 := blk_frozen BK403.out 2
           have hfz45_3 := blk_frozen BK403.out 3
           have hfz45_4 := blk_frozen BK403.out 4
           have hfz45_5 := blk_frozen BK403.out 5
           go_wp2
           go_meet
           case rel => exact ⟨_, ((!(t396 == t377) || (!(t397 == t378) || (!(t398 == t379) || (!(t399 == t380) || (!(t400 == t381) || (!(t401 == t382)))))))), zrx, H', ⟨by first | omega | exact Nat.le_refl _⟩, ⟨by refine zbx ?_; exact BK383.out⟩, ⟨by refine zbx ?_; exact BK393.out⟩, ⟨by refine zbx ?_; exact BK403.out⟩, ⟨zhB HB.out⟩⟩
         ·replace c39 := Bool.eq_false_iff.mpr c39
          subst c39
          rw [if_neg (show ¬ (false = true) by decide)] at H
          as_aux_lemma =>
           have H' := Aside0.mk H
           clear H
           have hnb46 := NB393_383.out
           have hnc46 := NB383_393.out
           have hnb47 := NB393_403.out
           have hnc47 := NB403_393.out
           have hcz48_0 : w27.cell? ⟨gb393, 0, none⟩ = some (.int .i64 t386) := (blk_cell BK393.out 0).trans rfl
           have hcz48_1 : w27.cell? ⟨gb393, 1, none⟩ = some (.int .i64 t387) := (blk_cell BK393.out 1).trans rfl
           have hcz48_2 : w27.cell? ⟨gb393, 2, none⟩ = some (.int .i64 t388) := (blk_cell BK393.out 2).trans rfl
           have hcz48_3 : w27.cell? ⟨gb393, 3, none⟩ = some (.int .i64 t389) := (blk_cell BK393.out 3).trans rfl
           have hcz48_4 : w27.cell? ⟨gb393, 4, none⟩ = some (.int .i64 t390) := (blk_cell BK393.out 4).trans rfl
           have hcz48_5 : w27.cell? ⟨gb393, 5, none⟩ = some (.int .i64 t391) := (blk_cell BK393.out 5).trans rfl
           have hfz48_0 := blk_frozen BK393.out 0
           have hfz48_1 := blk_frozen BK393.out 1
           have hfz48_2 := blk_frozen BK393.out 2
           have hfz48_3 := blk_frozen BK393.out 3
           have hfz48_4 := blk_frozen BK393.out 4
           have hfz48_5 := blk_frozen BK393.out 5
           have hnb49 := NB383_403.out
           have hnc49 := NB403_383.out
           have hcz50_0 : w27.cell? ⟨gb383, 0, none⟩ = some (.int .i64 t377) := (blk_cell BK383.out 0).trans rfl
           have hcz50_1 : w27.cell? ⟨gb383, 1, none⟩ = some (.int .i64 t378) := (blk_cell BK383.out 1).trans rfl
           have hcz50_2 : w27.cell? ⟨gb383, 2, none⟩ = some (.int .i64 t379) := (blk_cell BK383.out 2).trans rfl
           have hcz50_3 : w27.cell? ⟨gb383, 3, none⟩ = some (.int .i64 t380) := (blk_cell BK383.out 3).trans rfl
           have hcz50_4 : w27.cell? ⟨gb383, 4, none⟩ = some (.int .i64 t381) := (blk_cell BK383.out 4).trans rfl
           have hcz50_5 : w27.cell? ⟨gb383, 5, none⟩ = some (.int .i64 t382) := (blk_cell BK383.out 5).trans rfl
           have hfz50_0 := blk_frozen BK383.out 0
           have hfz50_1 := blk_frozen BK383.out 1
           have hfz50_2 := blk_frozen BK383.out 2
           have hfz50_3 := blk_frozen BK383.out 3
           have hfz50_4 := blk_frozen BK383.out 4
           have hfz50_5 := blk_frozen BK383.out 5
           go_wp2
           go_meet
           case rel => exact ⟨_, (true), zrx, H', ⟨by first | omega | exact Nat.le_refl _⟩, ⟨by refine zbx ?_; exact BK383.out⟩, ⟨by refine zbx ?_; exact BK393.out⟩, ⟨by refine zbx ?_; exact BK403.out⟩, ⟨zhB HB.out⟩⟩
       ·replace c32 := Bool.eq_false_iff.mpr c32
        subst c32
        rw [if_neg (show ¬ (false = true) by decide)] at H
        as_aux_lemma =>
         have H' := Aside0.mk H
         clear H
         go_wp2
         go_meet
         case rel => exact ⟨_, (true), zrx, H', ⟨by first | omega | exact Nat.le_refl _⟩, ⟨by refine zbx ?_; exact BK383.out⟩, ⟨by refine zbx ?_; exact BK393.out⟩, ⟨by refine zbx ?_; exact BK403.out⟩, ⟨zhB HB.out⟩⟩
      ·replace c31 := Bool.eq_false_iff.mpr c31
       subst c31
       rw [if_neg (show ¬ (false = true) by decide)] at H
       as_aux_lemma =>
        have H' := Aside0.mk H
        clear H
        go_wp2
        go_meet
        case rel => exact ⟨_, (false), zrx, H', ⟨by first | omega | exact Nat.le_refl _⟩, ⟨by refine zbx ?_; exact BK383.out⟩, ⟨by refine zbx ?_; exact BK393.out⟩, ⟨by refine zbx ?_; exact BK403.out⟩, ⟨zhB HB.out⟩⟩
   ·rw [if_neg c28] at H
    have c28b0 : (t384.toList == t404.toList) = false := beq_eq_false_iff_ne.mpr c28
    have c28b1 : (t384.toList != t404.toList) = true := bne_iff_ne.mpr c28
    (first | rw [c28b0] | (simp only [i64_w, i32_w]; rw [c28b0]) | skip)
    as_aux_lemma =>
     have H' := Aside0.mk H
     clear H
     go_wp2
     go_meet
     case rel => exact ⟨_, (true), zrx, H', ⟨by first | omega | exact Nat.le_refl _⟩, ⟨by refine zbx ?_; exact BK383.out⟩, ⟨by refine zbx ?_; exact BK393.out⟩, ⟨by refine zbx ?_; exact BK403.out⟩, ⟨zhB HB.out⟩⟩
  case rest =>
   clear HC10
   try clear c1
   try clear c2
   try clear p2
   try clear c3
   try clear c4
   try clear c6
   try clear c7
   try clear c8
   try clear c9
   try clear c10
   try clear c11
   try clear c12
   try clear c17
   try clear c23
   try clear c24
   try clear c28
   try clear c28b0
   try clear c28b1
   try clear c29
   try clear c29b0
   try clear c29b1
   try clear c29b2
   try clear c30
   try clear c30b0
   try clear c30b1
   try clear c30b2
   try clear c31
   try clear c32
   try clear c33
   try clear c33b0
   try clear c34
   try clear c35
   try clear c37
   try clear c39
   try clear c40
   try clear c41
   try clear c43
   try clear c46
   try clear c47
   try clear c49
   try clear hcz13_0
   try clear hcz13_1
   try clear hcz13_2
   try clear hcz13_3
   try clear hcz13_4
   try clear hcz13_5
   try clear hcz18_0
   try clear hcz18_1
   try clear hcz18_2
   try clear hcz18_3
   try clear hcz18_4
   try clear hcz18_5
   try clear hcz19_0
   try clear hcz19_1
   try clear hcz19_2
   try clear hcz19_3
   try clear hcz19_4
   try clear hcz19_5
   try clear hcz25_0
   try clear hcz25_1
   try clear hcz25_2
   try clear hcz25_3
   try clear hcz25_4
   try clear hcz25_5
   try clear hcz26_0
   try clear hcz26_1
   try clear hcz26_2
   try clear hcz26_3
   try clear hcz26_4
   try clear hcz26_5
   try clear hcz36_0
   try clear hcz36_1
   try clear hcz36_2
   try clear hcz36_3
   try clear hcz36_4
   try clear hcz36_5
   try clear hcz38_0
   try clear hcz38_1
   try clear hcz38_2
   try clear hcz38_3
   try clear hcz38_4
   try clear hcz38_5
   try clear hcz42_0
   try clear hcz42_1
   try clear hcz42_2
   try clear hcz42_3
   try clear hcz42_4
   try clear hcz42_5
   try clear hcz44_0
   try clear hcz44_1
   try clear hcz44_2
   try clear hcz44_3
   try clear hcz44_4
   try clear hcz44_5
   try clear hcz45_0
   try clear hcz45_1
   try clear hcz45_2
   try clear hcz45_3
   try clear hcz45_4
   try clear hcz45_5
   try clear hcz48_0
   try clear hcz48_1
   try clear hcz48_2
   try clear hcz48_3
   try clear hcz48_4
   try clear hcz48_5
   try clear hcz50_0
   try clear hcz50_1
   try clear hcz50_2
   try clear hcz50_3
   try clear hcz50_4
   try clear hcz50_5
   try clear hfz13_0
   try clear hfz13_1
   try clear hfz13_2
   try clear hfz13_3
   try clear hfz13_4
   try clear hfz13_5
   try clear hfz18_0
   try clear hfz18_1
   try clear hfz18_2
   try clear hfz18_3
   try clear hfz18_4
   try clear hfz18_5
   try clear hfz19_0
   try clear hfz19_1
   try clear hfz19_2
   try clear hfz19_3
   try clear hfz19_4
   try clear hfz19_5
   try clear hfz25_0
   try clear hfz25_1
   try clear hfz25_2
   try clear hfz25_3
   try clear hfz25_4
   try clear hfz25_5
   try clear hfz26_0
   try clear hfz26_1
   try clear hfz26_2
   try clear hfz26_3
   try clear hfz26_4
   try clear hfz26_5
   try clear hfz36_0
   try clear hfz36_1
   try clear hfz36_2
   try clear hfz36_3
   try clear hfz36_4
   try clear hfz36_5
   try clear hfz38_0
   try clear hfz38_1
   try clear hfz38_2
   try clear hfz38_3
   try clear hfz38_4
   try clear hfz38_5
   try clear hfz42_0
   try clear hfz42_1
   try clear hfz42_2
   try clear hfz42_3
   try clear hfz42_4
   try clear hfz42_5
   try clear hfz44_0
   try clear hfz44_1
   try clear hfz44_2
   try clear hfz44_3
   try clear hfz44_4
   try clear hfz44_5
   try clear hfz45_0
   try clear hfz45_1
   try clear hfz45_2
   try clear hfz45_3
   try clear hfz45_4
   try clear hfz45_5
   try clear hfz48_0
   try clear hfz48_1
   try clear hfz48_2
   try clear hfz48_3
   try clear hfz48_4
   try clear hfz48_5
   try clear hfz50_0
   try clear hfz50_1
   try clear hfz50_2
   try clear hfz50_3
   try clear hfz50_4
   try clear hfz50_5
   obtain ⟨kq, x88_9, rfl, HA, HJ9, BK383, BK393, BK403, HB⟩ := hcut
   cases kq with
   | zero => exact absurd HA.out (by simp [laws_FnMessages.j0])
   | succ kj9 =>
    have H := HA.out
    clear HA
    simp only [laws_FnMessages.j0] at H
    by_cases c51 : x88_9 = true
    ·subst c51
     rw [if_pos rfl] at H
     as_aux_lemma =>
      exact absurd (Option.some.inj H) (by rw [hr_]; decide)
    ·replace c51 := Bool.eq_false_iff.mpr c51
     subst c51
     rw [if_neg (show ¬ (false = true) by decide)] at H
     replace H := Option.bind_eq_some_iff.mp H
     obtain ⟨t406, A520, H⟩ := H
     replace H : ((impl_ParseWarningLine.f t406).bind fun bt407 => ((impl_WarningLine.f bt407.1 bt407.2.1 bt407.2.2.1 bt407.2.2.2.1 bt407.2.2.2.2.1 bt407.2.2.2.2.2.1).bind fun bt415 => (if bt407.2.2.2.2.2.2 = true then (if bt415.2 = true then (laws_FnMessages.j1 kj9 l0 (bt415.1.toList != t406.toList)) else (laws_FnMessages.j1 kj9 l0 true)) else (laws_FnMessages.j1 kj9 l0 false)))) = some r := H
     have A52 := Aside0.mk A520
     clear A520
     replace H := Option.bind_eq_some_iff.mp H
     obtain ⟨⟨t407, t408, t409, t410, t411, t412, t413⟩, A530, H⟩ := H
     replace H : ((impl_WarningLine.f t407 t408 t409 t410 t411 t412).bind fun bt415 => (if t413 = true then (if bt415.2 = true then (laws_FnMessages.j1 kj9 l0 (bt415.1.toList != t406.toList)) else (laws_FnMessages.j1 kj9 l0 true)) else (laws_FnMessages.j1 kj9 l0 false))) = some r := H
     have A53 := Aside0.mk A530
     clear A530
     replace H := Option.bind_eq_some_iff.mp H
     obtain ⟨⟨t415, t416⟩, A540, H⟩ := H
     replace H : (if t413 = true then (if t416 = true then (laws_FnMessages.j1 kj9 l0 (t415.toList != t406.toList)) else (laws_FnMessages.j1 kj9 l0 true)) else (laws_FnMessages.j1 kj9 l0 false)) = some r := H
     have A54 := Aside0.mk A540
     clear A540
     have HC55 := Aside0.mk H
     clear H
     go_upto_region 14 with (first | ((with_reducible refine gate_callee (f := 13) rfl ?_); refine goesL_ (some 90) rfl rfl Tryz.func13 (by kernel_rfl) rfl #[.slice A0 l0.length c0] rfl zlx ?_; (with_reducible refine (spec_DrawParseWarningLine.calls kj9 _ _ l0 t406 _ ?side1 ?side2 A52.out).mono ?_); (case side1 => exact zCx (Kd.C_below HR0.out HB.out)); (case side2 => exact HC0.out); rintro e w56 ⟨rfl, hb⟩; refine ⟨_, rfl, ?_⟩; replace BK383 := zbl BK383.out hb; replace BK393 := zbl BK393.out hb; replace BK403 := zbl BK403.out hb; replace HB := Aside0.mk (below_step (zhB HB.out) hb); (try clear hb)) | ((with_reducible refine gate_callee (f := 9) rfl ?_); refine goesL_ (some 93) rfl rfl Tryz.func9 (by kernel_rfl) rfl #[.string t406] rfl zlx ?_; (with_reducible refine (impl_ParseWarningLine.calls t406 t407 t408 t409 t410 t411 t412 t413 _ ?sideL A53.out).mono ?_); (case sideL => exact Laid.below HL.out (zhB HB.out)); rintro e w57 ⟨rfl, hb⟩; refine ⟨_, rfl, ?_⟩; replace BK383 := zbl BK383.out hb; replace BK393 := zbl BK393.out hb; replace BK403 := zbl BK403.out hb; replace HB := Aside0.mk (below_step (zhB HB.out) hb); (try clear hb)) | ((with_reducible refine gate_dst (N := 15) rfl ?_); refine box_event ?hg (N := 15) ?hd (cs := #[.int .i64 0, .int .i64 0, .int .i64 0, .int .i64 0, .int .i64 0, .int .i64 0]) (t := 25) ?hr ?_; (case hd => rfl); (case hg => rfl); (case hr => exact zsx); intro gb414 hg w58 hbox hb; have BK414 := Aside0.mk (hbox); have GW414 := zns hg HB.out; have GE414 := zns hg HB.out; replace HB := Aside0.mk (below_step (zhB HB.out) hb); have NB383_414 := znl hg BK383.out; have NB414_383 := zng hg BK383.out; replace BK383 := zbl BK383.out hb; have NB393_414 := znl hg BK393.out; have NB414_393 := zng hg BK393.out; replace BK393 := zbl BK393.out hb; have NB403_414 := znl hg BK403.out; have NB414_403 := zng hg BK403.out; replace BK403 := zbl BK403.out hb; clear hb hbox hg; have hnb59 := NB414_383.out; have hnc59 := NB383_414.out; have hnb60 := NB414_393.out; have hnc60 := NB393_414.out; have hnb61 := NB414_403.out; have hnc61 := NB403_414.out; have hcz62_0 : w58.cell? ⟨gb414, 0, none⟩ = some (.int .i64 0) := (blk_cell BK414.out 0).trans rfl; have hcz62_1 : w58.cell? ⟨gb414, 1, none⟩ = some (.int .i64 0) := (blk_cell BK414.out 1).trans rfl; have hcz62_2 : w58.cell? ⟨gb414, 2, none⟩ = some (.int .i64 0) := (blk_cell BK414.out 2).trans rfl; have hcz62_3 : w58.cell? ⟨gb414, 3, none⟩ = some (.int .i64 0) := (blk_cell BK414.out 3).trans rfl; have hcz62_4 : w58.cell? ⟨gb414, 4, none⟩ = some (.int .i64 0) := (blk_cell BK414.out 4).trans rfl; have hcz62_5 : w58.cell? ⟨gb414, 5, none⟩ = some (.int .i64 0) := (blk_cell BK414.out 5).trans rfl; have hfz62_0 := blk_frozen BK414.out 0; have hfz62_1 := blk_frozen BK414.out 1; have hfz62_2 := blk_frozen BK414.out 2; have hfz62_3 := blk_frozen BK414.out 3; have hfz62_4 := blk_frozen BK414.out 4; have hfz62_5 := blk_frozen BK414.out 5) | ((with_reducible refine gate_callee (f := 8) rfl ?_); refine goesL_ (some 98) rfl rfl Tryz.func8 (by kernel_rfl) rfl #[.agg #[.int .i64 t407, .int .i64 t408, .int .i64 t409, .int .i64 t410, .int .i64 t411, .int .i64 t412]] rfl zlx ?_; (with_reducible refine (impl_WarningLine.calls t407 t408 t409 t410 t411 t412 t415 t416 _ ?sideL A54.out).mono ?_); (case sideL => exact Laid.below HL.out (zhB HB.out)); rintro e w63 ⟨rfl, hb⟩; refine ⟨_, rfl, ?_⟩; replace BK383 := zbl BK383.out hb; replace BK393 := zbl BK393.out hb; replace BK403 := zbl BK403.out hb; replace BK414 := Aside0.mk (blk_below (g := gb414) (o := .cells #[.int .i64 t407, .int .i64 t408, .int .i64 t409, .int .i64 t410, .int .i64 t411, .int .i64 t412] 25 (0, 0)) (zbp BK414.out) hb); replace HB := Aside0.mk (below_step (zhB HB.out) hb); (try clear hb)))
     (try simp only [Act.put, List.setIfInBounds_toArray, List.set_cons_zero, List.set_cons_succ])
     go_cut [110] (fun v110 wc => ∃ (kq : Nat) (x110_54 : Bool), v110 = .bool x110_54 ∧ Aside0 (laws_FnMessages.j1 kq l0 x110_54 = some r) ∧ Aside0 (kq ≤ kj9) ∧ Aside0 (wc.heap[gb383]? = some (.cells #[.int .i64 t377, .int .i64 t378, .int .i64 t379, .int .i64 t380, .int .i64 t381, .int .i64 t382] 25 (0, 0))) ∧ Aside0 (wc.heap[gb393]? = some (.cells #[.int .i64 t386, .int .i64 t387, .int .i64 t388, .int .i64 t389, .int .i64 t390, .int .i64 t391] 25 (0, 0))) ∧ Aside0 (wc.heap[gb403]? = some (.cells #[.int .i64 t396, .int .i64 t397, .int .i64 t398, .int .i64 t399, .int .i64 t400, .int .i64 t401] 25 (0, 0))) ∧ Aside0 (wc.heap[gb414]? = some (.cells #[.int .i64 t407, .int .i64 t408, .int .i64 t409, .int .i64 t410, .int .i64 t411, .int .i64 t412] 25 (0, 0))) ∧ Aside0 (Below w.heap.size w wc))
     case first =>
      as_aux_lemma =>
      have H := HC55.out
      clear HC55
      by_cases c64 : t413 = true
      ·subst c64
       rw [if_pos rfl] at H
       by_cases c65 : t416 = true
       ·subst c65
        rw [if_pos rfl] at H
        as_aux_lemma =>
         have H' := Aside0.mk H
         clear H
         go_wp2
         go_meet
         case rel => exact ⟨_, ((t415.toList != t406.toList)), zrx, H', ⟨by have := HJ9.out; first | omega | exact Nat.le_refl _⟩, ⟨by refine zbx ?_; exact BK383.out⟩, ⟨by refine zbx ?_; exact BK393.out⟩, ⟨by refine zbx ?_; exact BK403.out⟩, ⟨by refine zbx ?_; exact BK414.out⟩, ⟨zhB HB.out⟩⟩
       ·replace c65 := Bool.eq_false_iff.mpr c65
        subst c65
        rw [if_neg (show ¬ (false = true) by decide)] at H
        as_aux_lemma =>
         have H' := Aside0.mk H
         clear H
         go_wp2
         go_meet
         case rel => exact ⟨_, (true), zrx, H', ⟨by have := HJ9.out; first | omega | exact Nat.le_refl _⟩, ⟨by refine zbx ?_; exact BK383.out⟩, ⟨by refine zbx ?_; exact BK393.out⟩, ⟨by refine zbx ?_; exact BK403.out⟩, ⟨by refine zbx ?_; exact BK414.out⟩, ⟨zhB HB.out⟩⟩
      ·replace c64 := Bool.eq_false_iff.mpr c64
       subst c64
       rw [if_neg (show ¬ (false = true) by decide)] at H
       as_aux_lemma =>
        have H' := Aside0.mk H
        clear H
        go_wp2
        go_meet
        case rel => exact ⟨_, (false), zrx, H', ⟨by have := HJ9.out; first | omega | exact Nat.le_refl _⟩, ⟨by refine zbx ?_; exact BK383.out⟩, ⟨by refine zbx ?_; exact BK393.out⟩, ⟨by refine zbx ?_; exact BK403.out⟩, ⟨by refine zbx ?_; exact BK414.out⟩, ⟨zhB HB.out⟩⟩
     case rest =>
      clear HC55
      try clear c1
      try clear c2
      try clear p2
      try clear c3
      try clear c4
      try clear c5
      try clear c6
      try clear c7
      try clear c8
      try clear c9
      try clear c10
      try clear c11
      try clear c12
      try clear c13
      try clear c17
      try clear c23
      try clear c24
      try clear c28
      try clear c28b0
      try clear c28b1
      try clear c29
      try clear c29b0
      try clear c29b1
      try clear c29b2
      try clear c30
      try clear c30b0
      try clear c30b1
      try clear c30b2
      try clear c31
      try clear c32
      try clear c33
      try clear c33b0
      try clear c34
      try clear c35
      try clear c37
      try clear c39
      try clear c40
      try clear c41
      try clear c43
      try clear c46
      try clear c47
      try clear c49
      try clear c51
      try clear c59
      try clear c60
      try clear c61
      try clear c64
      try clear c65
      try clear hcz13_0
      try clear hcz13_1
      try clear hcz13_2
      try clear hcz13_3
      try clear hcz13_4
      try clear hcz13_5
      try clear hcz18_0
      try clear hcz18_1
      try clear hcz18_2
      try clear hcz18_3
      try clear hcz18_4
      try clear hcz18_5
      try clear hcz19_0
      try clear hcz19_1
      try clear hcz19_2
      try clear hcz19_3
      try clear hcz19_4
      try clear hcz19_5
      try clear hcz25_0
      try clear hcz25_1
      try clear hcz25_2
      try clear hcz25_3
      try clear hcz25_4
      try clear hcz25_5
      try clear hcz26_0
      try clear hcz26_1
      try clear hcz26_2
      try clear hcz26_3
      try clear hcz26_4
      try clear hcz26_5
      try clear hcz36_0
      try clear hcz36_1
      try clear hcz36_2
      try clear hcz36_3
      try clear hcz36_4
      try clear hcz36_5
      try clear hcz38_0
      try clear hcz38_1
      try clear hcz38_2
      try clear hcz38_3
      try clear hcz38_4
      try clear hcz38_5
      try clear hcz42_0
      try clear hcz42_1
      try clear hcz42_2
      try clear hcz42_3
      try clear hcz42_4
      try clear hcz42_5
      try clear hcz44_0
      try clear hcz44_1
      try clear hcz44_2
      try clear hcz44_3
      try clear hcz44_4
      try clear hcz44_5
      try clear hcz45_0
      try clear hcz45_1
      try clear hcz45_2
      try clear hcz45_3
      try clear hcz45_4
      try clear hcz45_5
      try clear hcz48_0
      try clear hcz48_1
      try clear hcz48_2
      try clear hcz48_3
      try clear hcz48_4
      try clear hcz48_5
      try clear hcz50_0
      try clear hcz50_1
      try clear hcz50_2
      try clear hcz50_3
      try clear hcz50_4
      try clear hcz50_5
      try clear hcz62_0
      try clear hcz62_1
      try clear hcz62_2
      try clear hcz62_3
      try clear hcz62_4
      try clear hcz62_5
      try clear hfz13_0
      try clear hfz13_1
      try clear hfz13_2
      try clear hfz13_3
      try clear hfz13_4
      try clear hfz13_5
      try clear hfz18_0
      try clear hfz18_1
      try clear hfz18_2
      try clear hfz18_3
      try clear hfz18_4
      try clear hfz18_5
      try clear hfz19_0
      try clear hfz19_1
      try clear hfz19_2
      try clear hfz19_3
      try clear hfz19_4
      try clear hfz19_5
      try clear hfz25_0
      try clear hfz25_1
      try clear hfz25_2
      try clear hfz25_3
      try clear hfz25_4
      try clear hfz25_5
      try clear hfz26_0
      try clear hfz26_1
      try clear hfz26_2
      try clear hfz26_3
      try clear hfz26_4
      try clear hfz26_5
      try clear hfz36_0
      try clear hfz36_1
      try clear hfz36_2
      try clear hfz36_3
      try clear hfz36_4
      try clear hfz36_5
      try clear hfz38_0
      try clear hfz38_1
      try clear hfz38_2
      try clear hfz38_3
      try clear hfz38_4
      try clear hfz38_5
      try clear hfz42_0
      try clear hfz42_1
      try clear hfz42_2
      try clear hfz42_3
      try clear hfz42_4
      try clear hfz42_5
      try clear hfz44_0
      try clear hfz44_1
      try clear hfz44_2
      try clear hfz44_3
      try clear hfz44_4
      try clear hfz44_5
      try clear hfz45_0
      try clear hfz45_1
      try clear hfz45_2
      try clear hfz45_3
      try clear hfz45_4
      try clear hfz45_5
      try clear hfz48_0
      try clear hfz48_1
      try clear hfz48_2
      try clear hfz48_3
      try clear hfz48_4
      try clear hfz48_5
      try clear hfz50_0
      try clear hfz50_1
      try clear hfz50_2
      try clear hfz50_3
      try clear hfz50_4
      try clear hfz50_5
      try clear hfz62_0
      try clear hfz62_1
      try clear hfz62_2
      try clear hfz62_3
      try clear hfz62_4
      try clear hfz62_5
      try clear p2
      obtain ⟨kq, x110_54, rfl, HA, HJ54, BK383, BK393, BK403, BK414, HB⟩ := hcut
      cases kq with
      | zero => exact absurd HA.out (by simp [laws_FnMessages.j1])
      | succ kj54 =>
       have H := HA.out
       clear HA
       simp only [laws_FnMessages.j1] at H
       by_cases c66 : x110_54 = true
       ·subst c66
        rw [if_pos rfl] at H
        as_aux_lemma =>
         exact absurd (Option.some.inj H) (by rw [hr_]; decide)
       ·replace c66 := Bool.eq_false_iff.mpr c66
        subst c66
        rw [if_neg (show ¬ (false = true) by decide)] at H
        replace H := Option.bind_eq_some_iff.mp H
        obtain ⟨t417, A670, H⟩ := H
        replace H : ((impl_ParseCode.f kj54 t417).bind fun bt418 => ((impl_WarningCode.f kj54 bt418.1 bt418.2.1 bt418.2.2.1 bt418.2.2.2.1 bt418.2.2.2.2.1 bt418.2.2.2.2.2.1).bind fun bt426 => ((spec_ParseCode.f kj54 t417).bind fun bt428 => (if (bt418.1 == bt428.1 && (bt418.2.1 == bt428.2.1 && (bt418.2.2.1 == bt428.2.2.1 && (bt418.2.2.2.1 == bt428.2.2.2.1 && (bt418.2.2.2.2.1 == bt428.2.2.2.2.1 && (bt418.2.2.2.2.2.1 == bt428.2.2.2.2.2.1)))))) = true then (if (bt418.2.2.2.2.2.2 == bt428.2.2.2.2.2.2) = true then (if bt418.2.2.2.2.2.2 = true then (if bt426.2 = true then (some (bt426.1.toList == t417.toList)) else (some false)) else (some true)) else (some false)) else (some false))))) = some r := H
        have A67 := Aside0.mk A670
        clear A670
        replace H := Option.bind_eq_some_iff.mp H
        obtain ⟨⟨t418, t419, t420, t421, t422, t423, t424⟩, A680, H⟩ := H
        replace H : ((impl_WarningCode.f kj54 t418 t419 t420 t421 t422 t423).bind fun bt426 => ((spec_ParseCode.f kj54 t417).bind fun bt428 => (if (t418 == bt428.1 && (t419 == bt428.2.1 && (t420 == bt428.2.2.1 && (t421 == bt428.2.2.2.1 && (t422 == bt428.2.2.2.2.1 && (t423 == bt428.2.2.2.2.2.1)))))) = true then (if (t424 == bt428.2.2.2.2.2.2) = true then (if t424 = true then (if bt426.2 = true then (some (bt426.1.toList == t417.toList)) else (some false)) else (some true)) else (some false)) else (some false)))) = some r := H
        have A68 := Aside0.mk A680
        clear A680
        replace H := Option.bind_eq_some_iff.mp H
        obtain ⟨⟨t426, t427⟩, A690, H⟩ := H
        replace H : ((spec_ParseCode.f kj54 t417).bind fun bt428 => (if (t418 == bt428.1 && (t419 == bt428.2.1 && (t420 == bt428.2.2.1 && (t421 == bt428.2.2.2.1 && (t422 == bt428.2.2.2.2.1 && (t423 == bt428.2.2.2.2.2.1)))))) = true then (if (t424 == bt428.2.2.2.2.2.2) = true then (if t424 = true then (if t427 = true then (some (t426.toList == t417.toList)) else (some false)) else (some true)) else (some false)) else (some false))) = some r := H
        have A69 := Aside0.mk A690
        clear A690
        replace H := Option.bind_eq_some_iff.mp H
        obtain ⟨⟨t428, t429, t430, t431, t432, t433, t434⟩, A700, H⟩ := H
        replace H : (if (t418 == t428 && (t419 == t429 && (t420 == t430 && (t421 == t431 && (t422 == t432 && (t423 == t433)))))) = true then (if (t424 == t434) = true then (if t424 = true then (if t427 = true then (some (t426.toList == t417.toList)) else (some false)) else (some true)) else (some false)) else (some false)) = some r := H
        have A70 := Aside0.mk A700
        clear A700
        by_cases c71 : (t418 == t428 && (t419 == t429 && (t420 == t430 && (t421 == t431 && (t422 == t432 && (t423 == t433)))))) = true
        ·rw [if_pos c71] at H
         have c71b0 : (t418 == t428 && (t419 == t429 && (t420 == t430 && (t421 == t431 && (t422 == t432 && (t423 == t433)))))) = true := c71
         (try (have c71b1 : decide (t418 = t428 && (t419 == t429 && (t420 == t430 && (t421 == t431 && (t422 == t432 && (t423 == t433)))))) = true := by simpa using c71))
         (try (have c71b2 : (t418 == t428 && (t419 == t429 && (t420 == t430 && (t421 == t431 && (t422 == t432 && (t423 == t433)))))) = true := by simpa using c71))
         clear c71
         by_cases c72 : (t424 == t434) = true
         ·rw [if_pos c72] at H
          have c72b0 : (t424 == t434) = true := c72
          (try (have c72b1 : decide (t424 = t434) = true := by simpa using c72))
          (try (have c72b2 : (t424 == t434) = true := by simpa using c72))
          clear c72
          by_cases c73 : t424 = true
          ·subst c73
           rw [if_pos rfl] at H
           by_cases c74 : t427 = true
           ·subst c74
            rw [if_pos rfl] at H
            focus
             obtain rfl := Option.some.inj H
             go_wp2_with (first | ((with_reducible refine gate_callee (f := 14) rfl ?_); refine goesL_ (some 112) rfl rfl Tryz.func14 (by kernel_rfl) rfl #[.slice A0 l0.length c0] rfl zlx ?_; (with_reducible refine (spec_DrawParseCode.calls kj54 _ _ l0 t417 _ ?side1 ?side2 A67.out).mono ?_); (case side1 => exact zCx (Kd.C_below HR0.out HB.out)); (case side2 => exact HC0.out); rintro e w75 ⟨rfl, hb⟩; refine ⟨_, rfl, ?_⟩; replace BK383 := zbl BK383.out hb; replace BK393 := zbl BK393.out hb; replace BK403 := zbl BK403.out hb; replace BK414 := zbl BK414.out hb; replace HB := Aside0.mk (below_step (zhB HB.out) hb); (try clear hb)) | ((with_reducible refine gate_callee (f := 11) rfl ?_); refine goesL_ (some 115) rfl rfl Tryz.func11 (by kernel_rfl) rfl #[.string t417] rfl zlx ?_; (with_reducible refine (impl_ParseCode.calls kj54 t417 t418 t419 t420 t421 t422 t423 true _ ?sideL A68.out).mono ?_); (case sideL => exact Laid.below HL.out (zhB HB.out)); rintro e w76 ⟨rfl, hb⟩; refine ⟨_, rfl, ?_⟩; replace BK383 := zbl BK383.out hb; replace BK393 := zbl BK393.out hb; replace BK403 := zbl BK403.out hb; replace BK414 := zbl BK414.out hb; replace HB := Aside0.mk (below_step (zhB HB.out) hb); (try clear hb)) | ((with_reducible refine gate_dst (N := 20) rfl ?_); refine box_event ?hg (N := 20) ?hd (cs := #[.int .i64 0, .int .i64 0, .int .i64 0, .int .i64 0, .int .i64 0, .int .i64 0]) (t := 25) ?hr ?_; (case hd => rfl); (case hg => rfl); (case hr => exact zsx); intro gb425 hg w77 hbox hb; have BK425 := Aside0.mk (hbox); have GW425 := zns hg HB.out; have GE425 := zns hg HB.out; replace HB := Aside0.mk (below_step (zhB HB.out) hb); have NB383_425 := znl hg BK383.out; have NB425_383 := zng hg BK383.out; replace BK383 := zbl BK383.out hb; have NB393_425 := znl hg BK393.out; have NB425_393 := zng hg BK393.out; replace BK393 := zbl BK393.out hb; have NB403_425 := znl hg BK403.out; have NB425_403 := zng hg BK403.out; replace BK403 := zbl BK403.out hb; have NB414_425 := znl hg BK414.out; have NB425_414 := zng hg BK414.out; replace BK414 := zbl BK414.out hb; clear hb hbox hg; have hnb78 := NB425_383.out; have hnc78 := NB383_425.out; have hnb79 := NB425_393.out; have hnc79 := NB393_425.out; have hnb80 := NB425_403.out; have hnc80 := NB403_425.out; have hnb81 := NB425_414.out; have hnc81 := NB414_425.out; have hcz82_0 : w77.cell? ⟨gb425, 0, none⟩ = some (.int .i64 0) := (blk_cell BK425.out 0).trans rfl; have hcz82_1 : w77.cell? ⟨gb425, 1, none⟩ = some (.int .i64 0) := (blk_cell BK425.out 1).trans rfl; have hcz82_2 : w77.cell? ⟨gb425, 2, none⟩ = some (.int .i64 0) := (blk_cell BK425.out 2).trans rfl; have hcz82_3 : w77.cell? ⟨gb425, 3, none⟩ = some (.int .i64 0) := (blk_cell BK425.out 3).trans rfl; have hcz82_4 : w77.cell? ⟨gb425, 4, none⟩ = some (.int .i64 0) := (blk_cell BK425.out 4).trans rfl; have hcz82_5 : w77.cell? ⟨gb425, 5, none⟩ = some (.int .i64 0) := (blk_cell BK425.out 5).trans rfl; have hfz82_0 := blk_frozen BK425.out 0; have hfz82_1 := blk_frozen BK425.out 1; have hfz82_2 := blk_frozen BK425.out 2; have hfz82_3 := blk_frozen BK425.out 3; have hfz82_4 := blk_frozen BK425.out 4; have hfz82_5 := blk_frozen BK425.out 5) | ((with_reducible refine gate_callee (f := 10) rfl ?_); refine goesL_ (some 120) rfl rfl Tryz.func10 (by kernel_rfl) rfl #[.agg #[.int .i64 t418, .int .i64 t419, .int .i64 t420, .int .i64 t421, .int .i64 t422, .int .i64 t423]] rfl zlx ?_; (with_reducible refine (impl_WarningCode.calls kj54 t418 t419 t420 t421 t422 t423 t426 true _ ?sideL A69.out).mono ?_); (case sideL => exact Laid.below HL.out (zhB HB.out)); rintro e w83 ⟨rfl, hb⟩; refine ⟨_, rfl, ?_⟩; replace BK383 := zbl BK383.out hb; replace BK393 := zbl BK393.out hb; replace BK403 := zbl BK403.out hb; replace BK414 := zbl BK414.out hb; replace BK425 := Aside0.mk (blk_below (g := gb425) (o := .cells #[.int .i64 t418, .int .i64 t419, .int .i64 t420, .int .i64 t421, .int .i64 t422, .int .i64 t423] 25 (0, 0)) (zbp BK425.out) hb); replace HB := Aside0.mk (below_step (zhB HB.out) hb); (try clear hb)) | ((with_reducible refine gate_callee (f := 15) rfl ?_); refine goesL_ (some 125) rfl rfl Tryz.func15 (by kernel_rfl) rfl #[.string t417] rfl zlx ?_; (with_reducible refine (spec_ParseCode.calls kj54 t417 t428 t429 t430 t431 t432 t433 t434 _ A70.out).mono ?_); rintro e w84 ⟨rfl, hb⟩; refine ⟨_, rfl, ?_⟩; replace BK383 := zbl BK383.out hb; replace BK393 := zbl BK393.out hb; replace BK403 := zbl BK403.out hb; replace BK414 := zbl BK414.out hb; replace BK425 := zbl BK425.out hb; replace HB := Aside0.mk (below_step (zhB HB.out) hb); (try clear hb)) | ((with_reducible refine gate_dst (N := 24) rfl ?_); refine box_event ?hg (N := 24) ?hd (cs := #[.int .i64 0, .int .i64 0, .int .i64 0, .int .i64 0, .int .i64 0, .int .i64 0]) (t := 25) ?hr ?_; (case hd => rfl); (case hg => rfl); (case hr => exact zsx); intro gb435 hg w85 hbox hb; have BK435 := Aside0.mk (hbox); have GW435 := zns hg HB.out; have GE435 := zns hg HB.out; replace HB := Aside0.mk (below_step (zhB HB.out) hb); have NB383_435 := znl hg BK383.out; have NB435_383 := zng hg BK383.out; replace BK383 := zbl BK383.out hb; have NB393_435 := znl hg BK393.out; have NB435_393 := zng hg BK393.out; replace BK393 := zbl BK393.out hb; have NB403_435 := znl hg BK403.out; have NB435_403 := zng hg BK403.out; replace BK403 := zbl BK403.out hb; have NB414_435 := znl hg BK414.out; have NB435_414 := zng hg BK414.out; replace BK414 := zbl BK414.out hb; have NB425_435 := znl hg BK425.out; have NB435_425 := zng hg BK425.out; replace BK425 := zbl BK425.out hb; clear hb hbox hg; have hnb86 := NB435_383.out; have hnc86 := NB383_435.out; have hnb87 := NB435_393.out; have hnc87 := NB393_435.out; have hnb88 := NB435_403.out; have hnc88 := NB403_435.out; have hnb89 := NB435_414.out; have hnc89 := NB414_435.out; have hnb90 := NB435_425.out; have hnc90 := NB425_435.out; have hcz91_0 : w85.cell? ⟨gb435, 0, none⟩ = some (.int .i64 0) := (blk_cell BK435.out 0).trans rfl; have hcz91_1 : w85.cell? ⟨gb435, 1, none⟩ = some (.int .i64 0) := (blk_cell BK435.out 1).trans rfl; have hcz91_2 : w85.cell? ⟨gb435, 2, none⟩ = some (.int .i64 0) := (blk_cell BK435.out 2).trans rfl; have hcz91_3 : w85.cell? ⟨gb435, 3, none⟩ = some (.int .i64 0) := (blk_cell BK435.out 3).trans rfl; have hcz91_4 : w85.cell? ⟨gb435, 4, none⟩ = some (.int .i64 0) := (blk_cell BK435.out 4).trans rfl; have hcz91_5 : w85.cell? ⟨gb435, 5, none⟩ = some (.int .i64 0) := (blk_cell BK435.out 5).trans rfl; have hfz91_0 := blk_frozen BK435.out 0; have hfz91_1 := blk_frozen BK435.out 1; have hfz91_2 := blk_frozen BK435.out 2; have hfz91_3 := blk_frozen BK435.out 3; have hfz91_4 := blk_frozen BK435.out 4; have hfz91_5 := blk_frozen BK435.out 5; have hcz92_0 : w85.cell? ⟨gb425, 0, none⟩ = some (.int .i64 t418) := (blk_cell BK425.out 0).trans rfl; have hcz92_1 : w85.cell? ⟨gb425, 1, none⟩ = some (.int .i64 t419) := (blk_cell BK425.out 1).trans rfl; have hcz92_2 : w85.cell? ⟨gb425, 2, none⟩ = some (.int .i64 t420) := (blk_cell BK425.out 2).trans rfl; have hcz92_3 : w85.cell? ⟨gb425, 3, none⟩ = some (.int .i64 t421) := (blk_cell BK425.out 3).trans rfl; have hcz92_4 : w85.cell? ⟨gb425, 4, none⟩ = some (.int .i64 t422) := (blk_cell BK425.out 4).trans rfl; have hcz92_5 : w85.cell? ⟨gb425, 5, none⟩ = some (.int .i64 t423) := (blk_cell BK425.out 5).trans rfl; have hfz92_0 := blk_frozen BK425.out 0; have hfz92_1 := blk_frozen BK425.out 1; have hfz92_2 := blk_frozen BK425.out 2; have hfz92_3 := blk_frozen BK425.out 3; have hfz92_4 := blk_frozen BK425.out 4; have hfz92_5 := blk_frozen BK425.out 5))
             go_ret
             exact ⟨by first | rfl | (simp [errW_none, errW_some] <;> rfl) | (simp [*, errW_none, errW_some] <;> rfl), zhB HB.out⟩
           ·replace c74 := Bool.eq_false_iff.mpr c74
            subst c74
            rw [if_neg (show ¬ (false = true) by decide)] at H
            as_aux_lemma =>
             exact absurd (Option.some.inj H) (by rw [hr_]; decide)
          ·replace c73 := Bool.eq_false_iff.mpr c73
           subst c73
           rw [if_neg (show ¬ (false = true) by decide)] at H
           focus
            obtain rfl := Option.some.inj H
            go_wp2_with (first | ((with_reducible refine gate_callee (f := 14) rfl ?_); refine goesL_ (some 112) rfl rfl Tryz.func14 (by kernel_rfl) rfl #[.slice A0 l0.length c0] rfl zlx ?_; (with_reducible refine (spec_DrawParseCode.calls kj54 _ _ l0 t417 _ ?side1 ?side2 A67.out).mono ?_); (case side1 => exact zCx (Kd.C_below HR0.out HB.out)); (case side2 => exact HC0.out); rintro e w111 ⟨rfl, hb⟩; refine ⟨_, rfl, ?_⟩; replace BK383 := zbl BK383.out hb; replace BK393 := zbl BK393.out hb; replace BK403 := zbl BK403.out hb; replace BK414 := zbl BK414.out hb; replace HB := Aside0.mk (below_step (zhB HB.out) hb); (try clear hb)) | ((with_reducible refine gate_callee (f := 11) rfl ?_); refine goesL_ (some 115) rfl rfl Tryz.func11 (by kernel_rfl) rfl #[.string t417] rfl zlx ?_; (with_reducible refine (impl_ParseCode.calls kj54 t417 t418 t419 t420 t421 t422 t423 false _ ?sideL A68.out).mono ?_); (case sideL => exact Laid.below HL.out (zhB HB.out)); rintro e w112 ⟨rfl, hb⟩; refine ⟨_, rfl, ?_⟩; replace BK383 := zbl BK383.out hb; replace BK393 := zbl BK393.out hb; replace BK403 := zbl BK403.out hb; replace BK414 := zbl BK414.out hb; replace HB := Aside0.mk (below_step (zhB HB.out) hb); (try clear hb)) | ((with_reducible refine gate_dst (N := 20) rfl ?_); refine box_event ?hg (N := 20) ?hd (cs := #[.int .i64 0, .int .i64 0, .int .i64 0, .int .i64 0, .int .i64 0, .int .i64 0]) (t := 25) ?hr ?_; (case hd => rfl); (case hg => rfl); (case hr => exact zsx); intro gb425 hg w113 hbox hb; have BK425 := Aside0.mk (hbox); have GW425 := zns hg HB.out; have GE425 := zns hg HB.out; replace HB := Aside0.mk (below_step (zhB HB.out) hb); have NB383_425 := znl hg BK383.out; have NB425_383 := zng hg BK383.out; replace BK383 := zbl BK383.out hb; have NB393_425 := znl hg BK393.out; have NB425_393 := zng hg BK393.out; replace BK393 := zbl BK393.out hb; have NB403_425 := znl hg BK403.out; have NB425_403 := zng hg BK403.out; replace BK403 := zbl BK403.out hb; have NB414_425 := znl hg BK414.out; have NB425_414 := zng hg BK414.out; replace BK414 := zbl BK414.out hb; clear hb hbox hg; have hnb114 := NB425_383.out; have hnc114 := NB383_425.out; have hnb115 := NB425_393.out; have hnc115 := NB393_425.out; have hnb116 := NB425_403.out; have hnc116 := NB403_425.out; have hnb117 := NB425_414.out; have hnc117 := NB414_425.out; have hcz118_0 : w113.cell? ⟨gb425, 0, none⟩ = some (.int .i64 0) := (blk_cell BK425.out 0).trans rfl; have hcz118_1 : w113.cell? ⟨gb425, 1, none⟩ = some (.int .i64 0) := (blk_cell BK425.out 1).trans rfl; have hcz118_2 : w113.cell? ⟨gb425, 2, none⟩ = some (.int .i64 0) := (blk_cell BK425.out 2).trans rfl; have hcz118_3 : w113.cell? ⟨gb425, 3, none⟩ = some (.int .i64 0) := (blk_cell BK425.out 3).trans rfl; have hcz118_4 : w113.cell? ⟨gb425, 4, none⟩ = some (.int .i64 0) := (blk_cell BK425.out 4).trans rfl; have hcz118_5 : w113.cell? ⟨gb425, 5, none⟩ = some (.int .i64 0) := (blk_cell BK425.out 5).trans rfl; have hfz118_0 := blk_frozen BK425.out 0; have hfz118_1 := blk_frozen BK425.out 1; have hfz118_2 := blk_frozen BK425.out 2; have hfz118_3 := blk_frozen BK425.out 3; have hfz118_4 := blk_frozen BK425.out 4; have hfz118_5 := blk_frozen BK425.out 5) | ((with_reducible refine gate_callee (f := 10) rfl ?_); refine goesL_ (some 120) rfl rfl Tryz.func10 (by kernel_rfl) rfl #[.agg #[.int .i64 t418, .int .i64 t419, .int .i64 t420, .int .i64 t421, .int .i64 t422, .int .i64 t423]] rfl zlx ?_; (with_reducible refine (impl_WarningCode.calls kj54 t418 t419 t420 t421 t422 t423 t426 t427 _ ?sideL A69.out).mono ?_); (case sideL => exact Laid.below HL.out (zhB HB.out)); rintro e w119 ⟨rfl, hb⟩; refine ⟨_, rfl, ?_⟩; replace BK383 := zbl BK383.out hb; replace BK393 := zbl BK393.out hb; replace BK403 := zbl BK403.out hb; replace BK414 := zbl BK414.out hb; replace BK425 := Aside0.mk (blk_below (g := gb425) (o := .cells #[.int .i64 t418, .int .i64 t419, .int .i64 t420, .int .i64 t421, .int .i64 t422, .int .i64 t423] 25 (0, 0)) (zbp BK425.out) hb); replace HB := Aside0.mk (below_step (zhB HB.out) hb); (try clear hb)) | ((with_reducible refine gate_callee (f := 15) rfl ?_); refine goesL_ (some 125) rfl rfl Tryz.func15 (by kernel_rfl) rfl #[.string t417] rfl zlx ?_; (with_reducible refine (spec_ParseCode.calls kj54 t417 t428 t429 t430 t431 t432 t433 t434 _ A70.out).mono ?_); rintro e w120 ⟨rfl, hb⟩; refine ⟨_, rfl, ?_⟩; replace BK383 := zbl BK383.out hb; replace BK393 := zbl BK393.out hb; replace BK403 := zbl BK403.out hb; replace BK414 := zbl BK414.out hb; replace BK425 := zbl BK425.out hb; replace HB := Aside0.mk (below_step (zhB HB.out) hb); (try clear hb)) | ((with_reducible refine gate_dst (N := 24) rfl ?_); refine box_event ?hg (N := 24) ?hd (cs := #[.int .i64 0, .int .i64 0, .int .i64 0, .int .i64 0, .int .i64 0, .int .i64 0]) (t := 25) ?hr ?_; (case hd => rfl); (case hg => rfl); (case hr => exact zsx); intro gb435 hg w121 hbox hb; have BK435 := Aside0.mk (hbox); have GW435 := zns hg HB.out; have GE435 := zns hg HB.out; replace HB := Aside0.mk (below_step (zhB HB.out) hb); have NB383_435 := znl hg BK383.out; have NB435_383 := zng hg BK383.out; replace BK383 := zbl BK383.out hb; have NB393_435 := znl hg BK393.out; have NB435_393 := zng hg BK393.out; replace BK393 := zbl BK393.out hb; have NB403_435 := znl hg BK403.out; have NB435_403 := zng hg BK403.out; replace BK403 := zbl BK403.out hb; have NB414_435 := znl hg BK414.out; have NB435_414 := zng hg BK414.out; replace BK414 := zbl BK414.out hb; have NB425_435 := znl hg BK425.out; have NB435_425 := zng hg BK425.out; replace BK425 := zbl BK425.out hb; clear hb hbox hg; have hnb122 := NB435_383.out; have hnc122 := NB383_435.out; have hnb123 := NB435_393.out; have hnc123 := NB393_435.out; have hnb124 := NB435_403.out; have hnc124 := NB403_435.out; have hnb125 := NB435_414.out; have hnc125 := NB414_435.out; have hnb126 := NB435_425.out; have hnc126 := NB425_435.out; have hcz127_0 : w121.cell? ⟨gb435, 0, none⟩ = some (.int .i64 0) := (blk_cell BK435.out 0).trans rfl; have hcz127_1 : w121.cell? ⟨gb435, 1, none⟩ = some (.int .i64 0) := (blk_cell BK435.out 1).trans rfl; have hcz127_2 : w121.cell? ⟨gb435, 2, none⟩ = some (.int .i64 0) := (blk_cell BK435.out 2).trans rfl; have hcz127_3 : w121.cell? ⟨gb435, 3, none⟩ = some (.int .i64 0) := (blk_cell BK435.out 3).trans rfl; have hcz127_4 : w121.cell? ⟨gb435, 4, none⟩ = some (.int .i64 0) := (blk_cell BK435.out 4).trans rfl; have hcz127_5 : w121.cell? ⟨gb435, 5, none⟩ = some (.int .i64 0) := (blk_cell BK435.out 5).trans rfl; have hfz127_0 := blk_frozen BK435.out 0; have hfz127_1 := blk_frozen BK435.out 1; have hfz127_2 := blk_frozen BK435.out 2; have hfz127_3 := blk_frozen BK435.out 3; have hfz127_4 := blk_frozen BK435.out 4; have hfz127_5 := blk_frozen BK435.out 5; have hcz128_0 : w121.cell? ⟨gb425, 0, none⟩ = some (.int .i64 t418) := (blk_cell BK425.out 0).trans rfl; have hcz128_1 : w121.cell? ⟨gb425, 1, none⟩ = some (.int .i64 t419) := (blk_cell BK425.out 1).trans rfl; have hcz128_2 : w121.cell? ⟨gb425, 2, none⟩ = some (.int .i64 t420) := (blk_cell BK425.out 2).trans rfl; have hcz128_3 : w121.cell? ⟨gb425, 3, none⟩ = some (.int .i64 t421) := (blk_cell BK425.out 3).trans rfl; have hcz128_4 : w121.cell? ⟨gb425, 4, none⟩ = some (.int .i64 t422) := (blk_cell BK425.out 4).trans rfl; have hcz128_5 : w121.cell? ⟨gb425, 5, none⟩ = some (.int .i64 t423) := (blk_cell BK425.out 5).trans rfl; have hfz128_0 := blk_frozen BK425.out 0; have hfz128_1 := blk_frozen BK425.out 1; have hfz128_2 := blk_frozen BK425.out 2; have hfz128_3 := blk_frozen BK425.out 3; have hfz128_4 := blk_frozen BK425.out 4; have hfz128_5 := blk_frozen BK425.out 5))
            go_ret
            exact ⟨by first | rfl | (simp [errW_none, errW_some] <;> rfl) | (simp [*, errW_none, errW_some] <;> rfl), zhB HB.out⟩
         ·rw [if_neg c72] at H
          have c72b0 : (t424 == t434) = false := by simpa using c72
          (try (have c72b1 : decide (t424 = t434) = false := by simpa using c72))
          (try (have c72b2 : (t424 == t434) = false := by simpa using c72))
          (try (have c72b3 : ¬ (t424 = t434) := by simpa using c72))
          clear c72
          as_aux_lemma =>
           exact absurd (Option.some.inj H) (by rw [hr_]; decide)
        ·rw [if_neg c71] at H
         have c71b0 : (t418 == t428 && (t419 == t429 && (t420 == t430 && (t421 == t431 && (t422 == t432 && (t423 == t433)))))) = false := by simpa using c71
         (try (have c71b1 : decide (t418 = t428 && (t419 == t429 && (t420 == t430 && (t421 == t431 && (t422 == t432 && (t423 == t433)))))) = false := by simpa using c71))
         (try (have c71b2 : (t418 == t428 && (t419 == t429 && (t420 == t430 && (t421 == t431 && (t422 == t432 && (t423 == t433)))))) = false := by simpa using c71))
         (try (have c71b3 : ¬ (t418 = t428 && (t419 == t429 && (t420 == t430 && (t421 == t431 && (t422 == t432 && (t423 == t433)))))) := by simpa using c71))
         clear c71
         as_aux_lemma =>
          exact absurd (Option.some.inj H) (by rw [hr_]; decide)

/-- THE ONE PURE STATEMENT of laws_FnMessages: yours. -/
def laws_FnMessages.Pure : Prop := ∀ (l0 : List Int), l0.length ≤ maxLen → l0.length * 1 ≤ 140737488351232 → (∀ x ∈ l0, (Lit.int .u8 x).wf = true) → ∃ k, laws_FnMessages.f k l0 = some true
theorem laws_FnMessages.walk (P : laws_FnMessages.Pure) (a0 : Option Addr) (len0 cap0 : Nat) (z0 : List Int) (w : World) (w0 : (a0 = none ∧ len0 = 0 ∧ cap0 = 0 ∧ z0 = []) ∨ ∃ x, a0 = some x ∧ len0 ≤ cap0 ∧ cap0 ≤ maxLen ∧ z0.length = cap0 ∧ (∀ i, i < z0.length → w.cell? (x.add i) = some (.int .u8 (z0.getD i 0))) ∧ ∀ n ∈ z0, (Lit.int .u8 n).wf = true) (y0 : len0 * 1 ≤ 140737488351232) (hL : Laid w) :
 Calls Tryz.prog 3 #[.slice a0 len0 cap0] w fun e w' => e = .returned (.bool true) ∧ Below w.heap.size w w' := by
 obtain ⟨l0, rfl, hr0, hm0, hw0, hc0⟩ := ReadsInt.ofRowC w0
 obtain ⟨k, h⟩ := P l0 hm0 y0 hw0
 refine (laws_FnMessages.calls k _ _ l0 true w (Kd.C_of_reads (d := (0 : Int)) (h1 := fun _ => rfl) hr0) hc0 hL h rfl).mono ?_
 rintro e w' ⟨rfl, hd⟩
 exact ⟨rfl, hd⟩

end Go.Proofs.YtlfoojgbiafffaaGreatDoor.XFnMessages
