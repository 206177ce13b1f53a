-- written by wip/tools/xprint.py (a program of this project) out of the translation
import Derived.Test.YtppjagpjlcbhpaaXFnExactGapsOfx0
import Derived.Test.YtppjagpjlcbhpaaXFnExactGapsOfx1
import Derived.Test.YtppjagpjlcbhpaaXFnExactGapsOfx2
import Derived.Test.YtppjagpjlcbhpaaXFnExactGapsOfx3
import Derived.Test.YtppjagpjlcbhpaaXFnExactGapsOfx4
namespace Go.Proofs.Ytppjagpjlcbhpaa.XFnExactGapsOf
open Go.RowKit Go.Proofs.YtppjagpjlcbhpaaW.PrintWords Go.Proofs.YtppjagpjlcbhpaaW.PrintLast Go.Proofs.YtppjagpjlcbhpaaW.PrintMore
attribute [local go_sem] max2_int min2_int max_two min_two max_three min_three max_four min_four   -- for this text's walks alone
set_option linter.unusedVariables false
set_option linter.unusedSimpArgs false

/-! ### laws_FnExactGapsOf: function 3 -/
mutual
def laws_FnExactGapsOf.j0 : Nat → List (S68) → List (List Int) → Bool → List (S66) → List (List Int) → Bool → Bool → Option (Bool)
 | 0, _, _, _, _, _, _, _ => none
 | k + 1, x0, x4, x5, x6, x7, x8, x40 => if x40 = true then (some false) else ((laws_toSegmentS.f k x0).bind fun t194 => ((laws_eqSegmentS.f k x6 t194).bind fun t197 => (if t197 = true then ((laws_markSegmentS.f k x6 1).bind fun bt198 => (if bt198.1 < 0 then (laws_FnExactGapsOf.j1 k x0 x4 x5 x7 true) else ((laws_eqIntSS.f k x7 x4).bind fun t200 => (if t200 = true then (laws_FnExactGapsOf.j1 k x0 x4 x5 x7 (x8 != x5)) else (laws_FnExactGapsOf.j1 k x0 x4 x5 x7 true))))) else (some false))))
def laws_FnExactGapsOf.j1 : Nat → List (S68) → List (List Int) → Bool → List (List Int) → Bool → Option (Bool)
 | 0, _, _, _, _, _ => none
 | k + 1, x0, x4, x5, x7, x61 => if x61 = true then (some false) else ((laws_markIntSS.f k x7 1).bind fun bt201 => ((laws_heldIntSS.f k bt201.2 1).bind fun t202 => (if t202 < 0 then (some false) else (if t202 = bt201.1 then ((laws_toSegmentS.f k x0).bind fun t203 => ((impl_GapsOf.f k t203).bind fun bt206 => ((laws_eqIntSS.f k bt206.1 x4).bind fun t210 => (if t210 = true then (laws_FnExactGapsOf.j2 k bt201.2 bt201.1 (bt206.2 != x5)) else (laws_FnExactGapsOf.j2 k bt201.2 bt201.1 true))))) else (some false)))))
def laws_FnExactGapsOf.j2 : Nat → List (List Int) → Int → Bool → Option (Bool)
 | 0, _, _, _ => none
 | k + 1, x7, x10, x87 => if x87 = true then (some false) else ((laws_heldIntSS.f k x7 1).bind fun t211 => (if t211 < 0 then (some false) else (if t211 = x10 then (some true) else (some false))))
end
def laws_FnExactGapsOf.f (k : Nat) (l0 : List (S68)) : Option (Bool) := (laws_szSegmentS.f l0 1048576).bind fun t178 => (if t178 < 0 then (some true) else ((laws_toSegmentS.f k l0).bind fun t179 => ((spec_GapsOf.f k t179).bind fun bt182 => ((laws_toSegmentS.f k l0).bind fun t186 => ((impl_GapsOf.f k t186).bind fun bt189 => ((laws_eqIntSS.f k bt189.1 bt182.1).bind fun t193 => (if t193 = true then (laws_FnExactGapsOf.j0 k l0 bt182.1 bt182.2 t186 bt189.1 bt189.2 (bt189.2 != bt182.2)) else (laws_FnExactGapsOf.j0 k l0 bt182.1 bt182.2 t186 bt189.1 bt189.2 true))))))))
theorem laws_FnExactGapsOf.mono_l : ∀ k, (∀ y0 y1 y2 y3 y4 y5 y6, LeO (laws_FnExactGapsOf.j0 k y0 y1 y2 y3 y4 y5 y6) (laws_FnExactGapsOf.j0 (k + 1) y0 y1 y2 y3 y4 y5 y6)) ∧ (∀ y0 y1 y2 y3 y4, LeO (laws_FnExactGapsOf.j1 k y0 y1 y2 y3 y4) (laws_FnExactGapsOf.j1 (k + 1) y0 y1 y2 y3 y4)) ∧ (∀ y0 y1 y2, LeO (laws_FnExactGapsOf.j2 k y0 y1 y2) (laws_FnExactGapsOf.j2 (k + 1) y0 y1 y2))
 | 0 => ⟨fun _ _ _ _ _ _ _ r h => by simp [laws_FnExactGapsOf.j0] at h, fun _ _ _ _ _ r h => by simp [laws_FnExactGapsOf.j1] at h, fun _ _ _ r h => by simp [laws_FnExactGapsOf.j2] at h⟩
 | k + 1 => by
  obtain ⟨ih0, ih1, ih2⟩ := laws_FnExactGapsOf.mono_l k
  refine ⟨?_, ?_, ?_⟩
  ·intro y0 y1 y2 y3 y4 y5 y6
   unfold laws_FnExactGapsOf.j0
   repeat' first
   | (with_reducible exact ih0 _ _ _ _ _ _ _)
   | (with_reducible exact ih1 _ _ _ _ _)
   | (with_reducible exact ih2 _ _ _)
   | (with_reducible exact impl_GapsOf.mono _ _)
   | (with_reducible exact laws_eqIntSS.mono _ _ _)
   | (with_reducible exact laws_eqSegmentS.mono _ _ _)
   | (with_reducible exact laws_heldIntSS.mono _ _ _)
   | (with_reducible exact laws_markIntSS.mono _ _ _)
   | (with_reducible exact laws_markSegmentS.mono _ _ _)
   | (with_reducible exact laws_toSegmentS.mono _ _)
   | (with_reducible exact spec_GapsOf.mono _ _)
   | (with_reducible exact LeO.refl _)
   | (with_reducible exact LeO.none _)
   | (with_reducible refine LeO.ite ?_ ?_)
   | (with_reducible refine LeO.bind ?_ (fun _ => ?_))
   | exact ih0 _ _ _ _ _ _ _
   | exact ih1 _ _ _ _ _
   | exact ih2 _ _ _
   | exact impl_GapsOf.mono _ _
   | exact laws_eqIntSS.mono _ _ _
   | exact laws_eqSegmentS.mono _ _ _
   | exact laws_heldIntSS.mono _ _ _
   | exact laws_markIntSS.mono _ _ _
   | exact laws_markSegmentS.mono _ _ _
   | exact laws_toSegmentS.mono _ _
   | exact spec_GapsOf.mono _ _
   | exact LeO.none _
   | refine LeO.ite ?_ ?_
   | refine LeO.bind ?_ (fun _ => ?_)
  ·intro y0 y1 y2 y3 y4
   unfold laws_FnExactGapsOf.j1
   repeat' first
   | (with_reducible exact ih0 _ _ _ _ _ _ _)
   | (with_reducible exact ih1 _ _ _ _ _)
   | (with_reducible exact ih2 _ _ _)
   | (with_reducible exact impl_GapsOf.mono _ _)
   | (with_reducible exact laws_eqIntSS.mono _ _ _)
   | (with_reducible exact laws_eqSegmentS.mono _ _ _)
   | (with_reducible exact laws_heldIntSS.mono _ _ _)
   | (with_reducible exact laws_markIntSS.mono _ _ _)
   | (with_reducible exact laws_markSegmentS.mono _ _ _)
   | (with_reducible exact laws_toSegmentS.mono _ _)
   | (with_reducible exact spec_GapsOf.mono _ _)
   | (with_reducible exact LeO.refl _)
   | (with_reducible exact LeO.none _)
   | (with_reducible refine LeO.ite ?_ ?_)
   | (with_reducible refine LeO.bind ?_ (fun _ => ?_))
   | exact ih0 _ _ _ _ _ _ _
   | exact ih1 _ _ _ _ _
   | exact ih2 _ _ _
   | exact impl_GapsOf.mono _ _
   | exact laws_eqIntSS.mono _ _ _
   | exact laws_eqSegmentS.mono _ _ _
   | exact laws_heldIntSS.mono _ _ _
   | exact laws_markIntSS.mono _ _ _
   | exact laws_markSegmentS.mono _ _ _
   | exact laws_toSegmentS.mono _ _
   | exact spec_GapsOf.mono _ _
   | exact LeO.none _
   | refine LeO.ite ?_ ?_
   | refine LeO.bind ?_ (fun _ => ?_)
  ·intro y0 y1 y2
   unfold laws_FnExactGapsOf.j2
   repeat' first
   | (with_reducible exact ih0 _ _ _ _ _ _ _)
   | (with_reducible exact ih1 _ _ _ _ _)
   | (with_reducible exact ih2 _ _ _)
   | (with_reducible exact impl_GapsOf.mono _ _)
   | (with_reducible exact laws_eqIntSS.mono _ _ _)
   | (with_reducible exact laws_eqSegmentS.mono _ _ _)
   | (with_reducible exact laws_heldIntSS.mono _ _ _)
   | (with_reducible exact laws_markIntSS.mono _ _ _)
   | (with_reducible exact laws_markSegmentS.mono _ _ _)
   | (with_reducible exact laws_toSegmentS.mono _ _)
   | (with_reducible exact spec_GapsOf.mono _ _)
   | (with_reducible exact LeO.refl _)
   | (with_reducible exact LeO.none _)
   | (with_reducible refine LeO.ite ?_ ?_)
   | (with_reducible refine LeO.bind ?_ (fun _ => ?_))
   | exact ih0 _ _ _ _ _ _ _
   | exact ih1 _ _ _ _ _
   | exact ih2 _ _ _
   | exact impl_GapsOf.mono _ _
   | exact laws_eqIntSS.mono _ _ _
   | exact laws_eqSegmentS.mono _ _ _
   | exact laws_heldIntSS.mono _ _ _
   | exact laws_markIntSS.mono _ _ _
   | exact laws_markSegmentS.mono _ _ _
   | exact laws_toSegmentS.mono _ _
   | exact spec_GapsOf.mono _ _
   | exact LeO.none _
   | refine LeO.ite ?_ ?_
   | refine LeO.bind ?_ (fun _ => ?_)
theorem laws_FnExactGapsOf.mono : ∀ a0 k, LeO (laws_FnExactGapsOf.f k a0) (laws_FnExactGapsOf.f (k + 1) a0) := by
 intro a0 k
 obtain ⟨ih0, ih1, ih2⟩ := laws_FnExactGapsOf.mono_l k
 unfold laws_FnExactGapsOf.f
 repeat' first
  | (with_reducible exact ih0 _ _ _ _ _ _ _)
  | (with_reducible exact ih1 _ _ _ _ _)
  | (with_reducible exact ih2 _ _ _)
  | (with_reducible exact impl_GapsOf.mono _ _)
  | (with_reducible exact laws_eqIntSS.mono _ _ _)
  | (with_reducible exact laws_eqSegmentS.mono _ _ _)
  | (with_reducible exact laws_heldIntSS.mono _ _ _)
  | (with_reducible exact laws_markIntSS.mono _ _ _)
  | (with_reducible exact laws_markSegmentS.mono _ _ _)
  | (with_reducible exact laws_toSegmentS.mono _ _)
  | (with_reducible exact spec_GapsOf.mono _ _)
  | (with_reducible exact LeO.refl _)
  | (with_reducible exact LeO.none _)
  | (with_reducible refine LeO.ite ?_ ?_)
  | (with_reducible refine LeO.bind ?_ (fun _ => ?_))
  | exact ih0 _ _ _ _ _ _ _
  | exact ih1 _ _ _ _ _
  | exact ih2 _ _ _
  | exact impl_GapsOf.mono _ _
  | exact laws_eqIntSS.mono _ _ _
  | exact laws_eqSegmentS.mono _ _ _
  | exact laws_heldIntSS.mono _ _ _
  | exact laws_markIntSS.mono _ _ _
  | exact laws_markSegmentS.mono _ _ _
  | exact laws_toSegmentS.mono _ _
  | exact spec_GapsOf.mono _ _
  | exact LeO.none _
  | refine LeO.ite ?_ ?_
  | refine LeO.bind ?_ (fun _ => ?_)
set_option maxHeartbeats 8000000 in
set_option maxRecDepth 100000 in
theorem laws_FnExactGapsOf.calls (k : Nat) (A0 : Option Addr) (c0 : Nat) (l0 : List (S68)) (r : Bool) (w : World) (hr0 : Kd.C k68 w A0 l0.length l0) (hc0 : l0.length ≤ c0) (h : laws_FnExactGapsOf.f k l0 = some r) (hr_ : r = true) :
 Calls Try.prog 3 #[.slice A0 l0.length c0] w fun e w' => e = .returned (.bool r) ∧ Below w.heap.size w w' := by
 have HR0 := Aside0.mk hr0
 have HC0 := Aside0.mk hc0
 clear hr0 hc0
 have HB := Aside0.mk (Below.refl w.heap.size w)
 have H : ((laws_szSegmentS.f l0 1048576).bind fun t178 => (if t178 < 0 then (some true) else ((laws_toSegmentS.f k l0).bind fun t179 => ((spec_GapsOf.f k t179).bind fun bt182 => ((laws_toSegmentS.f k l0).bind fun t186 => ((impl_GapsOf.f k t186).bind fun bt189 => ((laws_eqIntSS.f k bt189.1 bt182.1).bind fun t193 => (if t193 = true then (laws_FnExactGapsOf.j0 k l0 bt182.1 bt182.2 t186 bt189.1 bt189.2 (bt189.2 != bt182.2)) else (laws_FnExactGapsOf.j0 k l0 bt182.1 bt182.2 t186 bt189.1 bt189.2 true))))))))) = some r := h
 clear h
 replace H := Option.bind_eq_some_iff.mp H
 obtain ⟨t178, A20, H⟩ := H
 replace H : (if t178 < 0 then (some true) else ((laws_toSegmentS.f k l0).bind fun t179 => ((spec_GapsOf.f k t179).bind fun bt182 => ((laws_toSegmentS.f k l0).bind fun t186 => ((impl_GapsOf.f k t186).bind fun bt189 => ((laws_eqIntSS.f k bt189.1 bt182.1).bind fun t193 => (if t193 = true then (laws_FnExactGapsOf.j0 k l0 bt182.1 bt182.2 t186 bt189.1 bt189.2 (bt189.2 != bt182.2)) else (laws_FnExactGapsOf.j0 k l0 bt182.1 bt182.2 t186 bt189.1 bt189.2 true)))))))) = some r := H
 have A2 := Aside0.mk A20
 clear A20
 by_cases c3 : t178 < 0
 ·rw [if_pos c3] at H
  have c3b0 : decide (t178 < 0) = true := decide_eq_true c3
  clear c3
  as_aux_lemma =>
   obtain rfl := Option.some.inj H
   go_enter Try.func3, Try.ntmps3
   go_wp2_with (first | ((with_reducible refine gate_callee (f := 7) rfl ?_); refine goesL_ (some 16) rfl rfl Try.func7 (by kernel_rfl) rfl #[.slice A0 l0.length c0, .int .i64 1048576] rfl zlx ?_; (with_reducible refine (laws_szSegmentS.calls _ _ l0 1048576 t178 _ ?side1 ?side2 A2.out).mono ?_); (case side1 => exact zCx HR0.out); (case side2 => exact HC0.out); rintro e w' ⟨rfl, ⟨nd, rfl⟩⟩; refine ⟨_, rfl, ?_⟩))
   go_ret
   exact ⟨by first | rfl | (simp [errW_none, errW_some] <;> rfl) | (simp [*, errW_none, errW_some] <;> rfl), by exact zBx HB.out⟩
 ·rw [if_neg c3] at H
  have c3b0 : decide (t178 < 0) = false := decide_eq_false c3
  clear c3
  replace H := Option.bind_eq_some_iff.mp H
  obtain ⟨t179, A40, H⟩ := H
  replace H : ((spec_GapsOf.f k t179).bind fun bt182 => ((laws_toSegmentS.f k l0).bind fun t186 => ((impl_GapsOf.f k t186).bind fun bt189 => ((laws_eqIntSS.f k bt189.1 bt182.1).bind fun t193 => (if t193 = true then (laws_FnExactGapsOf.j0 k l0 bt182.1 bt182.2 t186 bt189.1 bt189.2 (bt189.2 != bt182.2)) else (laws_FnExactGapsOf.j0 k l0 bt182.1 bt182.2 t186 bt189.1 bt189.2 true)))))) = some r := H
  have A4 := Aside0.mk A40
  clear A40
  replace H := Option.bind_eq_some_iff.mp H
  obtain ⟨⟨t182, t183⟩, A50, H⟩ := H
  replace H : ((laws_toSegmentS.f k l0).bind fun t186 => ((impl_GapsOf.f k t186).bind fun bt189 => ((laws_eqIntSS.f k bt189.1 t182).bind fun t193 => (if t193 = true then (laws_FnExactGapsOf.j0 k l0 t182 t183 t186 bt189.1 bt189.2 (bt189.2 != t183)) else (laws_FnExactGapsOf.j0 k l0 t182 t183 t186 bt189.1 bt189.2 true))))) = some r := H
  have A5 := Aside0.mk A50
  clear A50
  replace H := Option.bind_eq_some_iff.mp H
  obtain ⟨t186, A60, H⟩ := H
  replace H : ((impl_GapsOf.f k t186).bind fun bt189 => ((laws_eqIntSS.f k bt189.1 t182).bind fun t193 => (if t193 = true then (laws_FnExactGapsOf.j0 k l0 t182 t183 t186 bt189.1 bt189.2 (bt189.2 != t183)) else (laws_FnExactGapsOf.j0 k l0 t182 t183 t186 bt189.1 bt189.2 true)))) = some r := H
  have A6 := Aside0.mk A60
  clear A60
  replace H := Option.bind_eq_some_iff.mp H
  obtain ⟨⟨t189, t190⟩, A70, H⟩ := H
  replace H : ((laws_eqIntSS.f k t189 t182).bind fun t193 => (if t193 = true then (laws_FnExactGapsOf.j0 k l0 t182 t183 t186 t189 t190 (t190 != t183)) else (laws_FnExactGapsOf.j0 k l0 t182 t183 t186 t189 t190 true))) = some r := H
  have A7 := Aside0.mk A70
  clear A70
  have HC8 := Aside0.mk H
  clear H
  go_enter Try.func3, Try.ntmps3
  go_upto_region 8 with (first | ((with_reducible refine gate_callee (f := 7) rfl ?_); refine goesL_ (some 16) rfl rfl Try.func7 (by kernel_rfl) rfl #[.slice A0 l0.length c0, .int .i64 1048576] rfl zlx ?_; (with_reducible refine (laws_szSegmentS.calls _ _ l0 1048576 t178 _ ?side1 ?side2 A2.out).mono ?_); (case side1 => exact zCx HR0.out); (case side2 => exact HC0.out); rintro e w' ⟨rfl, ⟨nd, rfl⟩⟩; refine ⟨_, rfl, ?_⟩) | ((with_reducible refine gate_callee (f := 9) rfl ?_); refine goesL_ (some 21) rfl rfl Try.func9 (by kernel_rfl) rfl #[.slice A0 l0.length c0] rfl zlx ?_; (with_reducible refine (laws_toSegmentS.calls k _ _ l0 t179 _ ?side1 ?side2 A4.out).mono ?_); (case side1 => exact zCx HR0.out); (case side2 => exact HC0.out); rintro e w9 ⟨v180, rfl, ho0, hb⟩; refine ⟨_, rfl, ?_⟩; have n0_ := Aside0.mk (Kd.R_lower ho0 (below_size (zBx HB.out))); have n1_ := Aside0.mk (below_step (zBx HB.out) hb); clear HB; have HO181 := n0_; have HB := n1_; clear n0_ n1_; (try clear hb); (try clear hb2); (try clear hk); (try clear hi); (try clear ho0); obtain ⟨Ao10, co10, eo10⟩ := Kd.R_slice HO181.out; subst eo10) | ((with_reducible refine gate_callee (f := 8) rfl ?_); refine goesL_ (some 22) rfl rfl Try.func8 (by kernel_rfl) rfl #[.slice Ao10 t179.length co10] rfl zlx ?_; (with_reducible refine (spec_GapsOf.calls k _ _ t179 t182 t183 _ ?side1 ?side2 A5.out).mono ?_); (case side1 => repeat (first | exact (Kd.R_reads' HO181.out).2.2 | (with_reducible refine Kd.C_alloc ?_ _) | (with_reducible refine Kd.C_drewN ?_ _) | (with_reducible refine Kd.C_drew ?_))); (case side2 => exact (Kd.R_reads' HO181.out).2.1); rintro e w11 ⟨v184, rfl, ho0, hb⟩; refine ⟨_, rfl, ?_⟩; have n0_ := Aside0.mk (Kd.R_below (zRx HO181.out) hb); have n1_ := Aside0.mk (Kd.S_lower ho0 (below_size (zBx HB.out))); have n2_ := Aside0.mk (below_step (zBx HB.out) hb); clear HO181; clear HB; have HO181 := n0_; have HO185 := n1_; have HB := n2_; clear n0_ n1_ n2_; (try clear hb); (try clear hb2); (try clear hk); (try clear hi); (try clear ho0)) | ((with_reducible refine gate_callee (f := 9) rfl ?_); refine goesL_ (some 26) rfl rfl Try.func9 (by kernel_rfl) rfl #[.slice A0 l0.length c0] rfl zlx ?_; (with_reducible refine (laws_toSegmentS.calls k _ _ l0 t186 _ ?side1 ?side2 A6.out).mono ?_); (case side1 => repeat (first | exact (Kd.C_below HR0.out HB.out) | (with_reducible refine Kd.C_alloc ?_ _) | (with_reducible refine Kd.C_drewN ?_ _) | (with_reducible refine Kd.C_drew ?_))); (case side2 => exact HC0.out); rintro e w12 ⟨v187, rfl, ho0, hb⟩; refine ⟨_, rfl, ?_⟩; have n0_ := Aside0.mk (Kd.R_elder' (zRx HO181.out) (Kd.R_base ho0) hb); have n1_ := Aside0.mk (Kd.S_below (zSx HO185.out) hb); have n2_ := Aside0.mk (Kd.R_lower (Kd.R_new' ho0 (Kd.R_lt (zRx HO181.out))) (below_size (zBx HB.out))); have n3_ := Aside0.mk (below_step (zBx HB.out) hb); clear HO181; clear HO185; clear HB; have HO181 := n0_; have HO185 := n1_; have HO188 := n2_; have HB := n3_; clear n0_ n1_ n2_ n3_; (try clear hb); (try clear hb2); (try clear hk); (try clear hi); (try clear ho0); obtain ⟨Ao13, co13, eo13⟩ := Kd.R_slice HO188.out; subst eo13) | ((with_reducible refine gate_callee (f := 10) rfl ?_); refine goesL_ (some 29) rfl rfl Try.func10 (by kernel_rfl) rfl #[.slice Ao13 t186.length co13] rfl zlx ?_; (with_reducible refine (impl_GapsOf.calls k _ _ t186 t189 t190 _ ?side1 ?side2 A7.out).mono ?_); (case side1 => repeat (first | exact (Kd.R_reads' HO188.out).2.2 | (with_reducible refine Kd.C_alloc ?_ _) | (with_reducible refine Kd.C_drewN ?_ _) | (with_reducible refine Kd.C_drew ?_))); (case side2 => exact (Kd.R_reads' HO188.out).2.1); rintro e w14 ⟨v191, rfl, ho0, hb⟩; refine ⟨_, rfl, ?_⟩; obtain ⟨N_, ha_, hb_⟩ := Kd.S_two (zSx HO185.out) ho0 hb (below_size (zBx HB.out)); have n0_ := Aside0.mk (Kd.R_below (zRx HO181.out) hb); have n1_ := Aside0.mk ha_; clear ha_; have n2_ := Aside0.mk (Kd.R_below (zRx HO188.out) hb); have n3_ := Aside0.mk hb_; clear hb_; have n4_ := Aside0.mk (below_step (zBx HB.out) hb); clear HO181; clear HO185; clear HO188; clear HB; have HO181 := n0_; have HO185 := n1_; have HO188 := n2_; have HO192 := n3_; have HB := n4_; clear n0_ n1_ n2_ n3_ n4_; (try clear hb); (try clear hb2); (try clear hk); (try clear hi); (try clear ho0)))
  (try simp only [Act.put, List.setIfInBounds_toArray, List.set_cons_zero, List.set_cons_succ])
  go_cut [40] (fun v40 wc => ∃ (kq : Nat) (x40_7 : Bool), v40 = .bool x40_7 ∧ Aside0 (laws_FnExactGapsOf.j0 kq l0 t182 t183 t186 t189 t190 x40_7 = some r) ∧ Aside0 (kq ≤ k) ∧ Aside0 (Kd.S (Kd.slice 3 (Kd.int .i64)) 51 wc w.heap.size (fun k_ => (some k_ ≠ (v191 : Value).ownBlock ∧ k_ < N_)) v184 t182) ∧ Aside0 (Kd.R k66 66 wc w.heap.size (fun _ => True) (.slice Ao13 t186.length co13) t186) ∧ Aside0 (Kd.S (Kd.slice 3 (Kd.int .i64)) 51 wc w.heap.size (fun k_ => (some k_ ≠ (v184 : Value).ownBlock ∧ N_ ≤ k_)) v191 t189) ∧ Aside0 (Below w.heap.size w wc))
  case first =>
   as_aux_lemma =>
   have H := HC8.out
   clear HC8
   replace H := Option.bind_eq_some_iff.mp H
   obtain ⟨t193, A150, H⟩ := H
   replace H : (if t193 = true then (laws_FnExactGapsOf.j0 k l0 t182 t183 t186 t189 t190 (t190 != t183)) else (laws_FnExactGapsOf.j0 k l0 t182 t183 t186 t189 t190 true)) = some r := H
   have A15 := Aside0.mk A150
   clear A150
   by_cases c16 : t193 = true
   ·subst c16
    have H1 : (laws_FnExactGapsOf.j0 k l0 t182 t183 t186 t189 t190 (t190 != t183)) = some r := by rw [if_pos rfl] at H; exact H
    clear H
    have H := H1
    clear H1
    as_aux_lemma =>
     have H' := Aside0.mk H
     clear H
     obtain ⟨Ao17, co17, eo17⟩ := Kd.S_slice HO192.out
     subst eo17
     obtain ⟨Ao18, co18, eo18⟩ := Kd.S_slice HO185.out
     subst eo18
     go_wp2_with (first | ((with_reducible refine gate_callee (f := 11) rfl ?_); refine goesL_ (some 34) rfl rfl Try.func11 (by kernel_rfl) rfl #[.slice Ao17 t189.length co17, .slice Ao18 t182.length co18] rfl zlx ?_; (with_reducible refine (laws_eqIntSS.calls k _ _ t189 _ _ t182 true _ ?side1 ?side2 ?side3 ?side4 A15.out).mono ?_); (case side1 => repeat (first | exact (Kd.S_reads' HO192.out).2.2 | (with_reducible refine Kd.C_alloc ?_ _) | (with_reducible refine Kd.C_drewN ?_ _) | (with_reducible refine Kd.C_drew ?_))); (case side2 => exact (Kd.S_reads' HO192.out).2.1); (case side3 => repeat (first | exact (Kd.S_reads' HO185.out).2.2 | (with_reducible refine Kd.C_alloc ?_ _) | (with_reducible refine Kd.C_drewN ?_ _) | (with_reducible refine Kd.C_drew ?_))); (case side4 => exact (Kd.S_reads' HO185.out).2.1); rintro e w' ⟨rfl, ⟨nd, rfl⟩⟩; refine ⟨_, rfl, ?_⟩))
     go_meet
     case rel => exact ⟨_, ((t190 != t183)), zrx, H', ⟨by first | omega | exact Nat.le_refl _⟩, ⟨by (with_reducible repeat (first | apply Kd.S_alloc | apply Kd.S_drewN | apply Kd.S_drew)); exact Kd.S_mono HO185.out (fun _ hk => hk.2)⟩, ⟨by (with_reducible repeat (first | apply Kd.R_alloc | apply Kd.R_drewN | apply Kd.R_drew)); exact Kd.R_mono HO188.out (fun _ hk => trivial)⟩, ⟨by (with_reducible repeat (first | apply Kd.S_alloc | apply Kd.S_drewN | apply Kd.S_drew)); exact Kd.S_mono HO192.out (fun _ hk => hk.2)⟩, ⟨by exact zBx HB.out⟩⟩
   ·replace c16 := Bool.eq_false_iff.mpr c16
    subst c16
    have H1 : (laws_FnExactGapsOf.j0 k l0 t182 t183 t186 t189 t190 true) = some r := by rw [if_neg (show ¬ (false = true) by decide)] at H; exact H
    clear H
    have H := H1
    clear H1
    as_aux_lemma =>
     have H' := Aside0.mk H
     clear H
     obtain ⟨Ao19, co19, eo19⟩ := Kd.S_slice HO192.out
     subst eo19
     obtain ⟨Ao20, co20, eo20⟩ := Kd.S_slice HO185.out
     subst eo20
     go_wp2_with (first | ((with_reducible refine gate_callee (f := 11) rfl ?_); refine goesL_ (some 34) rfl rfl Try.func11 (by kernel_rfl) rfl #[.slice Ao19 t189.length co19, .slice Ao20 t182.length co20] rfl zlx ?_; (with_reducible refine (laws_eqIntSS.calls k _ _ t189 _ _ t182 false _ ?side1 ?side2 ?side3 ?side4 A15.out).mono ?_); (case side1 => repeat (first | exact (Kd.S_reads' HO192.out).2.2 | (with_reducible refine Kd.C_alloc ?_ _) | (with_reducible refine Kd.C_drewN ?_ _) | (with_reducible refine Kd.C_drew ?_))); (case side2 => exact (Kd.S_reads' HO192.out).2.1); (case side3 => repeat (first | exact (Kd.S_reads' HO185.out).2.2 | (with_reducible refine Kd.C_alloc ?_ _) | (with_reducible refine Kd.C_drewN ?_ _) | (with_reducible refine Kd.C_drew ?_))); (case side4 => exact (Kd.S_reads' HO185.out).2.1); rintro e w' ⟨rfl, ⟨nd, rfl⟩⟩; refine ⟨_, rfl, ?_⟩))
     go_meet
     case rel => exact ⟨_, (true), zrx, H', ⟨by first | omega | exact Nat.le_refl _⟩, ⟨by (with_reducible repeat (first | apply Kd.S_alloc | apply Kd.S_drewN | apply Kd.S_drew)); exact Kd.S_mono HO185.out (fun _ hk => hk.2)⟩, ⟨by (with_reducible repeat (first | apply Kd.R_alloc | apply Kd.R_drewN | apply Kd.R_drew)); exact Kd.R_mono HO188.out (fun _ hk => trivial)⟩, ⟨by (with_reducible repeat (first | apply Kd.S_alloc | apply Kd.S_drewN | apply Kd.S_drew)); exact Kd.S_mono HO192.out (fun _ hk => hk.2)⟩, ⟨by exact zBx HB.out⟩⟩
  case rest =>
   as_aux_lemma =>
   clear HC8
   try clear c1
   try clear p2
   try clear c3
   try clear c3b0
   try clear c7
   try clear c8
   try clear c9
   try clear c10
   try clear c11
   try clear c16
   obtain ⟨kq, x40_7, rfl, HA, HJ7, HO_4, HO_6, HO_7, HB⟩ := hcut
   cases kq with
   | zero => exact absurd HA.out (by simp [laws_FnExactGapsOf.j0])
   | succ kj7 =>
    have H := HA.out
    clear HA
    simp only [laws_FnExactGapsOf.j0] at H
    by_cases c21 : x40_7 = true
    ·subst c21
     have H1 : (some false) = some r := by rw [if_pos rfl] at H; exact H
     clear H
     have H := H1
     clear H1
     as_aux_lemma =>
      exact absurd (Option.some.inj H) (by rw [hr_]; decide)
    ·replace c21 := Bool.eq_false_iff.mpr c21
     subst c21
     have H1 : ((laws_toSegmentS.f kj7 l0).bind fun t194 => ((laws_eqSegmentS.f kj7 t186 t194).bind fun t197 => (if t197 = true then ((laws_markSegmentS.f kj7 t186 1).bind fun bt198 => (if bt198.1 < 0 then (laws_FnExactGapsOf.j1 kj7 l0 t182 t183 t189 true) else ((laws_eqIntSS.f kj7 t189 t182).bind fun t200 => (if t200 = true then (laws_FnExactGapsOf.j1 kj7 l0 t182 t183 t189 (t190 != t183)) else (laws_FnExactGapsOf.j1 kj7 l0 t182 t183 t189 true))))) else (some false)))) = some r := by rw [if_neg (show ¬ (false = true) by decide)] at H; exact H
     clear H
     have H := H1
     clear H1
     replace H := Option.bind_eq_some_iff.mp H
     obtain ⟨t194, A220, H⟩ := H
     replace H : ((laws_eqSegmentS.f kj7 t186 t194).bind fun t197 => (if t197 = true then ((laws_markSegmentS.f kj7 t186 1).bind fun bt198 => (if bt198.1 < 0 then (laws_FnExactGapsOf.j1 kj7 l0 t182 t183 t189 true) else ((laws_eqIntSS.f kj7 t189 t182).bind fun t200 => (if t200 = true then (laws_FnExactGapsOf.j1 kj7 l0 t182 t183 t189 (t190 != t183)) else (laws_FnExactGapsOf.j1 kj7 l0 t182 t183 t189 true))))) else (some false))) = some r := H
     have A22 := Aside0.mk A220
     clear A220
     replace H := Option.bind_eq_some_iff.mp H
     obtain ⟨t197, A230, H⟩ := H
     replace H : (if t197 = true then ((laws_markSegmentS.f kj7 t186 1).bind fun bt198 => (if bt198.1 < 0 then (laws_FnExactGapsOf.j1 kj7 l0 t182 t183 t189 true) else ((laws_eqIntSS.f kj7 t189 t182).bind fun t200 => (if t200 = true then (laws_FnExactGapsOf.j1 kj7 l0 t182 t183 t189 (t190 != t183)) else (laws_FnExactGapsOf.j1 kj7 l0 t182 t183 t189 true))))) else (some false)) = some r := H
     have A23 := Aside0.mk A230
     clear A230
     by_cases c24 : t197 = true
     ·subst c24
      have H1 : ((laws_markSegmentS.f kj7 t186 1).bind fun bt198 => (if bt198.1 < 0 then (laws_FnExactGapsOf.j1 kj7 l0 t182 t183 t189 true) else ((laws_eqIntSS.f kj7 t189 t182).bind fun t200 => (if t200 = true then (laws_FnExactGapsOf.j1 kj7 l0 t182 t183 t189 (t190 != t183)) else (laws_FnExactGapsOf.j1 kj7 l0 t182 t183 t189 true))))) = some r := by rw [if_pos rfl] at H; exact H
      clear H
      have H := H1
      clear H1
      replace H := Option.bind_eq_some_iff.mp H
      obtain ⟨⟨t198, t199⟩, A250, H⟩ := H
      replace H : (if t198 < 0 then (laws_FnExactGapsOf.j1 kj7 l0 t182 t183 t189 true) else ((laws_eqIntSS.f kj7 t189 t182).bind fun t200 => (if t200 = true then (laws_FnExactGapsOf.j1 kj7 l0 t182 t183 t189 (t190 != t183)) else (laws_FnExactGapsOf.j1 kj7 l0 t182 t183 t189 true)))) = some r := H
      have A25 := Aside0.mk A250
      clear A250
      have HC26 := Aside0.mk H
      clear H
      go_upto_region 14 with (first | ((with_reducible refine gate_callee (f := 9) rfl ?_); refine goesL_ (some 43) rfl rfl Try.func9 (by kernel_rfl) rfl #[.slice A0 l0.length c0] rfl zlx ?_; (with_reducible refine (laws_toSegmentS.calls kj7 _ _ l0 t194 _ ?side1 ?side2 A22.out).mono ?_); (case side1 => repeat (first | exact (Kd.C_below HR0.out HB.out) | (with_reducible refine Kd.C_alloc ?_ _) | (with_reducible refine Kd.C_drewN ?_ _) | (with_reducible refine Kd.C_drew ?_))); (case side2 => exact HC0.out); rintro e w27 ⟨v195, rfl, ho0, hb⟩; refine ⟨_, rfl, ?_⟩; have n0_ := Aside0.mk (Kd.S_below (zSx HO_4.out) hb); have n1_ := Aside0.mk (Kd.R_elder' (zRx HO_6.out) (Kd.R_base ho0) hb); have n2_ := Aside0.mk (Kd.S_below (zSx HO_7.out) hb); have n3_ := Aside0.mk (Kd.R_lower (Kd.R_new' ho0 (Kd.R_lt (zRx HO_6.out))) (below_size (zBx HB.out))); have n4_ := Aside0.mk (below_step (zBx HB.out) hb); clear HO_4; clear HO_6; clear HO_7; clear HB; have HO_4 := n0_; have HO_6 := n1_; have HO_7 := n2_; have HO196 := n3_; have HB := n4_; clear n0_ n1_ n2_ n3_ n4_; (try clear hb); (try clear hb2); (try clear hk); (try clear hi); (try clear ho0); obtain ⟨Ao28, co28, eo28⟩ := Kd.R_slice HO196.out; subst eo28) | ((with_reducible refine gate_callee (f := 12) rfl ?_); refine goesL_ (some 44) rfl rfl Try.func12 (by kernel_rfl) rfl #[.slice Ao13 t186.length co13, .slice Ao28 t194.length co28] rfl zlx ?_; (with_reducible refine (laws_eqSegmentS.calls kj7 _ _ t186 _ _ t194 true _ ?side1 ?side2 ?side3 ?side4 A23.out).mono ?_); (case side1 => repeat (first | exact (Kd.R_reads' HO_6.out).2.2 | (with_reducible refine Kd.C_alloc ?_ _) | (with_reducible refine Kd.C_drewN ?_ _) | (with_reducible refine Kd.C_drew ?_))); (case side2 => exact (Kd.R_reads' HO_6.out).2.1); (case side3 => repeat (first | exact (Kd.R_reads' HO196.out).2.2 | (with_reducible refine Kd.C_alloc ?_ _) | (with_reducible refine Kd.C_drewN ?_ _) | (with_reducible refine Kd.C_drew ?_))); (case side4 => exact (Kd.R_reads' HO196.out).2.1); rintro e w29 ⟨rfl, hb⟩; refine ⟨_, rfl, ?_⟩; have n0_ := Aside0.mk (Kd.S_below (zSx HO_4.out) hb); have n1_ := Aside0.mk (Kd.R_below (zRx HO_6.out) hb); have n2_ := Aside0.mk (Kd.S_below (zSx HO_7.out) hb); have n3_ := Aside0.mk (Kd.R_below (zRx HO196.out) hb); have n4_ := Aside0.mk (below_step (zBx HB.out) hb); clear HO_4; clear HO_6; clear HO_7; clear HO196; clear HB; have HO_4 := n0_; have HO_6 := n1_; have HO_7 := n2_; have HO196 := n3_; have HB := n4_; clear n0_ n1_ n2_ n3_ n4_; (try clear hb); (try clear hb2); (try clear hk); (try clear hi)) | ((with_reducible refine gate_callee (f := 13) rfl ?_); refine goesL_ (some 48) rfl rfl Try.func13 (by kernel_rfl) rfl #[.slice Ao13 t186.length co13, .int .i64 1] rfl zlx ?_; (with_reducible refine (laws_markSegmentS.calls kj7 (fun k_ => some k_ = (.slice Ao13 t186.length co13 : Value).ownBlock) (.slice Ao13 t186.length co13) t186 1 t198 t199 w _ ?side1 ?side2 A25.out).mono ?_); (case side1 => exact zBx HB.out); (case side2 => exact Kd.R_tight rfl HO_6.out); rintro e w30 ⟨rfl, hy0, hb, hkp⟩; refine ⟨_, rfl, ?_⟩; have n0_ := Aside0.mk (Kd.S_mono (ok' := fun k_ => (some k_ ≠ (v191 : Value).ownBlock ∧ k_ < N_)) (Kd.S_keptB ((Kd.S_apart' HO_4.out (Kd.R_typed HO_6.out) (by decide))) hkp (fun k_ hk_ hs_ => (hk_.2) hs_)) (fun k_ hk_ => hk_.1.1)); have n1_ := Aside0.mk (Kd.R_reok rfl hy0 (fun k_ e_ => HO_6.out.1 k_ e_)); have n2_ := Aside0.mk (Kd.S_mono (ok' := fun k_ => (some k_ ≠ (v184 : Value).ownBlock ∧ N_ ≤ k_)) (Kd.S_keptB ((Kd.S_apart' HO_7.out (Kd.R_typed HO_6.out) (by decide))) hkp (fun k_ hk_ hs_ => (hk_.2) hs_)) (fun k_ hk_ => hk_.1.1)); have n3_ := Aside0.mk (Kd.R_mono (ok' := fun k_ => some k_ ≠ (.slice Ao13 t186.length co13 : Value).ownBlock) (Kd.R_keptB (HO196.out) hkp (fun k_ hk_ hs_ => (hk_.2) hs_)) (fun k_ hk_ => hk_.1.2)); have n4_ := Aside0.mk (hb); clear HO_4; clear HO_6; clear HO_7; clear HO196; clear HB; have HO_4 := n0_; have HO_6 := n1_; have HO_7 := n2_; have HO196 := n3_; have HB := n4_; clear n0_ n1_ n2_ n3_ n4_; (try clear hb); (try clear hkp); (try clear hy0)))
      (try simp only [Act.put, List.setIfInBounds_toArray, List.set_cons_zero, List.set_cons_succ])
      go_cut [61] (fun v61 wc => ∃ (kq : Nat) (x61_25 : Bool), v61 = .bool x61_25 ∧ Aside0 (laws_FnExactGapsOf.j1 kq l0 t182 t183 t189 x61_25 = some r) ∧ Aside0 (kq ≤ kj7) ∧ Aside0 (Kd.S (Kd.slice 3 (Kd.int .i64)) 51 wc w.heap.size (fun k_ => (some k_ ≠ (v191 : Value).ownBlock ∧ k_ < N_)) v184 t182) ∧ Aside0 (Kd.S (Kd.slice 3 (Kd.int .i64)) 51 wc w.heap.size (fun k_ => (some k_ ≠ (v184 : Value).ownBlock ∧ N_ ≤ k_)) v191 t189) ∧ Aside0 (Below w.heap.size w wc))
      case first =>
       as_aux_lemma =>
       have H := HC26.out
       clear HC26
       by_cases c31 : t198 < 0
       ·rw [if_pos c31] at H
        have c31b0 : decide (t198 < 0) = true := decide_eq_true c31
        clear c31
        (first | rw [c31b0] | (simp only [i64_w, i32_w]; rw [c31b0]) | skip)
        as_aux_lemma =>
         have H' := Aside0.mk H
         clear H
         go_wp2
         go_meet
         case rel => exact ⟨_, (true), zrx, H', ⟨by have := HJ7.out; first | omega | exact Nat.le_refl _⟩, ⟨by (with_reducible repeat (first | apply Kd.S_alloc | apply Kd.S_drewN | apply Kd.S_drew)); exact HO_4.out⟩, ⟨by (with_reducible repeat (first | apply Kd.S_alloc | apply Kd.S_drewN | apply Kd.S_drew)); exact HO_7.out⟩, ⟨by exact zBx HB.out⟩⟩
       ·rw [if_neg c31] at H
        have c31b0 : decide (t198 < 0) = false := decide_eq_false c31
        clear c31
        (first | rw [c31b0] | (simp only [i64_w, i32_w]; rw [c31b0]) | skip)
        replace H := Option.bind_eq_some_iff.mp H
        obtain ⟨t200, A320, H⟩ := H
        replace H : (if t200 = true then (laws_FnExactGapsOf.j1 kj7 l0 t182 t183 t189 (t190 != t183)) else (laws_FnExactGapsOf.j1 kj7 l0 t182 t183 t189 true)) = some r := H
        have A32 := Aside0.mk A320
        clear A320
        by_cases c33 : t200 = true
        ·subst c33
         have H1 : (laws_FnExactGapsOf.j1 kj7 l0 t182 t183 t189 (t190 != t183)) = some r := by rw [if_pos rfl] at H; exact H
         clear H
         have H := H1
         clear H1
         as_aux_lemma =>
          have H' := Aside0.mk H
          clear H
          obtain ⟨Ao34, co34, eo34⟩ := Kd.S_slice HO_7.out
          subst eo34
          obtain ⟨Ao35, co35, eo35⟩ := Kd.S_slice HO_4.out
          subst eo35
          go_wp2_with (first | (go_at_call 11; (with_reducible refine (laws_eqIntSS.calls kj7 _ _ t189 _ _ t182 true _ ?side1 ?side2 ?side3 ?side4 A32.out).mono ?_); (case side1 => repeat (first | exact (Kd.S_reads' HO_7.out).2.2 | (with_reducible refine Kd.C_alloc ?_ _) | (with_reducible refine Kd.C_drewN ?_ _) | (with_reducible refine Kd.C_drew ?_))); (case side2 => exact (Kd.S_reads' HO_7.out).2.1); (case side3 => repeat (first | exact (Kd.S_reads' HO_4.out).2.2 | (with_reducible refine Kd.C_alloc ?_ _) | (with_reducible refine Kd.C_drewN ?_ _) | (with_reducible refine Kd.C_drew ?_))); (case side4 => exact (Kd.S_reads' HO_4.out).2.1); rintro e w' ⟨rfl, ⟨nd, rfl⟩⟩))
          go_meet
          case rel => exact ⟨_, ((t190 != t183)), zrx, H', ⟨by have := HJ7.out; first | omega | exact Nat.le_refl _⟩, ⟨by (with_reducible repeat (first | apply Kd.S_alloc | apply Kd.S_drewN | apply Kd.S_drew)); exact HO_4.out⟩, ⟨by (with_reducible repeat (first | apply Kd.S_alloc | apply Kd.S_drewN | apply Kd.S_drew)); exact HO_7.out⟩, ⟨by exact zBx HB.out⟩⟩
        ·replace c33 := Bool.eq_false_iff.mpr c33
         subst c33
         have H1 : (laws_FnExactGapsOf.j1 kj7 l0 t182 t183 t189 true) = some r := by rw [if_neg (show ¬ (false = true) by decide)] at H; exact H
         clear H
         have H := H1
         clear H1
         as_aux_lemma =>
          have H' := Aside0.mk H
          clear H
          obtain ⟨Ao36, co36, eo36⟩ := Kd.S_slice HO_7.out
          subst eo36
          obtain ⟨Ao37, co37, eo37⟩ := Kd.S_slice HO_4.out
          subst eo37
          go_wp2_with (first | (go_at_call 11; (with_reducible refine (laws_eqIntSS.calls kj7 _ _ t189 _ _ t182 false _ ?side1 ?side2 ?side3 ?side4 A32.out).mono ?_); (case side1 => repeat (first | exact (Kd.S_reads' HO_7.out).2.2 | (with_reducible refine Kd.C_alloc ?_ _) | (with_reducible refine Kd.C_drewN ?_ _) | (with_reducible refine Kd.C_drew ?_))); (case side2 => exact (Kd.S_reads' HO_7.out).2.1); (case side3 => repeat (first | exact (Kd.S_reads' HO_4.out).2.2 | (with_reducible refine Kd.C_alloc ?_ _) | (with_reducible refine Kd.C_drewN ?_ _) | (with_reducible refine Kd.C_drew ?_))); (case side4 => exact (Kd.S_reads' HO_4.out).2.1); rintro e w' ⟨rfl, ⟨nd, rfl⟩⟩))
          go_meet
          case rel => exact ⟨_, (true), zrx, H', ⟨by have := HJ7.out; first | omega | exact Nat.le_refl _⟩, ⟨by (with_reducible repeat (first | apply Kd.S_alloc | apply Kd.S_drewN | apply Kd.S_drew)); exact HO_4.out⟩, ⟨by (with_reducible repeat (first | apply Kd.S_alloc | apply Kd.S_drewN | apply Kd.S_drew)); exact HO_7.out⟩, ⟨by exact zBx HB.out⟩⟩
      case rest =>
       as_aux_lemma =>
       clear HC26
       try clear c1
       try clear c2
       try clear p2
       try clear c3
       try clear c3b0
       try clear c7
       try clear c8
       try clear c9
       try clear c10
       try clear c11
       try clear c12
       try clear c13
       try clear c16
       try clear c21
       try clear c24
       try clear c31
       try clear c31b0
       try clear c33
       try clear p2
       obtain ⟨kq, x61_25, rfl, HA, HJ25, HO_4, HO_7, HB⟩ := hcut
       cases kq with
       | zero => exact absurd HA.out (by simp [laws_FnExactGapsOf.j1])
       | succ kj25 =>
        have H := HA.out
        clear HA
        simp only [laws_FnExactGapsOf.j1] at H
        by_cases c38 : x61_25 = true
        ·subst c38
         have H1 : (some false) = some r := by rw [if_pos rfl] at H; exact H
         clear H
         have H := H1
         clear H1
         as_aux_lemma =>
          exact absurd (Option.some.inj H) (by rw [hr_]; decide)
        ·replace c38 := Bool.eq_false_iff.mpr c38
         subst c38
         have H1 : ((laws_markIntSS.f kj25 t189 1).bind fun bt201 => ((laws_heldIntSS.f kj25 bt201.2 1).bind fun t202 => (if t202 < 0 then (some false) else (if t202 = bt201.1 then ((laws_toSegmentS.f kj25 l0).bind fun t203 => ((impl_GapsOf.f kj25 t203).bind fun bt206 => ((laws_eqIntSS.f kj25 bt206.1 t182).bind fun t210 => (if t210 = true then (laws_FnExactGapsOf.j2 kj25 bt201.2 bt201.1 (bt206.2 != t183)) else (laws_FnExactGapsOf.j2 kj25 bt201.2 bt201.1 true))))) else (some false))))) = some r := by rw [if_neg (show ¬ (false = true) by decide)] at H; exact H
         clear H
         have H := H1
         clear H1
         replace H := Option.bind_eq_some_iff.mp H
         obtain ⟨⟨t201, t189m⟩, A390, H⟩ := H
         replace H : ((laws_heldIntSS.f kj25 t189m 1).bind fun t202 => (if t202 < 0 then (some false) else (if t202 = t201 then ((laws_toSegmentS.f kj25 l0).bind fun t203 => ((impl_GapsOf.f kj25 t203).bind fun bt206 => ((laws_eqIntSS.f kj25 bt206.1 t182).bind fun t210 => (if t210 = true then (laws_FnExactGapsOf.j2 kj25 t189m t201 (bt206.2 != t183)) else (laws_FnExactGapsOf.j2 kj25 t189m t201 true))))) else (some false)))) = some r := H
         have A39 := Aside0.mk A390
         clear A390
         replace H := Option.bind_eq_some_iff.mp H
         obtain ⟨t202, A400, H⟩ := H
         replace H : (if t202 < 0 then (some false) else (if t202 = t201 then ((laws_toSegmentS.f kj25 l0).bind fun t203 => ((impl_GapsOf.f kj25 t203).bind fun bt206 => ((laws_eqIntSS.f kj25 bt206.1 t182).bind fun t210 => (if t210 = true then (laws_FnExactGapsOf.j2 kj25 t189m t201 (bt206.2 != t183)) else (laws_FnExactGapsOf.j2 kj25 t189m t201 true))))) else (some false))) = some r := H
         have A40 := Aside0.mk A400
         clear A400
         by_cases c41 : t202 < 0
         ·rw [if_pos c41] at H
          have c41b0 : decide (t202 < 0) = true := decide_eq_true c41
          clear c41
          as_aux_lemma =>
           exact absurd (Option.some.inj H) (by rw [hr_]; decide)
         ·rw [if_neg c41] at H
          have c41b0 : decide (t202 < 0) = false := decide_eq_false c41
          clear c41
          by_cases c43 : t202 = t201
          ·rw [if_pos c43] at H
           have c43b0 : (t202 == t201) = true := beq_iff_eq.mpr c43
           have c43b1 : (t202 != t201) = false := bne_eq_false_iff_eq.mpr c43
           clear c43
           replace H := Option.bind_eq_some_iff.mp H
           obtain ⟨t203, A440, H⟩ := H
           replace H : ((impl_GapsOf.f kj25 t203).bind fun bt206 => ((laws_eqIntSS.f kj25 bt206.1 t182).bind fun t210 => (if t210 = true then (laws_FnExactGapsOf.j2 kj25 t189m t201 (bt206.2 != t183)) else (laws_FnExactGapsOf.j2 kj25 t189m t201 true)))) = some r := H
           have A44 := Aside0.mk A440
           clear A440
           replace H := Option.bind_eq_some_iff.mp H
           obtain ⟨⟨t206, t207⟩, A450, H⟩ := H
           replace H : ((laws_eqIntSS.f kj25 t206 t182).bind fun t210 => (if t210 = true then (laws_FnExactGapsOf.j2 kj25 t189m t201 (t207 != t183)) else (laws_FnExactGapsOf.j2 kj25 t189m t201 true))) = some r := H
           have A45 := Aside0.mk A450
           clear A450
           have HC46 := Aside0.mk H
           clear H
           obtain ⟨Ao47, co47, eo47⟩ : ∃ A c, v191 = .slice A t189m.length c := by
             rw [laws_markIntSS.len A39.out]
             exact Kd.S_slice HO_7.out
           subst eo47
           go_upto_region 25 with (first | ((with_reducible refine gate_callee (f := 14) rfl ?_); refine goesL_ (some 64) rfl rfl Try.func14 (by kernel_rfl) rfl #[.slice Ao47 t189m.length co47, .int .i64 1] rfl zlx ?_; (with_reducible refine (laws_markIntSS.calls kj25 (fun k_ => (some k_ ≠ (v184 : Value).ownBlock ∧ N_ ≤ k_)) (.slice Ao47 t189m.length co47) t189 1 t201 t189m w _ ?side1 ?side2 A39.out).mono ?_); (case side1 => exact zBx HB.out); (case side2 => exact zSx HO_7.out); rintro e wm_ ⟨rfl, hy0, hb, hkp⟩; refine ⟨_, rfl, ?_⟩; have n0_ := Aside0.mk (Kd.S_kept (ok := fun k_ => (some k_ ≠ (.slice Ao47 t189m.length co47 : Value).ownBlock ∧ k_ < N_)) (zSx HO_4.out) hkp (fun k_ hk_ hs_ => Nat.not_lt.2 hs_.2 hk_.2)); have n1_ := Aside0.mk hy0; have n2_ := Aside0.mk hb; clear HO_4; clear HO_7; clear HB; have HO_4 := n0_; have HO_7 := n1_; have HB := n2_; clear n0_ n1_ n2_; (try clear hb); (try clear hkp); (try clear hy0)) | ((with_reducible refine gate_callee (f := 15) rfl ?_); refine goesL_ (some 67) rfl rfl Try.func15 (by kernel_rfl) rfl #[.slice Ao47 t189m.length co47, .int .i64 1] rfl zlx ?_; (with_reducible refine (laws_heldIntSS.calls kj25 _ _ t189m 1 t202 _ ?side1 ?side2 A40.out).mono ?_); (case side1 => repeat (first | exact (Kd.S_reads' HO_7.out).2.2 | (with_reducible refine Kd.C_alloc ?_ _) | (with_reducible refine Kd.C_drewN ?_ _) | (with_reducible refine Kd.C_drew ?_))); (case side2 => exact (Kd.S_reads' HO_7.out).2.1); rintro e w' ⟨rfl, ⟨nd, rfl⟩⟩; refine ⟨_, rfl, ?_⟩) | ((with_reducible refine gate_callee (f := 9) rfl ?_); refine goesL_ (some 75) rfl rfl Try.func9 (by kernel_rfl) rfl #[.slice A0 l0.length c0] rfl zlx ?_; (with_reducible refine (laws_toSegmentS.calls kj25 _ _ l0 t203 _ ?side1 ?side2 A44.out).mono ?_); (case side1 => repeat (first | exact (Kd.C_below HR0.out (zBx HB.out)) | (with_reducible refine Kd.C_alloc ?_ _) | (with_reducible refine Kd.C_drewN ?_ _) | (with_reducible refine Kd.C_drew ?_))); (case side2 => exact HC0.out); rintro e w48 ⟨v204, rfl, ho0, hb⟩; refine ⟨_, rfl, ?_⟩; have n0_ := Aside0.mk (Kd.S_below (zSx HO_4.out) hb); have n1_ := Aside0.mk (Kd.S_below (zSx HO_7.out) hb); have n2_ := Aside0.mk (Kd.R_lower ho0 (below_size (zBx HB.out))); have n3_ := Aside0.mk (below_step (zBx HB.out) hb); clear HO_4; clear HO_7; clear HB; have HO_4 := n0_; have HO_7 := n1_; have HO205 := n2_; have HB := n3_; clear n0_ n1_ n2_ n3_; (try clear hb); (try clear hb2); (try clear hk); (try clear hi); (try clear ho0); obtain ⟨Ao49, co49, eo49⟩ := Kd.R_slice HO205.out; subst eo49) | ((with_reducible refine gate_callee (f := 10) rfl ?_); refine goesL_ (some 76) rfl rfl Try.func10 (by kernel_rfl) rfl #[.slice Ao49 t203.length co49] rfl zlx ?_; (with_reducible refine (impl_GapsOf.calls kj25 _ _ t203 t206 t207 _ ?side1 ?side2 A45.out).mono ?_); (case side1 => repeat (first | exact (Kd.R_reads' HO205.out).2.2 | (with_reducible refine Kd.C_alloc ?_ _) | (with_reducible refine Kd.C_drewN ?_ _) | (with_reducible refine Kd.C_drew ?_))); (case side2 => exact (Kd.R_reads' HO205.out).2.1); rintro e w50 ⟨v208, rfl, ho0, hb⟩; refine ⟨_, rfl, ?_⟩; have n0_ := Aside0.mk (Kd.S_elder' (zSx HO_4.out) (Kd.S_base ho0) hb); have n1_ := Aside0.mk (Kd.S_elder' (zSx HO_7.out) (Kd.S_base ho0) hb); have n2_ := Aside0.mk (Kd.R_below (zRx HO205.out) hb); have n3_ := Aside0.mk (Kd.S_lower (Kd.S_new' (Kd.S_new' ho0 (Kd.S_lt (zSx HO_4.out))) (Kd.S_lt (zSx HO_7.out))) (below_size (zBx HB.out))); have n4_ := Aside0.mk (below_step (zBx HB.out) hb); clear HO_4; clear HO_7; clear HO205; clear HB; have HO_4 := n0_; have HO_7 := n1_; have HO205 := n2_; have HO209 := n3_; have HB := n4_; clear n0_ n1_ n2_ n3_ n4_; (try clear hb); (try clear hb2); (try clear hk); (try clear hi); (try clear ho0)))
           (try simp only [Act.put, List.setIfInBounds_toArray, List.set_cons_zero, List.set_cons_succ])
           go_cut [87] (fun v87 wc => ∃ (kq : Nat) (x87_45 : Bool), v87 = .bool x87_45 ∧ Aside0 (laws_FnExactGapsOf.j2 kq t189m t201 x87_45 = some r) ∧ Aside0 (kq ≤ kj25) ∧ Aside0 (Kd.S (Kd.slice 3 (Kd.int .i64)) 51 wc w.heap.size (fun _ => True) (.slice Ao47 t189m.length co47) t189m) ∧ Aside0 (Below w.heap.size w wc))
           case first =>
            as_aux_lemma =>
            have H := HC46.out
            clear HC46
            replace H := Option.bind_eq_some_iff.mp H
            obtain ⟨t210, A510, H⟩ := H
            replace H : (if t210 = true then (laws_FnExactGapsOf.j2 kj25 t189m t201 (t207 != t183)) else (laws_FnExactGapsOf.j2 kj25 t189m t201 true)) = some r := H
            have A51 := Aside0.mk A510
            clear A510
            by_cases c52 : t210 = true
            ·subst c52
             have H1 : (laws_FnExactGapsOf.j2 kj25 t189m t201 (t207 != t183)) = some r := by rw [if_pos rfl] at H; exact H
             clear H
             have H := H1
             clear H1
             as_aux_lemma =>
              have H' := Aside0.mk H
              clear H
              obtain ⟨Ao53, co53, eo53⟩ := Kd.S_slice HO209.out
              subst eo53
              obtain ⟨Ao54, co54, eo54⟩ := Kd.S_slice HO_4.out
              subst eo54
              go_wp2_with (first | ((with_reducible refine gate_callee (f := 11) rfl ?_); refine goesL_ (some 81) rfl rfl Try.func11 (by kernel_rfl) rfl #[.slice Ao53 t206.length co53, .slice Ao54 t182.length co54] rfl zlx ?_; (with_reducible refine (laws_eqIntSS.calls kj25 _ _ t206 _ _ t182 true _ ?side1 ?side2 ?side3 ?side4 A51.out).mono ?_); (case side1 => repeat (first | exact (Kd.S_reads' HO209.out).2.2 | (with_reducible refine Kd.C_alloc ?_ _) | (with_reducible refine Kd.C_drewN ?_ _) | (with_reducible refine Kd.C_drew ?_))); (case side2 => exact (Kd.S_reads' HO209.out).2.1); (case side3 => repeat (first | exact (Kd.S_reads' HO_4.out).2.2 | (with_reducible refine Kd.C_alloc ?_ _) | (with_reducible refine Kd.C_drewN ?_ _) | (with_reducible refine Kd.C_drew ?_))); (case side4 => exact (Kd.S_reads' HO_4.out).2.1); rintro e w' ⟨rfl, ⟨nd, rfl⟩⟩; refine ⟨_, rfl, ?_⟩))
              go_meet
              case rel => exact ⟨_, ((t207 != t183)), zrx, H', ⟨by have := HJ7.out; have := HJ25.out; first | omega | exact Nat.le_refl _⟩, ⟨by (with_reducible repeat (first | apply Kd.S_alloc | apply Kd.S_drewN | apply Kd.S_drew)); exact Kd.S_mono HO_7.out (fun _ hk => trivial)⟩, ⟨by exact zBx HB.out⟩⟩
            ·replace c52 := Bool.eq_false_iff.mpr c52
             subst c52
             have H1 : (laws_FnExactGapsOf.j2 kj25 t189m t201 true) = some r := by rw [if_neg (show ¬ (false = true) by decide)] at H; exact H
             clear H
             have H := H1
             clear H1
             as_aux_lemma =>
              have H' := Aside0.mk H
              clear H
              obtain ⟨Ao55, co55, eo55⟩ := Kd.S_slice HO209.out
              subst eo55
              obtain ⟨Ao56, co56, eo56⟩ := Kd.S_slice HO_4.out
              subst eo56
              go_wp2_with (first | ((with_reducible refine gate_callee (f := 11) rfl ?_); refine goesL_ (some 81) rfl rfl Try.func11 (by kernel_rfl) rfl #[.slice Ao55 t206.length co55, .slice Ao56 t182.length co56] rfl zlx ?_; (with_reducible refine (laws_eqIntSS.calls kj25 _ _ t206 _ _ t182 false _ ?side1 ?side2 ?side3 ?side4 A51.out).mono ?_); (case side1 => repeat (first | exact (Kd.S_reads' HO209.out).2.2 | (with_reducible refine Kd.C_alloc ?_ _) | (with_reducible refine Kd.C_drewN ?_ _) | (with_reducible refine Kd.C_drew ?_))); (case side2 => exact (Kd.S_reads' HO209.out).2.1); (case side3 => repeat (first | exact (Kd.S_reads' HO_4.out).2.2 | (with_reducible refine Kd.C_alloc ?_ _) | (with_reducible refine Kd.C_drewN ?_ _) | (with_reducible refine Kd.C_drew ?_))); (case side4 => exact (Kd.S_reads' HO_4.out).2.1); rintro e w' ⟨rfl, ⟨nd, rfl⟩⟩; refine ⟨_, rfl, ?_⟩))
              go_meet
              case rel => exact ⟨_, (true), zrx, H', ⟨by have := HJ7.out; have := HJ25.out; first | omega | exact Nat.le_refl _⟩, ⟨by (with_reducible repeat (first | apply Kd.S_alloc | apply Kd.S_drewN | apply Kd.S_drew)); exact Kd.S_mono HO_7.out (fun _ hk => trivial)⟩, ⟨by exact zBx HB.out⟩⟩
           case rest =>
            as_aux_lemma =>
            clear HC46
            try clear c1
            try clear c2
            try clear p2
            try clear c3
            try clear c3b0
            try clear c4
            try clear c5
            try clear c7
            try clear c8
            try clear c9
            try clear c10
            try clear c11
            try clear c12
            try clear c13
            try clear c14
            try clear c15
            try clear c16
            try clear c21
            try clear c24
            try clear c31
            try clear c31b0
            try clear c33
            try clear c38
            try clear c41
            try clear c41b0
            try clear c43
            try clear c43b0
            try clear c43b1
            try clear c52
            try clear p2
            obtain ⟨kq, x87_45, rfl, HA, HJ45, HO_7, HB⟩ := hcut
            cases kq with
            | zero => exact absurd HA.out (by simp [laws_FnExactGapsOf.j2])
            | succ kj45 =>
             have H := HA.out
             clear HA
             simp only [laws_FnExactGapsOf.j2] at H
             by_cases c57 : x87_45 = true
             ·subst c57
              have H1 : (some false) = some r := by rw [if_pos rfl] at H; exact H
              clear H
              have H := H1
              clear H1
              as_aux_lemma =>
               exact absurd (Option.some.inj H) (by rw [hr_]; decide)
             ·replace c57 := Bool.eq_false_iff.mpr c57
              subst c57
              have H1 : ((laws_heldIntSS.f kj45 t189m 1).bind fun t211 => (if t211 < 0 then (some false) else (if t211 = t201 then (some true) else (some false)))) = some r := by rw [if_neg (show ¬ (false = true) by decide)] at H; exact H
              clear H
              have H := H1
              clear H1
              replace H := Option.bind_eq_some_iff.mp H
              obtain ⟨t211, A580, H⟩ := H
              replace H : (if t211 < 0 then (some false) else (if t211 = t201 then (some true) else (some false))) = some r := H
              have A58 := Aside0.mk A580
              clear A580
              by_cases c59 : t211 < 0
              ·rw [if_pos c59] at H
               have c59b0 : decide (t211 < 0) = true := decide_eq_true c59
               clear c59
               as_aux_lemma =>
                exact absurd (Option.some.inj H) (by rw [hr_]; decide)
              ·rw [if_neg c59] at H
               have c59b0 : decide (t211 < 0) = false := decide_eq_false c59
               clear c59
               by_cases c60 : t211 = t201
               ·rw [if_pos c60] at H
                have c60b0 : (t211 == t201) = true := beq_iff_eq.mpr c60
                have c60b1 : (t211 != t201) = false := bne_eq_false_iff_eq.mpr c60
                clear c60
                as_aux_lemma =>
                 obtain rfl := Option.some.inj H
                 go_wp2_with (first | ((with_reducible refine gate_callee (f := 15) rfl ?_); refine goesL_ (some 90) rfl rfl Try.func15 (by kernel_rfl) rfl #[.slice Ao47 t189m.length co47, .int .i64 1] rfl zlx ?_; (with_reducible refine (laws_heldIntSS.calls kj45 _ _ t189m 1 t211 _ ?side1 ?side2 A58.out).mono ?_); (case side1 => repeat (first | exact (Kd.S_reads' HO_7.out).2.2 | (with_reducible refine Kd.C_alloc ?_ _) | (with_reducible refine Kd.C_drewN ?_ _) | (with_reducible refine Kd.C_drew ?_))); (case side2 => exact (Kd.S_reads' HO_7.out).2.1); rintro e w' ⟨rfl, ⟨nd, rfl⟩⟩; refine ⟨_, rfl, ?_⟩))
                 go_ret
                 exact ⟨by first | rfl | (simp [errW_none, errW_some] <;> rfl) | (simp [*, errW_none, errW_some] <;> rfl), by exact zBx HB.out⟩
               ·rw [if_neg c60] at H
                have c60b0 : (t211 == t201) = false := beq_eq_false_iff_ne.mpr c60
                have c60b1 : (t211 != t201) = true := bne_iff_ne.mpr c60
                as_aux_lemma =>
                 exact absurd (Option.some.inj H) (by rw [hr_]; decide)
          ·rw [if_neg c43] at H
           have c43b0 : (t202 == t201) = false := beq_eq_false_iff_ne.mpr c43
           have c43b1 : (t202 != t201) = true := bne_iff_ne.mpr c43
           as_aux_lemma =>
            exact absurd (Option.some.inj H) (by rw [hr_]; decide)
     ·replace c24 := Bool.eq_false_iff.mpr c24
      subst c24
      have H1 : (some false) = some r := by rw [if_neg (show ¬ (false = true) by decide)] at H; exact H
      clear H
      have H := H1
      clear H1
      as_aux_lemma =>
       exact absurd (Option.some.inj H) (by rw [hr_]; decide)

end Go.Proofs.Ytppjagpjlcbhpaa.XFnExactGapsOf
