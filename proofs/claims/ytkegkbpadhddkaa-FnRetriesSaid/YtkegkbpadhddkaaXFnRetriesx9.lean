-- written by wip/tools/xprint.py (a program of this project) out of the translation
import Derived.Test.YtkegkbpadhddkaaXFnRetriesx0
import Derived.Test.YtkegkbpadhddkaaXFnRetriesx1
import Derived.Test.YtkegkbpadhddkaaXFnRetriesx4
import Derived.Test.YtkegkbpadhddkaaXFnRetriesx6
import Derived.Test.YtkegkbpadhddkaaXFnRetriesx8
namespace Go.Proofs.Ytkegkbpadhddkaa.XFnRetries
open Go.RowKit Go.Proofs.YtkegkbpadhddkaaW.PrintWords Go.Proofs.YtkegkbpadhddkaaW.PrintLast Go.Proofs.YtkegkbpadhddkaaW.PrintMore
attribute [local go_sem] max2_int min2_int max_two min_two max_three min_three max_four min_four   -- for this text's walks alone
set_option linter.unusedVariables false
set_option linter.unusedSimpArgs false

attribute [local go_sem high] eqA59
/-! ### spec_l19Minute: function 80 -/
def spec_l19Minute.f (a0 : Int) : Option (Bool) := (spec_l1In.f a0 0 50000).bind fun t270 => (some t270)
set_option maxHeartbeats 8000000 in
set_option maxRecDepth 100000 in
theorem spec_l19Minute.calls (a0 : Int) (r : Bool) (w : World) (h : spec_l19Minute.f a0 = some r) :
 Calls Try.prog 80 #[.int .i64 a0] w fun e w' => e = .returned (.bool r) ∧ Drawn0 w w' := by
 have H : ((spec_l1In.f a0 0 50000).bind fun t270 => (some t270)) = some r := h
 clear h
 replace H := Option.bind_eq_some_iff.mp H
 obtain ⟨t270, A20, H⟩ := H
 replace H : (some t270) = some r := H
 have A2 := Aside0.mk A20
 clear A20
 focus
  obtain rfl := Option.some.inj H
  go_enter Try.func80, Try.ntmps80
  go_wp2_with (first | ((with_reducible refine gate_callee (f := 69) rfl ?_); refine goesL_ (some 4) rfl rfl Try.func69 (by kernel_rfl) rfl #[.int .i64 a0, .int .i64 0, .int .i64 50000] rfl zlx ?_; (with_reducible refine (spec_l1In.calls a0 0 50000 t270 _ A2.out).mono ?_); rintro e w' ⟨rfl, ⟨nd, rfl⟩⟩; refine ⟨_, rfl, ?_⟩))
  go_ret
  exact ⟨by first | rfl | (simp; done) | (simp [*]; done), by repeat (first | exact Drawn0.refl _ | apply Drawn0.step)⟩

/-! ### spec_l19Own: function 81 -/
def spec_l19Own.f (l0 : List (S59)) : Option ((List (S59))) := (some (([] : List (S59)) : List (S59))).bind fun y271 => (if y271.length + l0.length < 4398046511104 then (some (y271 ++ l0)) else (none))
set_option maxHeartbeats 8000000 in
set_option maxRecDepth 100000 in
theorem spec_l19Own.calls (A0 : Option Addr) (c0 : Nat) (l0 : List (S59)) (r : List (S59)) (w : World) (hr0 : Kd.C k59 w A0 l0.length l0) (hc0 : l0.length ≤ c0) (h : spec_l19Own.f l0 = some r) :
 Calls Try.prog 81 #[.slice A0 l0.length c0] w fun e w' => ∃ v0_ : Value, e = .returned (v0_) ∧ Kd.R k59 59 w' w.heap.size (fun _ => True) v0_ r ∧ Below w.heap.size w w' := by
 have HR0 := Aside0.mk hr0
 have HC0 := Aside0.mk hc0
 clear hr0 hc0
 have HB := Aside0.mk (Below.refl w.heap.size w)
 have H : ((some (([] : List (S59)) : List (S59))).bind fun y271 => (if y271.length + l0.length < 4398046511104 then (some (y271 ++ l0)) else (none))) = some r := h
 clear h
 obtain ⟨y271, hy271⟩ : ∃ y_ : List (S59), y_ = (([] : List (S59))) := ⟨_, rfl⟩
 replace H : (if y271.length + l0.length < 4398046511104 then (some (y271 ++ l0)) else (none)) = some r := by first | (rw [hy271]; with_reducible exact H) | (have H2_ := (Option.bind_some _ _).symm.trans H; rw [hy271]; with_reducible exact H2_) | (have H2_ := (Option.bind_some _ _).symm.trans H; with_reducible exact H2_) | with_reducible exact H | (rw [hy271]; exact H) | exact H
 have Ny271 := Aside0.mk hy271
 clear hy271
 by_cases c2 : y271.length + l0.length < 4398046511104
 ·rw [if_pos c2] at H
  have LMc2 := Aside0.mk c2
  clear c2
  obtain ⟨y274, hy274⟩ : ∃ y_ : List (S59), y_ = (y271 ++ l0) := ⟨_, rfl⟩
  replace H : (some y274) = some r := by first | (rw [hy274]; with_reducible exact H) | (have H2_ := (Option.bind_some _ _).symm.trans H; rw [hy274]; with_reducible exact H2_) | (have H2_ := (Option.bind_some _ _).symm.trans H; with_reducible exact H2_) | with_reducible exact H | (rw [hy274]; exact H) | exact H
  have Ny274 := Aside0.mk hy274
  clear hy274
  focus
   obtain rfl := Option.some.inj H
   go_enter Try.func81, Try.ntmps81
   go_wp2_with (first | ((with_reducible refine gate_dst (N := 3) rfl ?_); refine Kd.R_lit k59 _ 59 ?hg (N := 3) ?hd (xs := ([] : List (S59))) (inner := []) (ok := fun _ => True) (okp := fun _ => True) ?hr ?hp (fun _ hk => hk) trivial (Below.refl _ _) (Nat.le_refl _) (by simp) ?_; (case hd => rfl); (case hg => rfl); (case hr => exact zsx); (case hp => exact (Reps.none _ _)); intro v272 w3 ho4 hb hg_ hnew_; clear hg_ hnew_; (first | rw [← Ny271.out] at ho4 | (simp only [Int.reduceToNat] at ho4; rw [← Ny271.out] at ho4)); have n0_ := Aside0.mk (Kd.R_lower ho4 (below_size (zBx HB.out))); have n1_ := Aside0.mk (below_step (zBx HB.out) hb); clear HB; have HO273 := n0_; have HB := n1_; clear n0_ n1_; clear hb ho4) | ((with_reducible refine gate_builtin (b := .append) (xs := #[.tmp 3, .tmp 4]) rfl ?_); at_builtin; refine Kd.R_append_rows k59 (w0 := w) w.heap.size rfl (.tmp 3) (.tmp 4) 52 59 (.agg #[(.int .i64 0), (.int .i64 0), (.int .i64 0), (.int .i64 0)]) 32 rfl Try.underlying52 info59 rfl (by decide) (by omega) v272 y271 l0 _ _ _ (fun _ => True) (fun _ => False) rfl rfl ?aO ?aR (fun _ _ h => h) (fun _ h => h.elim) ?aF ?aB ?aS ?aL ?_; (case aR => repeat (first | exact (Kd.C_below HR0.out HB.out) | (with_reducible refine Kd.C_alloc ?_ _) | (with_reducible refine Kd.C_drewN ?_ _) | (with_reducible refine Kd.C_drew ?_))); (case aB => exact (zBx HB.out)); (case aF => exact (fun _ _ => trivial)); (case aO => exact (zRx HO273.out)); (case aS => exact (below_size (zBx HB.out))); (case aL => have := LMc2.out; omega); intro v275 w5 ho hb hg hat; rw [← Ny274.out] at ho; have n0_ := Aside0.mk (hb); have n1_ := Aside0.mk (ho); clear HB; clear HO273; have HB := n0_; have HO276 := n1_; clear n0_ n1_; clear ho hb hg hat))
   go_ret
   exact ⟨_, by first | rfl | (simp [errW_none, errW_some] <;> rfl) | (simp [*, errW_none, errW_some] <;> rfl), by (with_reducible repeat (first | apply Kd.R_alloc | apply Kd.R_drewN | apply Kd.R_drew)); exact HO276.out, by exact zBx HB.out⟩
 ·rw [if_neg c2] at H
  exact absurd H (by simp)

/-! ### spec_PassMinute: function 36 -/
mutual
def spec_PassMinute.j0 : Nat → List (S59) → Int → List Int → Bool → Option ((List (S59)) × List Int × Bool)
 | 0, _, _, _, _ => none
 | k + 1, x0, x1, x7, x19 => if x19 = true then (some ((([] : List (S59))), x7, false)) else ((spec_l19Own.f x0).bind fun t285 => (spec_PassMinute.l0 k x1 x7 t285 0))
def spec_PassMinute.l0 : Nat → Int → List Int → List (S59) → Int → Option ((List (S59)) × List Int × Bool)
 | 0, _, _, _, _ => none
 | k + 1, x1, x7, x8, x9 => if x9 < (x8.length : Int) then (if 0 ≤ x9 then (if ((rd_T59 x8 x9).f1) = 2 then (spec_PassMinute.j2 k x1 x7 x8 x9 (decide (((rd_T59 x8 x9).f3) > x1)) ((rd_T59 x8 x9).f0) ((rd_T59 x8 x9).f1) ((rd_T59 x8 x9).f2) ((rd_T59 x8 x9).f3)) else (spec_PassMinute.j2 k x1 x7 x8 x9 true ((rd_T59 x8 x9).f0) ((rd_T59 x8 x9).f1) ((rd_T59 x8 x9).f2) ((rd_T59 x8 x9).f3))) else (none)) else (some (x8, x7, true))
def spec_PassMinute.j2 : Nat → Int → List Int → List (S59) → Int → Bool → Int → Int → Int → Int → Option ((List (S59)) × List Int × Bool)
 | 0, _, _, _, _, _, _, _, _, _ => none
 | k + 1, x1, x7, x8, x9, x42, x290000, x290001, x290002, x290003 => if x42 = true then (spec_PassMinute.l0 k x1 x7 x8 (wrap64 (x9 + 1))) else (if x290002 = 5 then (if 0 ≤ x9 then (if x9 < (x8.length : Int) then (if x7.length < 17592186044416 then (spec_PassMinute.l0 k x1 (x7 ++ [x290000]) (x8.set (x9 : Int).toNat (⟨x290000, 4, x290002, 0⟩ : S59)) (wrap64 (x9 + 1))) else (none)) else (none)) else (none)) else (if 0 ≤ (IntKind.u64.wrap (x290002)) then (if 0 ≤ x9 then (if x9 < (x8.length : Int) then (spec_PassMinute.l0 k x1 x7 (x8.set (x9 : Int).toNat (⟨x290000, 1, x290002, wrap64 (x1 + (shl .i64 1 (IntKind.u64.wrap (x290002))))⟩ : S59)) (wrap64 (x9 + 1))) else (none)) else (none)) else (none)))
end
def spec_PassMinute.f (k : Nat) (l0 : List (S59)) (a1 : Int) : Option ((List (S59)) × List Int × Bool) := (some (([] : List Int) : List Int)).bind fun y277 => ((spec_l19Good.f k l0).bind fun t280 => (if t280 = true then ((spec_l19Minute.f a1).bind fun t281 => (spec_PassMinute.j0 k l0 a1 y277 (!t281))) else (spec_PassMinute.j0 k l0 a1 y277 true)))
theorem spec_PassMinute.mono_l : ∀ k, (∀ y0 y1 y2 y3, LeO (spec_PassMinute.j0 k y0 y1 y2 y3) (spec_PassMinute.j0 (k + 1) y0 y1 y2 y3)) ∧ (∀ y0 y1 y2 y3, LeO (spec_PassMinute.l0 k y0 y1 y2 y3) (spec_PassMinute.l0 (k + 1) y0 y1 y2 y3)) ∧ (∀ y0 y1 y2 y3 y4 y5 y6 y7 y8, LeO (spec_PassMinute.j2 k y0 y1 y2 y3 y4 y5 y6 y7 y8) (spec_PassMinute.j2 (k + 1) y0 y1 y2 y3 y4 y5 y6 y7 y8))
 | 0 => ⟨fun _ _ _ _ r h => by simp [spec_PassMinute.j0] at h, fun _ _ _ _ r h => by simp [spec_PassMinute.l0] at h, fun _ _ _ _ _ _ _ _ _ r h => by simp [spec_PassMinute.j2] at h⟩
 | k + 1 => by
  obtain ⟨ih0, ih1, ih2⟩ := spec_PassMinute.mono_l k
  refine ⟨?_, ?_, ?_⟩
  ·intro y0 y1 y2 y3
   unfold spec_PassMinute.j0
   repeat' first
   | (with_reducible exact ih0 _ _ _ _)
   | (with_reducible exact ih1 _ _ _ _)
   | (with_reducible exact ih2 _ _ _ _ _ _ _ _ _)
   | (with_reducible exact spec_l19Good.mono _ _)
   | (with_reducible exact LeO.refl _)
   | (with_reducible exact LeO.none _)
   | (with_reducible refine LeO.ite ?_ ?_)
   | (with_reducible refine LeO.bind ?_ (fun _ => ?_))
   | exact ih0 _ _ _ _
   | exact ih1 _ _ _ _
   | exact ih2 _ _ _ _ _ _ _ _ _
   | exact spec_l19Good.mono _ _
   | exact LeO.none _
   | refine LeO.ite ?_ ?_
   | refine LeO.bind ?_ (fun _ => ?_)
  ·intro y0 y1 y2 y3
   unfold spec_PassMinute.l0
   repeat' first
   | (with_reducible exact ih0 _ _ _ _)
   | (with_reducible exact ih1 _ _ _ _)
   | (with_reducible exact ih2 _ _ _ _ _ _ _ _ _)
   | (with_reducible exact spec_l19Good.mono _ _)
   | (with_reducible exact LeO.refl _)
   | (with_reducible exact LeO.none _)
   | (with_reducible refine LeO.ite ?_ ?_)
   | (with_reducible refine LeO.bind ?_ (fun _ => ?_))
   | exact ih0 _ _ _ _
   | exact ih1 _ _ _ _
   | exact ih2 _ _ _ _ _ _ _ _ _
   | exact spec_l19Good.mono _ _
   | exact LeO.none _
   | refine LeO.ite ?_ ?_
   | refine LeO.bind ?_ (fun _ => ?_)
  ·intro y0 y1 y2 y3 y4 y5 y6 y7 y8
   unfold spec_PassMinute.j2
   repeat' first
   | (with_reducible exact ih0 _ _ _ _)
   | (with_reducible exact ih1 _ _ _ _)
   | (with_reducible exact ih2 _ _ _ _ _ _ _ _ _)
   | (with_reducible exact spec_l19Good.mono _ _)
   | (with_reducible exact LeO.refl _)
   | (with_reducible exact LeO.none _)
   | (with_reducible refine LeO.ite ?_ ?_)
   | (with_reducible refine LeO.bind ?_ (fun _ => ?_))
   | exact ih0 _ _ _ _
   | exact ih1 _ _ _ _
   | exact ih2 _ _ _ _ _ _ _ _ _
   | exact spec_l19Good.mono _ _
   | exact LeO.none _
   | refine LeO.ite ?_ ?_
   | refine LeO.bind ?_ (fun _ => ?_)
theorem spec_PassMinute.mono : ∀ a0 a1 k, LeO (spec_PassMinute.f k a0 a1) (spec_PassMinute.f (k + 1) a0 a1) := by
 intro a0 a1 k
 obtain ⟨ih0, ih1, ih2⟩ := spec_PassMinute.mono_l k
 unfold spec_PassMinute.f
 repeat' first
  | (with_reducible exact ih0 _ _ _ _)
  | (with_reducible exact ih1 _ _ _ _)
  | (with_reducible exact ih2 _ _ _ _ _ _ _ _ _)
  | (with_reducible exact spec_l19Good.mono _ _)
  | (with_reducible exact LeO.refl _)
  | (with_reducible exact LeO.none _)
  | (with_reducible refine LeO.ite ?_ ?_)
  | (with_reducible refine LeO.bind ?_ (fun _ => ?_))
  | exact ih0 _ _ _ _
  | exact ih1 _ _ _ _
  | exact ih2 _ _ _ _ _ _ _ _ _
  | exact spec_l19Good.mono _ _
  | exact LeO.none _
  | refine LeO.ite ?_ ?_
  | refine LeO.bind ?_ (fun _ => ?_)
set_option maxHeartbeats 8000000 in
set_option maxRecDepth 100000 in
theorem spec_PassMinute.calls (k : Nat) (A0 : Option Addr) (c0 : Nat) (l0 : List (S59)) (a1 : Int) (r1 : List (S59)) (r2 : List Int) (r3 : Bool) (w : World) (hr0 : Kd.C k59 w A0 l0.length l0) (hc0 : l0.length ≤ c0) (h : spec_PassMinute.f k l0 a1 = some (r1, r2, r3)) :
 Calls Try.prog 36 #[.slice A0 l0.length c0, .int .i64 a1] w fun e w' => ∃ v0_ v1_ : Value, e = .returned (.tuple #[v0_, v1_, .bool r3]) ∧ Kd.R k59 59 w' w.heap.size (fun _ => True) v0_ r1 ∧ Kd.R (Kd.int .i64) 3 w' w.heap.size (fun _ => True) v1_ r2 ∧ Below w.heap.size w w' := by
 have hu59 := Try.underlying59
 have HR0 := Aside0.mk hr0
 have HC0 := Aside0.mk hc0
 clear hr0 hc0
 have HB := Aside0.mk (Below.refl w.heap.size w)
 have H : ((some (([] : List Int) : List Int)).bind fun y277 => ((spec_l19Good.f k l0).bind fun t280 => (if t280 = true then ((spec_l19Minute.f a1).bind fun t281 => (spec_PassMinute.j0 k l0 a1 y277 (!t281))) else (spec_PassMinute.j0 k l0 a1 y277 true)))) = some (r1, r2, r3) := h
 clear h
 obtain ⟨y277, hy277⟩ : ∃ y_ : List Int, y_ = (([] : List Int)) := ⟨_, rfl⟩
 replace H : ((spec_l19Good.f k l0).bind fun t280 => (if t280 = true then ((spec_l19Minute.f a1).bind fun t281 => (spec_PassMinute.j0 k l0 a1 y277 (!t281))) else (spec_PassMinute.j0 k l0 a1 y277 true))) = some (r1, r2, r3) := by first | (rw [hy277]; with_reducible exact H) | (have H2_ := (Option.bind_some _ _).symm.trans H; rw [hy277]; with_reducible exact H2_) | (have H2_ := (Option.bind_some _ _).symm.trans H; with_reducible exact H2_) | with_reducible exact H | (rw [hy277]; exact H) | exact H
 have Ny277 := Aside0.mk hy277
 clear hy277
 have HC3 := Aside0.mk H
 clear H
 go_enter Try.func36, Try.ntmps36
 go_upto_region 2 with (first | ((with_reducible refine gate_dst (N := 11) rfl ?_); refine Kd.R_lit (Kd.int .i64) _ 3 ?hg (N := 11) ?hd (xs := ([] : List Int)) (inner := []) (ok := fun _ => True) (okp := fun _ => True) ?hr ?hp (fun _ hk => hk) trivial (Below.refl _ _) (Nat.le_refl _) (by simp) ?_; (case hd => rfl); (case hg => rfl); (case hr => exact zsx); (case hp => exact (Reps.none _ _)); intro v278 w4 ho5 hb hg_ hnew_; clear hg_ hnew_; (first | rw [← Ny277.out] at ho5 | (simp only [Int.reduceToNat] at ho5; rw [← Ny277.out] at ho5)); have n0_ := Aside0.mk (Kd.R_lower ho5 (below_size (zBx HB.out))); have n1_ := Aside0.mk (below_step (zBx HB.out) hb); clear HB; have HO279 := n0_; have HB := n1_; clear n0_ n1_; clear hb ho5))
 (try simp only [Act.put, List.setIfInBounds_toArray, List.set_cons_zero, List.set_cons_succ])
 go_cut [19] (fun v19 wc => ∃ (kq : Nat) (x19_2 : Bool), v19 = .bool x19_2 ∧ Aside0 (spec_PassMinute.j0 kq l0 a1 y277 x19_2 = some (r1, r2, r3)) ∧ Aside0 (kq ≤ k) ∧ Aside0 (Kd.R (Kd.int .i64) 3 wc w.heap.size (fun _ => True) v278 y277) ∧ Aside0 (Below w.heap.size w wc))
 case first =>
  have H := HC3.out
  clear HC3
  replace H := Option.bind_eq_some_iff.mp H
  obtain ⟨t280, A60, H⟩ := H
  replace H : (if t280 = true then ((spec_l19Minute.f a1).bind fun t281 => (spec_PassMinute.j0 k l0 a1 y277 (!t281))) else (spec_PassMinute.j0 k l0 a1 y277 true)) = some (r1, r2, r3) := H
  have A6 := Aside0.mk A60
  clear A60
  by_cases c7 : t280 = true
  ·subst c7
   have H1 : ((spec_l19Minute.f a1).bind fun t281 => (spec_PassMinute.j0 k l0 a1 y277 (!t281))) = some (r1, r2, r3) := by rw [if_pos rfl] at H; exact H
   clear H
   have H := H1
   clear H1
   replace H := Option.bind_eq_some_iff.mp H
   obtain ⟨t281, A80, H⟩ := H
   replace H : (spec_PassMinute.j0 k l0 a1 y277 (!t281)) = some (r1, r2, r3) := H
   have A8 := Aside0.mk A80
   clear A80
   focus
    have H' := Aside0.mk H
    clear H
    go_wp2_with (first | ((with_reducible refine gate_callee (f := 79) rfl ?_); refine goesL_ (some 13) rfl rfl Try.func79 (by kernel_rfl) rfl #[.slice A0 l0.length c0] rfl zlx ?_; (with_reducible refine (spec_l19Good.calls k _ _ l0 true _ ?side1 ?side2 A6.out).mono ?_); (case side1 => repeat (first | exact (Kd.C_below HR0.out HB.out) | (with_reducible refine Kd.C_alloc ?_ _) | (with_reducible refine Kd.C_drewN ?_ _) | (with_reducible refine Kd.C_drew ?_))); (case side2 => exact HC0.out); rintro e w9 ⟨rfl, hb⟩; refine ⟨_, rfl, ?_⟩; have n0_ := Aside0.mk (Kd.R_below (zRx HO279.out) hb); have n1_ := Aside0.mk (below_step (zBx HB.out) hb); clear HO279; clear HB; have HO279 := n0_; have HB := n1_; clear n0_ n1_; (try clear hb); (try clear hb2); (try clear hk); (try clear hi)) | (go_at_call 80; (with_reducible refine (spec_l19Minute.calls a1 t281 _ A8.out).mono ?_); rintro e w' ⟨rfl, ⟨nd, rfl⟩⟩))
    go_meet
    case rel => exact ⟨_, (!t281), zrx, H', ⟨by first | omega | exact Nat.le_refl _⟩, ⟨by (with_reducible repeat (first | apply Kd.R_alloc | apply Kd.R_drewN | apply Kd.R_drew)); exact HO279.out⟩, ⟨by exact zBx HB.out⟩⟩
  ·replace c7 := Bool.eq_false_iff.mpr c7
   subst c7
   have H1 : (spec_PassMinute.j0 k l0 a1 y277 true) = some (r1, r2, r3) := by rw [if_neg (show ¬ (false = true) by decide)] at H; exact H
   clear H
   have H := H1
   clear H1
   focus
    have H' := Aside0.mk H
    clear H
    go_wp2_with (first | ((with_reducible refine gate_callee (f := 79) rfl ?_); refine goesL_ (some 13) rfl rfl Try.func79 (by kernel_rfl) rfl #[.slice A0 l0.length c0] rfl zlx ?_; (with_reducible refine (spec_l19Good.calls k _ _ l0 false _ ?side1 ?side2 A6.out).mono ?_); (case side1 => repeat (first | exact (Kd.C_below HR0.out HB.out) | (with_reducible refine Kd.C_alloc ?_ _) | (with_reducible refine Kd.C_drewN ?_ _) | (with_reducible refine Kd.C_drew ?_))); (case side2 => exact HC0.out); rintro e w10 ⟨rfl, hb⟩; refine ⟨_, rfl, ?_⟩; have n0_ := Aside0.mk (Kd.R_below (zRx HO279.out) hb); have n1_ := Aside0.mk (below_step (zBx HB.out) hb); clear HO279; clear HB; have HO279 := n0_; have HB := n1_; clear n0_ n1_; (try clear hb); (try clear hb2); (try clear hk); (try clear hi)))
    go_meet
    case rel => exact ⟨_, (true), zrx, H', ⟨by first | omega | exact Nat.le_refl _⟩, ⟨by (with_reducible repeat (first | apply Kd.R_alloc | apply Kd.R_drewN | apply Kd.R_drew)); exact HO279.out⟩, ⟨by exact zBx HB.out⟩⟩
 case rest =>
  clear HC3
  try clear p2
  try clear c3
  try clear c7
  obtain ⟨kq, x19_2, rfl, HA, HJ2, HO_7, HB⟩ := hcut
  cases kq with
  | zero => exact absurd HA.out (by simp [spec_PassMinute.j0])
  | succ kj2 =>
   have H := HA.out
   clear HA
   simp only [spec_PassMinute.j0] at H
   by_cases c11 : x19_2 = true
   ·subst c11
    have H1 : (some ((([] : List (S59))), y277, false)) = some (r1, r2, r3) := by rw [if_pos rfl] at H; exact H
    clear H
    have H := H1
    clear H1
    obtain ⟨y282, hy282⟩ : ∃ y_ : List (S59), y_ = (([] : List (S59))) := ⟨_, rfl⟩
    replace H : (some (y282, y277, false)) = some (r1, r2, r3) := by first | (rw [hy282]; with_reducible exact H) | (have H2_ := (Option.bind_some _ _).symm.trans H; rw [hy282]; with_reducible exact H2_) | (have H2_ := (Option.bind_some _ _).symm.trans H; with_reducible exact H2_) | with_reducible exact H | (rw [hy282]; exact H) | exact H
    have Ny282 := Aside0.mk hy282
    clear hy282
    focus
     simp only [Option.some.injEq, Prod.mk.injEq] at H
     obtain ⟨rfl, rfl, rfl⟩ := H
     go_wp2_with (first | ((with_reducible refine gate_dst (N := 20) rfl ?_); refine Kd.R_lit k59 _ 59 ?hg (N := 20) ?hd (xs := ([] : List (S59))) (inner := []) (ok := fun _ => True) (okp := fun _ => True) ?hr ?hp (fun _ hk => hk) trivial (Below.refl _ _) (Nat.le_refl _) (by simp) ?_; (case hd => rfl); (case hg => rfl); (case hr => exact zsx); (case hp => exact (Reps.none _ _)); intro v283 w12 ho13 hb hg_ hnew_; clear hg_ hnew_; (first | rw [← Ny282.out] at ho13 | (simp only [Int.reduceToNat] at ho13; rw [← Ny282.out] at ho13)); have n0_ := Aside0.mk (Kd.R_below (zRx HO_7.out) hb); have n1_ := Aside0.mk (Kd.R_lower ho13 (below_size (zBx HB.out))); have n2_ := Aside0.mk (below_step (zBx HB.out) hb); clear HO_7; clear HB; have HO_7 := n0_; have HO284 := n1_; have HB := n2_; clear n0_ n1_ n2_; clear hb ho13))
     go_ret3
     exact ⟨_, _, by first | rfl | (simp [errW_none, errW_some] <;> rfl) | (simp [*, errW_none, errW_some] <;> rfl), by (with_reducible repeat (first | apply Kd.R_alloc | apply Kd.R_drewN | apply Kd.R_drew)); exact HO284.out, by (with_reducible repeat (first | apply Kd.R_alloc | apply Kd.R_drewN | apply Kd.R_drew)); exact HO_7.out, by exact zBx HB.out⟩
   ·replace c11 := Bool.eq_false_iff.mpr c11
    subst c11
    have H1 : ((spec_l19Own.f l0).bind fun t285 => (spec_PassMinute.l0 kj2 a1 y277 t285 0)) = some (r1, r2, r3) := by rw [if_neg (show ¬ (false = true) by decide)] at H; exact H
    clear H
    have H := H1
    clear H1
    replace H := Option.bind_eq_some_iff.mp H
    obtain ⟨t285, A140, H⟩ := H
    replace H : (spec_PassMinute.l0 kj2 a1 y277 t285 0) = some (r1, r2, r3) := H
    have A14 := Aside0.mk A140
    clear A140
    have H' := Aside0.mk H
    clear H
    go_wp2_with (first | ((with_reducible refine gate_callee (f := 81) rfl ?_); refine goesL_ (some 23) rfl rfl Try.func81 (by kernel_rfl) rfl #[.slice A0 l0.length c0] rfl zlx ?_; (with_reducible refine (spec_l19Own.calls _ _ l0 t285 _ ?side1 ?side2 A14.out).mono ?_); (case side1 => repeat (first | exact (Kd.C_below HR0.out HB.out) | (with_reducible refine Kd.C_alloc ?_ _) | (with_reducible refine Kd.C_drewN ?_ _) | (with_reducible refine Kd.C_drew ?_))); (case side2 => exact HC0.out); rintro e w15 ⟨v286, rfl, ho0, hb⟩; refine ⟨_, rfl, ?_⟩; have n0_ := Aside0.mk (Kd.R_below (zRx HO_7.out) hb); have n1_ := Aside0.mk (Kd.R_lower ho0 (below_size (zBx HB.out))); have n2_ := Aside0.mk (below_step (zBx HB.out) hb); clear HO_7; clear HB; have HO_7 := n0_; have HO287 := n1_; have HB := n2_; clear n0_ n1_ n2_; (try clear hb); (try clear hb2); (try clear hk); (try clear hi); (try clear ho0)))
    go_loopg [7, 9] kj2 (fun kq v7 v9 w' => ∃ (x7_2 : List Int) (x8_2 : List (S59)) (x9_2 : Int), v9 = .int .i64 x9_2 ∧ Aside0 (spec_PassMinute.l0 kq a1 x7_2 x8_2 x9_2 = some (r1, r2, r3)) ∧ Aside0 (kq ≤ kj2) ∧ Aside0 (Kd.R (Kd.int .i64) 3 w' w.heap.size (fun _ => True) v7 x7_2) ∧ Aside0 (Kd.R k59 59 w' w.heap.size (fun _ => True) v286 x8_2) ∧ Aside0 (Below w.heap.size w w'))
    case atStart => exact ⟨(y277), (t285), (0), zrx, H', ⟨Nat.le_refl _⟩, ⟨by (with_reducible repeat (first | apply Kd.R_alloc | apply Kd.R_drewN | apply Kd.R_drew)); exact HO_7.out⟩, ⟨by (with_reducible repeat (first | apply Kd.R_alloc | apply Kd.R_drewN | apply Kd.R_drew)); exact HO287.out⟩, ⟨by exact zBx HB.out⟩⟩
    case round =>
     clear H'
     try clear c1
     try clear p2
     try clear c3
     try clear c7
     try clear c8
     try clear c11
     try clear p2
     obtain ⟨x7_2, x8_2, x9_2, rfl, HA, HK2, HO_7, HO_8, HB⟩ := hrel
     cases gk with
     | zero => exact absurd HA.out (by simp [spec_PassMinute.l0])
     | succ k2 =>
      have H := HA.out
      clear HA
      simp only [spec_PassMinute.l0] at H
      by_cases c16 : x9_2 < (x8_2.length : Int)
      ·rw [if_pos c16] at H
       have c16b0 : decide (x9_2 < (x8_2.length : Int)) = true := decide_eq_true c16
       clear c16
       by_cases c17 : 0 ≤ x9_2
       ·rw [if_pos c17] at H
        have c17b0 : decide (0 ≤ x9_2) = true := decide_eq_true c17
        clear c17
        have HC18 := Aside0.mk H
        clear H
        obtain ⟨Ao19, co19, eo19⟩ := Kd.R_slice HO_8.out
        subst eo19
        have p288 : 0 ≤ (x9_2 : Int) := of_decide_eq_true zax
        have q288 : x9_2 < (x8_2.length : Int) := of_decide_eq_true zax
        obtain ⟨ad288, e288, hx288_0, hx288_1, hx288_2, hx288_3⟩ := at_T59 (Kd.R_reads' HO_8.out).2.2 x9_2 p288 q288
        cases e288
        replace p288 := eq_true p288
        replace q288 := eq_true q288
        go_upto_region 9 with (first | ((with_reducible refine gate_dst (N := 10) rfl ?_); refine box_event ?hg (N := 10) ?hd (cs := #[.int .i64 0, .int .i64 0, .int .i64 0, .int .i64 0]) (t := 59) ?hr ?_; (case hd => rfl); (case hg => rfl); (case hr => exact zsx); intro gb289 hg w20 hbox hb; have n0_ := Aside0.mk (Kd.R_below (zRx HO_7.out) hb); have n1_ := Aside0.mk (Kd.R_below (Kd.R_elderB (zRx HO_8.out) gb289 (Nat.le_of_eq hg.symm)) hb); have n2_ := Aside0.mk (below_step (zBx HB.out) hb); have n3_ := Aside0.mk (hbox); have n4_ := Aside0.mk ((by rw [hg]; exact (below_size (zBx HB.out)) : w.heap.size ≤ gb289)); have n5_ := Aside0.mk ((by rw [hg]; exact (below_size (zBx HB.out)) : w.heap.size ≤ gb289)); clear HO_7; clear HO_8; clear HB; have HO_7 := n0_; have HO_8 := n1_; have HB := n2_; have BK289 := n3_; have GW289 := n4_; have GE289 := n5_; clear n0_ n1_ n2_ n3_ n4_ n5_; clear hb hbox hg; have hcz21_0 : w20.cell? ⟨gb289, 0, none⟩ = some (.int .i64 0) := (blk_cell BK289.out 0).trans rfl; have hcz21_1 : w20.cell? ⟨gb289, 1, none⟩ = some (.int .i64 0) := (blk_cell BK289.out 1).trans rfl; have hcz21_2 : w20.cell? ⟨gb289, 2, none⟩ = some (.int .i64 0) := (blk_cell BK289.out 2).trans rfl; have hcz21_3 : w20.cell? ⟨gb289, 3, none⟩ = some (.int .i64 0) := (blk_cell BK289.out 3).trans rfl; have hfz21_0 := blk_frozen BK289.out 0; have hfz21_1 := blk_frozen BK289.out 1; have hfz21_2 := blk_frozen BK289.out 2; have hfz21_3 := blk_frozen BK289.out 3))
        (try simp only [Act.put, List.setIfInBounds_toArray, List.set_cons_zero, List.set_cons_succ])
        go_cut [42] (fun v42 wc => ∃ (kq : Nat) (x42_17 : Bool), v42 = .bool x42_17 ∧ Aside0 (spec_PassMinute.j2 kq a1 x7_2 x8_2 x9_2 x42_17 ((rd_T59 x8_2 x9_2).f0) ((rd_T59 x8_2 x9_2).f1) ((rd_T59 x8_2 x9_2).f2) ((rd_T59 x8_2 x9_2).f3) = some (r1, r2, r3)) ∧ Aside0 (kq ≤ k2) ∧ Aside0 (Kd.R (Kd.int .i64) 3 wc w.heap.size (fun _ => True) u7 x7_2) ∧ Aside0 (Kd.R k59 59 wc w.heap.size (fun k_ => k_ ≠ gb289) (.slice (some ad288) x8_2.length co19) x8_2) ∧ Aside0 (wc.heap[gb289]? = some (.cells #[.int .i64 ((rd_T59 x8_2 x9_2).f0), .int .i64 ((rd_T59 x8_2 x9_2).f1), .int .i64 ((rd_T59 x8_2 x9_2).f2), .int .i64 ((rd_T59 x8_2 x9_2).f3)] 59 (0, 0))) ∧ Aside0 (Below w.heap.size w wc))
        case first =>
         have H := HC18.out
         clear HC18
         by_cases c22 : ((rd_T59 x8_2 x9_2).f1) = 2
         ·rw [if_pos c22] at H
          have c22b0 : (((rd_T59 x8_2 x9_2).f1) == 2) = true := beq_iff_eq.mpr c22
          have c22b1 : (((rd_T59 x8_2 x9_2).f1) != 2) = false := bne_eq_false_iff_eq.mpr c22
          clear c22
          (first | rw [c22b0] | (simp only [i64_w, i32_w]; rw [c22b0]) | skip)
          focus
           have H' := Aside0.mk H
           clear H
           have hcz23_0 : w20.cell? ⟨gb289, 0, none⟩ = some (.int .i64 0) := (blk_cell BK289.out 0).trans rfl
           have hcz23_1 : w20.cell? ⟨gb289, 1, none⟩ = some (.int .i64 0) := (blk_cell BK289.out 1).trans rfl
           have hcz23_2 : w20.cell? ⟨gb289, 2, none⟩ = some (.int .i64 0) := (blk_cell BK289.out 2).trans rfl
           have hcz23_3 : w20.cell? ⟨gb289, 3, none⟩ = some (.int .i64 0) := (blk_cell BK289.out 3).trans rfl
           have hfz23_0 := blk_frozen BK289.out 0
           have hfz23_1 := blk_frozen BK289.out 1
           have hfz23_2 := blk_frozen BK289.out 2
           have hfz23_3 := blk_frozen BK289.out 3
           go_wp2
           go_meet
           case rel => exact ⟨_, (decide (((rd_T59 x8_2 x9_2).f3) > a1)), zrx, H', ⟨by have := HJ2.out; have := HK2.out; first | omega | exact Nat.le_refl _⟩, ⟨by (with_reducible repeat (first | apply Kd.R_alloc | apply Kd.R_drewN | apply Kd.R_drew)); exact Kd.R_mono (Kd.R_far (p := ⟨gb289, 3, none⟩) (Kd.R_far (p := ⟨gb289, 2, none⟩) (Kd.R_far (p := ⟨gb289, 1, none⟩) (Kd.R_far (p := ⟨gb289, 0, none⟩) (Kd.R_types HO_7.out BK289.out (by decide)) (fun _ hk => hk.2) (.int .i64 ((rd_T59 x8_2 x9_2).f0))) (fun _ hk => hk.2) (.int .i64 ((rd_T59 x8_2 x9_2).f1))) (fun _ hk => hk.2) (.int .i64 ((rd_T59 x8_2 x9_2).f2))) (fun _ hk => hk.2) (.int .i64 ((rd_T59 x8_2 x9_2).f3))) (fun _ hk => trivial)⟩, ⟨by (with_reducible repeat (first | apply Kd.R_alloc | apply Kd.R_drewN | apply Kd.R_drew)); exact Kd.R_mono (Kd.R_far (p := ⟨gb289, 3, none⟩) (Kd.R_far (p := ⟨gb289, 2, none⟩) (Kd.R_far (p := ⟨gb289, 1, none⟩) (Kd.R_far (p := ⟨gb289, 0, none⟩) (Kd.R_mono HO_8.out (fun k_ hk => (⟨hk, hk.2⟩ : _ ∧ k_ ≠ gb289))) (fun _ hk => hk.2) (.int .i64 ((rd_T59 x8_2 x9_2).f0))) (fun _ hk => hk.2) (.int .i64 ((rd_T59 x8_2 x9_2).f1))) (fun _ hk => hk.2) (.int .i64 ((rd_T59 x8_2 x9_2).f2))) (fun _ hk => hk.2) (.int .i64 ((rd_T59 x8_2 x9_2).f3))) (fun _ hk => hk.1.2)⟩, ⟨by (with_reducible repeat (first | refine blk_drewN ?_ _ | refine blk_drew ?_ | refine blk_alloc ?_ _)); refine blk_put (cs := #[.int .i64 ((rd_T59 x8_2 x9_2).f0), .int .i64 ((rd_T59 x8_2 x9_2).f1), .int .i64 ((rd_T59 x8_2 x9_2).f2), .int .i64 0]) ?_ 3 _ rfl; (with_reducible repeat (first | refine blk_drewN ?_ _ | refine blk_drew ?_ | refine blk_alloc ?_ _)); refine blk_put (cs := #[.int .i64 ((rd_T59 x8_2 x9_2).f0), .int .i64 ((rd_T59 x8_2 x9_2).f1), .int .i64 0, .int .i64 0]) ?_ 2 _ rfl; (with_reducible repeat (first | refine blk_drewN ?_ _ | refine blk_drew ?_ | refine blk_alloc ?_ _)); refine blk_put (cs := #[.int .i64 ((rd_T59 x8_2 x9_2).f0), .int .i64 0, .int .i64 0, .int .i64 0]) ?_ 1 _ rfl; (with_reducible repeat (first | refine blk_drewN ?_ _ | refine blk_drew ?_ | refine blk_alloc ?_ _)); refine blk_put (cs := #[.int .i64 0, .int .i64 0, .int .i64 0, .int .i64 0]) ?_ 0 _ rfl; (with_reducible repeat (first | refine blk_drewN ?_ _ | refine blk_drew ?_ | refine blk_alloc ?_ _)); exact BK289.out⟩, ⟨by exact zBy HB.out GE289.out⟩⟩
         ·rw [if_neg c22] at H
          have c22b0 : (((rd_T59 x8_2 x9_2).f1) == 2) = false := beq_eq_false_iff_ne.mpr c22
          have c22b1 : (((rd_T59 x8_2 x9_2).f1) != 2) = true := bne_iff_ne.mpr c22
          (first | rw [c22b0] | (simp only [i64_w, i32_w]; rw [c22b0]) | skip)
          focus
           have H' := Aside0.mk H
           clear H
           have hcz24_0 : w20.cell? ⟨gb289, 0, none⟩ = some (.int .i64 0) := (blk_cell BK289.out 0).trans rfl
           have hcz24_1 : w20.cell? ⟨gb289, 1, none⟩ = some (.int .i64 0) := (blk_cell BK289.out 1).trans rfl
           have hcz24_2 : w20.cell? ⟨gb289, 2, none⟩ = some (.int .i64 0) := (blk_cell BK289.out 2).trans rfl
           have hcz24_3 : w20.cell? ⟨gb289, 3, none⟩ = some (.int .i64 0) := (blk_cell BK289.out 3).trans rfl
           have hfz24_0 := blk_frozen BK289.out 0
           have hfz24_1 := blk_frozen BK289.out 1
           have hfz24_2 := blk_frozen BK289.out 2
           have hfz24_3 := blk_frozen BK289.out 3
           go_wp2
           go_meet
           case rel => exact ⟨_, (true), zrx, H', ⟨by have := HJ2.out; have := HK2.out; first | omega | exact Nat.le_refl _⟩, ⟨by (with_reducible repeat (first | apply Kd.R_alloc | apply Kd.R_drewN | apply Kd.R_drew)); exact Kd.R_mono (Kd.R_far (p := ⟨gb289, 3, none⟩) (Kd.R_far (p := ⟨gb289, 2, none⟩) (Kd.R_far (p := ⟨gb289, 1, none⟩) (Kd.R_far (p := ⟨gb289, 0, none⟩) (Kd.R_types HO_7.out BK289.out (by decide)) (fun _ hk => hk.2) (.int .i64 ((rd_T59 x8_2 x9_2).f0))) (fun _ hk => hk.2) (.int .i64 ((rd_T59 x8_2 x9_2).f1))) (fun _ hk => hk.2) (.int .i64 ((rd_T59 x8_2 x9_2).f2))) (fun _ hk => hk.2) (.int .i64 ((rd_T59 x8_2 x9_2).f3))) (fun _ hk => trivial)⟩, ⟨by (with_reducible repeat (first | apply Kd.R_alloc | apply Kd.R_drewN | apply Kd.R_drew)); exact Kd.R_mono (Kd.R_far (p := ⟨gb289, 3, none⟩) (Kd.R_far (p := ⟨gb289, 2, none⟩) (Kd.R_far (p := ⟨gb289, 1, none⟩) (Kd.R_far (p := ⟨gb289, 0, none⟩) (Kd.R_mono HO_8.out (fun k_ hk => (⟨hk, hk.2⟩ : _ ∧ k_ ≠ gb289))) (fun _ hk => hk.2) (.int .i64 ((rd_T59 x8_2 x9_2).f0))) (fun _ hk => hk.2) (.int .i64 ((rd_T59 x8_2 x9_2).f1))) (fun _ hk => hk.2) (.int .i64 ((rd_T59 x8_2 x9_2).f2))) (fun _ hk => hk.2) (.int .i64 ((rd_T59 x8_2 x9_2).f3))) (fun _ hk => hk.1.2)⟩, ⟨by (with_reducible repeat (first | refine blk_drewN ?_ _ | refine blk_drew ?_ | refine blk_alloc ?_ _)); refine blk_put (cs := #[.int .i64 ((rd_T59 x8_2 x9_2).f0), .int .i64 ((rd_T59 x8_2 x9_2).f1), .int .i64 ((rd_T59 x8_2 x9_2).f2), .int .i64 0]) ?_ 3 _ rfl; (with_reducible repeat (first | refine blk_drewN ?_ _ | refine blk_drew ?_ | refine blk_alloc ?_ _)); refine blk_put (cs := #[.int .i64 ((rd_T59 x8_2 x9_2).f0), .int .i64 ((rd_T59 x8_2 x9_2).f1), .int .i64 0, .int .i64 0]) ?_ 2 _ rfl; (with_reducible repeat (first | refine blk_drewN ?_ _ | refine blk_drew ?_ | refine blk_alloc ?_ _)); refine blk_put (cs := #[.int .i64 ((rd_T59 x8_2 x9_2).f0), .int .i64 0, .int .i64 0, .int .i64 0]) ?_ 1 _ rfl; (with_reducible repeat (first | refine blk_drewN ?_ _ | refine blk_drew ?_ | refine blk_alloc ?_ _)); refine blk_put (cs := #[.int .i64 0, .int .i64 0, .int .i64 0, .int .i64 0]) ?_ 0 _ rfl; (with_reducible repeat (first | refine blk_drewN ?_ _ | refine blk_drew ?_ | refine blk_alloc ?_ _)); exact BK289.out⟩, ⟨by exact zBy HB.out GE289.out⟩⟩
        case rest =>
         clear HC18
         try clear c1
         try clear c2
         try clear p2
         try clear q2
         try clear hx2
         try clear c3
         try clear c7
         try clear c8
         try clear c11
         try clear c16
         try clear c16b0
         try clear c17
         try clear c17b0
         try clear c22
         try clear c22b0
         try clear c22b1
         try clear hcz21_0
         try clear hcz21_1
         try clear hcz21_2
         try clear hcz21_3
         try clear hcz23_0
         try clear hcz23_1
         try clear hcz23_2
         try clear hcz23_3
         try clear hcz24_0
         try clear hcz24_1
         try clear hcz24_2
         try clear hcz24_3
         try clear hfz21_0
         try clear hfz21_1
         try clear hfz21_2
         try clear hfz21_3
         try clear hfz23_0
         try clear hfz23_1
         try clear hfz23_2
         try clear hfz23_3
         try clear hfz24_0
         try clear hfz24_1
         try clear hfz24_2
         try clear hfz24_3
         try clear hx288_0
         try clear hx288_1
         try clear hx288_2
         try clear hx288_3
         try clear p2
         try clear p288
         try clear q288
         obtain ⟨kq, x42_17, rfl, HA, HJ17, HO_7, HO_8, BK289, HB⟩ := hcut
         cases kq with
         | zero => exact absurd HA.out (by simp [spec_PassMinute.j2])
         | succ kj17 =>
          have H := HA.out
          clear HA
          simp only [spec_PassMinute.j2] at H
          by_cases c25 : x42_17 = true
          ·subst c25
           have H1 : (spec_PassMinute.l0 kj17 a1 x7_2 x8_2 (wrap64 (x9_2 + 1))) = some (r1, r2, r3) := by rw [if_pos rfl] at H; exact H
           clear H
           have H := H1
           clear H1
           focus
            have H' := Aside0.mk H
            clear H
            go_wp2
            go_roundg kj17
            case measure => have := HJ2.out; have := HK2.out; have := HJ17.out; omega
            case rel => exact ⟨(x7_2), (x8_2), (wrap64 (x9_2 + 1)), zrx, H', ⟨by have := HJ2.out; have := HK2.out; have := HJ17.out; omega⟩, ⟨by (with_reducible repeat (first | apply Kd.R_alloc | apply Kd.R_drewN | apply Kd.R_drew)); exact HO_7.out⟩, ⟨by (with_reducible repeat (first | apply Kd.R_alloc | apply Kd.R_drewN | apply Kd.R_drew)); exact Kd.R_mono HO_8.out (fun _ hk => trivial)⟩, ⟨by exact zBy HB.out GE289.out⟩⟩
          ·replace c25 := Bool.eq_false_iff.mpr c25
           subst c25
           have H1 : (if ((rd_T59 x8_2 x9_2).f2) = 5 then (if 0 ≤ x9_2 then (if x9_2 < (x8_2.length : Int) then (if x7_2.length < 17592186044416 then (spec_PassMinute.l0 kj17 a1 (x7_2 ++ [((rd_T59 x8_2 x9_2).f0)]) (x8_2.set (x9_2 : Int).toNat (⟨((rd_T59 x8_2 x9_2).f0), 4, ((rd_T59 x8_2 x9_2).f2), 0⟩ : S59)) (wrap64 (x9_2 + 1))) else (none)) else (none)) else (none)) else (if 0 ≤ (IntKind.u64.wrap (((rd_T59 x8_2 x9_2).f2))) then (if 0 ≤ x9_2 then (if x9_2 < (x8_2.length : Int) then (spec_PassMinute.l0 kj17 a1 x7_2 (x8_2.set (x9_2 : Int).toNat (⟨((rd_T59 x8_2 x9_2).f0), 1, ((rd_T59 x8_2 x9_2).f2), wrap64 (a1 + (shl .i64 1 (IntKind.u64.wrap (((rd_T59 x8_2 x9_2).f2)))))⟩ : S59)) (wrap64 (x9_2 + 1))) else (none)) else (none)) else (none))) = some (r1, r2, r3) := by rw [if_neg (show ¬ (false = true) by decide)] at H; exact H
           clear H
           have H := H1
           clear H1
           by_cases c26 : ((rd_T59 x8_2 x9_2).f2) = 5
           ·rw [if_pos c26] at H
            have c26b0 : (((rd_T59 x8_2 x9_2).f2) == 5) = true := beq_iff_eq.mpr c26
            have c26b1 : (((rd_T59 x8_2 x9_2).f2) != 5) = false := bne_eq_false_iff_eq.mpr c26
            clear c26
            by_cases c27 : 0 ≤ x9_2
            ·rw [if_pos c27] at H
             have c27b0 : decide (0 ≤ x9_2) = true := decide_eq_true c27
             clear c27
             by_cases c28 : x9_2 < (x8_2.length : Int)
             ·rw [if_pos c28] at H
              have c28b0 : decide (x9_2 < (x8_2.length : Int)) = true := decide_eq_true c28
              clear c28
              obtain ⟨y290, hy290⟩ : ∃ y_ : List (S59), y_ = (x8_2.set (x9_2 : Int).toNat (⟨((rd_T59 x8_2 x9_2).f0), 4, ((rd_T59 x8_2 x9_2).f2), 0⟩ : S59)) := ⟨_, rfl⟩
              replace H : (if x7_2.length < 17592186044416 then (spec_PassMinute.l0 kj17 a1 (x7_2 ++ [((rd_T59 x8_2 x9_2).f0)]) y290 (wrap64 (x9_2 + 1))) else (none)) = some (r1, r2, r3) := by first | (rw [hy290]; with_reducible exact H) | (have H2_ := (Option.bind_some _ _).symm.trans H; rw [hy290]; with_reducible exact H2_) | (have H2_ := (Option.bind_some _ _).symm.trans H; with_reducible exact H2_) | with_reducible exact H | (rw [hy290]; exact H) | exact H
              have Ny290 := Aside0.mk hy290
              clear hy290
              by_cases c30 : x7_2.length < 17592186044416
              ·rw [if_pos c30] at H
               have LMc30 := Aside0.mk c30
               clear c30
               obtain ⟨y291, hy291⟩ : ∃ y_ : List Int, y_ = (x7_2 ++ [((rd_T59 x8_2 x9_2).f0)]) := ⟨_, rfl⟩
               replace H : (spec_PassMinute.l0 kj17 a1 y291 y290 (wrap64 (x9_2 + 1))) = some (r1, r2, r3) := by first | (rw [hy291]; with_reducible exact H) | (have H2_ := (Option.bind_some _ _).symm.trans H; rw [hy291]; with_reducible exact H2_) | (have H2_ := (Option.bind_some _ _).symm.trans H; with_reducible exact H2_) | with_reducible exact H | (rw [hy291]; exact H) | exact H
               have Ny291 := Aside0.mk hy291
               clear hy291
               focus
                have H' := Aside0.mk H
                clear H
                have hcz31_0 : wc.cell? ⟨gb289, 0, none⟩ = some (.int .i64 ((rd_T59 x8_2 x9_2).f0)) := (blk_cell BK289.out 0).trans rfl
                have hcz31_1 : wc.cell? ⟨gb289, 1, none⟩ = some (.int .i64 ((rd_T59 x8_2 x9_2).f1)) := (blk_cell BK289.out 1).trans rfl
                have hcz31_2 : wc.cell? ⟨gb289, 2, none⟩ = some (.int .i64 ((rd_T59 x8_2 x9_2).f2)) := (blk_cell BK289.out 2).trans rfl
                have hcz31_3 : wc.cell? ⟨gb289, 3, none⟩ = some (.int .i64 ((rd_T59 x8_2 x9_2).f3)) := (blk_cell BK289.out 3).trans rfl
                have hfz31_0 := blk_frozen BK289.out 0
                have hfz31_1 := blk_frozen BK289.out 1
                have hfz31_2 := blk_frozen BK289.out 2
                have hfz31_3 := blk_frozen BK289.out 3
                have p29 : 0 ≤ (x9_2 : Int) := of_decide_eq_true zax
                have q29 : (x9_2 : Int) < ((x8_2.length : Int) : Int) := of_decide_eq_true zax
                obtain ⟨go29, co29, eo29, gb29, gl29, cl29, HG29⟩ := Kd.R_form HO_8.out (by omega)
                (first | cases eo29 | (injection eo29 with ea_ en_ ec_; (first | subst ea_ | (injection ea_ with ea_; subst ea_)); subst ec_; clear en_))
                have GB29 := Aside0.mk gb29
                have GG29 := Aside0.mk HG29
                clear gb29 gl29 HG29
                (first | simp only [add_plain] at hx288_0 | skip)
                (first | simp only [add_plain] at hx288_1 | skip)
                (first | simp only [add_plain] at hx288_2 | skip)
                (first | simp only [add_plain] at hx288_3 | skip)
                obtain ⟨ce29, hcl29, hM29, hcc29, hfr29⟩ := Kd.R_elem HO_8.out z59 (x9_2 : Int) p29 q29
                obtain rfl := k59_openM hM29
                have hx29_0 : wc.cell? ⟨go29, (x9_2 : Int).toNat * 4, none⟩ = some (.int .i64 ((rd_T59 x8_2 x9_2).f0)) := hcc29 0 _ rfl
                have hx29_1 : wc.cell? ⟨go29, (x9_2 : Int).toNat * 4 + 1, none⟩ = some (.int .i64 ((rd_T59 x8_2 x9_2).f1)) := hcc29 1 _ rfl
                have hx29_2 : wc.cell? ⟨go29, (x9_2 : Int).toNat * 4 + 2, none⟩ = some (.int .i64 ((rd_T59 x8_2 x9_2).f2)) := hcc29 2 _ rfl
                have hx29_3 : wc.cell? ⟨go29, (x9_2 : Int).toNat * 4 + 3, none⟩ = some (.int .i64 ((rd_T59 x8_2 x9_2).f3)) := hcc29 3 _ rfl
                have hf29_0 : wc.frozen? ⟨go29, (x9_2 : Int).toNat * 4, none⟩ = false := hfr29 0
                have hf29_1 : wc.frozen? ⟨go29, (x9_2 : Int).toNat * 4 + 1, none⟩ = false := hfr29 1
                have hf29_2 : wc.frozen? ⟨go29, (x9_2 : Int).toNat * 4 + 2, none⟩ = false := hfr29 2
                have hf29_3 : wc.frozen? ⟨go29, (x9_2 : Int).toNat * 4 + 3, none⟩ = false := hfr29 3
                clear hcl29 hcc29 hfr29 hM29
                replace p29 := eq_true p29
                replace q29 := eq_true q29
                have HX32 := Aside0.mk (show Kd.R k59 59 wc w.heap.size (fun k_ => k_ ≠ gb289) (.slice (some ⟨go29, 0, none⟩) x8_2.length co19) x8_2 from (zRx HO_8.out))
                obtain ⟨ce32, hcl32, hM32, hcc32, hfr32⟩ := Kd.R_elem HX32.out z59 (x9_2 : Int) (of_decide_eq_true zax) (by have h_ : (x9_2 : Int) < ((x8_2.length : Int) : Int) := of_decide_eq_true zax; first | exact h_ | (have e_ := (Kd.R_reads' HO_8.out).1; omega) | simpa using h_)
                obtain rfl := k59_openM hM32
                have HP32 := Kd.R_seg HX32.out (x9_2 : Int) (of_decide_eq_true zax) (by have h_ : (x9_2 : Int) < ((x8_2.length : Int) : Int) := of_decide_eq_true zax; first | exact h_ | (have e_ := (Kd.R_reads' HO_8.out).1; omega) | simpa using h_) (seg := [.int .i64 ((rd_T59 x8_2 x9_2).f0), .int .i64 4, .int .i64 ((rd_T59 x8_2 x9_2).f2), .int .i64 0]) (j := 0) hcl32 hcc32 (show 4 ≤ 4 from by decide) (x' := (⟨((rd_T59 x8_2 x9_2).f0), 4, ((rd_T59 x8_2 x9_2).f2), 0⟩ : S59)) (k59_mkM _ _ _ (⟨((rd_T59 x8_2 x9_2).f0), 4, ((rd_T59 x8_2 x9_2).f2), 0⟩ : S59) ) (fun _ hk => hk)
                have hx32_0 := hcc32 0 _ rfl
                (try simp only [show (k59).sz = 4 from rfl, Nat.mul_one, Nat.add_zero] at hx32_0)
                have hf32_0 := hfr32 0
                (try simp only [show (k59).sz = 4 from rfl, Nat.mul_one, Nat.add_zero] at hf32_0)
                have hx32_1 := hcc32 1 _ rfl
                (try simp only [show (k59).sz = 4 from rfl, Nat.mul_one, Nat.add_zero] at hx32_1)
                have hf32_1 := hfr32 1
                (try simp only [show (k59).sz = 4 from rfl, Nat.mul_one, Nat.add_zero] at hf32_1)
                have hx32_2 := hcc32 2 _ rfl
                (try simp only [show (k59).sz = 4 from rfl, Nat.mul_one, Nat.add_zero] at hx32_2)
                have hf32_2 := hfr32 2
                (try simp only [show (k59).sz = 4 from rfl, Nat.mul_one, Nat.add_zero] at hf32_2)
                have hx32_3 := hcc32 3 _ rfl
                (try simp only [show (k59).sz = 4 from rfl, Nat.mul_one, Nat.add_zero] at hx32_3)
                have hf32_3 := hfr32 3
                (try simp only [show (k59).sz = 4 from rfl, Nat.mul_one, Nat.add_zero] at hf32_3)
                clear hcl32 hcc32 hfr32 hM32
                go_wp2_with (first | ((with_reducible refine gate_store (t := 59) (p := 53) rfl ?_); refine store_event (t := 59) (p := 53) (v := ?vo_w33) (w1 := ((((wc.setCell ⟨go29, (x9_2 : Int).toNat * 4, none⟩ (.int .i64 ((rd_T59 x8_2 x9_2).f0))).setCell ⟨go29, (x9_2 : Int).toNat * 4 + 1, none⟩ (.int .i64 4)).setCell ⟨go29, (x9_2 : Int).toNat * 4 + 2, none⟩ (.int .i64 ((rd_T59 x8_2 x9_2).f2))).setCell ⟨go29, (x9_2 : Int).toNat * 4 + 3, none⟩ (.int .i64 0))) ?hg ?ho ?hn ?hr ?_; (case ho => rfl); (case hg => rfl); (case hn => rfl); (case hr => exact zsx); intro w33 hw; have hg : wc.grownBy w33 (some go29) := (by rw [hw]; exact HP32.2); have hp_ : Kd.R k59 59 w33 w.heap.size (fun k_ => k_ ≠ gb289) (.slice (some ⟨go29, 0, none⟩) x8_2.length co19) y290 := (by rw [hw, Ny290.out]; exact HP32.1); clear HP32; have n0_ := Aside0.mk (Kd.R_over' (v := (.slice (some ⟨go29, 0, none⟩) x8_2.length co19)) (zRx HO_7.out) (Kd.R_typed HO_8.out) (by decide) hg); have n1_ := Aside0.mk (hp_); have n2_ := Aside0.mk (blk_grown (g := gb289) (o := .cells #[.int .i64 ((rd_T59 x8_2 x9_2).f0), .int .i64 ((rd_T59 x8_2 x9_2).f1), .int .i64 ((rd_T59 x8_2 x9_2).f2), .int .i64 ((rd_T59 x8_2 x9_2).f3)] 59 (0, 0)) (zbx BK289.out) hg (Kd.R_away HO_8.out (fun _ hk => hk))); have n3_ := Aside0.mk ((by rw [hw]; exact below_set (below_set (below_set (below_set (HB.out) GB29.out) GB29.out) GB29.out) GB29.out : Below w.heap.size w w33)); clear HO_7; clear HO_8; clear BK289; clear HB; have HO_7 := n0_; have HO_8 := n1_; have BK289 := n2_; have HB := n3_; clear n0_ n1_ n2_ n3_; clear hg hw hp_; have hcz34_0 : w33.cell? ⟨gb289, 0, none⟩ = some (.int .i64 ((rd_T59 x8_2 x9_2).f0)) := (blk_cell BK289.out 0).trans rfl; have hcz34_1 : w33.cell? ⟨gb289, 1, none⟩ = some (.int .i64 ((rd_T59 x8_2 x9_2).f1)) := (blk_cell BK289.out 1).trans rfl; have hcz34_2 : w33.cell? ⟨gb289, 2, none⟩ = some (.int .i64 ((rd_T59 x8_2 x9_2).f2)) := (blk_cell BK289.out 2).trans rfl; have hcz34_3 : w33.cell? ⟨gb289, 3, none⟩ = some (.int .i64 ((rd_T59 x8_2 x9_2).f3)) := (blk_cell BK289.out 3).trans rfl; have hfz34_0 := blk_frozen BK289.out 0; have hfz34_1 := blk_frozen BK289.out 1; have hfz34_2 := blk_frozen BK289.out 2; have hfz34_3 := blk_frozen BK289.out 3) | ((with_reducible refine gate_builtin (b := .append) (xs := #[.tmp 54, .tmp 57]) rfl ?_); at_builtin; refine Kd.R_append (Kd.int .i64) (w0 := w) w.heap.size rfl (.tmp 54) (.tmp 57) 36 3 (.int .i64 0) 8 rfl Try.underlying36 info3 rfl (by decide) (by omega) u7 x7_2 ((rd_T59 x8_2 x9_2).f0) [.int .i64 ((rd_T59 x8_2 x9_2).f0)] (fun _ => True) (fun _ => False) rfl rfl ?aP (fun _ hk => hk.elim) ?aF ?aO ?aB ?aS ?aL ?_; (case aP => exact rfl); (case aB => exact (zBy HB.out GE289.out)); (case aF => exact (fun _ _ => trivial)); (case aO => exact (zRx HO_7.out)); (case aS => exact (below_size (zBy HB.out GE289.out))); (case aL => have := LMc30.out; omega); intro v292 w35 ho hb hg hat; rw [← Ny291.out] at ho; have n0_ := Aside0.mk (Kd.R_over' (zRx HO_8.out) (Kd.R_typed (zRx HO_7.out)) (by decide) hg); have n1_ := Aside0.mk (blk_grown (g := gb289) (o := .cells #[.int .i64 ((rd_T59 x8_2 x9_2).f0), .int .i64 ((rd_T59 x8_2 x9_2).f1), .int .i64 ((rd_T59 x8_2 x9_2).f2), .int .i64 ((rd_T59 x8_2 x9_2).f3)] 59 (0, 0)) (zbx BK289.out) hg (Kd.R_ne HO_7.out BK289.out (by decide))); have n2_ := Aside0.mk (hb); have n3_ := Aside0.mk (ho); clear HO_8; clear BK289; clear HB; clear HO_7; have HO_8 := n0_; have BK289 := n1_; have HB := n2_; have HO293 := n3_; clear n0_ n1_ n2_ n3_; clear ho hb hg hat))
                go_roundg kj17
                case measure => have := HJ2.out; have := HK2.out; have := HJ17.out; omega
                case rel => exact ⟨(y291), (y290), (wrap64 (x9_2 + 1)), zrx, H', ⟨by have := HJ2.out; have := HK2.out; have := HJ17.out; omega⟩, ⟨by (with_reducible repeat (first | apply Kd.R_alloc | apply Kd.R_drewN | apply Kd.R_drew)); exact HO293.out⟩, ⟨by (with_reducible repeat (first | apply Kd.R_alloc | apply Kd.R_drewN | apply Kd.R_drew)); exact Kd.R_mono HO_8.out (fun _ hk => trivial)⟩, ⟨by exact zBy HB.out GE289.out⟩⟩
              ·rw [if_neg c30] at H
               exact absurd H (by simp)
             ·rw [if_neg c28] at H
              exact absurd H (by simp)
            ·rw [if_neg c27] at H
             exact absurd H (by simp)
           ·rw [if_neg c26] at H
            have c26b0 : (((rd_T59 x8_2 x9_2).f2) == 5) = false := beq_eq_false_iff_ne.mpr c26
            have c26b1 : (((rd_T59 x8_2 x9_2).f2) != 5) = true := bne_iff_ne.mpr c26
            obtain ⟨ji36, hji36⟩ : ∃ j_ : Int, (IntKind.u64.wrap (((rd_T59 x8_2 x9_2).f2))) = j_ := ⟨_, rfl⟩
            replace H : (if 0 ≤ (ji36) then (if 0 ≤ x9_2 then (if x9_2 < (x8_2.length : Int) then (spec_PassMinute.l0 kj17 a1 x7_2 (x8_2.set (x9_2 : Int).toNat (⟨((rd_T59 x8_2 x9_2).f0), 1, ((rd_T59 x8_2 x9_2).f2), wrap64 (a1 + (shl .i64 1 (ji36)))⟩ : S59)) (wrap64 (x9_2 + 1))) else (none)) else (none)) else (none)) = some (r1, r2, r3) := by first | (rw [hji36] at H; exact H) | (simp only [hji36] at H ⊢; exact H)
            by_cases c37 : 0 ≤ (ji36)
            ·rw [if_pos c37] at H
             have c37b0 := eq_true c37
             have c37b1 : decide (0 ≤ (ji36)) = true := decide_eq_true c37
             clear c37
             obtain ⟨ji38, hji38⟩ : ∃ j_ : Int, (shl .i64 1 (ji36)) = j_ := ⟨_, rfl⟩
             replace H : (if 0 ≤ x9_2 then (if x9_2 < (x8_2.length : Int) then (spec_PassMinute.l0 kj17 a1 x7_2 (x8_2.set (x9_2 : Int).toNat (⟨((rd_T59 x8_2 x9_2).f0), 1, ((rd_T59 x8_2 x9_2).f2), wrap64 (a1 + (ji38))⟩ : S59)) (wrap64 (x9_2 + 1))) else (none)) else (none)) = some (r1, r2, r3) := by first | (rw [hji38] at H; exact H) | (simp only [hji38] at H ⊢; exact H)
             have hji38_ : (IntKind.i64.wrap (1 * 2 ^ min (ji36).toNat 64)) = ji38 := hji38
             have hji38z : (ji36) ≤ 64 → (IntKind.i64.wrap (1 * 2 ^ (ji36).toNat)) = ji38 := shl_small hji38
             have hji38u : (IntKind.i64.wrap (2 ^ min (ji36).toNat 64)) = ji38 := by have h_ := hji38_; rw [Int.one_mul] at h_; exact h_
             have hji38v : (ji36) ≤ 64 → (IntKind.i64.wrap (2 ^ (ji36).toNat)) = ji38 := fun hle_ => by have h_ := hji38z hle_; rw [Int.one_mul] at h_; exact h_
             have hji38y : (wrap64 (1 * 2 ^ min (ji36).toNat 64)) = ji38 := (i64_w _).symm.trans hji38_
             have hji38x : (ji36) ≤ 64 → (wrap64 (1 * 2 ^ (ji36).toNat)) = ji38 := fun h_ => (i64_w _).symm.trans (hji38z h_)
             by_cases c39 : 0 ≤ x9_2
             ·rw [if_pos c39] at H
              have c39b0 : decide (0 ≤ x9_2) = true := decide_eq_true c39
              clear c39
              by_cases c40 : x9_2 < (x8_2.length : Int)
              ·rw [if_pos c40] at H
               have c40b0 : decide (x9_2 < (x8_2.length : Int)) = true := decide_eq_true c40
               clear c40
               obtain ⟨y294, hy294⟩ : ∃ y_ : List (S59), y_ = (x8_2.set (x9_2 : Int).toNat (⟨((rd_T59 x8_2 x9_2).f0), 1, ((rd_T59 x8_2 x9_2).f2), wrap64 (a1 + (ji38))⟩ : S59)) := ⟨_, rfl⟩
               replace H : (spec_PassMinute.l0 kj17 a1 x7_2 y294 (wrap64 (x9_2 + 1))) = some (r1, r2, r3) := by first | (rw [hy294]; with_reducible exact H) | (have H2_ := (Option.bind_some _ _).symm.trans H; rw [hy294]; with_reducible exact H2_) | (have H2_ := (Option.bind_some _ _).symm.trans H; with_reducible exact H2_) | with_reducible exact H | (rw [hy294]; exact H) | exact H
               have Ny294 := Aside0.mk hy294
               clear hy294
               focus
                have H' := Aside0.mk H
                clear H
                have hcz42_0 : wc.cell? ⟨gb289, 0, none⟩ = some (.int .i64 ((rd_T59 x8_2 x9_2).f0)) := (blk_cell BK289.out 0).trans rfl
                have hcz42_1 : wc.cell? ⟨gb289, 1, none⟩ = some (.int .i64 ((rd_T59 x8_2 x9_2).f1)) := (blk_cell BK289.out 1).trans rfl
                have hcz42_2 : wc.cell? ⟨gb289, 2, none⟩ = some (.int .i64 ((rd_T59 x8_2 x9_2).f2)) := (blk_cell BK289.out 2).trans rfl
                have hcz42_3 : wc.cell? ⟨gb289, 3, none⟩ = some (.int .i64 ((rd_T59 x8_2 x9_2).f3)) := (blk_cell BK289.out 3).trans rfl
                have hfz42_0 := blk_frozen BK289.out 0
                have hfz42_1 := blk_frozen BK289.out 1
                have hfz42_2 := blk_frozen BK289.out 2
                have hfz42_3 := blk_frozen BK289.out 3
                have p41 : 0 ≤ (x9_2 : Int) := of_decide_eq_true zax
                have q41 : (x9_2 : Int) < ((x8_2.length : Int) : Int) := of_decide_eq_true zax
                obtain ⟨go41, co41, eo41, gb41, gl41, cl41, HG41⟩ := Kd.R_form HO_8.out (by omega)
                (first | cases eo41 | (injection eo41 with ea_ en_ ec_; (first | subst ea_ | (injection ea_ with ea_; subst ea_)); subst ec_; clear en_))
                have GB41 := Aside0.mk gb41
                have GG41 := Aside0.mk HG41
                clear gb41 gl41 HG41
                obtain ⟨ce41, hcl41, hM41, hcc41, hfr41⟩ := Kd.R_elem HO_8.out z59 (x9_2 : Int) p41 q41
                obtain rfl := k59_openM hM41
                have hx41_0 : wc.cell? ⟨go41, (x9_2 : Int).toNat * 4, none⟩ = some (.int .i64 ((rd_T59 x8_2 x9_2).f0)) := hcc41 0 _ rfl
                have hx41_1 : wc.cell? ⟨go41, (x9_2 : Int).toNat * 4 + 1, none⟩ = some (.int .i64 ((rd_T59 x8_2 x9_2).f1)) := hcc41 1 _ rfl
                have hx41_2 : wc.cell? ⟨go41, (x9_2 : Int).toNat * 4 + 2, none⟩ = some (.int .i64 ((rd_T59 x8_2 x9_2).f2)) := hcc41 2 _ rfl
                have hx41_3 : wc.cell? ⟨go41, (x9_2 : Int).toNat * 4 + 3, none⟩ = some (.int .i64 ((rd_T59 x8_2 x9_2).f3)) := hcc41 3 _ rfl
                have hf41_0 : wc.frozen? ⟨go41, (x9_2 : Int).toNat * 4, none⟩ = false := hfr41 0
                have hf41_1 : wc.frozen? ⟨go41, (x9_2 : Int).toNat * 4 + 1, none⟩ = false := hfr41 1
                have hf41_2 : wc.frozen? ⟨go41, (x9_2 : Int).toNat * 4 + 2, none⟩ = false := hfr41 2
                have hf41_3 : wc.frozen? ⟨go41, (x9_2 : Int).toNat * 4 + 3, none⟩ = false := hfr41 3
                clear hcl41 hcc41 hfr41 hM41
                replace p41 := eq_true p41
                replace q41 := eq_true q41
                have HX43 := Aside0.mk (show Kd.R k59 59 wc w.heap.size (fun k_ => k_ ≠ gb289) (.slice (some ⟨go41, 0, none⟩) x8_2.length co19) x8_2 from (zRx HO_8.out))
                obtain ⟨ce43, hcl43, hM43, hcc43, hfr43⟩ := Kd.R_elem HX43.out z59 (x9_2 : Int) (of_decide_eq_true zax) (by have h_ : (x9_2 : Int) < ((x8_2.length : Int) : Int) := of_decide_eq_true zax; first | exact h_ | (have e_ := (Kd.R_reads' HO_8.out).1; omega) | simpa using h_)
                obtain rfl := k59_openM hM43
                have HP43 := Kd.R_seg HX43.out (x9_2 : Int) (of_decide_eq_true zax) (by have h_ : (x9_2 : Int) < ((x8_2.length : Int) : Int) := of_decide_eq_true zax; first | exact h_ | (have e_ := (Kd.R_reads' HO_8.out).1; omega) | simpa using h_) (seg := [.int .i64 ((rd_T59 x8_2 x9_2).f0), .int .i64 1, .int .i64 ((rd_T59 x8_2 x9_2).f2), .int .i64 (wrap64 (a1 + (ji38)))]) (j := 0) hcl43 hcc43 (show 4 ≤ 4 from by decide) (x' := (⟨((rd_T59 x8_2 x9_2).f0), 1, ((rd_T59 x8_2 x9_2).f2), wrap64 (a1 + (ji38))⟩ : S59)) (k59_mkM _ _ _ (⟨((rd_T59 x8_2 x9_2).f0), 1, ((rd_T59 x8_2 x9_2).f2), wrap64 (a1 + (ji38))⟩ : S59) ) (fun _ hk => hk)
                have hx43_0 := hcc43 0 _ rfl
                (try simp only [show (k59).sz = 4 from rfl, Nat.mul_one, Nat.add_zero] at hx43_0)
                have hf43_0 := hfr43 0
                (try simp only [show (k59).sz = 4 from rfl, Nat.mul_one, Nat.add_zero] at hf43_0)
                have hx43_1 := hcc43 1 _ rfl
                (try simp only [show (k59).sz = 4 from rfl, Nat.mul_one, Nat.add_zero] at hx43_1)
                have hf43_1 := hfr43 1
                (try simp only [show (k59).sz = 4 from rfl, Nat.mul_one, Nat.add_zero] at hf43_1)
                have hx43_2 := hcc43 2 _ rfl
                (try simp only [show (k59).sz = 4 from rfl, Nat.mul_one, Nat.add_zero] at hx43_2)
                have hf43_2 := hfr43 2
                (try simp only [show (k59).sz = 4 from rfl, Nat.mul_one, Nat.add_zero] at hf43_2)
                have hx43_3 := hcc43 3 _ rfl
                (try simp only [show (k59).sz = 4 from rfl, Nat.mul_one, Nat.add_zero] at hx43_3)
                have hf43_3 := hfr43 3
                (try simp only [show (k59).sz = 4 from rfl, Nat.mul_one, Nat.add_zero] at hf43_3)
                clear hcl43 hcc43 hfr43 hM43
                go_wp2_with (first | ((with_reducible refine gate_store (t := 59) (p := 72) rfl ?_); refine store_event (t := 59) (p := 72) (v := ?vo_w44) (w1 := ((((wc.setCell ⟨go41, (x9_2 : Int).toNat * 4, none⟩ (.int .i64 ((rd_T59 x8_2 x9_2).f0))).setCell ⟨go41, (x9_2 : Int).toNat * 4 + 1, none⟩ (.int .i64 1)).setCell ⟨go41, (x9_2 : Int).toNat * 4 + 2, none⟩ (.int .i64 ((rd_T59 x8_2 x9_2).f2))).setCell ⟨go41, (x9_2 : Int).toNat * 4 + 3, none⟩ (.int .i64 (wrap64 (a1 + (ji38)))))) ?hg ?ho ?hn ?hr ?_; (case ho => rfl); (case hg => rfl); (case hn => rfl); (case hr => exact zsx); intro w44 hw; have hg : wc.grownBy w44 (some go41) := (by rw [hw]; exact HP43.2); have hp_ : Kd.R k59 59 w44 w.heap.size (fun k_ => k_ ≠ gb289) (.slice (some ⟨go41, 0, none⟩) x8_2.length co19) y294 := (by rw [hw, Ny294.out]; exact HP43.1); clear HP43; have n0_ := Aside0.mk (Kd.R_over' (v := (.slice (some ⟨go41, 0, none⟩) x8_2.length co19)) (zRx HO_7.out) (Kd.R_typed HO_8.out) (by decide) hg); have n1_ := Aside0.mk (hp_); have n2_ := Aside0.mk (blk_grown (g := gb289) (o := .cells #[.int .i64 ((rd_T59 x8_2 x9_2).f0), .int .i64 ((rd_T59 x8_2 x9_2).f1), .int .i64 ((rd_T59 x8_2 x9_2).f2), .int .i64 ((rd_T59 x8_2 x9_2).f3)] 59 (0, 0)) (zbx BK289.out) hg (Kd.R_away HO_8.out (fun _ hk => hk))); have n3_ := Aside0.mk ((by rw [hw]; exact below_set (below_set (below_set (below_set (HB.out) GB41.out) GB41.out) GB41.out) GB41.out : Below w.heap.size w w44)); clear HO_7; clear HO_8; clear BK289; clear HB; have HO_7 := n0_; have HO_8 := n1_; have BK289 := n2_; have HB := n3_; clear n0_ n1_ n2_ n3_; clear hg hw hp_))
                go_roundg kj17
                case measure => have := HJ2.out; have := HK2.out; have := HJ17.out; omega
                case rel => exact ⟨(x7_2), (y294), (wrap64 (x9_2 + 1)), zrx, H', ⟨by have := HJ2.out; have := HK2.out; have := HJ17.out; omega⟩, ⟨by (with_reducible repeat (first | apply Kd.R_alloc | apply Kd.R_drewN | apply Kd.R_drew)); exact HO_7.out⟩, ⟨by (with_reducible repeat (first | apply Kd.R_alloc | apply Kd.R_drewN | apply Kd.R_drew)); exact Kd.R_mono HO_8.out (fun _ hk => trivial)⟩, ⟨by exact zBy HB.out GE289.out⟩⟩
              ·rw [if_neg c40] at H
               exact absurd H (by simp)
             ·rw [if_neg c39] at H
              exact absurd H (by simp)
            ·rw [if_neg c37] at H
             exact absurd H (by simp)
       ·rw [if_neg c17] at H
        exact absurd H (by simp)
      ·rw [if_neg c16] at H
       have c16b0 : decide (x9_2 < (x8_2.length : Int)) = false := decide_eq_false c16
       clear c16
       focus
        simp only [Option.some.injEq, Prod.mk.injEq] at H
        obtain ⟨rfl, rfl, rfl⟩ := H
        obtain ⟨Ao45, co45, eo45⟩ := Kd.R_slice HO_8.out
        subst eo45
        go_wp2
        go_ret3
        exact ⟨_, _, by first | rfl | (simp [errW_none, errW_some] <;> rfl) | (simp [*, errW_none, errW_some] <;> rfl), by (with_reducible repeat (first | apply Kd.R_alloc | apply Kd.R_drewN | apply Kd.R_drew)); exact HO_8.out, by (with_reducible repeat (first | apply Kd.R_alloc | apply Kd.R_drewN | apply Kd.R_drew)); exact HO_7.out, by exact zBx HB.out⟩

/-! ### laws_rQueues: function 37 -/
def laws_rQueues.l0 : Nat → List (S59) → List (S59) → Int → Option (Bool)
 | 0, _, _, _ => none
 | k + 1, x0, x1, x5 => if x5 < (x0.length : Int) then (if 0 ≤ x5 then (if x5 < (x1.length : Int) then (if (!(((rd_T59 x0 x5).f0) == ((rd_T59 x1 x5).f0)) || (!(((rd_T59 x0 x5).f1) == ((rd_T59 x1 x5).f1)) || (!(((rd_T59 x0 x5).f2) == ((rd_T59 x1 x5).f2)) || (!(((rd_T59 x0 x5).f3) == ((rd_T59 x1 x5).f3)))))) = true then (some false) else (laws_rQueues.l0 k x0 x1 (wrap64 (x5 + 1)))) else (none)) else (none)) else (some true)
def laws_rQueues.f (k : Nat) (l0 : List (S59)) (l1 : List (S59)) : Option (Bool) := if (l0.length : Int) = (l1.length : Int) then (laws_rQueues.l0 k l0 l1 0) else (some false)
theorem laws_rQueues.mono_l : ∀ k, (∀ y0 y1 y2, LeO (laws_rQueues.l0 k y0 y1 y2) (laws_rQueues.l0 (k + 1) y0 y1 y2))
 | 0 => fun _ _ _ r h => by simp [laws_rQueues.l0] at h
 | k + 1 => by
  have ih0 := laws_rQueues.mono_l k
  ·intro y0 y1 y2
   unfold laws_rQueues.l0
   repeat' first
   | (with_reducible exact ih0 _ _ _)
   | (with_reducible exact LeO.refl _)
   | (with_reducible exact LeO.none _)
   | (with_reducible refine LeO.ite ?_ ?_)
   | (with_reducible refine LeO.bind ?_ (fun _ => ?_))
   | exact ih0 _ _ _
   | exact LeO.none _
   | refine LeO.ite ?_ ?_
   | refine LeO.bind ?_ (fun _ => ?_)
theorem laws_rQueues.mono : ∀ a0 a1 k, LeO (laws_rQueues.f k a0 a1) (laws_rQueues.f (k + 1) a0 a1) := by
 intro a0 a1 k
 have ih0 := laws_rQueues.mono_l k
 unfold laws_rQueues.f
 repeat' first
  | (with_reducible exact ih0 _ _ _)
  | (with_reducible exact LeO.refl _)
  | (with_reducible exact LeO.none _)
  | (with_reducible refine LeO.ite ?_ ?_)
  | (with_reducible refine LeO.bind ?_ (fun _ => ?_))
  | exact ih0 _ _ _
  | exact LeO.none _
  | refine LeO.ite ?_ ?_
  | refine LeO.bind ?_ (fun _ => ?_)
set_option maxHeartbeats 8000000 in
set_option maxRecDepth 100000 in
theorem laws_rQueues.calls (k : Nat) (A0 : Option Addr) (c0 : Nat) (l0 : List (S59)) (A1 : Option Addr) (c1 : Nat) (l1 : List (S59)) (r : Bool) (w : World) (hr0 : Kd.C k59 w A0 l0.length l0) (hc0 : l0.length ≤ c0) (hr1 : Kd.C k59 w A1 l1.length l1) (hc1 : l1.length ≤ c1) (h : laws_rQueues.f k l0 l1 = some r) :
 Calls Try.prog 37 #[.slice A0 l0.length c0, .slice A1 l1.length c1] w fun e w' => e = .returned (.bool r) ∧ Drawn0 w w' := by
 have hu59 := Try.underlying59
 have HR0 := Aside0.mk hr0
 have HC0 := Aside0.mk hc0
 clear hr0 hc0
 have HR1 := Aside0.mk hr1
 have HC1 := Aside0.mk hc1
 clear hr1 hc1
 have H : (if (l0.length : Int) = (l1.length : Int) then (laws_rQueues.l0 k l0 l1 0) else (some false)) = some r := h
 clear h
 by_cases c3 : (l0.length : Int) = (l1.length : Int)
 ·rw [if_pos c3] at H
  have c3b0 : ((l0.length : Int) == (l1.length : Int)) = true := beq_iff_eq.mpr c3
  have c3b1 : ((l0.length : Int) != (l1.length : Int)) = false := bne_eq_false_iff_eq.mpr c3
  have c3b2 : (l0.length == l1.length) = true := by first | simpa using c3 | (simp at c3 ⊢; omega)
  clear c3
  have H' := Aside0.mk H
  clear H
  go_enter Try.func37, Try.ntmps37
  go_wp2
  repeat (go_quiet (fail); try go_wp2)
  go_loopg [5] k (fun kq v5 w' => ∃ (x5_1 : Int), v5 = .int .i64 x5_1 ∧ Aside0 (laws_rQueues.l0 kq l0 l1 x5_1 = some r) ∧ Aside0 (kq ≤ k) ∧ Drawn0 w w')
  case atStart => exact ⟨(0), zrx, H', ⟨Nat.le_refl _⟩, by repeat (first | exact Drawn0.refl _ | apply Drawn0.step)⟩
  case round =>
   clear H'
   try clear c1
   try clear p2
   try clear c3
   try clear c3b0
   try clear c3b1
   try clear c3b2
   obtain ⟨x5_1, rfl, HA, HK1, ⟨m1, rfl⟩⟩ := hrel
   cases gk with
   | zero => exact absurd HA.out (by simp [laws_rQueues.l0])
   | succ k1 =>
    have H := HA.out
    clear HA
    simp only [laws_rQueues.l0] at H
    by_cases c4 : x5_1 < (l0.length : Int)
    ·rw [if_pos c4] at H
     have c4b0 : decide (x5_1 < (l0.length : Int)) = true := decide_eq_true c4
     clear c4
     by_cases c5 : 0 ≤ x5_1
     ·rw [if_pos c5] at H
      have c5b0 : decide (0 ≤ x5_1) = true := decide_eq_true c5
      clear c5
      by_cases c6 : x5_1 < (l1.length : Int)
      ·rw [if_pos c6] at H
       have c6b0 : decide (x5_1 < (l1.length : Int)) = true := decide_eq_true c6
       clear c6
       by_cases c7 : (!(((rd_T59 l0 x5_1).f0) == ((rd_T59 l1 x5_1).f0)) || (!(((rd_T59 l0 x5_1).f1) == ((rd_T59 l1 x5_1).f1)) || (!(((rd_T59 l0 x5_1).f2) == ((rd_T59 l1 x5_1).f2)) || (!(((rd_T59 l0 x5_1).f3) == ((rd_T59 l1 x5_1).f3)))))) = true
       ·rw [if_pos c7] at H
        have c7b0 : (!(((rd_T59 l0 x5_1).f0) == ((rd_T59 l1 x5_1).f0)) || (!(((rd_T59 l0 x5_1).f1) == ((rd_T59 l1 x5_1).f1)) || (!(((rd_T59 l0 x5_1).f2) == ((rd_T59 l1 x5_1).f2)) || (!(((rd_T59 l0 x5_1).f3) == ((rd_T59 l1 x5_1).f3)))))) = true := c7
        clear c7
        focus
         obtain rfl := Option.some.inj H
         have p295 : 0 ≤ (x5_1 : Int) := of_decide_eq_true zax
         have q295 : x5_1 < (l0.length : Int) := of_decide_eq_true zax
         obtain ⟨ad295, e295, hx295_0, hx295_1, hx295_2, hx295_3⟩ := at_T59 HR0.out x5_1 p295 q295
         cases e295
         replace p295 := eq_true p295
         replace q295 := eq_true q295
         have p296 : 0 ≤ (x5_1 : Int) := of_decide_eq_true zax
         have q296 : x5_1 < (l1.length : Int) := of_decide_eq_true zax
         obtain ⟨ad296, e296, hx296_0, hx296_1, hx296_2, hx296_3⟩ := at_T59 HR1.out x5_1 p296 q296
         cases e296
         replace p296 := eq_true p296
         replace q296 := eq_true q296
         go_wp2
         repeat (go_quiet (fail); try go_wp2)
         go_ret
         exact ⟨by first | rfl | (simp; done) | (simp [*]; done), by repeat (first | exact Drawn0.refl _ | apply Drawn0.step)⟩
       ·rw [if_neg c7] at H
        have c7b0 : (!(((rd_T59 l0 x5_1).f0) == ((rd_T59 l1 x5_1).f0)) || (!(((rd_T59 l0 x5_1).f1) == ((rd_T59 l1 x5_1).f1)) || (!(((rd_T59 l0 x5_1).f2) == ((rd_T59 l1 x5_1).f2)) || (!(((rd_T59 l0 x5_1).f3) == ((rd_T59 l1 x5_1).f3)))))) = false := by simpa using c7
        clear c7
        focus
         have H' := Aside0.mk H
         clear H
         have p295 : 0 ≤ (x5_1 : Int) := of_decide_eq_true zax
         have q295 : x5_1 < (l0.length : Int) := of_decide_eq_true zax
         obtain ⟨ad295, e295, hx295_0, hx295_1, hx295_2, hx295_3⟩ := at_T59 HR0.out x5_1 p295 q295
         cases e295
         replace p295 := eq_true p295
         replace q295 := eq_true q295
         have p296 : 0 ≤ (x5_1 : Int) := of_decide_eq_true zax
         have q296 : x5_1 < (l1.length : Int) := of_decide_eq_true zax
         obtain ⟨ad296, e296, hx296_0, hx296_1, hx296_2, hx296_3⟩ := at_T59 HR1.out x5_1 p296 q296
         cases e296
         replace p296 := eq_true p296
         replace q296 := eq_true q296
         go_wp2
         repeat (go_quiet (fail); try go_wp2)
         go_roundg k1
         case measure => have := HK1.out; omega
         case rel => exact ⟨(wrap64 (x5_1 + 1)), zrx, H', ⟨by have := HK1.out; omega⟩, by repeat (first | exact Drawn0.refl _ | apply Drawn0.step)⟩
      ·rw [if_neg c6] at H
       exact absurd H (by simp)
     ·rw [if_neg c5] at H
      exact absurd H (by simp)
    ·rw [if_neg c4] at H
     have c4b0 : decide (x5_1 < (l0.length : Int)) = false := decide_eq_false c4
     clear c4
     focus
      obtain rfl := Option.some.inj H
      go_wp2
      repeat (go_quiet (fail); try go_wp2)
      go_ret
      exact ⟨by first | rfl | (simp; done) | (simp [*]; done), by repeat (first | exact Drawn0.refl _ | apply Drawn0.step)⟩
 ·rw [if_neg c3] at H
  have c3b0 : ((l0.length : Int) == (l1.length : Int)) = false := beq_eq_false_iff_ne.mpr c3
  have c3b1 : ((l0.length : Int) != (l1.length : Int)) = true := bne_iff_ne.mpr c3
  have c3b2 : (l0.length == l1.length) = false := by first | simpa using c3 | (simp at c3 ⊢; omega)
  focus
   obtain rfl := Option.some.inj H
   go_enter Try.func37, Try.ntmps37
   go_wp2
   repeat (go_quiet (fail); try go_wp2)
   go_ret
   exact ⟨by first | rfl | (simp; done) | (simp [*]; done), by repeat (first | exact Drawn0.refl _ | apply Drawn0.step)⟩

/-! ### laws_rHas: function 38 -/
def laws_rHas.l0 : Nat → List Int → Int → Int → Option (Bool)
 | 0, _, _, _ => none
 | k + 1, x0, x1, x5 => if x5 < (x0.length : Int) then (if 0 ≤ x5 then (if (rd x0 x5) = x1 then (some true) else (laws_rHas.l0 k x0 x1 (wrap64 (x5 + 1)))) else (none)) else (some false)
def laws_rHas.f (k : Nat) (l0 : List Int) (a1 : Int) : Option (Bool) := laws_rHas.l0 k l0 a1 0
theorem laws_rHas.mono_l : ∀ k, (∀ y0 y1 y2, LeO (laws_rHas.l0 k y0 y1 y2) (laws_rHas.l0 (k + 1) y0 y1 y2))
 | 0 => fun _ _ _ r h => by simp [laws_rHas.l0] at h
 | k + 1 => by
  have ih0 := laws_rHas.mono_l k
  ·intro y0 y1 y2
   unfold laws_rHas.l0
   repeat' first
   | (with_reducible exact ih0 _ _ _)
   | (with_reducible exact LeO.refl _)
   | (with_reducible exact LeO.none _)
   | (with_reducible refine LeO.ite ?_ ?_)
   | (with_reducible refine LeO.bind ?_ (fun _ => ?_))
   | exact ih0 _ _ _
   | exact LeO.none _
   | refine LeO.ite ?_ ?_
   | refine LeO.bind ?_ (fun _ => ?_)
theorem laws_rHas.mono : ∀ a0 a1 k, LeO (laws_rHas.f k a0 a1) (laws_rHas.f (k + 1) a0 a1) := by
 intro a0 a1 k
 have ih0 := laws_rHas.mono_l k
 unfold laws_rHas.f
 repeat' first
  | (with_reducible exact ih0 _ _ _)
  | (with_reducible exact LeO.refl _)
  | (with_reducible exact LeO.none _)
  | (with_reducible refine LeO.ite ?_ ?_)
  | (with_reducible refine LeO.bind ?_ (fun _ => ?_))
  | exact ih0 _ _ _
  | exact LeO.none _
  | refine LeO.ite ?_ ?_
  | refine LeO.bind ?_ (fun _ => ?_)
set_option maxHeartbeats 8000000 in
set_option maxRecDepth 100000 in
theorem laws_rHas.calls (k : Nat) (A0 : Option Addr) (c0 : Nat) (l0 : List Int) (a1 : Int) (r : Bool) (w : World) (hr0 : Kd.C (Kd.int .i64) w A0 l0.length l0) (hc0 : l0.length ≤ c0) (h : laws_rHas.f k l0 a1 = some r) :
 Calls Try.prog 38 #[.slice A0 l0.length c0, .int .i64 a1] w fun e w' => e = .returned (.bool r) ∧ Drawn0 w w' := by
 have HR0 := Aside0.mk hr0
 have HC0 := Aside0.mk hc0
 clear hr0 hc0
 have H : (laws_rHas.l0 k l0 a1 0) = some r := h
 clear h
 have H' := Aside0.mk H
 clear H
 go_enter Try.func38, Try.ntmps38
 go_wp2
 go_loopg [5] k (fun kq v5 w' => ∃ (x5_1 : Int), v5 = .int .i64 x5_1 ∧ Aside0 (laws_rHas.l0 kq l0 a1 x5_1 = some r) ∧ Aside0 (kq ≤ k) ∧ Drawn0 w w')
 case atStart => exact ⟨(0), zrx, H', ⟨Nat.le_refl _⟩, by repeat (first | exact Drawn0.refl _ | apply Drawn0.step)⟩
 case round =>
  clear H'
  try clear p2
  obtain ⟨x5_1, rfl, HA, HK1, ⟨m1, rfl⟩⟩ := hrel
  cases gk with
  | zero => exact absurd HA.out (by simp [laws_rHas.l0])
  | succ k1 =>
   have H := HA.out
   clear HA
   simp only [laws_rHas.l0] at H
   by_cases c3 : x5_1 < (l0.length : Int)
   ·rw [if_pos c3] at H
    have c3b0 : decide (x5_1 < (l0.length : Int)) = true := decide_eq_true c3
    clear c3
    by_cases c4 : 0 ≤ x5_1
    ·rw [if_pos c4] at H
     have c4b0 : decide (0 ≤ x5_1) = true := decide_eq_true c4
     clear c4
     by_cases c5 : (rd l0 x5_1) = a1
     ·rw [if_pos c5] at H
      have c5b0 : ((rd l0 x5_1) == a1) = true := beq_iff_eq.mpr c5
      have c5b1 : ((rd l0 x5_1) != a1) = false := bne_eq_false_iff_eq.mpr c5
      clear c5
      focus
       obtain rfl := Option.some.inj H
       have p297 : 0 ≤ (x5_1 : Int) := of_decide_eq_true zax
       have q297 : x5_1 < (l0.length : Int) := of_decide_eq_true zax
       obtain ⟨ad297, e297, hx297_0⟩ := Kd.at_int HR0.out x5_1 p297 q297
       cases e297
       replace p297 := eq_true p297
       replace q297 := eq_true q297
       go_wp2
       go_ret
       exact ⟨by first | rfl | (simp; done) | (simp [*]; done), by repeat (first | exact Drawn0.refl _ | apply Drawn0.step)⟩
     ·rw [if_neg c5] at H
      have c5b0 : ((rd l0 x5_1) == a1) = false := beq_eq_false_iff_ne.mpr c5
      have c5b1 : ((rd l0 x5_1) != a1) = true := bne_iff_ne.mpr c5
      focus
       have H' := Aside0.mk H
       clear H
       have p297 : 0 ≤ (x5_1 : Int) := of_decide_eq_true zax
       have q297 : x5_1 < (l0.length : Int) := of_decide_eq_true zax
       obtain ⟨ad297, e297, hx297_0⟩ := Kd.at_int HR0.out x5_1 p297 q297
       cases e297
       replace p297 := eq_true p297
       replace q297 := eq_true q297
       go_wp2
       go_roundg k1
       case measure => have := HK1.out; omega
       case rel => exact ⟨(wrap64 (x5_1 + 1)), zrx, H', ⟨by have := HK1.out; omega⟩, by repeat (first | exact Drawn0.refl _ | apply Drawn0.step)⟩
    ·rw [if_neg c4] at H
     exact absurd H (by simp)
   ·rw [if_neg c3] at H
    have c3b0 : decide (x5_1 < (l0.length : Int)) = false := decide_eq_false c3
    clear c3
    focus
     obtain rfl := Option.some.inj H
     go_wp2
     go_ret
     exact ⟨by first | rfl | (simp; done) | (simp [*]; done), by repeat (first | exact Drawn0.refl _ | apply Drawn0.step)⟩

/-! ### impl_PruneQueue_1: function 83 -/
def impl_PruneQueue_1.f (a0_0 : Int) (a0_1 : Int) (a0_2 : Int) (a0_3 : Int) : Option (Bool) := (impl_isOpen.f a0_0 a0_1 a0_2 a0_3).bind fun t299 => (some (!t299))
set_option maxHeartbeats 8000000 in
set_option maxRecDepth 100000 in
theorem impl_PruneQueue_1.calls (a0_0 : Int) (a0_1 : Int) (a0_2 : Int) (a0_3 : Int) (r : Bool) (w : World) (h : impl_PruneQueue_1.f a0_0 a0_1 a0_2 a0_3 = some r) :
 Calls Try.prog 83 #[.agg #[.int .i64 a0_0, .int .i64 a0_1, .int .i64 a0_2, .int .i64 a0_3]] w fun e w' => e = .returned (.bool r) ∧ Below w.heap.size w w' := by
 have hu59 := Try.underlying59
 have HB := Aside0.mk (Below.refl w.heap.size w)
 have H : ((impl_isOpen.f a0_0 a0_1 a0_2 a0_3).bind fun t299 => (some (!t299))) = some r := h
 clear h
 replace H := Option.bind_eq_some_iff.mp H
 obtain ⟨t299, A20, H⟩ := H
 replace H : (some (!t299)) = some r := H
 have A2 := Aside0.mk A20
 clear A20
 focus
  obtain rfl := Option.some.inj H
  go_enter Try.func83, Try.ntmps83
  go_wp2_with (first | ((with_reducible refine gate_dst (N := 1) rfl ?_); refine box_event ?hg (N := 1) ?hd (cs := #[.int .i64 a0_0, .int .i64 a0_1, .int .i64 a0_2, .int .i64 a0_3]) (t := 59) ?hr ?_; (case hd => rfl); (case hg => rfl); (case hr => exact zsx); intro gb298 hg w3 hbox hb; have n0_ := Aside0.mk (below_step (zBx HB.out) hb); have n1_ := Aside0.mk (hbox); have n2_ := Aside0.mk ((by rw [hg]; exact (below_size (zBx HB.out)) : w.heap.size ≤ gb298)); have n3_ := Aside0.mk ((by rw [hg]; exact (below_size (zBx HB.out)) : w.heap.size ≤ gb298)); clear HB; have HB := n0_; have BK298 := n1_; have GW298 := n2_; have GE298 := n3_; clear n0_ n1_ n2_ n3_; clear hb hbox hg; have hcz4_0 : w3.cell? ⟨gb298, 0, none⟩ = some (.int .i64 a0_0) := (blk_cell BK298.out 0).trans rfl; have hcz4_1 : w3.cell? ⟨gb298, 1, none⟩ = some (.int .i64 a0_1) := (blk_cell BK298.out 1).trans rfl; have hcz4_2 : w3.cell? ⟨gb298, 2, none⟩ = some (.int .i64 a0_2) := (blk_cell BK298.out 2).trans rfl; have hcz4_3 : w3.cell? ⟨gb298, 3, none⟩ = some (.int .i64 a0_3) := (blk_cell BK298.out 3).trans rfl; have hfz4_0 := blk_frozen BK298.out 0; have hfz4_1 := blk_frozen BK298.out 1; have hfz4_2 := blk_frozen BK298.out 2; have hfz4_3 := blk_frozen BK298.out 3) | ((with_reducible refine gate_callee (f := 84) rfl ?_); refine goesL_ (some 4) rfl rfl Try.func84 (by kernel_rfl) rfl #[.agg #[.int .i64 a0_0, .int .i64 a0_1, .int .i64 a0_2, .int .i64 a0_3]] rfl zlx ?_; (with_reducible refine (impl_isOpen.calls a0_0 a0_1 a0_2 a0_3 t299 _ A2.out).mono ?_); rintro e w5 ⟨rfl, hb⟩; refine ⟨_, rfl, ?_⟩; have n0_ := Aside0.mk (blk_below (g := gb298) (o := .cells #[.int .i64 a0_0, .int .i64 a0_1, .int .i64 a0_2, .int .i64 a0_3] 59 (0, 0)) (zbx BK298.out) hb); have n1_ := Aside0.mk (below_step (zBy HB.out GE298.out) hb); clear BK298; clear HB; have BK298 := n0_; have HB := n1_; clear n0_ n1_; (try clear hb); (try clear hb2); (try clear hk); (try clear hi)))
  go_ret
  exact ⟨by first | rfl | (simp [errW_none, errW_some] <;> rfl) | (simp [*, errW_none, errW_some] <;> rfl), by exact zBy HB.out GE298.out⟩

end Go.Proofs.Ytkegkbpadhddkaa.XFnRetries
