-- written by wip/tools/xprint.py (a program of this project) out of the translation
import Derived.Test.YtkegkbpadhddkaaXFnRetriesx0
import Derived.Test.YtkegkbpadhddkaaXFnRetriesx5
namespace Go.Proofs.Ytkegkbpadhddkaa.XFnRetries
open Go.RowKit Go.Proofs.YtkegkbpadhddkaaW.PrintWords Go.Proofs.YtkegkbpadhddkaaW.PrintLast Go.Proofs.YtkegkbpadhddkaaW.PrintMore
attribute [local go_sem] max2_int min2_int max_two min_two max_three min_three max_four min_four   -- for this text's walks alone
set_option linter.unusedVariables false
set_option linter.unusedSimpArgs false

/-! ### slices_Clone_Delivery: function 78 -/
def slices_Clone_Delivery.f (l0 : List (S59)) : Option ((List (S59))) := (some (([] : List (S59)) : List (S59))).bind fun y240 => (if y240.length + l0.length < 4398046511104 then (some (y240 ++ l0)) else (none))
set_option maxHeartbeats 8000000 in
set_option maxRecDepth 100000 in
theorem slices_Clone_Delivery.calls_some (ad0_ : Addr) (c0 : Nat) (l0 : List (S59)) (r : List (S59)) (w : World) (hr0 : Kd.C k59 w (some ad0_) l0.length l0) (hc0 : l0.length ≤ c0) (h : slices_Clone_Delivery.f l0 = some r) :
 Calls Try.prog 78 #[.slice (some ad0_) l0.length c0] w fun e w' => ∃ v0_ : Value, e = .returned (v0_) ∧ Kd.R k59 59 w' w.heap.size (fun _ => True) v0_ r ∧ Below w.heap.size w w' := by
 have HR0 := Aside0.mk hr0
 have HC0 := Aside0.mk hc0
 clear hr0 hc0
 have HB := Aside0.mk (Below.refl w.heap.size w)
 have H : ((some (([] : List (S59)) : List (S59))).bind fun y240 => (if y240.length + l0.length < 4398046511104 then (some (y240 ++ l0)) else (none))) = some r := h
 clear h
 obtain ⟨y240, hy240⟩ : ∃ y_ : List (S59), y_ = (([] : List (S59))) := ⟨_, rfl⟩
 replace H : (if y240.length + l0.length < 4398046511104 then (some (y240 ++ l0)) else (none)) = some r := by first | (rw [hy240]; with_reducible exact H) | (have H2_ := (Option.bind_some _ _).symm.trans H; rw [hy240]; with_reducible exact H2_) | (have H2_ := (Option.bind_some _ _).symm.trans H; with_reducible exact H2_) | with_reducible exact H | (rw [hy240]; exact H) | exact H
 have Ny240 := Aside0.mk hy240
 clear hy240
 by_cases c2 : y240.length + l0.length < 4398046511104
 ·rw [if_pos c2] at H
  have LMc2 := Aside0.mk c2
  clear c2
  obtain ⟨y243, hy243⟩ : ∃ y_ : List (S59), y_ = (y240 ++ l0) := ⟨_, rfl⟩
  replace H : (some y243) = some r := by first | (rw [hy243]; with_reducible exact H) | (have H2_ := (Option.bind_some _ _).symm.trans H; rw [hy243]; with_reducible exact H2_) | (have H2_ := (Option.bind_some _ _).symm.trans H; with_reducible exact H2_) | with_reducible exact H | (rw [hy243]; exact H) | exact H
  have Ny243 := Aside0.mk hy243
  clear hy243
  focus
   obtain rfl := Option.some.inj H
   have q_ : ∀ W : World, (binOp .eql 52 (.slice (some ad0_) l0.length c0) (.slice none 0 0)).run Try.prog W = .ok (.bool false) W := fun W => Lib.run_eql_slice_nil W _ _ (some ad0_) _ _ _ _ Try.underlying52
   go_enter Try.func78, Try.ntmps78
   go_wp2_with (first | ((with_reducible refine gate_dst (N := 5) rfl ?_); refine Kd.R_lit k59 _ 59 ?hg (N := 5) ?hd (xs := ([] : List (S59))) (inner := []) (ok := fun _ => True) (okp := fun _ => True) ?hr ?hp (fun _ hk => hk) trivial (Below.refl _ _) (Nat.le_refl _) (by simp) ?_; (case hd => rfl); (case hg => rfl); (case hr => exact zsx); (case hp => exact (Reps.none _ _)); intro v241 w3 ho4 hb hg_ hnew_; clear hg_ hnew_; (first | rw [← Ny240.out] at ho4 | (simp only [Int.reduceToNat] at ho4; rw [← Ny240.out] at ho4)); have n0_ := Aside0.mk (Kd.R_lower ho4 (below_size (zBx HB.out))); have n1_ := Aside0.mk (below_step (zBx HB.out) hb); clear HB; have HO242 := n0_; have HB := n1_; clear n0_ n1_; clear hb ho4) | ((with_reducible refine gate_builtin (b := .append) (xs := #[.tmp 5, .tmp 6]) rfl ?_); at_builtin; refine Kd.R_append_rows k59 (w0 := w) w.heap.size rfl (.tmp 5) (.tmp 6) 52 59 (.agg #[(.int .i64 0), (.int .i64 0), (.int .i64 0), (.int .i64 0)]) 32 rfl Try.underlying52 info59 rfl (by decide) (by omega) v241 y240 l0 _ _ _ (fun _ => True) (fun _ => False) rfl rfl ?aO ?aR (fun _ _ h => h) (fun _ h => h.elim) ?aF ?aB ?aS ?aL ?_; (case aR => repeat (first | exact (Kd.C_below HR0.out HB.out) | (with_reducible refine Kd.C_alloc ?_ _) | (with_reducible refine Kd.C_drewN ?_ _) | (with_reducible refine Kd.C_drew ?_))); (case aB => exact (zBx HB.out)); (case aF => exact (fun _ _ => trivial)); (case aO => exact (zRx HO242.out)); (case aS => exact (below_size (zBx HB.out))); (case aL => have := LMc2.out; omega); intro v244 w5 ho hb hg hat; rw [← Ny243.out] at ho; have n0_ := Aside0.mk (hb); have n1_ := Aside0.mk (ho); clear HB; clear HO242; have HB := n0_; have HO245 := n1_; clear n0_ n1_; clear ho hb hg hat))
   go_ret
   exact ⟨_, by first | rfl | (simp [errW_none, errW_some] <;> rfl) | (simp [*, errW_none, errW_some] <;> rfl), by (with_reducible repeat (first | apply Kd.R_alloc | apply Kd.R_drewN | apply Kd.R_drew)); exact HO245.out, by exact zBx HB.out⟩
 ·rw [if_neg c2] at H
  exact absurd H (by simp)
set_option maxHeartbeats 8000000 in
set_option maxRecDepth 100000 in
theorem slices_Clone_Delivery.calls (A0 : Option Addr) (c0 : Nat) (l0 : List (S59)) (r : List (S59)) (w : World) (hr0 : Kd.C k59 w A0 l0.length l0) (hc0 : l0.length ≤ c0) (h : slices_Clone_Delivery.f l0 = some r) :
 Calls Try.prog 78 #[.slice A0 l0.length c0] w fun e w' => ∃ v0_ : Value, e = .returned (v0_) ∧ Kd.R k59 59 w' w.heap.size (fun _ => True) v0_ r ∧ Below w.heap.size w w' := by
 cases A0 with
 | some ad => exact slices_Clone_Delivery.calls_some ad c0 l0 r w hr0 hc0 h
 | none =>
  have hl : l0.length = 0 := by
   rcases Nat.eq_zero_or_pos l0.length with h0 | h0
   ·exact h0
   ·obtain ⟨_, e, _⟩ := hr0.2.2 h0
    cases e
  obtain rfl : l0 = [] := List.eq_nil_of_length_eq_zero hl
  obtain rfl : r = [] := by simpa [slices_Clone_Delivery.f] using h.symm
  clear hr0 hc0 h
  have q_ : ∀ W : World, (binOp .eql 52 (.slice none 0 c0) (.slice none 0 0)).run Try.prog W = .ok (.bool true) W := fun W => Lib.run_eql_slice_nil W _ _ none _ _ _ _ Try.underlying52
  go_enter Try.func78, Try.ntmps78
  go_wp2
  go_ret
  exact ⟨_, rfl, Kd.R_nil _ _ _ _ _, Below.refl _ _⟩

/-! ### impl_PassMinute: function 35 -/
mutual
def impl_PassMinute.j0 : Nat → List (S59) → Int → Bool → Option ((List (S59)) × List Int × Bool)
 | 0, _, _, _ => none
 | k + 1, x0, x1, x18 => if x18 = true then (some (([] : List (S59)), ([] : List Int), false)) else ((slices_Clone_Delivery.f x0).bind fun t248 => (impl_PassMinute.l0 k x1 t248 ([] : List Int) (t248.length : Int) 0))
def impl_PassMinute.l0 : Nat → Int → List (S59) → List Int → Int → Int → Option ((List (S59)) × List Int × Bool)
 | 0, _, _, _, _, _ => none
 | k + 1, x1, x7, x8, x22, x23 => if x23 < x22 then (if 0 ≤ x23 then (if x23 < (x7.length : Int) then (if ((rd_T59 x7 x23).f1) = 2 then (impl_PassMinute.j2 k x1 x7 x8 x23 x22 x23 (decide (((rd_T59 x7 x23).f3) > x1)) ((rd_T59 x7 x23).f0) ((rd_T59 x7 x23).f1) ((rd_T59 x7 x23).f2) ((rd_T59 x7 x23).f3)) else (impl_PassMinute.j2 k x1 x7 x8 x23 x22 x23 true ((rd_T59 x7 x23).f0) ((rd_T59 x7 x23).f1) ((rd_T59 x7 x23).f2) ((rd_T59 x7 x23).f3))) else (none)) else (none)) else (some (x7, x8, true))
def impl_PassMinute.j2 : Nat → Int → List (S59) → List Int → Int → Int → Int → Bool → Int → Int → Int → Int → Option ((List (S59)) × List Int × Bool)
 | 0, _, _, _, _, _, _, _, _, _, _, _ => none
 | k + 1, x1, x7, x8, x9, x22, x23, x41, x253000, x253001, x253002, x253003 => if x41 = true then (impl_PassMinute.l0 k x1 x7 x8 x22 (wrap64 (x23 + 1))) else (if x253002 = 5 then (if 0 ≤ x9 then (if x9 < (x7.length : Int) then ((some (x7.set (x9 : Int).toNat (⟨(rd_T59 x7 x9).f0, 4, (rd_T59 x7 x9).f2, (rd_T59 x7 x9).f3⟩ : S59) : List (S59))).bind fun y253 => (if x8.length < 17592186044416 then (impl_PassMinute.l0 k x1 (y253.set (x9 : Int).toNat (⟨(rd_T59 y253 x9).f0, (rd_T59 y253 x9).f1, (rd_T59 y253 x9).f2, 0⟩ : S59)) (x8 ++ [x253000]) x22 (wrap64 (x23 + 1))) else (none))) else (none)) else (none)) else (if 0 ≤ x253002 then (if 0 ≤ x9 then (if x9 < (x7.length : Int) then ((some (x7.set (x9 : Int).toNat (⟨(rd_T59 x7 x9).f0, 1, (rd_T59 x7 x9).f2, (rd_T59 x7 x9).f3⟩ : S59) : List (S59))).bind fun y258 => (impl_PassMinute.l0 k x1 (y258.set (x9 : Int).toNat (⟨(rd_T59 y258 x9).f0, (rd_T59 y258 x9).f1, (rd_T59 y258 x9).f2, wrap64 (x1 + (shl .i64 1 x253002))⟩ : S59)) x8 x22 (wrap64 (x23 + 1)))) else (none)) else (none)) else (none)))
end
def impl_PassMinute.f (k : Nat) (l0 : List (S59)) (a1 : Int) : Option ((List (S59)) × List Int × Bool) := (impl_IsValidQueue.f k l0).bind fun t246 => (if t246 = true then ((impl_isMinute.f a1).bind fun t247 => (impl_PassMinute.j0 k l0 a1 (!t247))) else (impl_PassMinute.j0 k l0 a1 true))
theorem impl_PassMinute.mono_l : ∀ k, (∀ y0 y1 y2, LeO (impl_PassMinute.j0 k y0 y1 y2) (impl_PassMinute.j0 (k + 1) y0 y1 y2)) ∧ (∀ y0 y1 y2 y3 y4, LeO (impl_PassMinute.l0 k y0 y1 y2 y3 y4) (impl_PassMinute.l0 (k + 1) y0 y1 y2 y3 y4)) ∧ (∀ y0 y1 y2 y3 y4 y5 y6 y7 y8 y9 y10, LeO (impl_PassMinute.j2 k y0 y1 y2 y3 y4 y5 y6 y7 y8 y9 y10) (impl_PassMinute.j2 (k + 1) y0 y1 y2 y3 y4 y5 y6 y7 y8 y9 y10))
 | 0 => ⟨fun _ _ _ r h => by simp [impl_PassMinute.j0] at h, fun _ _ _ _ _ r h => by simp [impl_PassMinute.l0] at h, fun _ _ _ _ _ _ _ _ _ _ _ r h => by simp [impl_PassMinute.j2] at h⟩
 | k + 1 => by
  obtain ⟨ih0, ih1, ih2⟩ := impl_PassMinute.mono_l k
  refine ⟨?_, ?_, ?_⟩
  ·intro y0 y1 y2
   unfold impl_PassMinute.j0
   repeat' first
   | (with_reducible exact ih0 _ _ _)
   | (with_reducible exact ih1 _ _ _ _ _)
   | (with_reducible exact ih2 _ _ _ _ _ _ _ _ _ _ _)
   | (with_reducible exact impl_IsValidQueue.mono _ _)
   | (with_reducible exact LeO.refl _)
   | (with_reducible exact LeO.none _)
   | (with_reducible refine LeO.ite ?_ ?_)
   | (with_reducible refine LeO.bind ?_ (fun _ => ?_))
   | exact ih0 _ _ _
   | exact ih1 _ _ _ _ _
   | exact ih2 _ _ _ _ _ _ _ _ _ _ _
   | exact impl_IsValidQueue.mono _ _
   | exact LeO.none _
   | refine LeO.ite ?_ ?_
   | refine LeO.bind ?_ (fun _ => ?_)
  ·intro y0 y1 y2 y3 y4
   unfold impl_PassMinute.l0
   repeat' first
   | (with_reducible exact ih0 _ _ _)
   | (with_reducible exact ih1 _ _ _ _ _)
   | (with_reducible exact ih2 _ _ _ _ _ _ _ _ _ _ _)
   | (with_reducible exact impl_IsValidQueue.mono _ _)
   | (with_reducible exact LeO.refl _)
   | (with_reducible exact LeO.none _)
   | (with_reducible refine LeO.ite ?_ ?_)
   | (with_reducible refine LeO.bind ?_ (fun _ => ?_))
   | exact ih0 _ _ _
   | exact ih1 _ _ _ _ _
   | exact ih2 _ _ _ _ _ _ _ _ _ _ _
   | exact impl_IsValidQueue.mono _ _
   | exact LeO.none _
   | refine LeO.ite ?_ ?_
   | refine LeO.bind ?_ (fun _ => ?_)
  ·intro y0 y1 y2 y3 y4 y5 y6 y7 y8 y9 y10
   unfold impl_PassMinute.j2
   repeat' first
   | (with_reducible exact ih0 _ _ _)
   | (with_reducible exact ih1 _ _ _ _ _)
   | (with_reducible exact ih2 _ _ _ _ _ _ _ _ _ _ _)
   | (with_reducible exact impl_IsValidQueue.mono _ _)
   | (with_reducible exact LeO.refl _)
   | (with_reducible exact LeO.none _)
   | (with_reducible refine LeO.ite ?_ ?_)
   | (with_reducible refine LeO.bind ?_ (fun _ => ?_))
   | exact ih0 _ _ _
   | exact ih1 _ _ _ _ _
   | exact ih2 _ _ _ _ _ _ _ _ _ _ _
   | exact impl_IsValidQueue.mono _ _
   | exact LeO.none _
   | refine LeO.ite ?_ ?_
   | refine LeO.bind ?_ (fun _ => ?_)
theorem impl_PassMinute.mono : ∀ a0 a1 k, LeO (impl_PassMinute.f k a0 a1) (impl_PassMinute.f (k + 1) a0 a1) := by
 intro a0 a1 k
 obtain ⟨ih0, ih1, ih2⟩ := impl_PassMinute.mono_l k
 unfold impl_PassMinute.f
 repeat' first
  | (with_reducible exact ih0 _ _ _)
  | (with_reducible exact ih1 _ _ _ _ _)
  | (with_reducible exact ih2 _ _ _ _ _ _ _ _ _ _ _)
  | (with_reducible exact impl_IsValidQueue.mono _ _)
  | (with_reducible exact LeO.refl _)
  | (with_reducible exact LeO.none _)
  | (with_reducible refine LeO.ite ?_ ?_)
  | (with_reducible refine LeO.bind ?_ (fun _ => ?_))
  | exact ih0 _ _ _
  | exact ih1 _ _ _ _ _
  | exact ih2 _ _ _ _ _ _ _ _ _ _ _
  | exact impl_IsValidQueue.mono _ _
  | exact LeO.none _
  | refine LeO.ite ?_ ?_
  | refine LeO.bind ?_ (fun _ => ?_)
def impl_PassMinute.T8 : Bool × List (List Nat × List Nat) := (true, [([], []), ([], []), ([], []), ([], []), ([], []), ([], []), ([5], [5]), ([6], [6]), ([4, 7], [4, 7]), ([0, 1, 0, 1], [0, 1]), ([9, 0, 1], [9]), ([10, 0, 1], [10]), ([2, 3, 0, 1, 2, 3, 4, 5, 6, 7, 8, 9, 10, 11], [2, 3]), ([12, 0, 1, 2, 3, 4, 5, 6, 7, 8, 9, 10, 11], [12]), ([13, 8, 11, 0, 1, 2, 3, 4, 5, 6, 7, 8, 9, 10, 11], [8, 13])])
def impl_PassMinute.B8 : List Nat := [0, 0, 0, 0, 0, 0, 32, 96, 240, 3, 515, 1539, 4095, 8191, 16383]
theorem impl_PassMinute.tab8 : rtab .any (opsOf Try.f35 8) = impl_PassMinute.T8 := by kernel_rfl
theorem impl_PassMinute.bits8 : waitsOk impl_PassMinute.T8.2 impl_PassMinute.B8 = true := by kernel_rfl
set_option maxHeartbeats 8000000 in
set_option maxRecDepth 100000 in
theorem impl_PassMinute.calls (k : Nat) (A0 : Option Addr) (c0 : Nat) (l0 : List (S59)) (a1 : Int) (r1 : List (S59)) (r2 : List Int) (r3 : Bool) (w : World) (hr0 : Kd.C k59 w A0 l0.length l0) (hc0 : l0.length ≤ c0) (h : impl_PassMinute.f k l0 a1 = some (r1, r2, r3)) :
 Calls Try.prog 35 #[.slice A0 l0.length c0, .int .i64 a1] w fun e w' => ∃ v0_ v1_ : Value, e = .returned (.tuple #[v0_, v1_, .bool r3]) ∧ Kd.R k59 59 w' w.heap.size (fun _ => True) v0_ r1 ∧ Kd.R (Kd.int .i64) 3 w' w.heap.size (fun _ => True) v1_ r2 ∧ Below w.heap.size w w' := by
 have hu59 := Try.underlying59
 have HR0 := Aside0.mk hr0
 have HC0 := Aside0.mk hc0
 clear hr0 hc0
 have HB := Aside0.mk (Below.refl w.heap.size w)
 have H : ((impl_IsValidQueue.f k l0).bind fun t246 => (if t246 = true then ((impl_isMinute.f a1).bind fun t247 => (impl_PassMinute.j0 k l0 a1 (!t247))) else (impl_PassMinute.j0 k l0 a1 true))) = some (r1, r2, r3) := h
 clear h
 have HC3 := Aside0.mk H
 clear H
 go_enter Try.func35, Try.ntmps35
 go_upto_region 1 with (fail)
 go_cut [18] (fun v18 wc => ∃ (kq : Nat) (x18_2 : Bool), v18 = .bool x18_2 ∧ Aside0 (impl_PassMinute.j0 kq l0 a1 x18_2 = some (r1, r2, r3)) ∧ Aside0 (kq ≤ k) ∧ Aside0 (Below w.heap.size w wc))
 case first =>
  have H := HC3.out
  clear HC3
  replace H := Option.bind_eq_some_iff.mp H
  obtain ⟨t246, A40, H⟩ := H
  replace H : (if t246 = true then ((impl_isMinute.f a1).bind fun t247 => (impl_PassMinute.j0 k l0 a1 (!t247))) else (impl_PassMinute.j0 k l0 a1 true)) = some (r1, r2, r3) := H
  have A4 := Aside0.mk A40
  clear A40
  by_cases c5 : t246 = true
  ·subst c5
   have H1 : ((impl_isMinute.f a1).bind fun t247 => (impl_PassMinute.j0 k l0 a1 (!t247))) = some (r1, r2, r3) := by rw [if_pos rfl] at H; exact H
   clear H
   have H := H1
   clear H1
   replace H := Option.bind_eq_some_iff.mp H
   obtain ⟨t247, A60, H⟩ := H
   replace H : (impl_PassMinute.j0 k l0 a1 (!t247)) = some (r1, r2, r3) := H
   have A6 := Aside0.mk A60
   clear A60
   focus
    have H' := Aside0.mk H
    clear H
    go_wp2_with (first | ((with_reducible refine gate_callee (f := 41) rfl ?_); refine goesL_ (some 12) rfl rfl Try.func41 (by kernel_rfl) rfl #[.slice A0 l0.length c0] rfl zlx ?_; (with_reducible refine (impl_IsValidQueue.calls k _ _ l0 true _ ?side1 ?side2 A4.out).mono ?_); (case side1 => repeat (first | exact (Kd.C_below HR0.out HB.out) | (with_reducible refine Kd.C_alloc ?_ _) | (with_reducible refine Kd.C_drewN ?_ _) | (with_reducible refine Kd.C_drew ?_))); (case side2 => exact HC0.out); rintro e w7 ⟨rfl, hb⟩; refine ⟨_, rfl, ?_⟩; have n0_ := Aside0.mk (below_step (zBx HB.out) hb); clear HB; have HB := n0_; clear n0_; (try clear hb); (try clear hb2); (try clear hk); (try clear hi)) | (go_at_call 77; (with_reducible refine (impl_isMinute.calls a1 t247 _ A6.out).mono ?_); rintro e w' ⟨rfl, ⟨nd, rfl⟩⟩))
    go_meet
    case rel => exact ⟨_, (!t247), zrx, H', ⟨by first | omega | exact Nat.le_refl _⟩, ⟨by exact zBx HB.out⟩⟩
  ·replace c5 := Bool.eq_false_iff.mpr c5
   subst c5
   have H1 : (impl_PassMinute.j0 k l0 a1 true) = some (r1, r2, r3) := by rw [if_neg (show ¬ (false = true) by decide)] at H; exact H
   clear H
   have H := H1
   clear H1
   focus
    have H' := Aside0.mk H
    clear H
    go_wp2_with (first | ((with_reducible refine gate_callee (f := 41) rfl ?_); refine goesL_ (some 12) rfl rfl Try.func41 (by kernel_rfl) rfl #[.slice A0 l0.length c0] rfl zlx ?_; (with_reducible refine (impl_IsValidQueue.calls k _ _ l0 false _ ?side1 ?side2 A4.out).mono ?_); (case side1 => repeat (first | exact (Kd.C_below HR0.out HB.out) | (with_reducible refine Kd.C_alloc ?_ _) | (with_reducible refine Kd.C_drewN ?_ _) | (with_reducible refine Kd.C_drew ?_))); (case side2 => exact HC0.out); rintro e w8 ⟨rfl, hb⟩; refine ⟨_, rfl, ?_⟩; have n0_ := Aside0.mk (below_step (zBx HB.out) hb); clear HB; have HB := n0_; clear n0_; (try clear hb); (try clear hb2); (try clear hk); (try clear hi)))
    go_meet
    case rel => exact ⟨_, (true), zrx, H', ⟨by first | omega | exact Nat.le_refl _⟩, ⟨by exact zBx HB.out⟩⟩
 case rest =>
  clear HC3
  try clear p2
  try clear c3
  try clear c4
  try clear c5
  obtain ⟨kq, x18_2, rfl, HA, HJ2, HB⟩ := hcut
  cases kq with
  | zero => exact absurd HA.out (by simp [impl_PassMinute.j0])
  | succ kj2 =>
   have H := HA.out
   clear HA
   simp only [impl_PassMinute.j0] at H
   by_cases c9 : x18_2 = true
   ·subst c9
    have H1 : (some (([] : List (S59)), ([] : List Int), false)) = some (r1, r2, r3) := by rw [if_pos rfl] at H; exact H
    clear H
    have H := H1
    clear H1
    focus
     simp only [Option.some.injEq, Prod.mk.injEq] at H
     obtain ⟨rfl, rfl, rfl⟩ := H
     go_wp2
     go_ret3
     exact ⟨_, _, by first | rfl | (simp [errW_none, errW_some] <;> rfl) | (simp [*, errW_none, errW_some] <;> rfl), by first | exact Kd.R_nil _ _ _ _ _ | exact Kd.N_nil _ _ _ _ _ | exact Kd.V_nil _ _ _ _ _ | exact Kd.Q_nil _ _ _ _ _ | exact Kd.S_nil _ _ _ _ _, by first | exact Kd.R_nil _ _ _ _ _ | exact Kd.N_nil _ _ _ _ _ | exact Kd.V_nil _ _ _ _ _ | exact Kd.Q_nil _ _ _ _ _ | exact Kd.S_nil _ _ _ _ _, by exact zBx HB.out⟩
   ·replace c9 := Bool.eq_false_iff.mpr c9
    subst c9
    have H1 : ((slices_Clone_Delivery.f l0).bind fun t248 => (impl_PassMinute.l0 kj2 a1 t248 ([] : List Int) (t248.length : Int) 0)) = some (r1, r2, r3) := by rw [if_neg (show ¬ (false = true) by decide)] at H; exact H
    clear H
    have H := H1
    clear H1
    replace H := Option.bind_eq_some_iff.mp H
    obtain ⟨t248, A100, H⟩ := H
    replace H : (impl_PassMinute.l0 kj2 a1 t248 ([] : List Int) (t248.length : Int) 0) = some (r1, r2, r3) := H
    have A10 := Aside0.mk A100
    clear A100
    have H' := Aside0.mk H
    clear H
    go_wp2_with (first | ((with_reducible refine gate_callee (f := 78) rfl ?_); refine goesL_ (some 20) rfl rfl Try.func78 (by kernel_rfl) rfl #[.slice A0 l0.length c0] rfl zlx ?_; (with_reducible refine (slices_Clone_Delivery.calls _ _ l0 t248 _ ?side1 ?side2 A10.out).mono ?_); (case side1 => repeat (first | exact (Kd.C_below HR0.out HB.out) | (with_reducible refine Kd.C_alloc ?_ _) | (with_reducible refine Kd.C_drewN ?_ _) | (with_reducible refine Kd.C_drew ?_))); (case side2 => exact HC0.out); rintro e w11 ⟨v249, rfl, ho0, hb⟩; refine ⟨_, rfl, ?_⟩; have n0_ := Aside0.mk (Kd.R_lower ho0 (below_size (zBx HB.out))); have n1_ := Aside0.mk (below_step (zBx HB.out) hb); clear HB; have HO250 := n0_; have HB := n1_; clear n0_ n1_; (try clear hb); (try clear hb2); (try clear hk); (try clear hi); (try clear ho0); obtain ⟨Ao12, co12, eo12⟩ := Kd.R_slice HO250.out; subst eo12))
    go_loopg [8, 23] kj2 (fun kq v8 v23 w' => ∃ (x7_2 : List (S59)) (x8_2 : List Int) (x23_2 : Int), v23 = .int .i64 x23_2 ∧ Aside0 (impl_PassMinute.l0 kq a1 x7_2 x8_2 (t248.length : Int) x23_2 = some (r1, r2, r3)) ∧ Aside0 (kq ≤ kj2) ∧ Aside0 (Kd.R k59 59 w' w.heap.size (fun _ => True) (.slice Ao12 t248.length co12) x7_2) ∧ Aside0 (Kd.R (Kd.int .i64) 3 w' w.heap.size (fun _ => True) v8 x8_2) ∧ Aside0 (Below w.heap.size w w'))
    case atStart => exact ⟨(t248), (([] : List Int)), (0), zrx, H', ⟨Nat.le_refl _⟩, ⟨by (with_reducible repeat (first | apply Kd.R_alloc | apply Kd.R_drewN | apply Kd.R_drew)); exact HO250.out⟩, ⟨by first | exact Kd.R_nil _ _ _ _ _ | exact Kd.N_nil _ _ _ _ _ | exact Kd.V_nil _ _ _ _ _ | exact Kd.Q_nil _ _ _ _ _ | exact Kd.S_nil _ _ _ _ _⟩, ⟨by exact zBx HB.out⟩⟩
    case round =>
     clear H'
     try clear p2
     try clear c3
     try clear c4
     try clear c5
     try clear c7
     try clear c9
     try clear p2
     obtain ⟨x7_2, x8_2, x23_2, rfl, HA, HK2, HO_7, HO_8, HB⟩ := hrel
     have hl7_2 := (Kd.R_reads' HO_7.out).1
     rw [hl7_2] at HO_7
     (try simp only [hl7_2])
     (try simp only [hl7_2] at HO_8)
     cases gk with
     | zero => exact absurd HA.out (by simp [impl_PassMinute.l0])
     | succ k2 =>
      have H := HA.out
      clear HA
      simp only [impl_PassMinute.l0] at H
      by_cases c13 : x23_2 < (t248.length : Int)
      ·rw [if_pos c13] at H
       have c13b0 : decide (x23_2 < (t248.length : Int)) = true := decide_eq_true c13
       clear c13
       by_cases c14 : 0 ≤ x23_2
       ·rw [if_pos c14] at H
        have c14b0 : decide (0 ≤ x23_2) = true := decide_eq_true c14
        clear c14
        by_cases c15 : x23_2 < (x7_2.length : Int)
        ·rw [if_pos c15] at H
         have c15b0 : decide (x23_2 < (x7_2.length : Int)) = true := decide_eq_true c15
         clear c15
         have HC16 := Aside0.mk H
         clear H
         have p251 : 0 ≤ (x23_2 : Int) := of_decide_eq_true zax
         have q251 : x23_2 < (x7_2.length : Int) := of_decide_eq_true zax
         obtain ⟨ad251, e251, hx251_0, hx251_1, hx251_2, hx251_3⟩ := at_T59 (Kd.R_reads' HO_7.out).2.2 x23_2 p251 q251
         cases e251
         replace p251 := eq_true p251
         replace q251 := eq_true q251
         go_upto_region 9 with (first | ((with_reducible refine gate_dst (N := 10) rfl ?_); refine box_event ?hg (N := 10) ?hd (cs := #[.int .i64 0, .int .i64 0, .int .i64 0, .int .i64 0]) (t := 59) ?hr ?_; (case hd => rfl); (case hg => rfl); (case hr => exact zsx); intro gb252 hg w17 hbox hb; have n0_ := Aside0.mk (Kd.R_below (Kd.R_elderB (zRx HO_7.out) gb252 (Nat.le_of_eq hg.symm)) hb); have n1_ := Aside0.mk (Kd.R_below (zRx HO_8.out) hb); have n2_ := Aside0.mk (below_step (zBx HB.out) hb); have n3_ := Aside0.mk (hbox); have n4_ := Aside0.mk ((by rw [hg]; exact (below_size (zBx HB.out)) : w.heap.size ≤ gb252)); have n5_ := Aside0.mk ((by rw [hg]; exact (below_size (zBx HB.out)) : w.heap.size ≤ gb252)); clear HO_7; clear HO_8; clear HB; have HO_7 := n0_; have HO_8 := n1_; have HB := n2_; have BK252 := n3_; have GW252 := n4_; have GE252 := n5_; clear n0_ n1_ n2_ n3_ n4_ n5_; clear hb hbox hg; have hcz18_0 : w17.cell? ⟨gb252, 0, none⟩ = some (.int .i64 0) := (blk_cell BK252.out 0).trans rfl; have hcz18_1 : w17.cell? ⟨gb252, 1, none⟩ = some (.int .i64 0) := (blk_cell BK252.out 1).trans rfl; have hcz18_2 : w17.cell? ⟨gb252, 2, none⟩ = some (.int .i64 0) := (blk_cell BK252.out 2).trans rfl; have hcz18_3 : w17.cell? ⟨gb252, 3, none⟩ = some (.int .i64 0) := (blk_cell BK252.out 3).trans rfl; have hfz18_0 := blk_frozen BK252.out 0; have hfz18_1 := blk_frozen BK252.out 1; have hfz18_2 := blk_frozen BK252.out 2; have hfz18_3 := blk_frozen BK252.out 3))
         (try simp only [Act.put, List.setIfInBounds_toArray, List.set_cons_zero, List.set_cons_succ])
         go_cut [41] (fun v41 wc => ∃ (kq : Nat) (x41_15 : Bool), v41 = .bool x41_15 ∧ Aside0 (impl_PassMinute.j2 kq a1 x7_2 x8_2 x23_2 (t248.length : Int) x23_2 x41_15 ((rd_T59 x7_2 x23_2).f0) ((rd_T59 x7_2 x23_2).f1) ((rd_T59 x7_2 x23_2).f2) ((rd_T59 x7_2 x23_2).f3) = some (r1, r2, r3)) ∧ Aside0 (kq ≤ k2) ∧ Aside0 (Kd.R k59 59 wc w.heap.size (fun k_ => k_ ≠ gb252) (.slice (some ad251) x7_2.length co12) x7_2) ∧ Aside0 (Kd.R (Kd.int .i64) 3 wc w.heap.size (fun _ => True) u8 x8_2) ∧ Aside0 (wc.heap[gb252]? = some (.cells #[.int .i64 ((rd_T59 x7_2 x23_2).f0), .int .i64 ((rd_T59 x7_2 x23_2).f1), .int .i64 ((rd_T59 x7_2 x23_2).f2), .int .i64 ((rd_T59 x7_2 x23_2).f3)] 59 (0, 0))) ∧ Aside0 (Below w.heap.size w wc))
         case first =>
          have H := HC16.out
          clear HC16
          by_cases c19 : ((rd_T59 x7_2 x23_2).f1) = 2
          ·rw [if_pos c19] at H
           have c19b0 : (((rd_T59 x7_2 x23_2).f1) == 2) = true := beq_iff_eq.mpr c19
           have c19b1 : (((rd_T59 x7_2 x23_2).f1) != 2) = false := bne_eq_false_iff_eq.mpr c19
           clear c19
           (first | rw [c19b0] | (simp only [i64_w, i32_w]; rw [c19b0]) | skip)
           focus
            have H' := Aside0.mk H
            clear H
            have hcz20_0 : w17.cell? ⟨gb252, 0, none⟩ = some (.int .i64 0) := (blk_cell BK252.out 0).trans rfl
            have hcz20_1 : w17.cell? ⟨gb252, 1, none⟩ = some (.int .i64 0) := (blk_cell BK252.out 1).trans rfl
            have hcz20_2 : w17.cell? ⟨gb252, 2, none⟩ = some (.int .i64 0) := (blk_cell BK252.out 2).trans rfl
            have hcz20_3 : w17.cell? ⟨gb252, 3, none⟩ = some (.int .i64 0) := (blk_cell BK252.out 3).trans rfl
            have hfz20_0 := blk_frozen BK252.out 0
            have hfz20_1 := blk_frozen BK252.out 1
            have hfz20_2 := blk_frozen BK252.out 2
            have hfz20_3 := blk_frozen BK252.out 3
            go_wp2
            go_meet
            case rel => exact ⟨_, (decide (((rd_T59 x7_2 x23_2).f3) > a1)), zrx, H', ⟨by have := HJ2.out; have := HK2.out; first | omega | exact Nat.le_refl _⟩, ⟨by (try simp only [hl7_2]); (with_reducible repeat (first | apply Kd.R_alloc | apply Kd.R_drewN | apply Kd.R_drew)); exact Kd.R_mono (Kd.R_far (p := ⟨gb252, 3, none⟩) (Kd.R_far (p := ⟨gb252, 2, none⟩) (Kd.R_far (p := ⟨gb252, 1, none⟩) (Kd.R_far (p := ⟨gb252, 0, none⟩) (Kd.R_mono HO_7.out (fun k_ hk => (⟨hk, hk.2⟩ : _ ∧ k_ ≠ gb252))) (fun _ hk => hk.2) (.int .i64 ((rd_T59 x7_2 x23_2).f0))) (fun _ hk => hk.2) (.int .i64 ((rd_T59 x7_2 x23_2).f1))) (fun _ hk => hk.2) (.int .i64 ((rd_T59 x7_2 x23_2).f2))) (fun _ hk => hk.2) (.int .i64 ((rd_T59 x7_2 x23_2).f3))) (fun _ hk => hk.1.2)⟩, ⟨by (try simp only [hl7_2]); (with_reducible repeat (first | apply Kd.R_alloc | apply Kd.R_drewN | apply Kd.R_drew)); exact Kd.R_mono (Kd.R_far (p := ⟨gb252, 3, none⟩) (Kd.R_far (p := ⟨gb252, 2, none⟩) (Kd.R_far (p := ⟨gb252, 1, none⟩) (Kd.R_far (p := ⟨gb252, 0, none⟩) (Kd.R_types HO_8.out BK252.out (by decide)) (fun _ hk => hk.2) (.int .i64 ((rd_T59 x7_2 x23_2).f0))) (fun _ hk => hk.2) (.int .i64 ((rd_T59 x7_2 x23_2).f1))) (fun _ hk => hk.2) (.int .i64 ((rd_T59 x7_2 x23_2).f2))) (fun _ hk => hk.2) (.int .i64 ((rd_T59 x7_2 x23_2).f3))) (fun _ hk => trivial)⟩, ⟨by (try simp only [hl7_2]); (with_reducible repeat (first | refine blk_drewN ?_ _ | refine blk_drew ?_ | refine blk_alloc ?_ _)); refine blk_put (cs := #[.int .i64 ((rd_T59 x7_2 x23_2).f0), .int .i64 ((rd_T59 x7_2 x23_2).f1), .int .i64 ((rd_T59 x7_2 x23_2).f2), .int .i64 0]) ?_ 3 _ rfl; (with_reducible repeat (first | refine blk_drewN ?_ _ | refine blk_drew ?_ | refine blk_alloc ?_ _)); refine blk_put (cs := #[.int .i64 ((rd_T59 x7_2 x23_2).f0), .int .i64 ((rd_T59 x7_2 x23_2).f1), .int .i64 0, .int .i64 0]) ?_ 2 _ rfl; (with_reducible repeat (first | refine blk_drewN ?_ _ | refine blk_drew ?_ | refine blk_alloc ?_ _)); refine blk_put (cs := #[.int .i64 ((rd_T59 x7_2 x23_2).f0), .int .i64 0, .int .i64 0, .int .i64 0]) ?_ 1 _ rfl; (with_reducible repeat (first | refine blk_drewN ?_ _ | refine blk_drew ?_ | refine blk_alloc ?_ _)); refine blk_put (cs := #[.int .i64 0, .int .i64 0, .int .i64 0, .int .i64 0]) ?_ 0 _ rfl; (with_reducible repeat (first | refine blk_drewN ?_ _ | refine blk_drew ?_ | refine blk_alloc ?_ _)); exact BK252.out⟩, ⟨by exact zBy HB.out GE252.out⟩⟩
          ·rw [if_neg c19] at H
           have c19b0 : (((rd_T59 x7_2 x23_2).f1) == 2) = false := beq_eq_false_iff_ne.mpr c19
           have c19b1 : (((rd_T59 x7_2 x23_2).f1) != 2) = true := bne_iff_ne.mpr c19
           (first | rw [c19b0] | (simp only [i64_w, i32_w]; rw [c19b0]) | skip)
           focus
            have H' := Aside0.mk H
            clear H
            have hcz21_0 : w17.cell? ⟨gb252, 0, none⟩ = some (.int .i64 0) := (blk_cell BK252.out 0).trans rfl
            have hcz21_1 : w17.cell? ⟨gb252, 1, none⟩ = some (.int .i64 0) := (blk_cell BK252.out 1).trans rfl
            have hcz21_2 : w17.cell? ⟨gb252, 2, none⟩ = some (.int .i64 0) := (blk_cell BK252.out 2).trans rfl
            have hcz21_3 : w17.cell? ⟨gb252, 3, none⟩ = some (.int .i64 0) := (blk_cell BK252.out 3).trans rfl
            have hfz21_0 := blk_frozen BK252.out 0
            have hfz21_1 := blk_frozen BK252.out 1
            have hfz21_2 := blk_frozen BK252.out 2
            have hfz21_3 := blk_frozen BK252.out 3
            go_wp2
            go_meet
            case rel => exact ⟨_, (true), zrx, H', ⟨by have := HJ2.out; have := HK2.out; first | omega | exact Nat.le_refl _⟩, ⟨by (try simp only [hl7_2]); (with_reducible repeat (first | apply Kd.R_alloc | apply Kd.R_drewN | apply Kd.R_drew)); exact Kd.R_mono (Kd.R_far (p := ⟨gb252, 3, none⟩) (Kd.R_far (p := ⟨gb252, 2, none⟩) (Kd.R_far (p := ⟨gb252, 1, none⟩) (Kd.R_far (p := ⟨gb252, 0, none⟩) (Kd.R_mono HO_7.out (fun k_ hk => (⟨hk, hk.2⟩ : _ ∧ k_ ≠ gb252))) (fun _ hk => hk.2) (.int .i64 ((rd_T59 x7_2 x23_2).f0))) (fun _ hk => hk.2) (.int .i64 ((rd_T59 x7_2 x23_2).f1))) (fun _ hk => hk.2) (.int .i64 ((rd_T59 x7_2 x23_2).f2))) (fun _ hk => hk.2) (.int .i64 ((rd_T59 x7_2 x23_2).f3))) (fun _ hk => hk.1.2)⟩, ⟨by (try simp only [hl7_2]); (with_reducible repeat (first | apply Kd.R_alloc | apply Kd.R_drewN | apply Kd.R_drew)); exact Kd.R_mono (Kd.R_far (p := ⟨gb252, 3, none⟩) (Kd.R_far (p := ⟨gb252, 2, none⟩) (Kd.R_far (p := ⟨gb252, 1, none⟩) (Kd.R_far (p := ⟨gb252, 0, none⟩) (Kd.R_types HO_8.out BK252.out (by decide)) (fun _ hk => hk.2) (.int .i64 ((rd_T59 x7_2 x23_2).f0))) (fun _ hk => hk.2) (.int .i64 ((rd_T59 x7_2 x23_2).f1))) (fun _ hk => hk.2) (.int .i64 ((rd_T59 x7_2 x23_2).f2))) (fun _ hk => hk.2) (.int .i64 ((rd_T59 x7_2 x23_2).f3))) (fun _ hk => trivial)⟩, ⟨by (try simp only [hl7_2]); (with_reducible repeat (first | refine blk_drewN ?_ _ | refine blk_drew ?_ | refine blk_alloc ?_ _)); refine blk_put (cs := #[.int .i64 ((rd_T59 x7_2 x23_2).f0), .int .i64 ((rd_T59 x7_2 x23_2).f1), .int .i64 ((rd_T59 x7_2 x23_2).f2), .int .i64 0]) ?_ 3 _ rfl; (with_reducible repeat (first | refine blk_drewN ?_ _ | refine blk_drew ?_ | refine blk_alloc ?_ _)); refine blk_put (cs := #[.int .i64 ((rd_T59 x7_2 x23_2).f0), .int .i64 ((rd_T59 x7_2 x23_2).f1), .int .i64 0, .int .i64 0]) ?_ 2 _ rfl; (with_reducible repeat (first | refine blk_drewN ?_ _ | refine blk_drew ?_ | refine blk_alloc ?_ _)); refine blk_put (cs := #[.int .i64 ((rd_T59 x7_2 x23_2).f0), .int .i64 0, .int .i64 0, .int .i64 0]) ?_ 1 _ rfl; (with_reducible repeat (first | refine blk_drewN ?_ _ | refine blk_drew ?_ | refine blk_alloc ?_ _)); refine blk_put (cs := #[.int .i64 0, .int .i64 0, .int .i64 0, .int .i64 0]) ?_ 0 _ rfl; (with_reducible repeat (first | refine blk_drewN ?_ _ | refine blk_drew ?_ | refine blk_alloc ?_ _)); exact BK252.out⟩, ⟨by exact zBy HB.out GE252.out⟩⟩
         case rest =>
          clear HC16
          try clear c1
          try clear p2
          try clear q2
          try clear hx2
          try clear c3
          try clear c4
          try clear c5
          try clear c7
          try clear c9
          try clear c13
          try clear c13b0
          try clear c14
          try clear c14b0
          try clear c15
          try clear c15b0
          try clear c19
          try clear c19b0
          try clear c19b1
          try clear hcz18_0
          try clear hcz18_1
          try clear hcz18_2
          try clear hcz18_3
          try clear hcz20_0
          try clear hcz20_1
          try clear hcz20_2
          try clear hcz20_3
          try clear hcz21_0
          try clear hcz21_1
          try clear hcz21_2
          try clear hcz21_3
          try clear hfz18_0
          try clear hfz18_1
          try clear hfz18_2
          try clear hfz18_3
          try clear hfz20_0
          try clear hfz20_1
          try clear hfz20_2
          try clear hfz20_3
          try clear hfz21_0
          try clear hfz21_1
          try clear hfz21_2
          try clear hfz21_3
          try clear hx251_0
          try clear hx251_1
          try clear hx251_2
          try clear hx251_3
          try clear p2
          try clear p251
          try clear q251
          obtain ⟨kq, x41_15, rfl, HA, HJ15, HO_7, HO_8, BK252, HB⟩ := hcut
          cases kq with
          | zero => exact absurd HA.out (by simp [impl_PassMinute.j2])
          | succ kj15 =>
           have H := HA.out
           clear HA
           simp only [impl_PassMinute.j2] at H
           by_cases c22 : x41_15 = true
           ·subst c22
            have H1 : (impl_PassMinute.l0 kj15 a1 x7_2 x8_2 (t248.length : Int) (wrap64 (x23_2 + 1))) = some (r1, r2, r3) := by rw [if_pos rfl] at H; exact H
            clear H
            have H := H1
            clear H1
            focus
             have H' := Aside0.mk H
             clear H
             go_wp2
             (try simp only [← hl7_2])
             go_roundg kj15
             case measure => have := HJ2.out; have := HK2.out; have := HJ15.out; omega
             case rel => exact ⟨(x7_2), (x8_2), (wrap64 (x23_2 + 1)), zrx, H', ⟨by have := HJ2.out; have := HK2.out; have := HJ15.out; omega⟩, ⟨by (try simp only [hl7_2]); (with_reducible repeat (first | apply Kd.R_alloc | apply Kd.R_drewN | apply Kd.R_drew)); exact Kd.R_mono HO_7.out (fun _ hk => trivial)⟩, ⟨by (try simp only [hl7_2]); (with_reducible repeat (first | apply Kd.R_alloc | apply Kd.R_drewN | apply Kd.R_drew)); exact HO_8.out⟩, ⟨by exact zBy HB.out GE252.out⟩⟩
           ·replace c22 := Bool.eq_false_iff.mpr c22
            subst c22
            have H1 : (if ((rd_T59 x7_2 x23_2).f2) = 5 then (if 0 ≤ x23_2 then (if x23_2 < (x7_2.length : Int) then ((some (x7_2.set (x23_2 : Int).toNat (⟨(rd_T59 x7_2 x23_2).f0, 4, (rd_T59 x7_2 x23_2).f2, (rd_T59 x7_2 x23_2).f3⟩ : S59) : List (S59))).bind fun y253 => (if x8_2.length < 17592186044416 then (impl_PassMinute.l0 kj15 a1 (y253.set (x23_2 : Int).toNat (⟨(rd_T59 y253 x23_2).f0, (rd_T59 y253 x23_2).f1, (rd_T59 y253 x23_2).f2, 0⟩ : S59)) (x8_2 ++ [((rd_T59 x7_2 x23_2).f0)]) (t248.length : Int) (wrap64 (x23_2 + 1))) else (none))) else (none)) else (none)) else (if 0 ≤ ((rd_T59 x7_2 x23_2).f2) then (if 0 ≤ x23_2 then (if x23_2 < (x7_2.length : Int) then ((some (x7_2.set (x23_2 : Int).toNat (⟨(rd_T59 x7_2 x23_2).f0, 1, (rd_T59 x7_2 x23_2).f2, (rd_T59 x7_2 x23_2).f3⟩ : S59) : List (S59))).bind fun y258 => (impl_PassMinute.l0 kj15 a1 (y258.set (x23_2 : Int).toNat (⟨(rd_T59 y258 x23_2).f0, (rd_T59 y258 x23_2).f1, (rd_T59 y258 x23_2).f2, wrap64 (a1 + (shl .i64 1 ((rd_T59 x7_2 x23_2).f2)))⟩ : S59)) x8_2 (t248.length : Int) (wrap64 (x23_2 + 1)))) else (none)) else (none)) else (none))) = some (r1, r2, r3) := by rw [if_neg (show ¬ (false = true) by decide)] at H; exact H
            clear H
            have H := H1
            clear H1
            by_cases c23 : ((rd_T59 x7_2 x23_2).f2) = 5
            ·rw [if_pos c23] at H
             have c23b0 : (((rd_T59 x7_2 x23_2).f2) == 5) = true := beq_iff_eq.mpr c23
             have c23b1 : (((rd_T59 x7_2 x23_2).f2) != 5) = false := bne_eq_false_iff_eq.mpr c23
             clear c23
             by_cases c24 : 0 ≤ x23_2
             ·rw [if_pos c24] at H
              have c24b0 : decide (0 ≤ x23_2) = true := decide_eq_true c24
              clear c24
              by_cases c25 : x23_2 < (x7_2.length : Int)
              ·rw [if_pos c25] at H
               have c25b0 : decide (x23_2 < (x7_2.length : Int)) = true := decide_eq_true c25
               clear c25
               obtain ⟨y253, hy253⟩ : ∃ y_ : List (S59), y_ = (x7_2.set (x23_2 : Int).toNat (⟨(rd_T59 x7_2 x23_2).f0, 4, (rd_T59 x7_2 x23_2).f2, (rd_T59 x7_2 x23_2).f3⟩ : S59)) := ⟨_, rfl⟩
               replace H : (if x8_2.length < 17592186044416 then (impl_PassMinute.l0 kj15 a1 (y253.set (x23_2 : Int).toNat (⟨(rd_T59 y253 x23_2).f0, (rd_T59 y253 x23_2).f1, (rd_T59 y253 x23_2).f2, 0⟩ : S59)) (x8_2 ++ [((rd_T59 x7_2 x23_2).f0)]) (t248.length : Int) (wrap64 (x23_2 + 1))) else (none)) = some (r1, r2, r3) := by first | (rw [hy253]; with_reducible exact H) | (have H2_ := (Option.bind_some _ _).symm.trans H; rw [hy253]; with_reducible exact H2_) | (have H2_ := (Option.bind_some _ _).symm.trans H; with_reducible exact H2_) | with_reducible exact H | (rw [hy253]; exact H) | exact H
               have Ny253 := Aside0.mk hy253
               clear hy253
               obtain ⟨y254, hy254⟩ : ∃ y_ : List (S59), y_ = (y253.set (x23_2 : Int).toNat (⟨(rd_T59 y253 x23_2).f0, (rd_T59 y253 x23_2).f1, (rd_T59 y253 x23_2).f2, 0⟩ : S59)) := ⟨_, rfl⟩
               replace H : (if x8_2.length < 17592186044416 then (impl_PassMinute.l0 kj15 a1 y254 (x8_2 ++ [((rd_T59 x7_2 x23_2).f0)]) (t248.length : Int) (wrap64 (x23_2 + 1))) else (none)) = some (r1, r2, r3) := by first | (rw [hy254]; with_reducible exact H) | (have H2_ := (Option.bind_some _ _).symm.trans H; rw [hy254]; with_reducible exact H2_) | (have H2_ := (Option.bind_some _ _).symm.trans H; with_reducible exact H2_) | with_reducible exact H | (rw [hy254]; exact H) | exact H
               have Ny254 := Aside0.mk hy254
               clear hy254
               by_cases c28 : x8_2.length < 17592186044416
               ·rw [if_pos c28] at H
                have LMc28 := Aside0.mk c28
                clear c28
                obtain ⟨y255, hy255⟩ : ∃ y_ : List Int, y_ = (x8_2 ++ [((rd_T59 x7_2 x23_2).f0)]) := ⟨_, rfl⟩
                replace H : (impl_PassMinute.l0 kj15 a1 y254 y255 (t248.length : Int) (wrap64 (x23_2 + 1))) = some (r1, r2, r3) := by first | (rw [hy255]; with_reducible exact H) | (have H2_ := (Option.bind_some _ _).symm.trans H; rw [hy255]; with_reducible exact H2_) | (have H2_ := (Option.bind_some _ _).symm.trans H; with_reducible exact H2_) | with_reducible exact H | (rw [hy255]; exact H) | exact H
                have Ny255 := Aside0.mk hy255
                clear hy255
                focus
                 have H' := Aside0.mk H
                 clear H
                 have hcz29_0 : wc.cell? ⟨gb252, 0, none⟩ = some (.int .i64 ((rd_T59 x7_2 x23_2).f0)) := (blk_cell BK252.out 0).trans rfl
                 have hcz29_1 : wc.cell? ⟨gb252, 1, none⟩ = some (.int .i64 ((rd_T59 x7_2 x23_2).f1)) := (blk_cell BK252.out 1).trans rfl
                 have hcz29_2 : wc.cell? ⟨gb252, 2, none⟩ = some (.int .i64 ((rd_T59 x7_2 x23_2).f2)) := (blk_cell BK252.out 2).trans rfl
                 have hcz29_3 : wc.cell? ⟨gb252, 3, none⟩ = some (.int .i64 ((rd_T59 x7_2 x23_2).f3)) := (blk_cell BK252.out 3).trans rfl
                 have hfz29_0 := blk_frozen BK252.out 0
                 have hfz29_1 := blk_frozen BK252.out 1
                 have hfz29_2 := blk_frozen BK252.out 2
                 have hfz29_3 := blk_frozen BK252.out 3
                 have p26 : 0 ≤ (x23_2 : Int) := of_decide_eq_true zax
                 have q26 : (x23_2 : Int) < ((x7_2.length : Int) : Int) := of_decide_eq_true zax
                 obtain ⟨go26, co26, eo26, gb26, gl26, cl26, HG26⟩ := Kd.R_form HO_7.out (by omega)
                 (first | cases eo26 | (injection eo26 with ea_ en_ ec_; (first | subst ea_ | (injection ea_ with ea_; subst ea_)); subst ec_; clear en_))
                 have GB26 := Aside0.mk gb26
                 have GG26 := Aside0.mk HG26
                 clear gb26 gl26 HG26
                 (first | simp only [add_plain] at hx251_0 | skip)
                 (first | simp only [add_plain] at hx251_1 | skip)
                 (first | simp only [add_plain] at hx251_2 | skip)
                 (first | simp only [add_plain] at hx251_3 | skip)
                 obtain ⟨ce26, hcl26, hM26, hcc26, hfr26⟩ := Kd.R_elem HO_7.out z59 (x23_2 : Int) p26 q26
                 obtain rfl := k59_openM hM26
                 have hx26_0 : wc.cell? ⟨go26, (x23_2 : Int).toNat * 4, none⟩ = some (.int .i64 ((rd_T59 x7_2 x23_2).f0)) := hcc26 0 _ rfl
                 have hx26_1 : wc.cell? ⟨go26, (x23_2 : Int).toNat * 4 + 1, none⟩ = some (.int .i64 ((rd_T59 x7_2 x23_2).f1)) := hcc26 1 _ rfl
                 have hx26_2 : wc.cell? ⟨go26, (x23_2 : Int).toNat * 4 + 2, none⟩ = some (.int .i64 ((rd_T59 x7_2 x23_2).f2)) := hcc26 2 _ rfl
                 have hx26_3 : wc.cell? ⟨go26, (x23_2 : Int).toNat * 4 + 3, none⟩ = some (.int .i64 ((rd_T59 x7_2 x23_2).f3)) := hcc26 3 _ rfl
                 have hf26_0 : wc.frozen? ⟨go26, (x23_2 : Int).toNat * 4, none⟩ = false := hfr26 0
                 have hf26_1 : wc.frozen? ⟨go26, (x23_2 : Int).toNat * 4 + 1, none⟩ = false := hfr26 1
                 have hf26_2 : wc.frozen? ⟨go26, (x23_2 : Int).toNat * 4 + 2, none⟩ = false := hfr26 2
                 have hf26_3 : wc.frozen? ⟨go26, (x23_2 : Int).toNat * 4 + 3, none⟩ = false := hfr26 3
                 clear hcl26 hcc26 hfr26 hM26
                 replace p26 := eq_true p26
                 replace q26 := eq_true q26
                 have HX30 := Aside0.mk (show Kd.R k59 59 wc w.heap.size (fun k_ => k_ ≠ gb252) (.slice (some ⟨go26, 0, none⟩) x7_2.length co12) x7_2 from (zRx HO_7.out))
                 obtain ⟨ce30, hcl30, hM30, hcc30, hfr30⟩ := Kd.R_elem HX30.out z59 (x23_2 : Int) (of_decide_eq_true zax) (by have h_ : (x23_2 : Int) < ((x7_2.length : Int) : Int) := of_decide_eq_true zax; first | exact h_ | (have e_ := (Kd.R_reads' HO_7.out).1; omega) | simpa using h_)
                 obtain rfl := k59_openM hM30
                 have HP30 := Kd.R_seg HX30.out (x23_2 : Int) (of_decide_eq_true zax) (by have h_ : (x23_2 : Int) < ((x7_2.length : Int) : Int) := of_decide_eq_true zax; first | exact h_ | (have e_ := (Kd.R_reads' HO_7.out).1; omega) | simpa using h_) (seg := [.int .i64 4]) (j := 1) hcl30 hcc30 (show 2 ≤ 4 from by decide) (x' := (⟨(rd_T59 x7_2 x23_2).f0, 4, (rd_T59 x7_2 x23_2).f2, (rd_T59 x7_2 x23_2).f3⟩ : S59)) (k59_mkM _ _ _ (⟨(rd_T59 x7_2 x23_2).f0, 4, (rd_T59 x7_2 x23_2).f2, (rd_T59 x7_2 x23_2).f3⟩ : S59) ) (fun _ hk => hk)
                 have hx30_1 := hcc30 1 _ rfl
                 (try simp only [show (k59).sz = 4 from rfl, Nat.mul_one, Nat.add_zero] at hx30_1)
                 have hf30_1 := hfr30 1
                 (try simp only [show (k59).sz = 4 from rfl, Nat.mul_one, Nat.add_zero] at hf30_1)
                 clear hcl30 hcc30 hfr30 hM30
                 go_wp2_with (first | ((with_reducible refine gate_store (t := 3) (p := 60) rfl ?_); refine store_event (t := 3) (p := 60) (v := ?vo_w31) (w1 := (wc.setCell ⟨go26, (x23_2 : Int).toNat * 4 + 1, none⟩ (.int .i64 4))) ?hg ?ho ?hn ?hr ?_; (case ho => rfl); (case hg => rfl); (case hn => rfl); (case hr => exact zsx); intro w31 hw; have hg : wc.grownBy w31 (some go26) := (by rw [hw]; exact HP30.2); have hp_ : Kd.R k59 59 w31 w.heap.size (fun k_ => k_ ≠ gb252) (.slice (some ⟨go26, 0, none⟩) x7_2.length co12) y253 := (by rw [hw, Ny253.out]; exact HP30.1); clear HP30; have n0_ := Aside0.mk (hp_); have n1_ := Aside0.mk (Kd.R_over' (v := (.slice (some ⟨go26, 0, none⟩) x7_2.length co12)) (zRx HO_8.out) (Kd.R_typed HO_7.out) (by decide) hg); have n2_ := Aside0.mk (blk_grown (g := gb252) (o := .cells #[.int .i64 ((rd_T59 x7_2 x23_2).f0), .int .i64 ((rd_T59 x7_2 x23_2).f1), .int .i64 ((rd_T59 x7_2 x23_2).f2), .int .i64 ((rd_T59 x7_2 x23_2).f3)] 59 (0, 0)) (zbx BK252.out) hg (Kd.R_away HO_7.out (fun _ hk => hk))); have n3_ := Aside0.mk ((by rw [hw]; exact below_set (HB.out) GB26.out : Below w.heap.size w w31)); clear HO_7; clear HO_8; clear BK252; clear HB; have HO_7 := n0_; have HO_8 := n1_; have BK252 := n2_; have HB := n3_; clear n0_ n1_ n2_ n3_; clear hg hw hp_; have p27 : 0 ≤ (x23_2 : Int) := of_decide_eq_true zax; have q27 : (x23_2 : Int) < ((x7_2.length : Int) : Int) := of_decide_eq_true zax; obtain ⟨ce27, hcl27, hM27, hcc27, hfr27⟩ := Kd.R_elem HO_7.out z59 (x23_2 : Int) p27 q27; obtain rfl := k59_openM hM27; have hx27_0 : w31.cell? ⟨go26, (x23_2 : Int).toNat * 4, none⟩ = some (.int .i64 ((rd_T59 y253 x23_2).f0)) := hcc27 0 _ rfl; have hx27_1 : w31.cell? ⟨go26, (x23_2 : Int).toNat * 4 + 1, none⟩ = some (.int .i64 ((rd_T59 y253 x23_2).f1)) := hcc27 1 _ rfl; have hx27_2 : w31.cell? ⟨go26, (x23_2 : Int).toNat * 4 + 2, none⟩ = some (.int .i64 ((rd_T59 y253 x23_2).f2)) := hcc27 2 _ rfl; have hx27_3 : w31.cell? ⟨go26, (x23_2 : Int).toNat * 4 + 3, none⟩ = some (.int .i64 ((rd_T59 y253 x23_2).f3)) := hcc27 3 _ rfl; have hf27_0 : w31.frozen? ⟨go26, (x23_2 : Int).toNat * 4, none⟩ = false := hfr27 0; have hf27_1 : w31.frozen? ⟨go26, (x23_2 : Int).toNat * 4 + 1, none⟩ = false := hfr27 1; have hf27_2 : w31.frozen? ⟨go26, (x23_2 : Int).toNat * 4 + 2, none⟩ = false := hfr27 2; have hf27_3 : w31.frozen? ⟨go26, (x23_2 : Int).toNat * 4 + 3, none⟩ = false := hfr27 3; clear hcl27 hcc27 hfr27 hM27; replace p27 := eq_true p27; replace q27 := eq_true q27; have HX32 := Aside0.mk (show Kd.R k59 59 w31 w.heap.size (fun k_ => k_ ≠ gb252) (.slice (some ⟨go26, 0, none⟩) x7_2.length co12) y253 from (zRx HO_7.out)); obtain ⟨ce32, hcl32, hM32, hcc32, hfr32⟩ := Kd.R_elem HX32.out z59 (x23_2 : Int) (of_decide_eq_true zax) (by have h_ : (x23_2 : Int) < ((x7_2.length : Int) : Int) := of_decide_eq_true zax; first | exact h_ | (have e_ := (Kd.R_reads' HO_7.out).1; omega) | simpa using h_); obtain rfl := k59_openM hM32; have HP32 := Kd.R_seg HX32.out (x23_2 : Int) (of_decide_eq_true zax) (by have h_ : (x23_2 : Int) < ((x7_2.length : Int) : Int) := of_decide_eq_true zax; first | exact h_ | (have e_ := (Kd.R_reads' HO_7.out).1; omega) | simpa using h_) (seg := [.int .i64 0]) (j := 3) hcl32 hcc32 (show 4 ≤ 4 from by decide) (x' := (⟨(rd_T59 y253 x23_2).f0, (rd_T59 y253 x23_2).f1, (rd_T59 y253 x23_2).f2, 0⟩ : S59)) (k59_mkM _ _ _ (⟨(rd_T59 y253 x23_2).f0, (rd_T59 y253 x23_2).f1, (rd_T59 y253 x23_2).f2, 0⟩ : S59) ) (fun _ hk => hk); have hx32_3 := hcc32 3 _ rfl; (try simp only [show (k59).sz = 4 from rfl, Nat.mul_one, Nat.add_zero] at hx32_3); have hf32_3 := hfr32 3; (try simp only [show (k59).sz = 4 from rfl, Nat.mul_one, Nat.add_zero] at hf32_3); clear hcl32 hcc32 hfr32 hM32) | ((with_reducible refine gate_store (t := 3) (p := 62) rfl ?_); refine store_event (t := 3) (p := 62) (v := ?vo_w33) (w1 := (w31.setCell ⟨go26, (x23_2 : Int).toNat * 4 + 3, none⟩ (.int .i64 0))) ?hg ?ho ?hn ?hr ?_; (case ho => rfl); (case hg => rfl); (case hn => rfl); (case hr => exact zsx); intro w33 hw; have hg : w31.grownBy w33 (some go26) := (by rw [hw]; exact HP32.2); have hp_ : Kd.R k59 59 w33 w.heap.size (fun k_ => k_ ≠ gb252) (.slice (some ⟨go26, 0, none⟩) x7_2.length co12) y254 := (by rw [hw, Ny254.out]; exact HP32.1); clear HP32; have n0_ := Aside0.mk (hp_); have n1_ := Aside0.mk (Kd.R_over' (v := (.slice (some ⟨go26, 0, none⟩) x7_2.length co12)) (zRx HO_8.out) (Kd.R_typed HO_7.out) (by decide) hg); have n2_ := Aside0.mk (blk_grown (g := gb252) (o := .cells #[.int .i64 ((rd_T59 x7_2 x23_2).f0), .int .i64 ((rd_T59 x7_2 x23_2).f1), .int .i64 ((rd_T59 x7_2 x23_2).f2), .int .i64 ((rd_T59 x7_2 x23_2).f3)] 59 (0, 0)) (zbx BK252.out) hg (Kd.R_away HO_7.out (fun _ hk => hk))); have n3_ := Aside0.mk ((by rw [hw]; exact below_set (HB.out) GB26.out : Below w.heap.size w w33)); clear HO_7; clear HO_8; clear BK252; clear HB; have HO_7 := n0_; have HO_8 := n1_; have BK252 := n2_; have HB := n3_; clear n0_ n1_ n2_ n3_; clear hg hw hp_; have hcz34_0 : w33.cell? ⟨gb252, 0, none⟩ = some (.int .i64 ((rd_T59 x7_2 x23_2).f0)) := (blk_cell BK252.out 0).trans rfl; have hcz34_1 : w33.cell? ⟨gb252, 1, none⟩ = some (.int .i64 ((rd_T59 x7_2 x23_2).f1)) := (blk_cell BK252.out 1).trans rfl; have hcz34_2 : w33.cell? ⟨gb252, 2, none⟩ = some (.int .i64 ((rd_T59 x7_2 x23_2).f2)) := (blk_cell BK252.out 2).trans rfl; have hcz34_3 : w33.cell? ⟨gb252, 3, none⟩ = some (.int .i64 ((rd_T59 x7_2 x23_2).f3)) := (blk_cell BK252.out 3).trans rfl; have hfz34_0 := blk_frozen BK252.out 0; have hfz34_1 := blk_frozen BK252.out 1; have hfz34_2 := blk_frozen BK252.out 2; have hfz34_3 := blk_frozen BK252.out 3) | ((with_reducible refine gate_builtin (b := .append) (xs := #[.tmp 63, .tmp 66]) rfl ?_); at_builtin; refine Kd.R_append (Kd.int .i64) (w0 := w) w.heap.size rfl (.tmp 63) (.tmp 66) 36 3 (.int .i64 0) 8 rfl Try.underlying36 info3 rfl (by decide) (by omega) u8 x8_2 ((rd_T59 x7_2 x23_2).f0) [.int .i64 ((rd_T59 x7_2 x23_2).f0)] (fun _ => True) (fun _ => False) rfl rfl ?aP (fun _ hk => hk.elim) ?aF ?aO ?aB ?aS ?aL ?_; (case aP => exact rfl); (case aB => exact (zBy HB.out GE252.out)); (case aF => exact (fun _ _ => trivial)); (case aO => exact (zRx HO_8.out)); (case aS => exact (below_size (zBy HB.out GE252.out))); (case aL => have := LMc28.out; omega); intro v256 w35 ho hb hg hat; rw [← Ny255.out] at ho; have n0_ := Aside0.mk (Kd.R_over' (zRx HO_7.out) (Kd.R_typed (zRx HO_8.out)) (by decide) hg); have n1_ := Aside0.mk (blk_grown (g := gb252) (o := .cells #[.int .i64 ((rd_T59 x7_2 x23_2).f0), .int .i64 ((rd_T59 x7_2 x23_2).f1), .int .i64 ((rd_T59 x7_2 x23_2).f2), .int .i64 ((rd_T59 x7_2 x23_2).f3)] 59 (0, 0)) (zbx BK252.out) hg (Kd.R_ne HO_8.out BK252.out (by decide))); have n2_ := Aside0.mk (hb); have n3_ := Aside0.mk (ho); clear HO_7; clear BK252; clear HB; clear HO_8; have HO_7 := n0_; have BK252 := n1_; have HB := n2_; have HO257 := n3_; clear n0_ n1_ n2_ n3_; clear ho hb hg hat))
                 (try simp only [← hl7_2])
                 go_roundg kj15
                 case measure => have := HJ2.out; have := HK2.out; have := HJ15.out; omega
                 case rel => exact ⟨(y254), (y255), (wrap64 (x23_2 + 1)), zrx, H', ⟨by have := HJ2.out; have := HK2.out; have := HJ15.out; omega⟩, ⟨by (try simp only [hl7_2]); (with_reducible repeat (first | apply Kd.R_alloc | apply Kd.R_drewN | apply Kd.R_drew)); exact Kd.R_mono HO_7.out (fun _ hk => trivial)⟩, ⟨by (try simp only [hl7_2]); (with_reducible repeat (first | apply Kd.R_alloc | apply Kd.R_drewN | apply Kd.R_drew)); exact HO257.out⟩, ⟨by exact zBy HB.out GE252.out⟩⟩
               ·rw [if_neg c28] at H
                exact absurd H (by simp)
              ·rw [if_neg c25] at H
               exact absurd H (by simp)
             ·rw [if_neg c24] at H
              exact absurd H (by simp)
            ·rw [if_neg c23] at H
             have c23b0 : (((rd_T59 x7_2 x23_2).f2) == 5) = false := beq_eq_false_iff_ne.mpr c23
             have c23b1 : (((rd_T59 x7_2 x23_2).f2) != 5) = true := bne_iff_ne.mpr c23
             by_cases c36 : 0 ≤ ((rd_T59 x7_2 x23_2).f2)
             ·rw [if_pos c36] at H
              have c36b0 := eq_true c36
              have c36b1 : decide (0 ≤ ((rd_T59 x7_2 x23_2).f2)) = true := decide_eq_true c36
              clear c36
              obtain ⟨ji37, hji37⟩ : ∃ j_ : Int, (shl .i64 1 ((rd_T59 x7_2 x23_2).f2)) = j_ := ⟨_, rfl⟩
              replace H : (if 0 ≤ x23_2 then (if x23_2 < (x7_2.length : Int) then ((some (x7_2.set (x23_2 : Int).toNat (⟨(rd_T59 x7_2 x23_2).f0, 1, (rd_T59 x7_2 x23_2).f2, (rd_T59 x7_2 x23_2).f3⟩ : S59) : List (S59))).bind fun y258 => (impl_PassMinute.l0 kj15 a1 (y258.set (x23_2 : Int).toNat (⟨(rd_T59 y258 x23_2).f0, (rd_T59 y258 x23_2).f1, (rd_T59 y258 x23_2).f2, wrap64 (a1 + (ji37))⟩ : S59)) x8_2 (t248.length : Int) (wrap64 (x23_2 + 1)))) else (none)) else (none)) = some (r1, r2, r3) := by first | (rw [hji37] at H; exact H) | (simp only [hji37] at H ⊢; exact H)
              have hji37_ : (IntKind.i64.wrap (1 * 2 ^ min ((rd_T59 x7_2 x23_2).f2).toNat 64)) = ji37 := hji37
              have hji37z : ((rd_T59 x7_2 x23_2).f2) ≤ 64 → (IntKind.i64.wrap (1 * 2 ^ ((rd_T59 x7_2 x23_2).f2).toNat)) = ji37 := shl_small hji37
              have hji37u : (IntKind.i64.wrap (2 ^ min ((rd_T59 x7_2 x23_2).f2).toNat 64)) = ji37 := by have h_ := hji37_; rw [Int.one_mul] at h_; exact h_
              have hji37v : ((rd_T59 x7_2 x23_2).f2) ≤ 64 → (IntKind.i64.wrap (2 ^ ((rd_T59 x7_2 x23_2).f2).toNat)) = ji37 := fun hle_ => by have h_ := hji37z hle_; rw [Int.one_mul] at h_; exact h_
              have hji37y : (wrap64 (1 * 2 ^ min ((rd_T59 x7_2 x23_2).f2).toNat 64)) = ji37 := (i64_w _).symm.trans hji37_
              have hji37x : ((rd_T59 x7_2 x23_2).f2) ≤ 64 → (wrap64 (1 * 2 ^ ((rd_T59 x7_2 x23_2).f2).toNat)) = ji37 := fun h_ => (i64_w _).symm.trans (hji37z h_)
              by_cases c38 : 0 ≤ x23_2
              ·rw [if_pos c38] at H
               have c38b0 : decide (0 ≤ x23_2) = true := decide_eq_true c38
               clear c38
               by_cases c39 : x23_2 < (x7_2.length : Int)
               ·rw [if_pos c39] at H
                have c39b0 : decide (x23_2 < (x7_2.length : Int)) = true := decide_eq_true c39
                clear c39
                obtain ⟨y258, hy258⟩ : ∃ y_ : List (S59), y_ = (x7_2.set (x23_2 : Int).toNat (⟨(rd_T59 x7_2 x23_2).f0, 1, (rd_T59 x7_2 x23_2).f2, (rd_T59 x7_2 x23_2).f3⟩ : S59)) := ⟨_, rfl⟩
                replace H : (impl_PassMinute.l0 kj15 a1 (y258.set (x23_2 : Int).toNat (⟨(rd_T59 y258 x23_2).f0, (rd_T59 y258 x23_2).f1, (rd_T59 y258 x23_2).f2, wrap64 (a1 + (ji37))⟩ : S59)) x8_2 (t248.length : Int) (wrap64 (x23_2 + 1))) = some (r1, r2, r3) := by first | (rw [hy258]; with_reducible exact H) | (have H2_ := (Option.bind_some _ _).symm.trans H; rw [hy258]; with_reducible exact H2_) | (have H2_ := (Option.bind_some _ _).symm.trans H; with_reducible exact H2_) | with_reducible exact H | (rw [hy258]; exact H) | exact H
                have Ny258 := Aside0.mk hy258
                clear hy258
                obtain ⟨y259, hy259⟩ : ∃ y_ : List (S59), y_ = (y258.set (x23_2 : Int).toNat (⟨(rd_T59 y258 x23_2).f0, (rd_T59 y258 x23_2).f1, (rd_T59 y258 x23_2).f2, wrap64 (a1 + (ji37))⟩ : S59)) := ⟨_, rfl⟩
                replace H : (impl_PassMinute.l0 kj15 a1 y259 x8_2 (t248.length : Int) (wrap64 (x23_2 + 1))) = some (r1, r2, r3) := by first | (rw [hy259]; with_reducible exact H) | (have H2_ := (Option.bind_some _ _).symm.trans H; rw [hy259]; with_reducible exact H2_) | (have H2_ := (Option.bind_some _ _).symm.trans H; with_reducible exact H2_) | with_reducible exact H | (rw [hy259]; exact H) | exact H
                have Ny259 := Aside0.mk hy259
                clear hy259
                focus
                 have H' := Aside0.mk H
                 clear H
                 have hcz42_0 : wc.cell? ⟨gb252, 0, none⟩ = some (.int .i64 ((rd_T59 x7_2 x23_2).f0)) := (blk_cell BK252.out 0).trans rfl
                 have hcz42_1 : wc.cell? ⟨gb252, 1, none⟩ = some (.int .i64 ((rd_T59 x7_2 x23_2).f1)) := (blk_cell BK252.out 1).trans rfl
                 have hcz42_2 : wc.cell? ⟨gb252, 2, none⟩ = some (.int .i64 ((rd_T59 x7_2 x23_2).f2)) := (blk_cell BK252.out 2).trans rfl
                 have hcz42_3 : wc.cell? ⟨gb252, 3, none⟩ = some (.int .i64 ((rd_T59 x7_2 x23_2).f3)) := (blk_cell BK252.out 3).trans rfl
                 have hfz42_0 := blk_frozen BK252.out 0
                 have hfz42_1 := blk_frozen BK252.out 1
                 have hfz42_2 := blk_frozen BK252.out 2
                 have hfz42_3 := blk_frozen BK252.out 3
                 try go_wp2
                 have n0_ := Aside0.mk (Kd.R_drew HO_7.out)
                 have n1_ := Aside0.mk (Kd.R_drew HO_8.out)
                 have n2_ := Aside0.mk (blk_drew BK252.out)
                 have n3_ := Aside0.mk (below_drew1 HB.out)
                 clear HO_7
                 clear HO_8
                 clear BK252
                 clear HB
                 have HO_7 := n0_
                 have HO_8 := n1_
                 have BK252 := n2_
                 have HB := n3_
                 clear n0_ n1_ n2_ n3_
                 have p40 : 0 ≤ (x23_2 : Int) := of_decide_eq_true zax
                 have q40 : (x23_2 : Int) < ((x7_2.length : Int) : Int) := of_decide_eq_true zax
                 obtain ⟨go40, co40, eo40, gb40, gl40, cl40, HG40⟩ := Kd.R_form HO_7.out (by omega)
                 (first | cases eo40 | (injection eo40 with ea_ en_ ec_; (first | subst ea_ | (injection ea_ with ea_; subst ea_)); subst ec_; clear en_))
                 have GB40 := Aside0.mk gb40
                 have GG40 := Aside0.mk HG40
                 clear gb40 gl40 HG40
                 obtain ⟨ce40, hcl40, hM40, hcc40, hfr40⟩ := Kd.R_elem HO_7.out z59 (x23_2 : Int) p40 q40
                 obtain rfl := k59_openM hM40
                 have hx40_0 : World.cell? _ ⟨go40, (x23_2 : Int).toNat * 4, none⟩ = some (.int .i64 ((rd_T59 x7_2 x23_2).f0)) := hcc40 0 _ rfl
                 have hx40_1 : World.cell? _ ⟨go40, (x23_2 : Int).toNat * 4 + 1, none⟩ = some (.int .i64 ((rd_T59 x7_2 x23_2).f1)) := hcc40 1 _ rfl
                 have hx40_2 : World.cell? _ ⟨go40, (x23_2 : Int).toNat * 4 + 2, none⟩ = some (.int .i64 ((rd_T59 x7_2 x23_2).f2)) := hcc40 2 _ rfl
                 have hx40_3 : World.cell? _ ⟨go40, (x23_2 : Int).toNat * 4 + 3, none⟩ = some (.int .i64 ((rd_T59 x7_2 x23_2).f3)) := hcc40 3 _ rfl
                 have hf40_0 : World.frozen? _ ⟨go40, (x23_2 : Int).toNat * 4, none⟩ = false := hfr40 0
                 have hf40_1 : World.frozen? _ ⟨go40, (x23_2 : Int).toNat * 4 + 1, none⟩ = false := hfr40 1
                 have hf40_2 : World.frozen? _ ⟨go40, (x23_2 : Int).toNat * 4 + 2, none⟩ = false := hfr40 2
                 have hf40_3 : World.frozen? _ ⟨go40, (x23_2 : Int).toNat * 4 + 3, none⟩ = false := hfr40 3
                 clear hcl40 hcc40 hfr40 hM40
                 replace p40 := eq_true p40
                 replace q40 := eq_true q40
                 have HNC252_go40 := Aside0.mk (show gb252 ≠ go40 from by have h_ := Kd.R_away HO_7.out (fun _ hk => hk); intro e_; exact h_ (by rw [e_]; rfl))
                 obtain ⟨ce44, hcl44, hM44, hcc44, hfr44⟩ := Kd.R_elem HO_7.out z59 (x23_2 : Int) (of_decide_eq_true zax) (by have h_ : (x23_2 : Int) < ((x7_2.length : Int) : Int) := of_decide_eq_true zax; first | exact h_ | (have e_ := (Kd.R_reads' HO_7.out).1; omega) | simpa using h_)
                 obtain rfl := k59_openM hM44
                 have HP44 := (Kd.R_seg HO_7.out (x23_2 : Int) (of_decide_eq_true zax) (by have h_ : (x23_2 : Int) < ((x7_2.length : Int) : Int) := of_decide_eq_true zax; first | exact h_ | (have e_ := (Kd.R_reads' HO_7.out).1; omega) | simpa using h_) (seg := [.int .i64 1]) (j := 1) hcl44 hcc44 (show 2 ≤ 4 from by decide) (x' := (⟨(rd_T59 x7_2 x23_2).f0, 1, (rd_T59 x7_2 x23_2).f2, (rd_T59 x7_2 x23_2).f3⟩ : S59)) (k59_mkM _ _ _ (⟨(rd_T59 x7_2 x23_2).f0, 1, (rd_T59 x7_2 x23_2).f2, (rd_T59 x7_2 x23_2).f3⟩ : S59) ) (fun _ hk => hk)).1
                 rw [← Ny258.out] at HP44
                 have HQ44 := Aside0.mk HP44
                 clear hcl44 hcc44 hfr44 hM44 HP44
                 have p41 : 0 ≤ (x23_2 : Int) := of_decide_eq_true zax
                 have q41 : (x23_2 : Int) < ((x7_2.length : Int) : Int) := of_decide_eq_true zax
                 replace p41 := eq_true p41
                 replace q41 := eq_true q41
                 have HNC252_go40 := Aside0.mk (show gb252 ≠ go40 from by have h_ := Kd.R_away HO_7.out (fun _ hk => hk); intro e_; exact h_ (by rw [e_]; rfl))
                 obtain ⟨ce45, hcl45, hM45, hcc45, hfr45⟩ := Kd.R_elem HQ44.out z59 (x23_2 : Int) (of_decide_eq_true zax) (by have h_ : (x23_2 : Int) < ((x7_2.length : Int) : Int) := of_decide_eq_true zax; first | exact h_ | (have e_ := (Kd.R_reads' HO_7.out).1; omega) | simpa using h_)
                 obtain rfl := k59_openM hM45
                 have HP45 := (Kd.R_seg HQ44.out (x23_2 : Int) (of_decide_eq_true zax) (by have h_ : (x23_2 : Int) < ((x7_2.length : Int) : Int) := of_decide_eq_true zax; first | exact h_ | (have e_ := (Kd.R_reads' HO_7.out).1; omega) | simpa using h_) (seg := [.int .i64 (wrap64 (a1 + (ji37)))]) (j := 3) hcl45 hcc45 (show 4 ≤ 4 from by decide) (x' := (⟨(rd_T59 y258 x23_2).f0, (rd_T59 y258 x23_2).f1, (rd_T59 y258 x23_2).f2, wrap64 (a1 + (ji37))⟩ : S59)) (k59_mkM _ _ _ (⟨(rd_T59 y258 x23_2).f0, (rd_T59 y258 x23_2).f1, (rd_T59 y258 x23_2).f2, wrap64 (a1 + (ji37))⟩ : S59) ) (fun _ hk => hk)).1
                 rw [← Ny259.out] at HP45
                 have HQ45 := Aside0.mk HP45
                 clear hcl45 hcc45 hfr45 hM45 HP45
                 refine start_ (n := 15) (S := fun w' => w'.cell? ⟨gb252, 0, none⟩ = some (.int .i64 ((rd_T59 x7_2 x23_2).f0)) ∧ w'.cell? ⟨gb252, 1, none⟩ = some (.int .i64 ((rd_T59 x7_2 x23_2).f1)) ∧ w'.cell? ⟨gb252, 2, none⟩ = some (.int .i64 ((rd_T59 x7_2 x23_2).f2)) ∧ w'.cell? ⟨gb252, 3, none⟩ = some (.int .i64 ((rd_T59 x7_2 x23_2).f3))) (ds := []) #[false, false, false, false, false, false, false, false, false, false, false, false, false, false, false] (by kernel_rfl) rfl rfl ⟨(blk_cell BK252.out 0).trans rfl, (blk_cell BK252.out 1).trans rfl, (blk_cell BK252.out 2).trans rfl, (blk_cell BK252.out 3).trans rfl⟩ (fun hHeld => ?_); refine with_tabW impl_PassMinute.tab8 impl_PassMinute.bits8 (fun HT_ HW_ => ?_)
                 generalize wc.drew = w43 at HO_7 HO_8 BK252 HB GG40 HQ44 HQ45 hf40_0 hf40_1 hf40_2 hf40_3 hx40_0 hx40_1 hx40_2 hx40_3 hHeld ⊢
                 refine pure_ (i := 0) (N := some 28) (v := ?_) (a' := ?_) #[true, false, false, false, false, false, false, false, false, false, false, false, false, false, false] rfl rfl (any_of HT_.out (by kernel_rfl)) (fun _ _ _ h => h) (Or.inl ⟨by rfl, ?_⟩) ?_ ?_
                 rotate_left
                 ·intro w'
                  go_simp
                  with_reducible rfl
                 rotate_left
                 ·simp only [Act.put, List.setIfInBounds_toArray, List.set_cons_zero, List.set_cons_succ, i64_w, i32_w]
                  rfl
                 refine pure_ (i := 1) (N := some 29) (v := ?_) (a' := ?_) #[true, true, false, false, false, false, false, false, false, false, false, false, false, false, false] rfl rfl (any_of HT_.out (by kernel_rfl)) (fun _ _ _ h => h) (Or.inl ⟨by rfl, ?_⟩) ?_ ?_
                 rotate_left
                 ·intro w'
                  go_simp
                  with_reducible rfl
                 rotate_left
                 ·simp only [Act.put, List.setIfInBounds_toArray, List.set_cons_zero, List.set_cons_succ, i64_w, i32_w]
                  rfl
                 refine pure_ (i := 2) (N := some 30) (v := ?_) (a' := ?_) #[true, true, true, false, false, false, false, false, false, false, false, false, false, false, false] rfl rfl (any_of HT_.out (by kernel_rfl)) (fun _ _ _ h => h) (Or.inl ⟨by rfl, ?_⟩) ?_ ?_
                 rotate_left
                 ·intro w'
                  go_simp
                  with_reducible rfl
                 rotate_left
                 ·simp only [Act.put, List.setIfInBounds_toArray, List.set_cons_zero, List.set_cons_succ, i64_w, i32_w]
                  rfl
                 refine pure_ (i := 3) (N := some 31) (v := ?_) (a' := ?_) #[true, true, true, true, false, false, false, false, false, false, false, false, false, false, false] rfl rfl (any_of HT_.out (by kernel_rfl)) (fun _ _ _ h => h) (Or.inl ⟨by rfl, ?_⟩) ?_ ?_
                 rotate_left
                 ·intro w'
                  go_simp
                  with_reducible rfl
                 rotate_left
                 ·simp only [Act.put, List.setIfInBounds_toArray, List.set_cons_zero, List.set_cons_succ, i64_w, i32_w]
                  rfl
                 refine pure_ (i := 4) (N := some 32) (v := ?_) (a' := ?_) #[true, true, true, true, true, false, false, false, false, false, false, false, false, false, false] rfl rfl (any_of HT_.out (by kernel_rfl)) (fun _ _ _ h => h) (Or.inl ⟨by rfl, ?_⟩) ?_ ?_
                 rotate_left
                 ·intro w'
                  go_simp
                  with_reducible rfl
                 rotate_left
                 ·simp only [Act.put, List.setIfInBounds_toArray, List.set_cons_zero, List.set_cons_succ, i64_w, i32_w]
                  rfl
                 refine pure_ (i := 5) (N := some 33) (v := ?_) (a' := ?_) #[true, true, true, true, true, true, false, false, false, false, false, false, false, false, false] rfl rfl (any_of HT_.out (by kernel_rfl)) (fun _ _ _ h => h) (Or.inl ⟨by rfl, ?_⟩) ?_ ?_
                 rotate_left
                 ·intro w'
                  go_simp
                  with_reducible rfl
                 rotate_left
                 ·simp only [Act.put, List.setIfInBounds_toArray, List.set_cons_zero, List.set_cons_succ, i64_w, i32_w]
                  rfl
                 refine pure_ (i := 9) (N := some 37) (v := ?_) (a' := ?_) #[true, true, true, true, true, true, false, false, false, true, false, false, false, false, false] rfl rfl (any_of HT_.out (by kernel_rfl)) (fun _ _ _ h => h) (Or.inl ⟨by rfl, ?_⟩) ?_ ?_
                 rotate_left
                 ·intro w'
                  go_simp
                  with_reducible rfl
                 rotate_left
                 ·simp only [Act.put, List.setIfInBounds_toArray, List.set_cons_zero, List.set_cons_succ, i64_w, i32_w]
                  rfl
                 refine pure_ (i := 10) (N := some 38) (v := ?_) (a' := ?_) #[true, true, true, true, true, true, false, false, false, true, true, false, false, false, false] rfl rfl (any_of HT_.out (by kernel_rfl)) (fun _ _ _ h => h) (Or.inl ⟨by rfl, ?_⟩) ?_ ?_
                 rotate_left
                 ·intro w'
                  go_simp
                  with_reducible rfl
                 rotate_left
                 ·simp only [Act.put, List.setIfInBounds_toArray, List.set_cons_zero, List.set_cons_succ, i64_w, i32_w]
                  rfl
                 refine take_ (i := 6) (N := some 34) (v := ?_) (a' := ?_) #[true, true, true, true, true, true, true, false, false, true, true, false, false, false, false] rfl rfl (take_ofW HT_.out HW_.out (by kernel_rfl)) (fun _ _ _ h => h) (Or.inl ⟨by rfl, ?_⟩) hHeld ?_ ?_
                 rotate_left
                 ·rintro w' ⟨s0, s1, s2, s3⟩
                  go_simp
                  with_reducible rfl
                 rotate_left
                 ·simp only [Act.put, List.setIfInBounds_toArray, List.set_cons_zero, List.set_cons_succ, i64_w, i32_w]
                  rfl
                 refine pure_ (i := 7) (N := some 35) (v := ?_) (a' := ?_) #[true, true, true, true, true, true, true, true, false, true, true, false, false, false, false] rfl rfl (any_of HT_.out (by kernel_rfl)) (fun _ _ _ h => h) (Or.inl ⟨by rfl, ?_⟩) ?_ ?_
                 rotate_left
                 ·intro w'
                  go_simp
                  with_reducible rfl
                 rotate_left
                 ·simp only [Act.put, List.setIfInBounds_toArray, List.set_cons_zero, List.set_cons_succ, i64_w, i32_w]
                  rfl
                 refine pure_ (i := 8) (N := some 36) (v := ?_) (a' := ?_) #[true, true, true, true, true, true, true, true, true, true, true, false, false, false, false] rfl rfl (any_of HT_.out (by kernel_rfl)) (fun _ _ _ h => h) (Or.inl ⟨by rfl, ?_⟩) ?_ ?_
                 rotate_left
                 ·intro w'
                  go_simp
                  with_reducible rfl
                 rotate_left
                 ·simp only [Act.put, List.setIfInBounds_toArray, List.set_cons_zero, List.set_cons_succ, i64_w, i32_w]
                  rfl
                 refine one_ (i := 11) (N := none) #[true, true, true, true, true, true, true, true, true, true, true, true, false, false, false] rfl rfl (one_of HT_.out (by kernel_rfl)) (by decide) (fun K hK => ?_)
                 refine skip_ (w1 := ?_) (by rfl) rfl ?_ ?_
                 rotate_left
                 ·go_simp
                  rfl
                 refine hK.out _ _ ⟨((cell_far (p := ⟨go40, _, none⟩) HNC252_go40.out _).trans (hHeld.1)), ((cell_far (p := ⟨go40, _, none⟩) HNC252_go40.out _).trans (hHeld.2.1)), ((cell_far (p := ⟨go40, _, none⟩) HNC252_go40.out _).trans (hHeld.2.2.1)), ((cell_far (p := ⟨go40, _, none⟩) HNC252_go40.out _).trans (hHeld.2.2.2))⟩ (fun hHeld => ?_)
                 clear hK K
                 refine pure_ (i := 12) (N := some 39) (v := ?_) (a' := ?_) #[true, true, true, true, true, true, true, true, true, true, true, true, true, false, false] rfl rfl (any_of HT_.out (by kernel_rfl)) (fun _ _ _ h => h) (Or.inl ⟨by rfl, ?_⟩) ?_ ?_
                 rotate_left
                 ·intro w'
                  go_simp
                  with_reducible rfl
                 rotate_left
                 ·simp only [Act.put, List.setIfInBounds_toArray, List.set_cons_zero, List.set_cons_succ, i64_w, i32_w]
                  rfl
                 refine pure_ (i := 13) (N := some 40) (v := ?_) (a' := ?_) #[true, true, true, true, true, true, true, true, true, true, true, true, true, true, false] rfl rfl (any_of HT_.out (by kernel_rfl)) (fun _ _ _ h => h) (Or.inl ⟨by rfl, ?_⟩) ?_ ?_
                 rotate_left
                 ·intro w'
                  go_simp
                  with_reducible rfl
                 rotate_left
                 ·simp only [Act.put, List.setIfInBounds_toArray, List.set_cons_zero, List.set_cons_succ, i64_w, i32_w]
                  rfl
                 refine one_ (i := 14) (N := none) #[true, true, true, true, true, true, true, true, true, true, true, true, true, true, true] rfl rfl (one_of HT_.out (by kernel_rfl)) (by decide) (fun K hK => ?_)
                 refine skip_ (w1 := ?_) (by rfl) rfl ?_ ?_
                 rotate_left
                 ·go_simp
                  rfl
                 refine hK.out _ _ ⟨((cell_far (p := ⟨go40, _, none⟩) HNC252_go40.out _).trans (hHeld.1)), ((cell_far (p := ⟨go40, _, none⟩) HNC252_go40.out _).trans (hHeld.2.1)), ((cell_far (p := ⟨go40, _, none⟩) HNC252_go40.out _).trans (hHeld.2.2.1)), ((cell_far (p := ⟨go40, _, none⟩) HNC252_go40.out _).trans (hHeld.2.2.2))⟩ (fun hHeld => ?_)
                 clear hK K
                 refine done_ (done_of HT_.out (by kernel_rfl)) ?_
                 try go_wp2
                 (try simp only [← hl7_2])
                 go_roundg kj15
                 case measure => have := HJ2.out; have := HK2.out; have := HJ15.out; omega
                 case rel => exact ⟨(y259), (x8_2), (wrap64 (x23_2 + 1)), zrx, H', ⟨by have := HJ2.out; have := HK2.out; have := HJ15.out; omega⟩, ⟨by (try simp only [hl7_2]); (with_reducible repeat (first | apply Kd.R_alloc | apply Kd.R_drewN | apply Kd.R_drew)); exact Kd.R_mono HQ45.out (fun _ hk => trivial)⟩, ⟨by (try simp only [hl7_2]); (with_reducible repeat (first | apply Kd.R_alloc | apply Kd.R_drewN | apply Kd.R_drew)); exact Kd.R_mono (Kd.R_far (p := ⟨go40, (x23_2 : Int).toNat * 4 + 3, none⟩) (Kd.R_far (p := ⟨go40, (x23_2 : Int).toNat * 4 + 1, none⟩) (Kd.R_types HO_8.out GG40.out (by decide)) (fun _ hk => hk.2) (.int .i64 1)) (fun _ hk => hk.2) (.int .i64 (wrap64 (a1 + (ji37))))) (fun _ hk => trivial)⟩, ⟨by repeat (first | (with_reducible first | exact HB.out | apply below_alloc | apply pw_below_drewN | apply below_drew1 | refine below_set ?_ GB40.out | refine below_set ?_ GB40.out | refine below_set ?_ GE252.out) | exact HB.out)⟩⟩
               ·rw [if_neg c39] at H
                exact absurd H (by simp)
              ·rw [if_neg c38] at H
               exact absurd H (by simp)
             ·rw [if_neg c36] at H
              exact absurd H (by simp)
        ·rw [if_neg c15] at H
         exact absurd H (by simp)
       ·rw [if_neg c14] at H
        exact absurd H (by simp)
      ·rw [if_neg c13] at H
       have c13b0 : decide (x23_2 < (t248.length : Int)) = false := decide_eq_false c13
       (try rw [hl7_2] at c13b0)
       clear c13
       focus
        simp only [Option.some.injEq, Prod.mk.injEq] at H
        obtain ⟨rfl, rfl, rfl⟩ := H
        go_wp2
        go_ret3
        exact ⟨_, _, by first | rfl | (simp [errW_none, errW_some] <;> rfl) | (simp [*, errW_none, errW_some] <;> rfl), by (with_reducible repeat (first | apply Kd.R_alloc | apply Kd.R_drewN | apply Kd.R_drew)); exact HO_7.out, by (with_reducible repeat (first | apply Kd.R_alloc | apply Kd.R_drewN | apply Kd.R_drew)); exact HO_8.out, by exact zBx HB.out⟩

/-! ### spec_l1In: function 69 -/
def spec_l1In.f (a0 : Int) (a1 : Int) (a2 : Int) : Option (Bool) := if a0 ≥ a1 then (some (decide (a0 ≤ a2))) else (some false)
set_option maxHeartbeats 8000000 in
set_option maxRecDepth 100000 in
theorem spec_l1In.calls (a0 : Int) (a1 : Int) (a2 : Int) (r : Bool) (w : World) (h : spec_l1In.f a0 a1 a2 = some r) :
 Calls Try.prog 69 #[.int .i64 a0, .int .i64 a1, .int .i64 a2] w fun e w' => e = .returned (.bool r) ∧ Drawn0 w w' := by
 have H : (if a0 ≥ a1 then (some (decide (a0 ≤ a2))) else (some false)) = some r := h
 clear h
 by_cases c4 : a0 ≥ a1
 ·rw [if_pos c4] at H
  have c4b0 : decide (a1 ≤ a0) = true := decide_eq_true c4
  clear c4
  focus
   obtain rfl := Option.some.inj H
   go_enter Try.func69, Try.ntmps69
   go_wp2
   go_ret
   exact ⟨by first | rfl | (simp; done) | (simp [*]; done), by repeat (first | exact Drawn0.refl _ | apply Drawn0.step)⟩
 ·rw [if_neg c4] at H
  have c4b0 : decide (a1 ≤ a0) = false := decide_eq_false c4
  clear c4
  focus
   obtain rfl := Option.some.inj H
   go_enter Try.func69, Try.ntmps69
   go_wp2
   go_ret
   exact ⟨by first | rfl | (simp; done) | (simp [*]; done), by repeat (first | exact Drawn0.refl _ | apply Drawn0.step)⟩

end Go.Proofs.Ytkegkbpadhddkaa.XFnRetries
