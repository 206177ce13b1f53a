-- written by wip/tools/xprint.py (a program of this project) out of the translation
import Derived.Test.YtjagdjbiljooiaaXFnExactPassMinutex0
import Derived.Test.YtjagdjbiljooiaaXFnExactPassMinutex2
import Derived.Test.YtjagdjbiljooiaaXFnExactPassMinutex3
namespace Go.Proofs.Ytjagdjbiljooiaa.XFnExactPassMinute
open Go.RowKit Go.Proofs.YtjagdjbiljooiaaW.PrintWords Go.Proofs.YtjagdjbiljooiaaW.PrintLast Go.Proofs.YtjagdjbiljooiaaW.PrintMore
attribute [local go_sem] max2_int min2_int max_two min_two max_three min_three max_four min_four   -- for this text's walks alone
set_option linter.unusedVariables false
set_option linter.unusedSimpArgs false

/-! ### spec_l19Own: function 62 -/
def spec_l19Own.f (l0 : List (S94)) : Option ((List (S94))) := (some (([] : List (S94)) : List (S94))).bind fun y136 => (if y136.length + l0.length < 4398046511104 then (some (y136 ++ l0)) else (none))
set_option maxHeartbeats 8000000 in
set_option maxRecDepth 100000 in
theorem spec_l19Own.calls (A0 : Option Addr) (c0 : Nat) (l0 : List (S94)) (r : List (S94)) (w : World) (hr0 : Kd.C k94 w A0 l0.length l0) (hc0 : l0.length ≤ c0) (h : spec_l19Own.f l0 = some r) :
    Calls Try.prog 62 #[.slice A0 l0.length c0] w fun e w' => ∃ v0_ : Value, e = .returned (v0_) ∧ Kd.R k94 94 w' w.heap.size (fun _ => True) v0_ r ∧ Below w.heap.size w w' := by
  have HR0 := Aside0.mk hr0
  have HC0 := Aside0.mk hc0
  clear hr0 hc0
  have HB := Aside0.mk (Below.refl w.heap.size w)
  have H : ((some (([] : List (S94)) : List (S94))).bind fun y136 => (if y136.length + l0.length < 4398046511104 then (some (y136 ++ l0)) else (none))) = some r := h
  clear h
  obtain ⟨y136, hy136⟩ : ∃ y_ : List (S94), y_ = (([] : List (S94))) := ⟨_, rfl⟩
  replace H : (if y136.length + l0.length < 4398046511104 then (some (y136 ++ l0)) else (none)) = some r := by first | (rw [hy136]; with_reducible exact H) | (have H2_ := (Option.bind_some _ _).symm.trans H; rw [hy136]; with_reducible exact H2_) | (have H2_ := (Option.bind_some _ _).symm.trans H; with_reducible exact H2_) | with_reducible exact H | (rw [hy136]; exact H) | exact H
  have Ny136 := Aside0.mk hy136
  clear hy136
  by_cases c2 : y136.length + l0.length < 4398046511104
  · rw [if_pos c2] at H
    have LMc2 := Aside0.mk c2
    clear c2
    obtain ⟨y139, hy139⟩ : ∃ y_ : List (S94), y_ = (y136 ++ l0) := ⟨_, rfl⟩
    replace H : (some y139) = some r := by first | (rw [hy139]; with_reducible exact H) | (have H2_ := (Option.bind_some _ _).symm.trans H; rw [hy139]; with_reducible exact H2_) | (have H2_ := (Option.bind_some _ _).symm.trans H; with_reducible exact H2_) | with_reducible exact H | (rw [hy139]; exact H) | exact H
    have Ny139 := Aside0.mk hy139
    clear hy139
    obtain rfl := Option.some.inj H
    go_enter Try.func62, Try.ntmps62
    go_wp2_with (first | ((with_reducible refine gate_dst (N := 3) rfl ?_); refine Kd.R_lit k94 _ 94 ?hg (N := 3) ?hd (xs := ([] : List (S94))) (inner := []) (ok := fun _ => True) (okp := fun _ => True) ?hr ?hp (fun _ hk => hk) trivial (Below.refl _ _) (Nat.le_refl _) (by simp) ?_; (case hd => rfl); (case hg => rfl); (case hr => exact zsx); (case hp => exact (Reps.none _ _)); intro v137 w3 ho4 hb hg_ hnew_; clear hg_ hnew_; (first | rw [← Ny136.out] at ho4 | (simp only [Int.reduceToNat] at ho4; rw [← Ny136.out] at ho4)); have n0_ := Aside0.mk (Kd.R_lower ho4 (below_size (zBx HB.out))); have n1_ := Aside0.mk (below_step (zBx HB.out) hb); clear HB; have HO138 := n0_; have HB := n1_; clear n0_ n1_; clear hb ho4) | ((with_reducible refine gate_builtin (b := .append) (xs := #[.tmp 3, .tmp 4]) rfl ?_); at_builtin; refine Kd.R_append_rows k94 (w0 := w) w.heap.size rfl (.tmp 3) (.tmp 4) 54 94 (.agg #[(.int .i64 0), (.int .i64 0), (.int .i64 0), (.int .i64 0)]) 32 rfl Try.underlying54 info94 rfl (by decide) (by omega) v137 y136 l0 _ _ _ (fun _ => True) (fun _ => False) rfl rfl ?aO ?aR (fun _ _ h => h) (fun _ h => h.elim) ?aF ?aB ?aS ?aL ?_; (case aR => repeat (first | exact (Kd.C_below HR0.out HB.out) | (with_reducible refine Kd.C_alloc ?_ _) | (with_reducible refine Kd.C_drewN ?_ _) | (with_reducible refine Kd.C_drew ?_))); (case aB => exact (zBx HB.out)); (case aF => exact (fun _ _ => trivial)); (case aO => exact (zRx HO138.out)); (case aS => exact (below_size (zBx HB.out))); (case aL => have := LMc2.out; omega); intro v140 w5 ho hb hg hat; rw [← Ny139.out] at ho; have n0_ := Aside0.mk (hb); have n1_ := Aside0.mk (ho); clear HB; clear HO138; have HB := n0_; have HO141 := n1_; clear n0_ n1_; clear ho hb hg hat))
    go_ret
    exact ⟨_, by first | rfl | (simp [errW_none, errW_some] <;> rfl) | (simp [*, errW_none, errW_some] <;> rfl), by (with_reducible repeat (first | apply Kd.R_alloc | apply Kd.R_drewN | apply Kd.R_drew)); exact HO141.out, by exact zBx HB.out⟩
  · rw [if_neg c2] at H
    exact absurd H (by simp)

/-! ### spec_l19Minute: function 71 -/
def spec_l19Minute.f (a0 : Int) : Option (Bool) := (spec_l1In.f a0 0 50000).bind fun t142 => (some t142)
set_option maxHeartbeats 8000000 in
set_option maxRecDepth 100000 in
theorem spec_l19Minute.calls (a0 : Int) (r : Bool) (w : World) (h : spec_l19Minute.f a0 = some r) :
    Calls Try.prog 71 #[.int .i64 a0] w fun e w' => e = .returned (.bool r) ∧ Drawn0 w w' := by
  have H : ((spec_l1In.f a0 0 50000).bind fun t142 => (some t142)) = some r := h
  clear h
  replace H := Option.bind_eq_some_iff.mp H
  obtain ⟨t142, A20, H⟩ := H
  replace H : (some t142) = some r := H
  have A2 := Aside0.mk A20
  clear A20
  obtain rfl := Option.some.inj H
  go_enter Try.func71, Try.ntmps71
  go_wp2_with (first | ((with_reducible refine gate_callee (f := 73) rfl ?_); refine goesL_ (some 4) rfl rfl Try.func73 (by kernel_rfl) rfl #[.int .i64 a0, .int .i64 0, .int .i64 50000] rfl zlx ?_; (with_reducible refine (spec_l1In.calls a0 0 50000 t142 _ A2.out).mono ?_); rintro e w' ⟨rfl, ⟨nd, rfl⟩⟩; refine ⟨_, rfl, ?_⟩))
  go_ret
  exact ⟨by first | rfl | (simp; done) | (simp [*]; done), by repeat (first | exact Drawn0.refl _ | apply Drawn0.step)⟩

/-! ### spec_PassMinute: function 40 -/
mutual
def spec_PassMinute.j0 : Nat → List (S94) → Int → List Int → Bool → Option ((List (S94)) × List Int × Bool)
  | 0, _, _, _, _ => none
  | k + 1, x0, x1, x7, x19 => if x19 = true then (some ((([] : List (S94))), x7, false)) else ((spec_l19Own.f x0).bind fun t151 => (spec_PassMinute.l0 k x1 x7 t151 0))
def spec_PassMinute.l0 : Nat → Int → List Int → List (S94) → Int → Option ((List (S94)) × List Int × Bool)
  | 0, _, _, _, _ => none
  | k + 1, x1, x7, x8, x9 => if x9 < (x8.length : Int) then (if 0 ≤ x9 then (if ((rd_T94 x8 x9).f1) = 2 then (spec_PassMinute.j2 k x1 x7 x8 x9 (decide (((rd_T94 x8 x9).f3) > x1)) ((rd_T94 x8 x9).f0) ((rd_T94 x8 x9).f1) ((rd_T94 x8 x9).f2) ((rd_T94 x8 x9).f3)) else (spec_PassMinute.j2 k x1 x7 x8 x9 true ((rd_T94 x8 x9).f0) ((rd_T94 x8 x9).f1) ((rd_T94 x8 x9).f2) ((rd_T94 x8 x9).f3))) else (none)) else (some (x8, x7, true))
def spec_PassMinute.j2 : Nat → Int → List Int → List (S94) → Int → Bool → Int → Int → Int → Int → Option ((List (S94)) × List Int × Bool)
  | 0, _, _, _, _, _, _, _, _, _ => none
  | k + 1, x1, x7, x8, x9, x42, x156000, x156001, x156002, x156003 => if x42 = true then (spec_PassMinute.l0 k x1 x7 x8 (wrap64 (x9 + 1))) else (if x156002 = 5 then (if 0 ≤ x9 then (if x9 < (x8.length : Int) then (if x7.length < 17592186044416 then (spec_PassMinute.l0 k x1 (x7 ++ [x156000]) (x8.set (x9 : Int).toNat (⟨x156000, 4, x156002, 0⟩ : S94)) (wrap64 (x9 + 1))) else (none)) else (none)) else (none)) else (if 0 ≤ (IntKind.u64.wrap (x156002)) then (if 0 ≤ x9 then (if x9 < (x8.length : Int) then (spec_PassMinute.l0 k x1 x7 (x8.set (x9 : Int).toNat (⟨x156000, 1, x156002, wrap64 (x1 + (shl .i64 1 (IntKind.u64.wrap (x156002))))⟩ : S94)) (wrap64 (x9 + 1))) else (none)) else (none)) else (none)))
end
def spec_PassMinute.f (k : Nat) (l0 : List (S94)) (a1 : Int) : Option ((List (S94)) × List Int × Bool) := (some (([] : List Int) : List Int)).bind fun y143 => ((spec_l19Good.f k l0).bind fun t146 => (if t146 = true then ((spec_l19Minute.f a1).bind fun t147 => (spec_PassMinute.j0 k l0 a1 y143 (!t147))) else (spec_PassMinute.j0 k l0 a1 y143 true)))
theorem spec_PassMinute.mono_l : ∀ k, (∀ y0 y1 y2 y3, LeO (spec_PassMinute.j0 k y0 y1 y2 y3) (spec_PassMinute.j0 (k + 1) y0 y1 y2 y3)) ∧ (∀ y0 y1 y2 y3, LeO (spec_PassMinute.l0 k y0 y1 y2 y3) (spec_PassMinute.l0 (k + 1) y0 y1 y2 y3)) ∧ (∀ y0 y1 y2 y3 y4 y5 y6 y7 y8, LeO (spec_PassMinute.j2 k y0 y1 y2 y3 y4 y5 y6 y7 y8) (spec_PassMinute.j2 (k + 1) y0 y1 y2 y3 y4 y5 y6 y7 y8))
  | 0 => ⟨fun _ _ _ _ r h => by simp [spec_PassMinute.j0] at h, fun _ _ _ _ r h => by simp [spec_PassMinute.l0] at h, fun _ _ _ _ _ _ _ _ _ r h => by simp [spec_PassMinute.j2] at h⟩
  | k + 1 => by
    obtain ⟨ih0, ih1, ih2⟩ := spec_PassMinute.mono_l k
    refine ⟨?_, ?_, ?_⟩
    · intro y0 y1 y2 y3
      unfold spec_PassMinute.j0
      repeat' first
      | (with_reducible exact ih0 _ _ _ _)
      | (with_reducible exact ih1 _ _ _ _)
      | (with_reducible exact ih2 _ _ _ _ _ _ _ _ _)
      | (with_reducible exact spec_l19Good.mono _ _)
      | (with_reducible exact LeO.refl _)
      | (with_reducible exact LeO.none _)
      | (with_reducible refine LeO.ite ?_ ?_)
      | (with_reducible refine LeO.bind ?_ (fun _ => ?_))
      | exact ih0 _ _ _ _
      | exact ih1 _ _ _ _
      | exact ih2 _ _ _ _ _ _ _ _ _
      | exact spec_l19Good.mono _ _
      | exact LeO.none _
      | refine LeO.ite ?_ ?_
      | refine LeO.bind ?_ (fun _ => ?_)
    · intro y0 y1 y2 y3
      unfold spec_PassMinute.l0
      repeat' first
      | (with_reducible exact ih0 _ _ _ _)
      | (with_reducible exact ih1 _ _ _ _)
      | (with_reducible exact ih2 _ _ _ _ _ _ _ _ _)
      | (with_reducible exact spec_l19Good.mono _ _)
      | (with_reducible exact LeO.refl _)
      | (with_reducible exact LeO.none _)
      | (with_reducible refine LeO.ite ?_ ?_)
      | (with_reducible refine LeO.bind ?_ (fun _ => ?_))
      | exact ih0 _ _ _ _
      | exact ih1 _ _ _ _
      | exact ih2 _ _ _ _ _ _ _ _ _
      | exact spec_l19Good.mono _ _
      | exact LeO.none _
      | refine LeO.ite ?_ ?_
      | refine LeO.bind ?_ (fun _ => ?_)
    · intro y0 y1 y2 y3 y4 y5 y6 y7 y8
      unfold spec_PassMinute.j2
      repeat' first
      | (with_reducible exact ih0 _ _ _ _)
      | (with_reducible exact ih1 _ _ _ _)
      | (with_reducible exact ih2 _ _ _ _ _ _ _ _ _)
      | (with_reducible exact spec_l19Good.mono _ _)
      | (with_reducible exact LeO.refl _)
      | (with_reducible exact LeO.none _)
      | (with_reducible refine LeO.ite ?_ ?_)
      | (with_reducible refine LeO.bind ?_ (fun _ => ?_))
      | exact ih0 _ _ _ _
      | exact ih1 _ _ _ _
      | exact ih2 _ _ _ _ _ _ _ _ _
      | exact spec_l19Good.mono _ _
      | exact LeO.none _
      | refine LeO.ite ?_ ?_
      | refine LeO.bind ?_ (fun _ => ?_)
theorem spec_PassMinute.mono : ∀ a0 a1 k, LeO (spec_PassMinute.f k a0 a1) (spec_PassMinute.f (k + 1) a0 a1) := by
  intro a0 a1 k
  obtain ⟨ih0, ih1, ih2⟩ := spec_PassMinute.mono_l k
  unfold spec_PassMinute.f
  repeat' first
      | (with_reducible exact ih0 _ _ _ _)
      | (with_reducible exact ih1 _ _ _ _)
      | (with_reducible exact ih2 _ _ _ _ _ _ _ _ _)
      | (with_reducible exact spec_l19Good.mono _ _)
      | (with_reducible exact LeO.refl _)
      | (with_reducible exact LeO.none _)
      | (with_reducible refine LeO.ite ?_ ?_)
      | (with_reducible refine LeO.bind ?_ (fun _ => ?_))
      | exact ih0 _ _ _ _
      | exact ih1 _ _ _ _
      | exact ih2 _ _ _ _ _ _ _ _ _
      | exact spec_l19Good.mono _ _
      | exact LeO.none _
      | refine LeO.ite ?_ ?_
      | refine LeO.bind ?_ (fun _ => ?_)
set_option maxHeartbeats 8000000 in
set_option maxRecDepth 100000 in
theorem spec_PassMinute.calls (k : Nat) (A0 : Option Addr) (c0 : Nat) (l0 : List (S94)) (a1 : Int) (r1 : List (S94)) (r2 : List Int) (r3 : Bool) (w : World) (hr0 : Kd.C k94 w A0 l0.length l0) (hc0 : l0.length ≤ c0) (h : spec_PassMinute.f k l0 a1 = some (r1, r2, r3)) :
    Calls Try.prog 40 #[.slice A0 l0.length c0, .int .i64 a1] w fun e w' => ∃ v0_ v1_ : Value, e = .returned (.tuple #[v0_, v1_, .bool r3]) ∧ Kd.R k94 94 w' w.heap.size (fun _ => True) v0_ r1 ∧ Kd.R (Kd.int .i64) 3 w' w.heap.size (fun _ => True) v1_ r2 ∧ Below w.heap.size w w' := by
  have hu94 := Try.underlying94
  have HR0 := Aside0.mk hr0
  have HC0 := Aside0.mk hc0
  clear hr0 hc0
  have HB := Aside0.mk (Below.refl w.heap.size w)
  have H : ((some (([] : List Int) : List Int)).bind fun y143 => ((spec_l19Good.f k l0).bind fun t146 => (if t146 = true then ((spec_l19Minute.f a1).bind fun t147 => (spec_PassMinute.j0 k l0 a1 y143 (!t147))) else (spec_PassMinute.j0 k l0 a1 y143 true)))) = some (r1, r2, r3) := h
  clear h
  obtain ⟨y143, hy143⟩ : ∃ y_ : List Int, y_ = (([] : List Int)) := ⟨_, rfl⟩
  replace H : ((spec_l19Good.f k l0).bind fun t146 => (if t146 = true then ((spec_l19Minute.f a1).bind fun t147 => (spec_PassMinute.j0 k l0 a1 y143 (!t147))) else (spec_PassMinute.j0 k l0 a1 y143 true))) = some (r1, r2, r3) := by first | (rw [hy143]; with_reducible exact H) | (have H2_ := (Option.bind_some _ _).symm.trans H; rw [hy143]; with_reducible exact H2_) | (have H2_ := (Option.bind_some _ _).symm.trans H; with_reducible exact H2_) | with_reducible exact H | (rw [hy143]; exact H) | exact H
  have Ny143 := Aside0.mk hy143
  clear hy143
  have HC3 := Aside0.mk H
  clear H
  go_enter Try.func40, Try.ntmps40
  go_upto_region 2 with (first | ((with_reducible refine gate_dst (N := 11) rfl ?_); refine Kd.R_lit (Kd.int .i64) _ 3 ?hg (N := 11) ?hd (xs := ([] : List Int)) (inner := []) (ok := fun _ => True) (okp := fun _ => True) ?hr ?hp (fun _ hk => hk) trivial (Below.refl _ _) (Nat.le_refl _) (by simp) ?_; (case hd => rfl); (case hg => rfl); (case hr => exact zsx); (case hp => exact (Reps.none _ _)); intro v144 w4 ho5 hb hg_ hnew_; clear hg_ hnew_; (first | rw [← Ny143.out] at ho5 | (simp only [Int.reduceToNat] at ho5; rw [← Ny143.out] at ho5)); have n0_ := Aside0.mk (Kd.R_lower ho5 (below_size (zBx HB.out))); have n1_ := Aside0.mk (below_step (zBx HB.out) hb); clear HB; have HO145 := n0_; have HB := n1_; clear n0_ n1_; clear hb ho5))
  (try simp only [Act.put, List.setIfInBounds_toArray, List.set_cons_zero, List.set_cons_succ])
  go_cut [19] (fun v19 wc => ∃ (kq : Nat) (x19_2 : Bool), v19 = .bool x19_2 ∧ Aside0 (spec_PassMinute.j0 kq l0 a1 y143 x19_2 = some (r1, r2, r3)) ∧ Aside0 (kq ≤ k) ∧ Aside0 (Kd.R (Kd.int .i64) 3 wc w.heap.size (fun _ => True) v144 y143) ∧ Aside0 (Below w.heap.size w wc))
  case first =>
    have H := HC3.out
    clear HC3
    replace H := Option.bind_eq_some_iff.mp H
    obtain ⟨t146, A60, H⟩ := H
    replace H : (if t146 = true then ((spec_l19Minute.f a1).bind fun t147 => (spec_PassMinute.j0 k l0 a1 y143 (!t147))) else (spec_PassMinute.j0 k l0 a1 y143 true)) = some (r1, r2, r3) := H
    have A6 := Aside0.mk A60
    clear A60
    by_cases c7 : t146 = true
    · subst c7
      have H1 : ((spec_l19Minute.f a1).bind fun t147 => (spec_PassMinute.j0 k l0 a1 y143 (!t147))) = some (r1, r2, r3) := by rw [if_pos rfl] at H; exact H
      clear H
      have H := H1
      clear H1
      replace H := Option.bind_eq_some_iff.mp H
      obtain ⟨t147, A80, H⟩ := H
      replace H : (spec_PassMinute.j0 k l0 a1 y143 (!t147)) = some (r1, r2, r3) := H
      have A8 := Aside0.mk A80
      clear A80
      have H' := Aside0.mk H
      clear H
      go_wp2_with (first | ((with_reducible refine gate_callee (f := 61) rfl ?_); refine goesL_ (some 13) rfl rfl Try.func61 (by kernel_rfl) rfl #[.slice A0 l0.length c0] rfl zlx ?_; (with_reducible refine (spec_l19Good.calls k _ _ l0 true _ ?side1 ?side2 A6.out).mono ?_); (case side1 => repeat (first | exact (Kd.C_below HR0.out HB.out) | (with_reducible refine Kd.C_alloc ?_ _) | (with_reducible refine Kd.C_drewN ?_ _) | (with_reducible refine Kd.C_drew ?_))); (case side2 => exact HC0.out); rintro e w9 ⟨rfl, hb⟩; refine ⟨_, rfl, ?_⟩; have n0_ := Aside0.mk (Kd.R_below (zRx HO145.out) hb); have n1_ := Aside0.mk (below_step (zBx HB.out) hb); clear HO145; clear HB; have HO145 := n0_; have HB := n1_; clear n0_ n1_; (try clear hb); (try clear hb2); (try clear hk); (try clear hi)) | (go_at_call 71; (with_reducible refine (spec_l19Minute.calls a1 t147 _ A8.out).mono ?_); rintro e w' ⟨rfl, ⟨nd, rfl⟩⟩))
      go_meet
      case rel => exact ⟨_, (!t147), zrx, H', ⟨by first | omega | exact Nat.le_refl _⟩, ⟨by (with_reducible repeat (first | apply Kd.R_alloc | apply Kd.R_drewN | apply Kd.R_drew)); exact HO145.out⟩, ⟨by exact zBx HB.out⟩⟩
    · replace c7 := Bool.eq_false_iff.mpr c7
      subst c7
      have H1 : (spec_PassMinute.j0 k l0 a1 y143 true) = some (r1, r2, r3) := by rw [if_neg (show ¬ (false = true) by decide)] at H; exact H
      clear H
      have H := H1
      clear H1
      have H' := Aside0.mk H
      clear H
      go_wp2_with (first | ((with_reducible refine gate_callee (f := 61) rfl ?_); refine goesL_ (some 13) rfl rfl Try.func61 (by kernel_rfl) rfl #[.slice A0 l0.length c0] rfl zlx ?_; (with_reducible refine (spec_l19Good.calls k _ _ l0 false _ ?side1 ?side2 A6.out).mono ?_); (case side1 => repeat (first | exact (Kd.C_below HR0.out HB.out) | (with_reducible refine Kd.C_alloc ?_ _) | (with_reducible refine Kd.C_drewN ?_ _) | (with_reducible refine Kd.C_drew ?_))); (case side2 => exact HC0.out); rintro e w10 ⟨rfl, hb⟩; refine ⟨_, rfl, ?_⟩; have n0_ := Aside0.mk (Kd.R_below (zRx HO145.out) hb); have n1_ := Aside0.mk (below_step (zBx HB.out) hb); clear HO145; clear HB; have HO145 := n0_; have HB := n1_; clear n0_ n1_; (try clear hb); (try clear hb2); (try clear hk); (try clear hi)))
      go_meet
      case rel => exact ⟨_, (true), zrx, H', ⟨by first | omega | exact Nat.le_refl _⟩, ⟨by (with_reducible repeat (first | apply Kd.R_alloc | apply Kd.R_drewN | apply Kd.R_drew)); exact HO145.out⟩, ⟨by exact zBx HB.out⟩⟩
  case rest =>
    clear HC3
    try clear p2
    try clear c4
    try clear c6
    try clear c7
    obtain ⟨kq, x19_2, rfl, HA, HJ2, HO_7, HB⟩ := hcut
    cases kq with
    | zero => exact absurd HA.out (by simp [spec_PassMinute.j0])
    | succ kj2 =>
      have H := HA.out
      clear HA
      simp only [spec_PassMinute.j0] at H
      by_cases c11 : x19_2 = true
      · subst c11
        have H1 : (some ((([] : List (S94))), y143, false)) = some (r1, r2, r3) := by rw [if_pos rfl] at H; exact H
        clear H
        have H := H1
        clear H1
        obtain ⟨y148, hy148⟩ : ∃ y_ : List (S94), y_ = (([] : List (S94))) := ⟨_, rfl⟩
        replace H : (some (y148, y143, false)) = some (r1, r2, r3) := by first | (rw [hy148]; with_reducible exact H) | (have H2_ := (Option.bind_some _ _).symm.trans H; rw [hy148]; with_reducible exact H2_) | (have H2_ := (Option.bind_some _ _).symm.trans H; with_reducible exact H2_) | with_reducible exact H | (rw [hy148]; exact H) | exact H
        have Ny148 := Aside0.mk hy148
        clear hy148
        simp only [Option.some.injEq, Prod.mk.injEq] at H
        obtain ⟨rfl, rfl, rfl⟩ := H
        go_wp2_with (first | ((with_reducible refine gate_dst (N := 20) rfl ?_); refine Kd.R_lit k94 _ 94 ?hg (N := 20) ?hd (xs := ([] : List (S94))) (inner := []) (ok := fun _ => True) (okp := fun _ => True) ?hr ?hp (fun _ hk => hk) trivial (Below.refl _ _) (Nat.le_refl _) (by simp) ?_; (case hd => rfl); (case hg => rfl); (case hr => exact zsx); (case hp => exact (Reps.none _ _)); intro v149 w12 ho13 hb hg_ hnew_; clear hg_ hnew_; (first | rw [← Ny148.out] at ho13 | (simp only [Int.reduceToNat] at ho13; rw [← Ny148.out] at ho13)); have n0_ := Aside0.mk (Kd.R_below (zRx HO_7.out) hb); have n1_ := Aside0.mk (Kd.R_lower ho13 (below_size (zBx HB.out))); have n2_ := Aside0.mk (below_step (zBx HB.out) hb); clear HO_7; clear HB; have HO_7 := n0_; have HO150 := n1_; have HB := n2_; clear n0_ n1_ n2_; clear hb ho13))
        go_ret3
        exact ⟨_, _, by first | rfl | (simp [errW_none, errW_some] <;> rfl) | (simp [*, errW_none, errW_some] <;> rfl), by (with_reducible repeat (first | apply Kd.R_alloc | apply Kd.R_drewN | apply Kd.R_drew)); exact HO150.out, by (with_reducible repeat (first | apply Kd.R_alloc | apply Kd.R_drewN | apply Kd.R_drew)); exact HO_7.out, by exact zBx HB.out⟩
      · replace c11 := Bool.eq_false_iff.mpr c11
        subst c11
        have H1 : ((spec_l19Own.f l0).bind fun t151 => (spec_PassMinute.l0 kj2 a1 y143 t151 0)) = some (r1, r2, r3) := by rw [if_neg (show ¬ (false = true) by decide)] at H; exact H
        clear H
        have H := H1
        clear H1
        replace H := Option.bind_eq_some_iff.mp H
        obtain ⟨t151, A140, H⟩ := H
        replace H : (spec_PassMinute.l0 kj2 a1 y143 t151 0) = some (r1, r2, r3) := H
        have A14 := Aside0.mk A140
        clear A140
        have H' := Aside0.mk H
        clear H
        go_wp2_with (first | ((with_reducible refine gate_callee (f := 62) rfl ?_); refine goesL_ (some 23) rfl rfl Try.func62 (by kernel_rfl) rfl #[.slice A0 l0.length c0] rfl zlx ?_; (with_reducible refine (spec_l19Own.calls _ _ l0 t151 _ ?side1 ?side2 A14.out).mono ?_); (case side1 => repeat (first | exact (Kd.C_below HR0.out HB.out) | (with_reducible refine Kd.C_alloc ?_ _) | (with_reducible refine Kd.C_drewN ?_ _) | (with_reducible refine Kd.C_drew ?_))); (case side2 => exact HC0.out); rintro e w15 ⟨v152, rfl, ho0, hb⟩; refine ⟨_, rfl, ?_⟩; have n0_ := Aside0.mk (Kd.R_below (zRx HO_7.out) hb); have n1_ := Aside0.mk (Kd.R_lower ho0 (below_size (zBx HB.out))); have n2_ := Aside0.mk (below_step (zBx HB.out) hb); clear HO_7; clear HB; have HO_7 := n0_; have HO153 := n1_; have HB := n2_; clear n0_ n1_ n2_; (try clear hb); (try clear hb2); (try clear hk); (try clear hi); (try clear ho0)))
        go_loopg [7, 9] kj2 (fun kq v7 v9 w' => ∃ (x7_2 : List Int) (x8_2 : List (S94)) (x9_2 : Int), v9 = .int .i64 x9_2 ∧ Aside0 (spec_PassMinute.l0 kq a1 x7_2 x8_2 x9_2 = some (r1, r2, r3)) ∧ Aside0 (kq ≤ kj2) ∧ Aside0 (Kd.R (Kd.int .i64) 3 w' w.heap.size (fun _ => True) v7 x7_2) ∧ Aside0 (Kd.R k94 94 w' w.heap.size (fun _ => True) v152 x8_2) ∧ Aside0 (Below w.heap.size w w'))
        case atStart => exact ⟨(y143), (t151), (0), zrx, H', ⟨Nat.le_refl _⟩, ⟨by (with_reducible repeat (first | apply Kd.R_alloc | apply Kd.R_drewN | apply Kd.R_drew)); exact HO_7.out⟩, ⟨by (with_reducible repeat (first | apply Kd.R_alloc | apply Kd.R_drewN | apply Kd.R_drew)); exact HO153.out⟩, ⟨by exact zBx HB.out⟩⟩
        case round =>
          clear H'
          try clear c1
          try clear p2
          try clear c4
          try clear c6
          try clear c7
          try clear c11
          try clear p2
          obtain ⟨x7_2, x8_2, x9_2, rfl, HA, HK2, HO_7, HO_8, HB⟩ := hrel
          cases gk with
          | zero => exact absurd HA.out (by simp [spec_PassMinute.l0])
          | succ k2 =>
            have H := HA.out
            clear HA
            simp only [spec_PassMinute.l0] at H
            by_cases c16 : x9_2 < (x8_2.length : Int)
            · rw [if_pos c16] at H
              have c16b0 : decide (x9_2 < (x8_2.length : Int)) = true := decide_eq_true c16
              clear c16
              by_cases c17 : 0 ≤ x9_2
              · rw [if_pos c17] at H
                have c17b0 : decide (0 ≤ x9_2) = true := decide_eq_true c17
                clear c17
                have HC18 := Aside0.mk H
                clear H
                obtain ⟨Ao19, co19, eo19⟩ := Kd.R_slice HO_8.out
                subst eo19
                have p154 : 0 ≤ (x9_2 : Int) := of_decide_eq_true zax
                have q154 : x9_2 < (x8_2.length : Int) := of_decide_eq_true zax
                obtain ⟨ad154, e154, hx154_0, hx154_1, hx154_2, hx154_3⟩ := at_T94 (Kd.R_reads' HO_8.out).2.2 x9_2 p154 q154
                cases e154
                replace p154 := eq_true p154
                replace q154 := eq_true q154
                go_upto_region 9 with (first | ((with_reducible refine gate_dst (N := 10) rfl ?_); refine box_event ?hg (N := 10) ?hd (cs := #[.int .i64 0, .int .i64 0, .int .i64 0, .int .i64 0]) (t := 94) ?hr ?_; (case hd => rfl); (case hg => rfl); (case hr => exact zsx); intro gb155 hg w20 hbox hb; have n0_ := Aside0.mk (Kd.R_below (zRx HO_7.out) hb); have n1_ := Aside0.mk (Kd.R_below (Kd.R_elderB (zRx HO_8.out) gb155 (Nat.le_of_eq hg.symm)) hb); have n2_ := Aside0.mk (below_step (zBx HB.out) hb); have n3_ := Aside0.mk (hbox); have n4_ := Aside0.mk ((by rw [hg]; exact (below_size (zBx HB.out)) : w.heap.size ≤ gb155)); have n5_ := Aside0.mk ((by rw [hg]; exact (below_size (zBx HB.out)) : w.heap.size ≤ gb155)); clear HO_7; clear HO_8; clear HB; have HO_7 := n0_; have HO_8 := n1_; have HB := n2_; have BK155 := n3_; have GW155 := n4_; have GE155 := n5_; clear n0_ n1_ n2_ n3_ n4_ n5_; clear hb hbox hg; have hcz21_0 : w20.cell? ⟨gb155, 0, none⟩ = some (.int .i64 0) := (blk_cell BK155.out 0).trans rfl; have hcz21_1 : w20.cell? ⟨gb155, 1, none⟩ = some (.int .i64 0) := (blk_cell BK155.out 1).trans rfl; have hcz21_2 : w20.cell? ⟨gb155, 2, none⟩ = some (.int .i64 0) := (blk_cell BK155.out 2).trans rfl; have hcz21_3 : w20.cell? ⟨gb155, 3, none⟩ = some (.int .i64 0) := (blk_cell BK155.out 3).trans rfl; have hfz21_0 := blk_frozen BK155.out 0; have hfz21_1 := blk_frozen BK155.out 1; have hfz21_2 := blk_frozen BK155.out 2; have hfz21_3 := blk_frozen BK155.out 3))
                (try simp only [Act.put, List.setIfInBounds_toArray, List.set_cons_zero, List.set_cons_succ])
                go_cut [42] (fun v42 wc => ∃ (kq : Nat) (x42_17 : Bool), v42 = .bool x42_17 ∧ Aside0 (spec_PassMinute.j2 kq a1 x7_2 x8_2 x9_2 x42_17 ((rd_T94 x8_2 x9_2).f0) ((rd_T94 x8_2 x9_2).f1) ((rd_T94 x8_2 x9_2).f2) ((rd_T94 x8_2 x9_2).f3) = some (r1, r2, r3)) ∧ Aside0 (kq ≤ k2) ∧ Aside0 (Kd.R (Kd.int .i64) 3 wc w.heap.size (fun _ => True) u7 x7_2) ∧ Aside0 (Kd.R k94 94 wc w.heap.size (fun k_ => k_ ≠ gb155) (.slice (some ad154) x8_2.length co19) x8_2) ∧ Aside0 (wc.heap[gb155]? = some (.cells #[.int .i64 ((rd_T94 x8_2 x9_2).f0), .int .i64 ((rd_T94 x8_2 x9_2).f1), .int .i64 ((rd_T94 x8_2 x9_2).f2), .int .i64 ((rd_T94 x8_2 x9_2).f3)] 94 (0, 0))) ∧ Aside0 (Below w.heap.size w wc))
                case first =>
                  have H := HC18.out
                  clear HC18
                  by_cases c22 : ((rd_T94 x8_2 x9_2).f1) = 2
                  · rw [if_pos c22] at H
                    have c22b0 : (((rd_T94 x8_2 x9_2).f1) == 2) = true := beq_iff_eq.mpr c22
                    have c22b1 : (((rd_T94 x8_2 x9_2).f1) != 2) = false := bne_eq_false_iff_eq.mpr c22
                    clear c22
                    (first | rw [c22b0] | (simp only [i64_w, i32_w]; rw [c22b0]) | skip)
                    have H' := Aside0.mk H
                    clear H
                    have hcz23_0 : w20.cell? ⟨gb155, 0, none⟩ = some (.int .i64 0) := (blk_cell BK155.out 0).trans rfl
                    have hcz23_1 : w20.cell? ⟨gb155, 1, none⟩ = some (.int .i64 0) := (blk_cell BK155.out 1).trans rfl
                    have hcz23_2 : w20.cell? ⟨gb155, 2, none⟩ = some (.int .i64 0) := (blk_cell BK155.out 2).trans rfl
                    have hcz23_3 : w20.cell? ⟨gb155, 3, none⟩ = some (.int .i64 0) := (blk_cell BK155.out 3).trans rfl
                    have hfz23_0 := blk_frozen BK155.out 0
                    have hfz23_1 := blk_frozen BK155.out 1
                    have hfz23_2 := blk_frozen BK155.out 2
                    have hfz23_3 := blk_frozen BK155.out 3
                    go_wp2
                    go_meet
                    case rel => exact ⟨_, (decide (((rd_T94 x8_2 x9_2).f3) > a1)), zrx, H', ⟨by have := HJ2.out; have := HK2.out; first | omega | exact Nat.le_refl _⟩, ⟨by (with_reducible repeat (first | apply Kd.R_alloc | apply Kd.R_drewN | apply Kd.R_drew)); exact Kd.R_mono (Kd.R_far (p := ⟨gb155, 3, none⟩) (Kd.R_far (p := ⟨gb155, 2, none⟩) (Kd.R_far (p := ⟨gb155, 1, none⟩) (Kd.R_far (p := ⟨gb155, 0, none⟩) (Kd.R_types HO_7.out BK155.out (by decide)) (fun _ hk => hk.2) (.int .i64 ((rd_T94 x8_2 x9_2).f0))) (fun _ hk => hk.2) (.int .i64 ((rd_T94 x8_2 x9_2).f1))) (fun _ hk => hk.2) (.int .i64 ((rd_T94 x8_2 x9_2).f2))) (fun _ hk => hk.2) (.int .i64 ((rd_T94 x8_2 x9_2).f3))) (fun _ hk => trivial)⟩, ⟨by (with_reducible repeat (first | apply Kd.R_alloc | apply Kd.R_drewN | apply Kd.R_drew)); exact Kd.R_mono (Kd.R_far (p := ⟨gb155, 3, none⟩) (Kd.R_far (p := ⟨gb155, 2, none⟩) (Kd.R_far (p := ⟨gb155, 1, none⟩) (Kd.R_far (p := ⟨gb155, 0, none⟩) (Kd.R_mono HO_8.out (fun k_ hk => (⟨hk, hk.2⟩ : _ ∧ k_ ≠ gb155))) (fun _ hk => hk.2) (.int .i64 ((rd_T94 x8_2 x9_2).f0))) (fun _ hk => hk.2) (.int .i64 ((rd_T94 x8_2 x9_2).f1))) (fun _ hk => hk.2) (.int .i64 ((rd_T94 x8_2 x9_2).f2))) (fun _ hk => hk.2) (.int .i64 ((rd_T94 x8_2 x9_2).f3))) (fun _ hk => hk.1.2)⟩, ⟨by (with_reducible repeat (first | refine blk_drewN ?_ _ | refine blk_drew ?_ | refine blk_alloc ?_ _)); refine blk_put (cs := #[.int .i64 ((rd_T94 x8_2 x9_2).f0), .int .i64 ((rd_T94 x8_2 x9_2).f1), .int .i64 ((rd_T94 x8_2 x9_2).f2), .int .i64 0]) ?_ 3 _ rfl; (with_reducible repeat (first | refine blk_drewN ?_ _ | refine blk_drew ?_ | refine blk_alloc ?_ _)); refine blk_put (cs := #[.int .i64 ((rd_T94 x8_2 x9_2).f0), .int .i64 ((rd_T94 x8_2 x9_2).f1), .int .i64 0, .int .i64 0]) ?_ 2 _ rfl; (with_reducible repeat (first | refine blk_drewN ?_ _ | refine blk_drew ?_ | refine blk_alloc ?_ _)); refine blk_put (cs := #[.int .i64 ((rd_T94 x8_2 x9_2).f0), .int .i64 0, .int .i64 0, .int .i64 0]) ?_ 1 _ rfl; (with_reducible repeat (first | refine blk_drewN ?_ _ | refine blk_drew ?_ | refine blk_alloc ?_ _)); refine blk_put (cs := #[.int .i64 0, .int .i64 0, .int .i64 0, .int .i64 0]) ?_ 0 _ rfl; (with_reducible repeat (first | refine blk_drewN ?_ _ | refine blk_drew ?_ | refine blk_alloc ?_ _)); exact BK155.out⟩, ⟨by exact zBy HB.out GE155.out⟩⟩
                  · rw [if_neg c22] at H
                    have c22b0 : (((rd_T94 x8_2 x9_2).f1) == 2) = false := beq_eq_false_iff_ne.mpr c22
                    have c22b1 : (((rd_T94 x8_2 x9_2).f1) != 2) = true := bne_iff_ne.mpr c22
                    (first | rw [c22b0] | (simp only [i64_w, i32_w]; rw [c22b0]) | skip)
                    have H' := Aside0.mk H
                    clear H
                    have hcz24_0 : w20.cell? ⟨gb155, 0, none⟩ = some (.int .i64 0) := (blk_cell BK155.out 0).trans rfl
                    have hcz24_1 : w20.cell? ⟨gb155, 1, none⟩ = some (.int .i64 0) := (blk_cell BK155.out 1).trans rfl
                    have hcz24_2 : w20.cell? ⟨gb155, 2, none⟩ = some (.int .i64 0) := (blk_cell BK155.out 2).trans rfl
                    have hcz24_3 : w20.cell? ⟨gb155, 3, none⟩ = some (.int .i64 0) := (blk_cell BK155.out 3).trans rfl
                    have hfz24_0 := blk_frozen BK155.out 0
                    have hfz24_1 := blk_frozen BK155.out 1
                    have hfz24_2 := blk_frozen BK155.out 2
                    have hfz24_3 := blk_frozen BK155.out 3
                    go_wp2
                    go_meet
                    case rel => exact ⟨_, (true), zrx, H', ⟨by have := HJ2.out; have := HK2.out; first | omega | exact Nat.le_refl _⟩, ⟨by (with_reducible repeat (first | apply Kd.R_alloc | apply Kd.R_drewN | apply Kd.R_drew)); exact Kd.R_mono (Kd.R_far (p := ⟨gb155, 3, none⟩) (Kd.R_far (p := ⟨gb155, 2, none⟩) (Kd.R_far (p := ⟨gb155, 1, none⟩) (Kd.R_far (p := ⟨gb155, 0, none⟩) (Kd.R_types HO_7.out BK155.out (by decide)) (fun _ hk => hk.2) (.int .i64 ((rd_T94 x8_2 x9_2).f0))) (fun _ hk => hk.2) (.int .i64 ((rd_T94 x8_2 x9_2).f1))) (fun _ hk => hk.2) (.int .i64 ((rd_T94 x8_2 x9_2).f2))) (fun _ hk => hk.2) (.int .i64 ((rd_T94 x8_2 x9_2).f3))) (fun _ hk => trivial)⟩, ⟨by (with_reducible repeat (first | apply Kd.R_alloc | apply Kd.R_drewN | apply Kd.R_drew)); exact Kd.R_mono (Kd.R_far (p := ⟨gb155, 3, none⟩) (Kd.R_far (p := ⟨gb155, 2, none⟩) (Kd.R_far (p := ⟨gb155, 1, none⟩) (Kd.R_far (p := ⟨gb155, 0, none⟩) (Kd.R_mono HO_8.out (fun k_ hk => (⟨hk, hk.2⟩ : _ ∧ k_ ≠ gb155))) (fun _ hk => hk.2) (.int .i64 ((rd_T94 x8_2 x9_2).f0))) (fun _ hk => hk.2) (.int .i64 ((rd_T94 x8_2 x9_2).f1))) (fun _ hk => hk.2) (.int .i64 ((rd_T94 x8_2 x9_2).f2))) (fun _ hk => hk.2) (.int .i64 ((rd_T94 x8_2 x9_2).f3))) (fun _ hk => hk.1.2)⟩, ⟨by (with_reducible repeat (first | refine blk_drewN ?_ _ | refine blk_drew ?_ | refine blk_alloc ?_ _)); refine blk_put (cs := #[.int .i64 ((rd_T94 x8_2 x9_2).f0), .int .i64 ((rd_T94 x8_2 x9_2).f1), .int .i64 ((rd_T94 x8_2 x9_2).f2), .int .i64 0]) ?_ 3 _ rfl; (with_reducible repeat (first | refine blk_drewN ?_ _ | refine blk_drew ?_ | refine blk_alloc ?_ _)); refine blk_put (cs := #[.int .i64 ((rd_T94 x8_2 x9_2).f0), .int .i64 ((rd_T94 x8_2 x9_2).f1), .int .i64 0, .int .i64 0]) ?_ 2 _ rfl; (with_reducible repeat (first | refine blk_drewN ?_ _ | refine blk_drew ?_ | refine blk_alloc ?_ _)); refine blk_put (cs := #[.int .i64 ((rd_T94 x8_2 x9_2).f0), .int .i64 0, .int .i64 0, .int .i64 0]) ?_ 1 _ rfl; (with_reducible repeat (first | refine blk_drewN ?_ _ | refine blk_drew ?_ | refine blk_alloc ?_ _)); refine blk_put (cs := #[.int .i64 0, .int .i64 0, .int .i64 0, .int .i64 0]) ?_ 0 _ rfl; (with_reducible repeat (first | refine blk_drewN ?_ _ | refine blk_drew ?_ | refine blk_alloc ?_ _)); exact BK155.out⟩, ⟨by exact zBy HB.out GE155.out⟩⟩
                case rest =>
                  clear HC18
                  try clear c1
                  try clear p1
                  try clear q1
                  try clear hx1
                  try clear c2
                  try clear p2
                  try clear c4
                  try clear c6
                  try clear c7
                  try clear c11
                  try clear p15
                  try clear q15
                  try clear hx15
                  try clear c16
                  try clear c16b0
                  try clear c17
                  try clear c17b0
                  try clear c22
                  try clear c22b0
                  try clear c22b1
                  try clear hcz21_0
                  try clear hcz21_1
                  try clear hcz21_2
                  try clear hcz21_3
                  try clear hcz23_0
                  try clear hcz23_1
                  try clear hcz23_2
                  try clear hcz23_3
                  try clear hcz24_0
                  try clear hcz24_1
                  try clear hcz24_2
                  try clear hcz24_3
                  try clear hfz21_0
                  try clear hfz21_1
                  try clear hfz21_2
                  try clear hfz21_3
                  try clear hfz23_0
                  try clear hfz23_1
                  try clear hfz23_2
                  try clear hfz23_3
                  try clear hfz24_0
                  try clear hfz24_1
                  try clear hfz24_2
                  try clear hfz24_3
                  try clear hx154_0
                  try clear hx154_1
                  try clear hx154_2
                  try clear hx154_3
                  try clear p154
                  try clear p2
                  try clear q154
                  obtain ⟨kq, x42_17, rfl, HA, HJ17, HO_7, HO_8, BK155, HB⟩ := hcut
                  cases kq with
                  | zero => exact absurd HA.out (by simp [spec_PassMinute.j2])
                  | succ kj17 =>
                    have H := HA.out
                    clear HA
                    simp only [spec_PassMinute.j2] at H
                    by_cases c25 : x42_17 = true
                    · subst c25
                      have H1 : (spec_PassMinute.l0 kj17 a1 x7_2 x8_2 (wrap64 (x9_2 + 1))) = some (r1, r2, r3) := by rw [if_pos rfl] at H; exact H
                      clear H
                      have H := H1
                      clear H1
                      have H' := Aside0.mk H
                      clear H
                      go_wp2
                      go_roundg kj17
                      case measure => have := HJ2.out; have := HK2.out; have := HJ17.out; omega
                      case rel => exact ⟨(x7_2), (x8_2), (wrap64 (x9_2 + 1)), zrx, H', ⟨by have := HJ2.out; have := HK2.out; have := HJ17.out; omega⟩, ⟨by (with_reducible repeat (first | apply Kd.R_alloc | apply Kd.R_drewN | apply Kd.R_drew)); exact HO_7.out⟩, ⟨by (with_reducible repeat (first | apply Kd.R_alloc | apply Kd.R_drewN | apply Kd.R_drew)); exact Kd.R_mono HO_8.out (fun _ hk => trivial)⟩, ⟨by exact zBy HB.out GE155.out⟩⟩
                    · replace c25 := Bool.eq_false_iff.mpr c25
                      subst c25
                      have H1 : (if ((rd_T94 x8_2 x9_2).f2) = 5 then (if 0 ≤ x9_2 then (if x9_2 < (x8_2.length : Int) then (if x7_2.length < 17592186044416 then (spec_PassMinute.l0 kj17 a1 (x7_2 ++ [((rd_T94 x8_2 x9_2).f0)]) (x8_2.set (x9_2 : Int).toNat (⟨((rd_T94 x8_2 x9_2).f0), 4, ((rd_T94 x8_2 x9_2).f2), 0⟩ : S94)) (wrap64 (x9_2 + 1))) else (none)) else (none)) else (none)) else (if 0 ≤ (IntKind.u64.wrap (((rd_T94 x8_2 x9_2).f2))) then (if 0 ≤ x9_2 then (if x9_2 < (x8_2.length : Int) then (spec_PassMinute.l0 kj17 a1 x7_2 (x8_2.set (x9_2 : Int).toNat (⟨((rd_T94 x8_2 x9_2).f0), 1, ((rd_T94 x8_2 x9_2).f2), wrap64 (a1 + (shl .i64 1 (IntKind.u64.wrap (((rd_T94 x8_2 x9_2).f2)))))⟩ : S94)) (wrap64 (x9_2 + 1))) else (none)) else (none)) else (none))) = some (r1, r2, r3) := by rw [if_neg (show ¬ (false = true) by decide)] at H; exact H
                      clear H
                      have H := H1
                      clear H1
                      by_cases c26 : ((rd_T94 x8_2 x9_2).f2) = 5
                      · rw [if_pos c26] at H
                        have c26b0 : (((rd_T94 x8_2 x9_2).f2) == 5) = true := beq_iff_eq.mpr c26
                        have c26b1 : (((rd_T94 x8_2 x9_2).f2) != 5) = false := bne_eq_false_iff_eq.mpr c26
                        clear c26
                        by_cases c27 : 0 ≤ x9_2
                        · rw [if_pos c27] at H
                          have c27b0 : decide (0 ≤ x9_2) = true := decide_eq_true c27
                          clear c27
                          by_cases c28 : x9_2 < (x8_2.length : Int)
                          · rw [if_pos c28] at H
                            have c28b0 : decide (x9_2 < (x8_2.length : Int)) = true := decide_eq_true c28
                            clear c28
                            obtain ⟨y156, hy156⟩ : ∃ y_ : List (S94), y_ = (x8_2.set (x9_2 : Int).toNat (⟨((rd_T94 x8_2 x9_2).f0), 4, ((rd_T94 x8_2 x9_2).f2), 0⟩ : S94)) := ⟨_, rfl⟩
                            replace H : (if x7_2.length < 17592186044416 then (spec_PassMinute.l0 kj17 a1 (x7_2 ++ [((rd_T94 x8_2 x9_2).f0)]) y156 (wrap64 (x9_2 + 1))) else (none)) = some (r1, r2, r3) := by first | (rw [hy156]; with_reducible exact H) | (have H2_ := (Option.bind_some _ _).symm.trans H; rw [hy156]; with_reducible exact H2_) | (have H2_ := (Option.bind_some _ _).symm.trans H; with_reducible exact H2_) | with_reducible exact H | (rw [hy156]; exact H) | exact H
                            have Ny156 := Aside0.mk hy156
                            clear hy156
                            by_cases c30 : x7_2.length < 17592186044416
                            · rw [if_pos c30] at H
                              have LMc30 := Aside0.mk c30
                              clear c30
                              obtain ⟨y157, hy157⟩ : ∃ y_ : List Int, y_ = (x7_2 ++ [((rd_T94 x8_2 x9_2).f0)]) := ⟨_, rfl⟩
                              replace H : (spec_PassMinute.l0 kj17 a1 y157 y156 (wrap64 (x9_2 + 1))) = some (r1, r2, r3) := by first | (rw [hy157]; with_reducible exact H) | (have H2_ := (Option.bind_some _ _).symm.trans H; rw [hy157]; with_reducible exact H2_) | (have H2_ := (Option.bind_some _ _).symm.trans H; with_reducible exact H2_) | with_reducible exact H | (rw [hy157]; exact H) | exact H
                              have Ny157 := Aside0.mk hy157
                              clear hy157
                              have H' := Aside0.mk H
                              clear H
                              have hcz31_0 : wc.cell? ⟨gb155, 0, none⟩ = some (.int .i64 ((rd_T94 x8_2 x9_2).f0)) := (blk_cell BK155.out 0).trans rfl
                              have hcz31_1 : wc.cell? ⟨gb155, 1, none⟩ = some (.int .i64 ((rd_T94 x8_2 x9_2).f1)) := (blk_cell BK155.out 1).trans rfl
                              have hcz31_2 : wc.cell? ⟨gb155, 2, none⟩ = some (.int .i64 ((rd_T94 x8_2 x9_2).f2)) := (blk_cell BK155.out 2).trans rfl
                              have hcz31_3 : wc.cell? ⟨gb155, 3, none⟩ = some (.int .i64 ((rd_T94 x8_2 x9_2).f3)) := (blk_cell BK155.out 3).trans rfl
                              have hfz31_0 := blk_frozen BK155.out 0
                              have hfz31_1 := blk_frozen BK155.out 1
                              have hfz31_2 := blk_frozen BK155.out 2
                              have hfz31_3 := blk_frozen BK155.out 3
                              have p29 : 0 ≤ (x9_2 : Int) := of_decide_eq_true zax
                              have q29 : (x9_2 : Int) < ((x8_2.length : Int) : Int) := of_decide_eq_true zax
                              obtain ⟨go29, co29, eo29, gb29, gl29, cl29, HG29⟩ := Kd.R_form HO_8.out (by omega)
                              (first | cases eo29 | (injection eo29 with ea_ en_ ec_; (first | subst ea_ | (injection ea_ with ea_; subst ea_)); subst ec_; clear en_))
                              have GB29 := Aside0.mk gb29
                              have GG29 := Aside0.mk HG29
                              clear gb29 gl29 HG29
                              (first | simp only [add_plain] at hx154_0 | skip)
                              (first | simp only [add_plain] at hx154_1 | skip)
                              (first | simp only [add_plain] at hx154_2 | skip)
                              (first | simp only [add_plain] at hx154_3 | skip)
                              obtain ⟨ce29, hcl29, hM29, hcc29, hfr29⟩ := Kd.R_elem HO_8.out z94 (x9_2 : Int) p29 q29
                              obtain rfl := k94_openM hM29
                              have hx29_0 : wc.cell? ⟨go29, (x9_2 : Int).toNat * 4, none⟩ = some (.int .i64 ((rd_T94 x8_2 x9_2).f0)) := hcc29 0 _ rfl
                              have hx29_1 : wc.cell? ⟨go29, (x9_2 : Int).toNat * 4 + 1, none⟩ = some (.int .i64 ((rd_T94 x8_2 x9_2).f1)) := hcc29 1 _ rfl
                              have hx29_2 : wc.cell? ⟨go29, (x9_2 : Int).toNat * 4 + 2, none⟩ = some (.int .i64 ((rd_T94 x8_2 x9_2).f2)) := hcc29 2 _ rfl
                              have hx29_3 : wc.cell? ⟨go29, (x9_2 : Int).toNat * 4 + 3, none⟩ = some (.int .i64 ((rd_T94 x8_2 x9_2).f3)) := hcc29 3 _ rfl
                              have hf29_0 : wc.frozen? ⟨go29, (x9_2 : Int).toNat * 4, none⟩ = false := hfr29 0
                              have hf29_1 : wc.frozen? ⟨go29, (x9_2 : Int).toNat * 4 + 1, none⟩ = false := hfr29 1
                              have hf29_2 : wc.frozen? ⟨go29, (x9_2 : Int).toNat * 4 + 2, none⟩ = false := hfr29 2
                              have hf29_3 : wc.frozen? ⟨go29, (x9_2 : Int).toNat * 4 + 3, none⟩ = false := hfr29 3
                              clear hcl29 hcc29 hfr29 hM29
                              replace p29 := eq_true p29
                              replace q29 := eq_true q29
                              have HX32 := Aside0.mk (show Kd.R k94 94 wc w.heap.size (fun k_ => k_ ≠ gb155) (.slice (some ⟨go29, 0, none⟩) x8_2.length co19) x8_2 from (zRx HO_8.out))
                              obtain ⟨ce32, hcl32, hM32, hcc32, hfr32⟩ := Kd.R_elem HX32.out z94 (x9_2 : Int) (of_decide_eq_true zax) (by have h_ : (x9_2 : Int) < ((x8_2.length : Int) : Int) := of_decide_eq_true zax; first | exact h_ | (have e_ := (Kd.R_reads' HO_8.out).1; omega) | simpa using h_)
                              obtain rfl := k94_openM hM32
                              have HP32 := Kd.R_seg HX32.out (x9_2 : Int) (of_decide_eq_true zax) (by have h_ : (x9_2 : Int) < ((x8_2.length : Int) : Int) := of_decide_eq_true zax; first | exact h_ | (have e_ := (Kd.R_reads' HO_8.out).1; omega) | simpa using h_) (seg := [.int .i64 ((rd_T94 x8_2 x9_2).f0), .int .i64 4, .int .i64 ((rd_T94 x8_2 x9_2).f2), .int .i64 0]) (j := 0) hcl32 hcc32 (show 4 ≤ 4 from by decide) (x' := (⟨((rd_T94 x8_2 x9_2).f0), 4, ((rd_T94 x8_2 x9_2).f2), 0⟩ : S94)) (k94_mkM _ _ _ (⟨((rd_T94 x8_2 x9_2).f0), 4, ((rd_T94 x8_2 x9_2).f2), 0⟩ : S94) ) (fun _ hk => hk)
                              have hx32_0 := hcc32 0 _ rfl
                              (try simp only [show (k94).sz = 4 from rfl, Nat.mul_one, Nat.add_zero] at hx32_0)
                              have hf32_0 := hfr32 0
                              (try simp only [show (k94).sz = 4 from rfl, Nat.mul_one, Nat.add_zero] at hf32_0)
                              have hx32_1 := hcc32 1 _ rfl
                              (try simp only [show (k94).sz = 4 from rfl, Nat.mul_one, Nat.add_zero] at hx32_1)
                              have hf32_1 := hfr32 1
                              (try simp only [show (k94).sz = 4 from rfl, Nat.mul_one, Nat.add_zero] at hf32_1)
                              have hx32_2 := hcc32 2 _ rfl
                              (try simp only [show (k94).sz = 4 from rfl, Nat.mul_one, Nat.add_zero] at hx32_2)
                              have hf32_2 := hfr32 2
                              (try simp only [show (k94).sz = 4 from rfl, Nat.mul_one, Nat.add_zero] at hf32_2)
                              have hx32_3 := hcc32 3 _ rfl
                              (try simp only [show (k94).sz = 4 from rfl, Nat.mul_one, Nat.add_zero] at hx32_3)
                              have hf32_3 := hfr32 3
                              (try simp only [show (k94).sz = 4 from rfl, Nat.mul_one, Nat.add_zero] at hf32_3)
                              clear hcl32 hcc32 hfr32 hM32
                              go_wp2_with (first | ((with_reducible refine gate_store (t := 94) (p := 53) rfl ?_); refine store_event (t := 94) (p := 53) (v := ?vo_w33) (w1 := ((((wc.setCell ⟨go29, (x9_2 : Int).toNat * 4, none⟩ (.int .i64 ((rd_T94 x8_2 x9_2).f0))).setCell ⟨go29, (x9_2 : Int).toNat * 4 + 1, none⟩ (.int .i64 4)).setCell ⟨go29, (x9_2 : Int).toNat * 4 + 2, none⟩ (.int .i64 ((rd_T94 x8_2 x9_2).f2))).setCell ⟨go29, (x9_2 : Int).toNat * 4 + 3, none⟩ (.int .i64 0))) ?hg ?ho ?hn ?hr ?_; (case ho => rfl); (case hg => rfl); (case hn => rfl); (case hr => exact zsx); intro w33 hw; have hg : wc.grownBy w33 (some go29) := (by rw [hw]; exact HP32.2); have hp_ : Kd.R k94 94 w33 w.heap.size (fun k_ => k_ ≠ gb155) (.slice (some ⟨go29, 0, none⟩) x8_2.length co19) y156 := (by rw [hw, Ny156.out]; exact HP32.1); clear HP32; have n0_ := Aside0.mk (Kd.R_over' (v := (.slice (some ⟨go29, 0, none⟩) x8_2.length co19)) (zRx HO_7.out) (Kd.R_typed HO_8.out) (by decide) hg); have n1_ := Aside0.mk (hp_); have n2_ := Aside0.mk (blk_grown (g := gb155) (o := .cells #[.int .i64 ((rd_T94 x8_2 x9_2).f0), .int .i64 ((rd_T94 x8_2 x9_2).f1), .int .i64 ((rd_T94 x8_2 x9_2).f2), .int .i64 ((rd_T94 x8_2 x9_2).f3)] 94 (0, 0)) (zbx BK155.out) hg (Kd.R_away HO_8.out (fun _ hk => hk))); have n3_ := Aside0.mk ((by rw [hw]; exact below_set (below_set (below_set (below_set (HB.out) GB29.out) GB29.out) GB29.out) GB29.out : Below w.heap.size w w33)); clear HO_7; clear HO_8; clear BK155; clear HB; have HO_7 := n0_; have HO_8 := n1_; have BK155 := n2_; have HB := n3_; clear n0_ n1_ n2_ n3_; clear hg hw hp_; have hcz34_0 : w33.cell? ⟨gb155, 0, none⟩ = some (.int .i64 ((rd_T94 x8_2 x9_2).f0)) := (blk_cell BK155.out 0).trans rfl; have hcz34_1 : w33.cell? ⟨gb155, 1, none⟩ = some (.int .i64 ((rd_T94 x8_2 x9_2).f1)) := (blk_cell BK155.out 1).trans rfl; have hcz34_2 : w33.cell? ⟨gb155, 2, none⟩ = some (.int .i64 ((rd_T94 x8_2 x9_2).f2)) := (blk_cell BK155.out 2).trans rfl; have hcz34_3 : w33.cell? ⟨gb155, 3, none⟩ = some (.int .i64 ((rd_T94 x8_2 x9_2).f3)) := (blk_cell BK155.out 3).trans rfl; have hfz34_0 := blk_frozen BK155.out 0; have hfz34_1 := blk_frozen BK155.out 1; have hfz34_2 := blk_frozen BK155.out 2; have hfz34_3 := blk_frozen BK155.out 3) | ((with_reducible refine gate_builtin (b := .append) (xs := #[.tmp 54, .tmp 57]) rfl ?_); at_builtin; refine Kd.R_append (Kd.int .i64) (w0 := w) w.heap.size rfl (.tmp 54) (.tmp 57) 63 3 (.int .i64 0) 8 rfl Try.underlying63 info3 rfl (by decide) (by omega) u7 x7_2 ((rd_T94 x8_2 x9_2).f0) [.int .i64 ((rd_T94 x8_2 x9_2).f0)] (fun _ => True) (fun _ => False) rfl rfl ?aP (fun _ hk => hk.elim) ?aF ?aO ?aB ?aS ?aL ?_; (case aP => exact rfl); (case aB => exact (zBy HB.out GE155.out)); (case aF => exact (fun _ _ => trivial)); (case aO => exact (zRx HO_7.out)); (case aS => exact (below_size (zBy HB.out GE155.out))); (case aL => have := LMc30.out; omega); intro v158 w35 ho hb hg hat; rw [← Ny157.out] at ho; have n0_ := Aside0.mk (Kd.R_over' (zRx HO_8.out) (Kd.R_typed (zRx HO_7.out)) (by decide) hg); have n1_ := Aside0.mk (blk_grown (g := gb155) (o := .cells #[.int .i64 ((rd_T94 x8_2 x9_2).f0), .int .i64 ((rd_T94 x8_2 x9_2).f1), .int .i64 ((rd_T94 x8_2 x9_2).f2), .int .i64 ((rd_T94 x8_2 x9_2).f3)] 94 (0, 0)) (zbx BK155.out) hg (Kd.R_ne HO_7.out BK155.out (by decide))); have n2_ := Aside0.mk (hb); have n3_ := Aside0.mk (ho); clear HO_8; clear BK155; clear HB; clear HO_7; have HO_8 := n0_; have BK155 := n1_; have HB := n2_; have HO159 := n3_; clear n0_ n1_ n2_ n3_; clear ho hb hg hat))
                              go_roundg kj17
                              case measure => have := HJ2.out; have := HK2.out; have := HJ17.out; omega
                              case rel => exact ⟨(y157), (y156), (wrap64 (x9_2 + 1)), zrx, H', ⟨by have := HJ2.out; have := HK2.out; have := HJ17.out; omega⟩, ⟨by (with_reducible repeat (first | apply Kd.R_alloc | apply Kd.R_drewN | apply Kd.R_drew)); exact HO159.out⟩, ⟨by (with_reducible repeat (first | apply Kd.R_alloc | apply Kd.R_drewN | apply Kd.R_drew)); exact Kd.R_mono HO_8.out (fun _ hk => trivial)⟩, ⟨by exact zBy HB.out GE155.out⟩⟩
                            · rw [if_neg c30] at H
                              exact absurd H (by simp)
                          · rw [if_neg c28] at H
                            exact absurd H (by simp)
                        · rw [if_neg c27] at H
                          exact absurd H (by simp)
                      · rw [if_neg c26] at H
                        have c26b0 : (((rd_T94 x8_2 x9_2).f2) == 5) = false := beq_eq_false_iff_ne.mpr c26
                        have c26b1 : (((rd_T94 x8_2 x9_2).f2) != 5) = true := bne_iff_ne.mpr c26
                        obtain ⟨ji36, hji36⟩ : ∃ j_ : Int, (IntKind.u64.wrap (((rd_T94 x8_2 x9_2).f2))) = j_ := ⟨_, rfl⟩
                        replace H : (if 0 ≤ (ji36) then (if 0 ≤ x9_2 then (if x9_2 < (x8_2.length : Int) then (spec_PassMinute.l0 kj17 a1 x7_2 (x8_2.set (x9_2 : Int).toNat (⟨((rd_T94 x8_2 x9_2).f0), 1, ((rd_T94 x8_2 x9_2).f2), wrap64 (a1 + (shl .i64 1 (ji36)))⟩ : S94)) (wrap64 (x9_2 + 1))) else (none)) else (none)) else (none)) = some (r1, r2, r3) := by first | (rw [hji36] at H; exact H) | (simp only [hji36] at H ⊢; exact H)
                        by_cases c37 : 0 ≤ (ji36)
                        · rw [if_pos c37] at H
                          have c37b0 := eq_true c37
                          have c37b1 : decide (0 ≤ (ji36)) = true := decide_eq_true c37
                          clear c37
                          obtain ⟨ji38, hji38⟩ : ∃ j_ : Int, (shl .i64 1 (ji36)) = j_ := ⟨_, rfl⟩
                          replace H : (if 0 ≤ x9_2 then (if x9_2 < (x8_2.length : Int) then (spec_PassMinute.l0 kj17 a1 x7_2 (x8_2.set (x9_2 : Int).toNat (⟨((rd_T94 x8_2 x9_2).f0), 1, ((rd_T94 x8_2 x9_2).f2), wrap64 (a1 + (ji38))⟩ : S94)) (wrap64 (x9_2 + 1))) else (none)) else (none)) = some (r1, r2, r3) := by first | (rw [hji38] at H; exact H) | (simp only [hji38] at H ⊢; exact H)
                          have hji38_ : (IntKind.i64.wrap (1 * 2 ^ min (ji36).toNat 64)) = ji38 := hji38
                          have hji38z : (ji36) ≤ 64 → (IntKind.i64.wrap (1 * 2 ^ (ji36).toNat)) = ji38 := shl_small hji38
                          have hji38u : (IntKind.i64.wrap (2 ^ min (ji36).toNat 64)) = ji38 := by have h_ := hji38_; rw [Int.one_mul] at h_; exact h_
                          have hji38v : (ji36) ≤ 64 → (IntKind.i64.wrap (2 ^ (ji36).toNat)) = ji38 := fun hle_ => by have h_ := hji38z hle_; rw [Int.one_mul] at h_; exact h_
                          have hji38y : (wrap64 (1 * 2 ^ min (ji36).toNat 64)) = ji38 := (i64_w _).symm.trans hji38_
                          have hji38x : (ji36) ≤ 64 → (wrap64 (1 * 2 ^ (ji36).toNat)) = ji38 := fun h_ => (i64_w _).symm.trans (hji38z h_)
                          by_cases c39 : 0 ≤ x9_2
                          · rw [if_pos c39] at H
                            have c39b0 : decide (0 ≤ x9_2) = true := decide_eq_true c39
                            clear c39
                            by_cases c40 : x9_2 < (x8_2.length : Int)
                            · rw [if_pos c40] at H
                              have c40b0 : decide (x9_2 < (x8_2.length : Int)) = true := decide_eq_true c40
                              clear c40
                              obtain ⟨y160, hy160⟩ : ∃ y_ : List (S94), y_ = (x8_2.set (x9_2 : Int).toNat (⟨((rd_T94 x8_2 x9_2).f0), 1, ((rd_T94 x8_2 x9_2).f2), wrap64 (a1 + (ji38))⟩ : S94)) := ⟨_, rfl⟩
                              replace H : (spec_PassMinute.l0 kj17 a1 x7_2 y160 (wrap64 (x9_2 + 1))) = some (r1, r2, r3) := by first | (rw [hy160]; with_reducible exact H) | (have H2_ := (Option.bind_some _ _).symm.trans H; rw [hy160]; with_reducible exact H2_) | (have H2_ := (Option.bind_some _ _).symm.trans H; with_reducible exact H2_) | with_reducible exact H | (rw [hy160]; exact H) | exact H
                              have Ny160 := Aside0.mk hy160
                              clear hy160
                              have H' := Aside0.mk H
                              clear H
                              have hcz42_0 : wc.cell? ⟨gb155, 0, none⟩ = some (.int .i64 ((rd_T94 x8_2 x9_2).f0)) := (blk_cell BK155.out 0).trans rfl
                              have hcz42_1 : wc.cell? ⟨gb155, 1, none⟩ = some (.int .i64 ((rd_T94 x8_2 x9_2).f1)) := (blk_cell BK155.out 1).trans rfl
                              have hcz42_2 : wc.cell? ⟨gb155, 2, none⟩ = some (.int .i64 ((rd_T94 x8_2 x9_2).f2)) := (blk_cell BK155.out 2).trans rfl
                              have hcz42_3 : wc.cell? ⟨gb155, 3, none⟩ = some (.int .i64 ((rd_T94 x8_2 x9_2).f3)) := (blk_cell BK155.out 3).trans rfl
                              have hfz42_0 := blk_frozen BK155.out 0
                              have hfz42_1 := blk_frozen BK155.out 1
                              have hfz42_2 := blk_frozen BK155.out 2
                              have hfz42_3 := blk_frozen BK155.out 3
                              have p41 : 0 ≤ (x9_2 : Int) := of_decide_eq_true zax
                              have q41 : (x9_2 : Int) < ((x8_2.length : Int) : Int) := of_decide_eq_true zax
                              obtain ⟨go41, co41, eo41, gb41, gl41, cl41, HG41⟩ := Kd.R_form HO_8.out (by omega)
                              (first | cases eo41 | (injection eo41 with ea_ en_ ec_; (first | subst ea_ | (injection ea_ with ea_; subst ea_)); subst ec_; clear en_))
                              have GB41 := Aside0.mk gb41
                              have GG41 := Aside0.mk HG41
                              clear gb41 gl41 HG41
                              obtain ⟨ce41, hcl41, hM41, hcc41, hfr41⟩ := Kd.R_elem HO_8.out z94 (x9_2 : Int) p41 q41
                              obtain rfl := k94_openM hM41
                              have hx41_0 : wc.cell? ⟨go41, (x9_2 : Int).toNat * 4, none⟩ = some (.int .i64 ((rd_T94 x8_2 x9_2).f0)) := hcc41 0 _ rfl
                              have hx41_1 : wc.cell? ⟨go41, (x9_2 : Int).toNat * 4 + 1, none⟩ = some (.int .i64 ((rd_T94 x8_2 x9_2).f1)) := hcc41 1 _ rfl
                              have hx41_2 : wc.cell? ⟨go41, (x9_2 : Int).toNat * 4 + 2, none⟩ = some (.int .i64 ((rd_T94 x8_2 x9_2).f2)) := hcc41 2 _ rfl
                              have hx41_3 : wc.cell? ⟨go41, (x9_2 : Int).toNat * 4 + 3, none⟩ = some (.int .i64 ((rd_T94 x8_2 x9_2).f3)) := hcc41 3 _ rfl
                              have hf41_0 : wc.frozen? ⟨go41, (x9_2 : Int).toNat * 4, none⟩ = false := hfr41 0
                              have hf41_1 : wc.frozen? ⟨go41, (x9_2 : Int).toNat * 4 + 1, none⟩ = false := hfr41 1
                              have hf41_2 : wc.frozen? ⟨go41, (x9_2 : Int).toNat * 4 + 2, none⟩ = false := hfr41 2
                              have hf41_3 : wc.frozen? ⟨go41, (x9_2 : Int).toNat * 4 + 3, none⟩ = false := hfr41 3
                              clear hcl41 hcc41 hfr41 hM41
                              replace p41 := eq_true p41
                              replace q41 := eq_true q41
                              have HX43 := Aside0.mk (show Kd.R k94 94 wc w.heap.size (fun k_ => k_ ≠ gb155) (.slice (some ⟨go41, 0, none⟩) x8_2.length co19) x8_2 from (zRx HO_8.out))
                              obtain ⟨ce43, hcl43, hM43, hcc43, hfr43⟩ := Kd.R_elem HX43.out z94 (x9_2 : Int) (of_decide_eq_true zax) (by have h_ : (x9_2 : Int) < ((x8_2.length : Int) : Int) := of_decide_eq_true zax; first | exact h_ | (have e_ := (Kd.R_reads' HO_8.out).1; omega) | simpa using h_)
                              obtain rfl := k94_openM hM43
                              have HP43 := Kd.R_seg HX43.out (x9_2 : Int) (of_decide_eq_true zax) (by have h_ : (x9_2 : Int) < ((x8_2.length : Int) : Int) := of_decide_eq_true zax; first | exact h_ | (have e_ := (Kd.R_reads' HO_8.out).1; omega) | simpa using h_) (seg := [.int .i64 ((rd_T94 x8_2 x9_2).f0), .int .i64 1, .int .i64 ((rd_T94 x8_2 x9_2).f2), .int .i64 (wrap64 (a1 + (ji38)))]) (j := 0) hcl43 hcc43 (show 4 ≤ 4 from by decide) (x' := (⟨((rd_T94 x8_2 x9_2).f0), 1, ((rd_T94 x8_2 x9_2).f2), wrap64 (a1 + (ji38))⟩ : S94)) (k94_mkM _ _ _ (⟨((rd_T94 x8_2 x9_2).f0), 1, ((rd_T94 x8_2 x9_2).f2), wrap64 (a1 + (ji38))⟩ : S94) ) (fun _ hk => hk)
                              have hx43_0 := hcc43 0 _ rfl
                              (try simp only [show (k94).sz = 4 from rfl, Nat.mul_one, Nat.add_zero] at hx43_0)
                              have hf43_0 := hfr43 0
                              (try simp only [show (k94).sz = 4 from rfl, Nat.mul_one, Nat.add_zero] at hf43_0)
                              have hx43_1 := hcc43 1 _ rfl
                              (try simp only [show (k94).sz = 4 from rfl, Nat.mul_one, Nat.add_zero] at hx43_1)
                              have hf43_1 := hfr43 1
                              (try simp only [show (k94).sz = 4 from rfl, Nat.mul_one, Nat.add_zero] at hf43_1)
                              have hx43_2 := hcc43 2 _ rfl
                              (try simp only [show (k94).sz = 4 from rfl, Nat.mul_one, Nat.add_zero] at hx43_2)
                              have hf43_2 := hfr43 2
                              (try simp only [show (k94).sz = 4 from rfl, Nat.mul_one, Nat.add_zero] at hf43_2)
                              have hx43_3 := hcc43 3 _ rfl
                              (try simp only [show (k94).sz = 4 from rfl, Nat.mul_one, Nat.add_zero] at hx43_3)
                              have hf43_3 := hfr43 3
                              (try simp only [show (k94).sz = 4 from rfl, Nat.mul_one, Nat.add_zero] at hf43_3)
                              clear hcl43 hcc43 hfr43 hM43
                              go_wp2_with (first | ((with_reducible refine gate_store (t := 94) (p := 72) rfl ?_); refine store_event (t := 94) (p := 72) (v := ?vo_w44) (w1 := ((((wc.setCell ⟨go41, (x9_2 : Int).toNat * 4, none⟩ (.int .i64 ((rd_T94 x8_2 x9_2).f0))).setCell ⟨go41, (x9_2 : Int).toNat * 4 + 1, none⟩ (.int .i64 1)).setCell ⟨go41, (x9_2 : Int).toNat * 4 + 2, none⟩ (.int .i64 ((rd_T94 x8_2 x9_2).f2))).setCell ⟨go41, (x9_2 : Int).toNat * 4 + 3, none⟩ (.int .i64 (wrap64 (a1 + (ji38)))))) ?hg ?ho ?hn ?hr ?_; (case ho => rfl); (case hg => rfl); (case hn => rfl); (case hr => exact zsx); intro w44 hw; have hg : wc.grownBy w44 (some go41) := (by rw [hw]; exact HP43.2); have hp_ : Kd.R k94 94 w44 w.heap.size (fun k_ => k_ ≠ gb155) (.slice (some ⟨go41, 0, none⟩) x8_2.length co19) y160 := (by rw [hw, Ny160.out]; exact HP43.1); clear HP43; have n0_ := Aside0.mk (Kd.R_over' (v := (.slice (some ⟨go41, 0, none⟩) x8_2.length co19)) (zRx HO_7.out) (Kd.R_typed HO_8.out) (by decide) hg); have n1_ := Aside0.mk (hp_); have n2_ := Aside0.mk (blk_grown (g := gb155) (o := .cells #[.int .i64 ((rd_T94 x8_2 x9_2).f0), .int .i64 ((rd_T94 x8_2 x9_2).f1), .int .i64 ((rd_T94 x8_2 x9_2).f2), .int .i64 ((rd_T94 x8_2 x9_2).f3)] 94 (0, 0)) (zbx BK155.out) hg (Kd.R_away HO_8.out (fun _ hk => hk))); have n3_ := Aside0.mk ((by rw [hw]; exact below_set (below_set (below_set (below_set (HB.out) GB41.out) GB41.out) GB41.out) GB41.out : Below w.heap.size w w44)); clear HO_7; clear HO_8; clear BK155; clear HB; have HO_7 := n0_; have HO_8 := n1_; have BK155 := n2_; have HB := n3_; clear n0_ n1_ n2_ n3_; clear hg hw hp_))
                              go_roundg kj17
                              case measure => have := HJ2.out; have := HK2.out; have := HJ17.out; omega
                              case rel => exact ⟨(x7_2), (y160), (wrap64 (x9_2 + 1)), zrx, H', ⟨by have := HJ2.out; have := HK2.out; have := HJ17.out; omega⟩, ⟨by (with_reducible repeat (first | apply Kd.R_alloc | apply Kd.R_drewN | apply Kd.R_drew)); exact HO_7.out⟩, ⟨by (with_reducible repeat (first | apply Kd.R_alloc | apply Kd.R_drewN | apply Kd.R_drew)); exact Kd.R_mono HO_8.out (fun _ hk => trivial)⟩, ⟨by exact zBy HB.out GE155.out⟩⟩
                            · rw [if_neg c40] at H
                              exact absurd H (by simp)
                          · rw [if_neg c39] at H
                            exact absurd H (by simp)
                        · rw [if_neg c37] at H
                          exact absurd H (by simp)
              · rw [if_neg c17] at H
                exact absurd H (by simp)
            · rw [if_neg c16] at H
              have c16b0 : decide (x9_2 < (x8_2.length : Int)) = false := decide_eq_false c16
              clear c16
              simp only [Option.some.injEq, Prod.mk.injEq] at H
              obtain ⟨rfl, rfl, rfl⟩ := H
              obtain ⟨Ao45, co45, eo45⟩ := Kd.R_slice HO_8.out
              subst eo45
              go_wp2
              go_ret3
              exact ⟨_, _, by first | rfl | (simp [errW_none, errW_some] <;> rfl) | (simp [*, errW_none, errW_some] <;> rfl), by (with_reducible repeat (first | apply Kd.R_alloc | apply Kd.R_drewN | apply Kd.R_drew)); exact HO_8.out, by (with_reducible repeat (first | apply Kd.R_alloc | apply Kd.R_drewN | apply Kd.R_drew)); exact HO_7.out, by exact zBx HB.out⟩

/-! ### impl_isOpen: function 70 -/
def impl_isOpen.f (a0_0 : Int) (a0_1 : Int) (a0_2 : Int) (a0_3 : Int) : Option (Bool) := if a0_1 = 1 then (some true) else (some (a0_1 == 2))
set_option maxHeartbeats 8000000 in
set_option maxRecDepth 100000 in
theorem impl_isOpen.calls (a0_0 : Int) (a0_1 : Int) (a0_2 : Int) (a0_3 : Int) (r : Bool) (w : World) (h : impl_isOpen.f a0_0 a0_1 a0_2 a0_3 = some r) :
    Calls Try.prog 70 #[.agg #[.int .i64 a0_0, .int .i64 a0_1, .int .i64 a0_2, .int .i64 a0_3]] w fun e w' => e = .returned (.bool r) ∧ Below w.heap.size w w' := by
  have hu94 := Try.underlying94
  have HB := Aside0.mk (Below.refl w.heap.size w)
  have H : (if a0_1 = 1 then (some true) else (some (a0_1 == 2))) = some r := h
  clear h
  by_cases c2 : a0_1 = 1
  · rw [if_pos c2] at H
    have c2b0 : (a0_1 == 1) = true := beq_iff_eq.mpr c2
    have c2b1 : (a0_1 != 1) = false := bne_eq_false_iff_eq.mpr c2
    clear c2
    obtain rfl := Option.some.inj H
    go_enter Try.func70, Try.ntmps70
    go_wp2_with (first | ((with_reducible refine gate_dst (N := 1) rfl ?_); refine box_event ?hg (N := 1) ?hd (cs := #[.int .i64 a0_0, .int .i64 a0_1, .int .i64 a0_2, .int .i64 a0_3]) (t := 94) ?hr ?_; (case hd => rfl); (case hg => rfl); (case hr => exact zsx); intro gb161 hg w3 hbox hb; have n0_ := Aside0.mk (below_step (zBx HB.out) hb); have n1_ := Aside0.mk (hbox); have n2_ := Aside0.mk ((by rw [hg]; exact (below_size (zBx HB.out)) : w.heap.size ≤ gb161)); have n3_ := Aside0.mk ((by rw [hg]; exact (below_size (zBx HB.out)) : w.heap.size ≤ gb161)); clear HB; have HB := n0_; have BK161 := n1_; have GW161 := n2_; have GE161 := n3_; clear n0_ n1_ n2_ n3_; clear hb hbox hg; have hcz4_0 : w3.cell? ⟨gb161, 0, none⟩ = some (.int .i64 a0_0) := (blk_cell BK161.out 0).trans rfl; have hcz4_1 : w3.cell? ⟨gb161, 1, none⟩ = some (.int .i64 a0_1) := (blk_cell BK161.out 1).trans rfl; have hcz4_2 : w3.cell? ⟨gb161, 2, none⟩ = some (.int .i64 a0_2) := (blk_cell BK161.out 2).trans rfl; have hcz4_3 : w3.cell? ⟨gb161, 3, none⟩ = some (.int .i64 a0_3) := (blk_cell BK161.out 3).trans rfl; have hfz4_0 := blk_frozen BK161.out 0; have hfz4_1 := blk_frozen BK161.out 1; have hfz4_2 := blk_frozen BK161.out 2; have hfz4_3 := blk_frozen BK161.out 3))
    go_ret
    exact ⟨by first | rfl | (simp [errW_none, errW_some] <;> rfl) | (simp [*, errW_none, errW_some] <;> rfl), by exact zBy HB.out GE161.out⟩
  · rw [if_neg c2] at H
    have c2b0 : (a0_1 == 1) = false := beq_eq_false_iff_ne.mpr c2
    have c2b1 : (a0_1 != 1) = true := bne_iff_ne.mpr c2
    obtain rfl := Option.some.inj H
    go_enter Try.func70, Try.ntmps70
    go_wp2_with (first | ((with_reducible refine gate_dst (N := 1) rfl ?_); refine box_event ?hg (N := 1) ?hd (cs := #[.int .i64 a0_0, .int .i64 a0_1, .int .i64 a0_2, .int .i64 a0_3]) (t := 94) ?hr ?_; (case hd => rfl); (case hg => rfl); (case hr => exact zsx); intro gb161 hg w5 hbox hb; have n0_ := Aside0.mk (below_step (zBx HB.out) hb); have n1_ := Aside0.mk (hbox); have n2_ := Aside0.mk ((by rw [hg]; exact (below_size (zBx HB.out)) : w.heap.size ≤ gb161)); have n3_ := Aside0.mk ((by rw [hg]; exact (below_size (zBx HB.out)) : w.heap.size ≤ gb161)); clear HB; have HB := n0_; have BK161 := n1_; have GW161 := n2_; have GE161 := n3_; clear n0_ n1_ n2_ n3_; clear hb hbox hg; have hcz6_0 : w5.cell? ⟨gb161, 0, none⟩ = some (.int .i64 a0_0) := (blk_cell BK161.out 0).trans rfl; have hcz6_1 : w5.cell? ⟨gb161, 1, none⟩ = some (.int .i64 a0_1) := (blk_cell BK161.out 1).trans rfl; have hcz6_2 : w5.cell? ⟨gb161, 2, none⟩ = some (.int .i64 a0_2) := (blk_cell BK161.out 2).trans rfl; have hcz6_3 : w5.cell? ⟨gb161, 3, none⟩ = some (.int .i64 a0_3) := (blk_cell BK161.out 3).trans rfl; have hfz6_0 := blk_frozen BK161.out 0; have hfz6_1 := blk_frozen BK161.out 1; have hfz6_2 := blk_frozen BK161.out 2; have hfz6_3 := blk_frozen BK161.out 3))
    go_ret
    exact ⟨by first | rfl | (simp [errW_none, errW_some] <;> rfl) | (simp [*, errW_none, errW_some] <;> rfl), by exact zBy HB.out GE161.out⟩

/-! ### impl_within: function 80 -/
def impl_within.f (a0 : Int) (a1 : Int) (a2 : Int) : Option (Bool) := if a0 ≥ a1 then (some (decide (a0 ≤ a2))) else (some false)
set_option maxHeartbeats 8000000 in
set_option maxRecDepth 100000 in
theorem impl_within.calls (a0 : Int) (a1 : Int) (a2 : Int) (r : Bool) (w : World) (h : impl_within.f a0 a1 a2 = some r) :
    Calls Try.prog 80 #[.int .i64 a0, .int .i64 a1, .int .i64 a2] w fun e w' => e = .returned (.bool r) ∧ Drawn0 w w' := by
  have H : (if a0 ≥ a1 then (some (decide (a0 ≤ a2))) else (some false)) = some r := h
  clear h
  by_cases c4 : a0 ≥ a1
  · rw [if_pos c4] at H
    have c4b0 : decide (a1 ≤ a0) = true := decide_eq_true c4
    clear c4
    obtain rfl := Option.some.inj H
    go_enter Try.func80, Try.ntmps80
    go_wp2
    go_ret
    exact ⟨by first | rfl | (simp; done) | (simp [*]; done), by repeat (first | exact Drawn0.refl _ | apply Drawn0.step)⟩
  · rw [if_neg c4] at H
    have c4b0 : decide (a1 ≤ a0) = false := decide_eq_false c4
    clear c4
    obtain rfl := Option.some.inj H
    go_enter Try.func80, Try.ntmps80
    go_wp2
    go_ret
    exact ⟨by first | rfl | (simp; done) | (simp [*]; done), by repeat (first | exact Drawn0.refl _ | apply Drawn0.step)⟩

end Go.Proofs.Ytjagdjbiljooiaa.XFnExactPassMinute
