-- written by wip/tools/xprint.py (a program of this project) out of the translation
import Derived.Test.YtkegkbpadhddkaaXFnCoursesx0
import Derived.Test.YtkegkbpadhddkaaXFnCoursesx2
import Derived.Test.YtkegkbpadhddkaaXFnCoursesx3
import Derived.Test.YtkegkbpadhddkaaXFnCoursesx5
namespace Go.Proofs.Ytkegkbpadhddkaa.XFnCourses
open Go.RowKit Go.Proofs.YtkegkbpadhddkaaW.PrintWords Go.Proofs.YtkegkbpadhddkaaW.PrintLast Go.Proofs.YtkegkbpadhddkaaW.PrintMore
attribute [local go_sem] max2_int min2_int max_two min_two max_three min_three max_four min_four   -- for this text's walks alone
set_option linter.unusedVariables false
set_option linter.unusedSimpArgs false

/-! ### impl_HoursAt: function 30 -/
mutual
def impl_HoursAt.j0 : Nat → List (S41) → Int → Bool → Option (Int × Bool)
 | 0, _, _, _ => none
 | k + 1, x0, x1, x16 => if x16 = true then (some (0, false)) else ((impl_levelsOf.f k x0).bind fun t396 => (impl_HoursAt.l0 k x1 0 t396 (t396.length : Int) 0))
def impl_HoursAt.l0 : Nat → Int → Int → List Int → Int → Int → Option (Int × Bool)
 | 0, _, _, _, _, _ => none
 | k + 1, x1, x6, x18, x19, x20 => if x20 < x19 then (if 0 ≤ x20 then (if x20 < (x18.length : Int) then (if (rd x18 x20) = x1 then (impl_HoursAt.l0 k x1 (wrap64 (x6 + 1)) x18 x19 (wrap64 (x20 + 1))) else (impl_HoursAt.l0 k x1 x6 x18 x19 (wrap64 (x20 + 1)))) else (none)) else (none)) else (some (x6, true))
end
def impl_HoursAt.f (k : Nat) (l0 : List (S41)) (a1 : Int) : Option (Int × Bool) := (impl_IsValidCourse.f k l0).bind fun t394 => (if t394 = true then ((impl_within.f a1 0 3).bind fun t395 => (impl_HoursAt.j0 k l0 a1 (!t395))) else (impl_HoursAt.j0 k l0 a1 true))
theorem impl_HoursAt.mono_l : ∀ k, (∀ y0 y1 y2, LeO (impl_HoursAt.j0 k y0 y1 y2) (impl_HoursAt.j0 (k + 1) y0 y1 y2)) ∧ (∀ y0 y1 y2 y3 y4, LeO (impl_HoursAt.l0 k y0 y1 y2 y3 y4) (impl_HoursAt.l0 (k + 1) y0 y1 y2 y3 y4))
 | 0 => ⟨fun _ _ _ r h => by simp [impl_HoursAt.j0] at h, fun _ _ _ _ _ r h => by simp [impl_HoursAt.l0] at h⟩
 | k + 1 => by
  obtain ⟨ih0, ih1⟩ := impl_HoursAt.mono_l k
  refine ⟨?_, ?_⟩
  ·intro y0 y1 y2
   unfold impl_HoursAt.j0
   repeat' first
   | (with_reducible exact ih0 _ _ _)
   | (with_reducible exact ih1 _ _ _ _ _)
   | (with_reducible exact impl_IsValidCourse.mono _ _)
   | (with_reducible exact impl_levelsOf.mono _ _)
   | (with_reducible exact LeO.refl _)
   | (with_reducible exact LeO.none _)
   | (with_reducible refine LeO.ite ?_ ?_)
   | (with_reducible refine LeO.bind ?_ (fun _ => ?_))
   | exact ih0 _ _ _
   | exact ih1 _ _ _ _ _
   | exact impl_IsValidCourse.mono _ _
   | exact impl_levelsOf.mono _ _
   | exact LeO.none _
   | refine LeO.ite ?_ ?_
   | refine LeO.bind ?_ (fun _ => ?_)
  ·intro y0 y1 y2 y3 y4
   unfold impl_HoursAt.l0
   repeat' first
   | (with_reducible exact ih0 _ _ _)
   | (with_reducible exact ih1 _ _ _ _ _)
   | (with_reducible exact impl_IsValidCourse.mono _ _)
   | (with_reducible exact impl_levelsOf.mono _ _)
   | (with_reducible exact LeO.refl _)
   | (with_reducible exact LeO.none _)
   | (with_reducible refine LeO.ite ?_ ?_)
   | (with_reducible refine LeO.bind ?_ (fun _ => ?_))
   | exact ih0 _ _ _
   | exact ih1 _ _ _ _ _
   | exact impl_IsValidCourse.mono _ _
   | exact impl_levelsOf.mono _ _
   | exact LeO.none _
   | refine LeO.ite ?_ ?_
   | refine LeO.bind ?_ (fun _ => ?_)
theorem impl_HoursAt.mono : ∀ a0 a1 k, LeO (impl_HoursAt.f k a0 a1) (impl_HoursAt.f (k + 1) a0 a1) := by
 intro a0 a1 k
 obtain ⟨ih0, ih1⟩ := impl_HoursAt.mono_l k
 unfold impl_HoursAt.f
 repeat' first
  | (with_reducible exact ih0 _ _ _)
  | (with_reducible exact ih1 _ _ _ _ _)
  | (with_reducible exact impl_IsValidCourse.mono _ _)
  | (with_reducible exact impl_levelsOf.mono _ _)
  | (with_reducible exact LeO.refl _)
  | (with_reducible exact LeO.none _)
  | (with_reducible refine LeO.ite ?_ ?_)
  | (with_reducible refine LeO.bind ?_ (fun _ => ?_))
  | exact ih0 _ _ _
  | exact ih1 _ _ _ _ _
  | exact impl_IsValidCourse.mono _ _
  | exact impl_levelsOf.mono _ _
  | exact LeO.none _
  | refine LeO.ite ?_ ?_
  | refine LeO.bind ?_ (fun _ => ?_)
set_option maxHeartbeats 8000000 in
set_option maxRecDepth 100000 in
theorem impl_HoursAt.calls (k : Nat) (A0 : Option Addr) (c0 : Nat) (l0 : List (S41)) (a1 : Int) (r1 : Int) (r2 : Bool) (w : World) (hr0 : Kd.C k41 w A0 l0.length l0) (hc0 : l0.length ≤ c0) (h : impl_HoursAt.f k l0 a1 = some (r1, r2)) :
 Calls Try.prog 30 #[.slice A0 l0.length c0, .int .i64 a1] w fun e w' => e = .returned (.tuple #[.int .i64 r1, .bool r2]) ∧ Below w.heap.size w w' := by
 have HR0 := Aside0.mk hr0
 have HC0 := Aside0.mk hc0
 clear hr0 hc0
 have HB := Aside0.mk (Below.refl w.heap.size w)
 have H : ((impl_IsValidCourse.f k l0).bind fun t394 => (if t394 = true then ((impl_within.f a1 0 3).bind fun t395 => (impl_HoursAt.j0 k l0 a1 (!t395))) else (impl_HoursAt.j0 k l0 a1 true))) = some (r1, r2) := h
 clear h
 have HC3 := Aside0.mk H
 clear H
 go_enter Try.func30, Try.ntmps30
 go_upto_region 1 with (fail)
 go_cut [16] (fun v16 wc => ∃ (kq : Nat) (x16_2 : Bool), v16 = .bool x16_2 ∧ Aside0 (impl_HoursAt.j0 kq l0 a1 x16_2 = some (r1, r2)) ∧ Aside0 (kq ≤ k) ∧ Aside0 (Below w.heap.size w wc))
 case first =>
  have H := HC3.out
  clear HC3
  replace H := Option.bind_eq_some_iff.mp H
  obtain ⟨t394, A40, H⟩ := H
  replace H : (if t394 = true then ((impl_within.f a1 0 3).bind fun t395 => (impl_HoursAt.j0 k l0 a1 (!t395))) else (impl_HoursAt.j0 k l0 a1 true)) = some (r1, r2) := H
  have A4 := Aside0.mk A40
  clear A40
  by_cases c5 : t394 = true
  ·subst c5
   have H1 : ((impl_within.f a1 0 3).bind fun t395 => (impl_HoursAt.j0 k l0 a1 (!t395))) = some (r1, r2) := by rw [if_pos rfl] at H; exact H
   clear H
   have H := H1
   clear H1
   replace H := Option.bind_eq_some_iff.mp H
   obtain ⟨t395, A60, H⟩ := H
   replace H : (impl_HoursAt.j0 k l0 a1 (!t395)) = some (r1, r2) := H
   have A6 := Aside0.mk A60
   clear A60
   focus
    have H' := Aside0.mk H
    clear H
    go_wp2_with (first | ((with_reducible refine gate_callee (f := 29) rfl ?_); refine goesL_ (some 10) rfl rfl Try.func29 (by kernel_rfl) rfl #[.slice A0 l0.length c0] rfl zlx ?_; (with_reducible refine (impl_IsValidCourse.calls k _ _ l0 true _ ?side1 ?side2 A4.out).mono ?_); (case side1 => repeat (first | exact (Kd.C_below HR0.out HB.out) | (with_reducible refine Kd.C_alloc ?_ _) | (with_reducible refine Kd.C_drewN ?_ _) | (with_reducible refine Kd.C_drew ?_))); (case side2 => exact HC0.out); rintro e w7 ⟨rfl, hb⟩; refine ⟨_, rfl, ?_⟩; have n0_ := Aside0.mk (below_step (zBx HB.out) hb); clear HB; have HB := n0_; clear n0_; (try clear hb); (try clear hb2); (try clear hk); (try clear hi)) | (go_at_call 65; (with_reducible refine (impl_within.calls a1 0 3 t395 _ A6.out).mono ?_); rintro e w' ⟨rfl, ⟨nd, rfl⟩⟩))
    go_meet
    case rel => exact ⟨_, (!t395), zrx, H', ⟨by first | omega | exact Nat.le_refl _⟩, ⟨by exact zBx HB.out⟩⟩
  ·replace c5 := Bool.eq_false_iff.mpr c5
   subst c5
   have H1 : (impl_HoursAt.j0 k l0 a1 true) = some (r1, r2) := by rw [if_neg (show ¬ (false = true) by decide)] at H; exact H
   clear H
   have H := H1
   clear H1
   focus
    have H' := Aside0.mk H
    clear H
    go_wp2_with (first | ((with_reducible refine gate_callee (f := 29) rfl ?_); refine goesL_ (some 10) rfl rfl Try.func29 (by kernel_rfl) rfl #[.slice A0 l0.length c0] rfl zlx ?_; (with_reducible refine (impl_IsValidCourse.calls k _ _ l0 false _ ?side1 ?side2 A4.out).mono ?_); (case side1 => repeat (first | exact (Kd.C_below HR0.out HB.out) | (with_reducible refine Kd.C_alloc ?_ _) | (with_reducible refine Kd.C_drewN ?_ _) | (with_reducible refine Kd.C_drew ?_))); (case side2 => exact HC0.out); rintro e w8 ⟨rfl, hb⟩; refine ⟨_, rfl, ?_⟩; have n0_ := Aside0.mk (below_step (zBx HB.out) hb); clear HB; have HB := n0_; clear n0_; (try clear hb); (try clear hb2); (try clear hk); (try clear hi)))
    go_meet
    case rel => exact ⟨_, (true), zrx, H', ⟨by first | omega | exact Nat.le_refl _⟩, ⟨by exact zBx HB.out⟩⟩
 case rest =>
  clear HC3
  try clear c2
  try clear p2
  try clear c3
  try clear c5
  obtain ⟨kq, x16_2, rfl, HA, HJ2, HB⟩ := hcut
  cases kq with
  | zero => exact absurd HA.out (by simp [impl_HoursAt.j0])
  | succ kj2 =>
   have H := HA.out
   clear HA
   simp only [impl_HoursAt.j0] at H
   by_cases c9 : x16_2 = true
   ·subst c9
    have H1 : (some (0, false)) = some (r1, r2) := by rw [if_pos rfl] at H; exact H
    clear H
    have H := H1
    clear H1
    focus
     simp only [Option.some.injEq, Prod.mk.injEq] at H
     obtain ⟨rfl, rfl⟩ := H
     go_wp2
     go_ret2
     exact ⟨by first | rfl | (simp [errW_none, errW_some] <;> rfl) | (simp [*, errW_none, errW_some] <;> rfl), by exact zBx HB.out⟩
   ·replace c9 := Bool.eq_false_iff.mpr c9
    subst c9
    have H1 : ((impl_levelsOf.f kj2 l0).bind fun t396 => (impl_HoursAt.l0 kj2 a1 0 t396 (t396.length : Int) 0)) = some (r1, r2) := by rw [if_neg (show ¬ (false = true) by decide)] at H; exact H
    clear H
    have H := H1
    clear H1
    replace H := Option.bind_eq_some_iff.mp H
    obtain ⟨t396, A100, H⟩ := H
    replace H : (impl_HoursAt.l0 kj2 a1 0 t396 (t396.length : Int) 0) = some (r1, r2) := H
    have A10 := Aside0.mk A100
    clear A100
    have H' := Aside0.mk H
    clear H
    go_wp2_with (first | ((with_reducible refine gate_callee (f := 66) rfl ?_); refine goesL_ (some 18) rfl rfl Try.func66 (by kernel_rfl) rfl #[.slice A0 l0.length c0] rfl zlx ?_; (with_reducible refine (impl_levelsOf.calls kj2 _ _ l0 t396 _ ?side1 ?side2 A10.out).mono ?_); (case side1 => repeat (first | exact (Kd.C_below HR0.out HB.out) | (with_reducible refine Kd.C_alloc ?_ _) | (with_reducible refine Kd.C_drewN ?_ _) | (with_reducible refine Kd.C_drew ?_))); (case side2 => exact HC0.out); rintro e w11 ⟨v397, rfl, ho0, hb⟩; refine ⟨_, rfl, ?_⟩; have n0_ := Aside0.mk (Kd.R_lower ho0 (below_size (zBx HB.out))); have n1_ := Aside0.mk (below_step (zBx HB.out) hb); clear HB; have HO398 := n0_; have HB := n1_; clear n0_ n1_; (try clear hb); (try clear hb2); (try clear hk); (try clear hi); (try clear ho0); obtain ⟨Ao12, co12, eo12⟩ := Kd.R_slice HO398.out; subst eo12))
    go_loopg [6, 20] kj2 (fun kq v6 v20 w' => ∃ (x6_2 : Int) (x20_2 : Int), v6 = .int .i64 x6_2 ∧ v20 = .int .i64 x20_2 ∧ Aside0 (impl_HoursAt.l0 kq a1 x6_2 t396 (t396.length : Int) x20_2 = some (r1, r2)) ∧ Aside0 (kq ≤ kj2) ∧ Aside0 (Kd.R (Kd.int .i64) 3 w' w.heap.size (fun _ => True) (.slice Ao12 t396.length co12) t396) ∧ Aside0 (Below w.heap.size w w'))
    case atStart => exact ⟨(0), (0), zrx, zrx, H', ⟨Nat.le_refl _⟩, ⟨by (with_reducible repeat (first | apply Kd.R_alloc | apply Kd.R_drewN | apply Kd.R_drew)); exact HO398.out⟩, ⟨by exact zBx HB.out⟩⟩
    case round =>
     clear H'
     try clear c2
     try clear p2
     try clear c3
     try clear c5
     try clear c6
     try clear c9
     try clear p2
     obtain ⟨x6_2, x20_2, rfl, rfl, HA, HK2, HO_18, HB⟩ := hrel
     cases gk with
     | zero => exact absurd HA.out (by simp [impl_HoursAt.l0])
     | succ k2 =>
      have H := HA.out
      clear HA
      simp only [impl_HoursAt.l0] at H
      by_cases c13 : x20_2 < (t396.length : Int)
      ·rw [if_pos c13] at H
       have c13b0 : decide (x20_2 < (t396.length : Int)) = true := decide_eq_true c13
       clear c13
       by_cases c14 : 0 ≤ x20_2
       ·rw [if_pos c14] at H
        have c14b0 : decide (0 ≤ x20_2) = true := decide_eq_true c14
        clear c14
        by_cases c15 : x20_2 < (t396.length : Int)
        ·rw [if_pos c15] at H
         have c15b0 : decide (x20_2 < (t396.length : Int)) = true := decide_eq_true c15
         clear c15
         by_cases c16 : (rd t396 x20_2) = a1
         ·rw [if_pos c16] at H
          have c16b0 : ((rd t396 x20_2) == a1) = true := beq_iff_eq.mpr c16
          have c16b1 : ((rd t396 x20_2) != a1) = false := bne_eq_false_iff_eq.mpr c16
          clear c16
          focus
           have H' := Aside0.mk H
           clear H
           have p399 : 0 ≤ (x20_2 : Int) := of_decide_eq_true zax
           have q399 : x20_2 < (t396.length : Int) := of_decide_eq_true zax
           obtain ⟨ad399, e399, hx399_0⟩ := Kd.at_int (Kd.R_reads' HO_18.out).2.2 x20_2 p399 q399
           cases e399
           replace p399 := eq_true p399
           replace q399 := eq_true q399
           go_wp2
           go_roundg k2
           case measure => have := HJ2.out; have := HK2.out; omega
           case rel => exact ⟨(wrap64 (x6_2 + 1)), (wrap64 (x20_2 + 1)), zrx, zrx, H', ⟨by have := HJ2.out; have := HK2.out; omega⟩, ⟨by (with_reducible repeat (first | apply Kd.R_alloc | apply Kd.R_drewN | apply Kd.R_drew)); exact HO_18.out⟩, ⟨by exact zBx HB.out⟩⟩
         ·rw [if_neg c16] at H
          have c16b0 : ((rd t396 x20_2) == a1) = false := beq_eq_false_iff_ne.mpr c16
          have c16b1 : ((rd t396 x20_2) != a1) = true := bne_iff_ne.mpr c16
          focus
           have H' := Aside0.mk H
           clear H
           have p399 : 0 ≤ (x20_2 : Int) := of_decide_eq_true zax
           have q399 : x20_2 < (t396.length : Int) := of_decide_eq_true zax
           obtain ⟨ad399, e399, hx399_0⟩ := Kd.at_int (Kd.R_reads' HO_18.out).2.2 x20_2 p399 q399
           cases e399
           replace p399 := eq_true p399
           replace q399 := eq_true q399
           go_wp2
           go_roundg k2
           case measure => have := HJ2.out; have := HK2.out; omega
           case rel => exact ⟨(x6_2), (wrap64 (x20_2 + 1)), zrx, zrx, H', ⟨by have := HJ2.out; have := HK2.out; omega⟩, ⟨by (with_reducible repeat (first | apply Kd.R_alloc | apply Kd.R_drewN | apply Kd.R_drew)); exact HO_18.out⟩, ⟨by exact zBx HB.out⟩⟩
        ·rw [if_neg c15] at H
         exact absurd H (by simp)
       ·rw [if_neg c14] at H
        exact absurd H (by simp)
      ·rw [if_neg c13] at H
       have c13b0 : decide (x20_2 < (t396.length : Int)) = false := decide_eq_false c13
       clear c13
       focus
        simp only [Option.some.injEq, Prod.mk.injEq] at H
        obtain ⟨rfl, rfl⟩ := H
        go_wp2
        go_ret2
        exact ⟨by first | rfl | (simp [errW_none, errW_some] <;> rfl) | (simp [*, errW_none, errW_some] <;> rfl), by exact zBx HB.out⟩

/-! ### impl_allWithin: function 76 -/
def impl_allWithin.l0 : Nat → Int → Int → List Int → Int → Int → Option (Bool)
 | 0, _, _, _, _, _ => none
 | k + 1, x1, x2, x9, x10, x11 => if x11 < x10 then (if 0 ≤ x11 then (if x11 < (x9.length : Int) then ((impl_within.f (rd x9 x11) x1 x2).bind fun t401 => (if t401 = true then (impl_allWithin.l0 k x1 x2 x9 x10 (wrap64 (x11 + 1))) else (some false))) else (none)) else (none)) else (some true)
def impl_allWithin.f (k : Nat) (l0 : List Int) (a1 : Int) (a2 : Int) : Option (Bool) := impl_allWithin.l0 k a1 a2 l0 (l0.length : Int) 0
theorem impl_allWithin.mono_l : ∀ k, (∀ y0 y1 y2 y3 y4, LeO (impl_allWithin.l0 k y0 y1 y2 y3 y4) (impl_allWithin.l0 (k + 1) y0 y1 y2 y3 y4))
 | 0 => fun _ _ _ _ _ r h => by simp [impl_allWithin.l0] at h
 | k + 1 => by
  have ih0 := impl_allWithin.mono_l k
  ·intro y0 y1 y2 y3 y4
   unfold impl_allWithin.l0
   repeat' first
   | (with_reducible exact ih0 _ _ _ _ _)
   | (with_reducible exact LeO.refl _)
   | (with_reducible exact LeO.none _)
   | (with_reducible refine LeO.ite ?_ ?_)
   | (with_reducible refine LeO.bind ?_ (fun _ => ?_))
   | exact ih0 _ _ _ _ _
   | exact LeO.none _
   | refine LeO.ite ?_ ?_
   | refine LeO.bind ?_ (fun _ => ?_)
theorem impl_allWithin.mono : ∀ a0 a1 a2 k, LeO (impl_allWithin.f k a0 a1 a2) (impl_allWithin.f (k + 1) a0 a1 a2) := by
 intro a0 a1 a2 k
 have ih0 := impl_allWithin.mono_l k
 unfold impl_allWithin.f
 repeat' first
  | (with_reducible exact ih0 _ _ _ _ _)
  | (with_reducible exact LeO.refl _)
  | (with_reducible exact LeO.none _)
  | (with_reducible refine LeO.ite ?_ ?_)
  | (with_reducible refine LeO.bind ?_ (fun _ => ?_))
  | exact ih0 _ _ _ _ _
  | exact LeO.none _
  | refine LeO.ite ?_ ?_
  | refine LeO.bind ?_ (fun _ => ?_)
set_option maxHeartbeats 8000000 in
set_option maxRecDepth 100000 in
theorem impl_allWithin.calls (k : Nat) (A0 : Option Addr) (c0 : Nat) (l0 : List Int) (a1 : Int) (a2 : Int) (r : Bool) (w : World) (hr0 : Kd.C (Kd.int .i64) w A0 l0.length l0) (hc0 : l0.length ≤ c0) (h : impl_allWithin.f k l0 a1 a2 = some r) :
 Calls Try.prog 76 #[.slice A0 l0.length c0, .int .i64 a1, .int .i64 a2] w fun e w' => e = .returned (.bool r) ∧ Drawn0 w w' := by
 have HR0 := Aside0.mk hr0
 have HC0 := Aside0.mk hc0
 clear hr0 hc0
 have H : (impl_allWithin.l0 k a1 a2 l0 (l0.length : Int) 0) = some r := h
 clear h
 have H' := Aside0.mk H
 clear H
 go_enter Try.func76, Try.ntmps76
 go_wp2
 go_loopg [11] k (fun kq v11 w' => ∃ (x11_1 : Int), v11 = .int .i64 x11_1 ∧ Aside0 (impl_allWithin.l0 kq a1 a2 l0 (l0.length : Int) x11_1 = some r) ∧ Aside0 (kq ≤ k) ∧ Drawn0 w w')
 case atStart => exact ⟨(0), zrx, H', ⟨Nat.le_refl _⟩, by repeat (first | exact Drawn0.refl _ | apply Drawn0.step)⟩
 case round =>
  clear H'
  try clear p2
  obtain ⟨x11_1, rfl, HA, HK1, ⟨m1, rfl⟩⟩ := hrel
  cases gk with
  | zero => exact absurd HA.out (by simp [impl_allWithin.l0])
  | succ k1 =>
   have H := HA.out
   clear HA
   simp only [impl_allWithin.l0] at H
   by_cases c4 : x11_1 < (l0.length : Int)
   ·rw [if_pos c4] at H
    have c4b0 : decide (x11_1 < (l0.length : Int)) = true := decide_eq_true c4
    clear c4
    by_cases c5 : 0 ≤ x11_1
    ·rw [if_pos c5] at H
     have c5b0 : decide (0 ≤ x11_1) = true := decide_eq_true c5
     clear c5
     by_cases c6 : x11_1 < (l0.length : Int)
     ·rw [if_pos c6] at H
      have c6b0 : decide (x11_1 < (l0.length : Int)) = true := decide_eq_true c6
      clear c6
      replace H := Option.bind_eq_some_iff.mp H
      obtain ⟨t401, A70, H⟩ := H
      replace H : (if t401 = true then (impl_allWithin.l0 k1 a1 a2 l0 (l0.length : Int) (wrap64 (x11_1 + 1))) else (some false)) = some r := H
      have A7 := Aside0.mk A70
      clear A70
      by_cases c8 : t401 = true
      ·subst c8
       have H1 : (impl_allWithin.l0 k1 a1 a2 l0 (l0.length : Int) (wrap64 (x11_1 + 1))) = some r := by rw [if_pos rfl] at H; exact H
       clear H
       have H := H1
       clear H1
       focus
        have H' := Aside0.mk H
        clear H
        have p400 : 0 ≤ (x11_1 : Int) := of_decide_eq_true zax
        have q400 : x11_1 < (l0.length : Int) := of_decide_eq_true zax
        obtain ⟨ad400, e400, hx400_0⟩ := Kd.at_int HR0.out x11_1 p400 q400
        cases e400
        replace p400 := eq_true p400
        replace q400 := eq_true q400
        go_wp2_with (first | ((with_reducible refine gate_callee (f := 65) rfl ?_); refine goesL_ (some 18) rfl rfl Try.func65 (by kernel_rfl) rfl #[.int .i64 (rd l0 x11_1), .int .i64 a1, .int .i64 a2] rfl zlx ?_; (with_reducible refine (impl_within.calls (rd l0 x11_1) a1 a2 true _ A7.out).mono ?_); rintro e w' ⟨rfl, ⟨nd, rfl⟩⟩; refine ⟨_, rfl, ?_⟩))
        go_roundg k1
        case measure => have := HK1.out; omega
        case rel => exact ⟨(wrap64 (x11_1 + 1)), zrx, H', ⟨by have := HK1.out; omega⟩, by repeat (first | exact Drawn0.refl _ | apply Drawn0.step)⟩
      ·replace c8 := Bool.eq_false_iff.mpr c8
       subst c8
       have H1 : (some false) = some r := by rw [if_neg (show ¬ (false = true) by decide)] at H; exact H
       clear H
       have H := H1
       clear H1
       focus
        obtain rfl := Option.some.inj H
        have p400 : 0 ≤ (x11_1 : Int) := of_decide_eq_true zax
        have q400 : x11_1 < (l0.length : Int) := of_decide_eq_true zax
        obtain ⟨ad400, e400, hx400_0⟩ := Kd.at_int HR0.out x11_1 p400 q400
        cases e400
        replace p400 := eq_true p400
        replace q400 := eq_true q400
        go_wp2_with (first | ((with_reducible refine gate_callee (f := 65) rfl ?_); refine goesL_ (some 18) rfl rfl Try.func65 (by kernel_rfl) rfl #[.int .i64 (rd l0 x11_1), .int .i64 a1, .int .i64 a2] rfl zlx ?_; (with_reducible refine (impl_within.calls (rd l0 x11_1) a1 a2 false _ A7.out).mono ?_); rintro e w' ⟨rfl, ⟨nd, rfl⟩⟩; refine ⟨_, rfl, ?_⟩))
        go_ret
        exact ⟨by first | rfl | (simp; done) | (simp [*]; done), by repeat (first | exact Drawn0.refl _ | apply Drawn0.step)⟩
     ·rw [if_neg c6] at H
      exact absurd H (by simp)
    ·rw [if_neg c5] at H
     exact absurd H (by simp)
   ·rw [if_neg c4] at H
    have c4b0 : decide (x11_1 < (l0.length : Int)) = false := decide_eq_false c4
    clear c4
    focus
     obtain rfl := Option.some.inj H
     go_wp2
     go_ret
     exact ⟨by first | rfl | (simp; done) | (simp [*]; done), by repeat (first | exact Drawn0.refl _ | apply Drawn0.step)⟩

/-! ### impl_CourseOf: function 31 -/
def impl_CourseOf.f (k : Nat) (l0 : List Int) : Option ((List (S41)) × Bool) := if (l0.length : Int) > 240 then (some (([] : List (S41)), false)) else ((impl_allWithin.f k l0 0 3).bind fun t402 => (if t402 = true then ((impl_courseOf.f k l0).bind fun bt403 => (some (bt403.1, bt403.2))) else (some (([] : List (S41)), false))))
theorem impl_CourseOf.mono : ∀ a0 k, LeO (impl_CourseOf.f k a0) (impl_CourseOf.f (k + 1) a0) := by
 intro a0 k
 unfold impl_CourseOf.f
 repeat' first
  | (with_reducible exact impl_allWithin.mono _ _ _ _)
  | (with_reducible exact impl_courseOf.mono _ _)
  | (with_reducible exact LeO.refl _)
  | (with_reducible exact LeO.none _)
  | (with_reducible refine LeO.ite ?_ ?_)
  | (with_reducible refine LeO.bind ?_ (fun _ => ?_))
  | exact impl_allWithin.mono _ _ _ _
  | exact impl_courseOf.mono _ _
  | exact LeO.none _
  | refine LeO.ite ?_ ?_
  | refine LeO.bind ?_ (fun _ => ?_)
set_option maxHeartbeats 8000000 in
set_option maxRecDepth 100000 in
theorem impl_CourseOf.calls (k : Nat) (A0 : Option Addr) (c0 : Nat) (l0 : List Int) (r1 : List (S41)) (r2 : Bool) (w : World) (hr0 : Kd.C (Kd.int .i64) w A0 l0.length l0) (hc0 : l0.length ≤ c0) (h : impl_CourseOf.f k l0 = some (r1, r2)) :
 Calls Try.prog 31 #[.slice A0 l0.length c0] w fun e w' => ∃ v0_ : Value, e = .returned (.tuple #[v0_, .bool r2]) ∧ Kd.R k41 41 w' w.heap.size (fun _ => True) v0_ r1 ∧ Below w.heap.size w w' := by
 have HR0 := Aside0.mk hr0
 have HC0 := Aside0.mk hc0
 clear hr0 hc0
 have HB := Aside0.mk (Below.refl w.heap.size w)
 have H : (if (l0.length : Int) > 240 then (some (([] : List (S41)), false)) else ((impl_allWithin.f k l0 0 3).bind fun t402 => (if t402 = true then ((impl_courseOf.f k l0).bind fun bt403 => (some (bt403.1, bt403.2))) else (some (([] : List (S41)), false))))) = some (r1, r2) := h
 clear h
 by_cases c2 : (l0.length : Int) > 240
 ·rw [if_pos c2] at H
  have c2b0 : decide (240 < (l0.length : Int)) = true := decide_eq_true c2
  have c2b1 : decide (240 < l0.length) = true := decide_eq_true (by omega)
  clear c2
  focus
   simp only [Option.some.injEq, Prod.mk.injEq] at H
   obtain ⟨rfl, rfl⟩ := H
   go_enter Try.func31, Try.ntmps31
   go_wp2
   go_ret2
   exact ⟨_, by first | rfl | (simp [errW_none, errW_some] <;> rfl) | (simp [*, errW_none, errW_some] <;> rfl), by first | exact Kd.R_nil _ _ _ _ _ | exact Kd.N_nil _ _ _ _ _ | exact Kd.V_nil _ _ _ _ _ | exact Kd.Q_nil _ _ _ _ _ | exact Kd.S_nil _ _ _ _ _, by exact zBx HB.out⟩
 ·rw [if_neg c2] at H
  have c2b0 : decide (240 < (l0.length : Int)) = false := decide_eq_false c2
  have c2b1 : decide (240 < l0.length) = false := decide_eq_false (by omega)
  clear c2
  replace H := Option.bind_eq_some_iff.mp H
  obtain ⟨t402, A30, H⟩ := H
  replace H : (if t402 = true then ((impl_courseOf.f k l0).bind fun bt403 => (some (bt403.1, bt403.2))) else (some (([] : List (S41)), false))) = some (r1, r2) := H
  have A3 := Aside0.mk A30
  clear A30
  by_cases c4 : t402 = true
  ·subst c4
   have H1 : ((impl_courseOf.f k l0).bind fun bt403 => (some (bt403.1, bt403.2))) = some (r1, r2) := by rw [if_pos rfl] at H; exact H
   clear H
   have H := H1
   clear H1
   replace H := Option.bind_eq_some_iff.mp H
   obtain ⟨⟨t403, t404⟩, A50, H⟩ := H
   replace H : (some (t403, t404)) = some (r1, r2) := H
   have A5 := Aside0.mk A50
   clear A50
   focus
    simp only [Option.some.injEq, Prod.mk.injEq] at H
    obtain ⟨rfl, rfl⟩ := H
    go_enter Try.func31, Try.ntmps31
    go_wp2_with (first | (go_at_call 76; (with_reducible refine (impl_allWithin.calls k _ _ l0 0 3 true _ ?side1 ?side2 A3.out).mono ?_); (case side1 => exact zCx HR0.out); (case side2 => exact HC0.out); rintro e w' ⟨rfl, ⟨nd, rfl⟩⟩) | ((with_reducible refine gate_callee (f := 74) rfl ?_); refine goesL_ (some 13) rfl rfl Try.func74 (by kernel_rfl) rfl #[.slice A0 l0.length c0] rfl zlx ?_; (with_reducible refine (impl_courseOf.calls k _ _ l0 t403 t404 _ ?side1 ?side2 A5.out).mono ?_); (case side1 => exact zCx HR0.out); (case side2 => exact HC0.out); rintro e w6 ⟨v405, rfl, ho0, hb⟩; refine ⟨_, rfl, ?_⟩; have n0_ := Aside0.mk (Kd.R_lower ho0 (below_size (zBx HB.out))); have n1_ := Aside0.mk (below_step (zBx HB.out) hb); clear HB; have HO406 := n0_; have HB := n1_; clear n0_ n1_; (try clear hb); (try clear hb2); (try clear hk); (try clear hi); (try clear ho0)))
    go_ret2
    exact ⟨_, by first | rfl | (simp [errW_none, errW_some] <;> rfl) | (simp [*, errW_none, errW_some] <;> rfl), by (with_reducible repeat (first | apply Kd.R_alloc | apply Kd.R_drewN | apply Kd.R_drew)); exact HO406.out, by exact zBx HB.out⟩
  ·replace c4 := Bool.eq_false_iff.mpr c4
   subst c4
   have H1 : (some (([] : List (S41)), false)) = some (r1, r2) := by rw [if_neg (show ¬ (false = true) by decide)] at H; exact H
   clear H
   have H := H1
   clear H1
   focus
    simp only [Option.some.injEq, Prod.mk.injEq] at H
    obtain ⟨rfl, rfl⟩ := H
    go_enter Try.func31, Try.ntmps31
    go_wp2_with (first | (go_at_call 76; (with_reducible refine (impl_allWithin.calls k _ _ l0 0 3 false _ ?side1 ?side2 A3.out).mono ?_); (case side1 => exact zCx HR0.out); (case side2 => exact HC0.out); rintro e w' ⟨rfl, ⟨nd, rfl⟩⟩))
    go_ret2
    exact ⟨_, by first | rfl | (simp [errW_none, errW_some] <;> rfl) | (simp [*, errW_none, errW_some] <;> rfl), by first | exact Kd.R_nil _ _ _ _ _ | exact Kd.N_nil _ _ _ _ _ | exact Kd.V_nil _ _ _ _ _ | exact Kd.Q_nil _ _ _ _ _ | exact Kd.S_nil _ _ _ _ _, by exact zBx HB.out⟩

/-! ### spec_DrawCourseOf: function 32 -/
mutual
def spec_DrawCourseOf.l0 : Nat → List Int → Int → List Int → Int → Int → Option (List Int)
 | 0, _, _, _, _, _ => none
 | k + 1, x4, x5, x408000, x408001, x408002 => if x5 > 0 then ((spec_l1Cur_pick.f x408000 x408001 x408002 4).bind fun bt414 => ((spec_l1Cur_pick.f x408000 bt414.2.1 bt414.2.2 4).bind fun bt417 => (spec_DrawCourseOf.l1 k x4 x5 bt414.1 bt417.1 x408000 bt417.2.1 bt417.2.2))) else ((spec_l1Cur_pick.f x408000 x408001 x408002 24).bind fun bt423 => (if bt423.1 = 0 then ((spec_l1Cur_among.f x408000 bt423.2.1 bt423.2.2 (([(-1), 4] : List Int))).bind fun bt429 => (if x4.length < 17592186044416 then (some (x4 ++ [bt429.1])) else (none))) else (if bt423.1 = 1 then (spec_DrawCourseOf.l2 k x4 x408000 bt423.2.1 bt423.2.2) else (some x4))))
def spec_DrawCourseOf.l1 : Nat → List Int → Int → Int → Int → List Int → Int → Int → Option (List Int)
 | 0, _, _, _, _, _, _, _ => none
 | k + 1, x4, x5, x6, x7, x408000, x408001, x408002 => if x7 ≥ 0 then (if x4.length < 17592186044416 then (spec_DrawCourseOf.l1 k (x4 ++ [x6]) x5 x6 (wrap64 (x7 - 1)) x408000 x408001 x408002) else (none)) else (spec_DrawCourseOf.l0 k x4 (wrap64 (x5 - 1)) x408000 x408001 x408002)
def spec_DrawCourseOf.l2 : Nat → List Int → List Int → Int → Int → Option (List Int)
 | 0, _, _, _, _ => none
 | k + 1, x4, x408000, x408001, x408002 => (spec_l1Cur_pick.f x408000 x408001 x408002 2).bind fun bt435 => (if (x4.length : Int) < (wrap64 (240 + bt435.1)) then (if x4.length < 17592186044416 then (spec_DrawCourseOf.l2 k (x4 ++ [0]) x408000 bt435.2.1 bt435.2.2) else (none)) else (some x4))
end
def spec_DrawCourseOf.f (k : Nat) (l0 : List Int) : Option (List Int) := (spec_l1Cur_pick.f l0 0 0 20).bind fun bt411 => (spec_DrawCourseOf.l0 k (([] : List Int)) bt411.1 l0 bt411.2.1 bt411.2.2)
theorem spec_DrawCourseOf.mono_l : ∀ k, (∀ y0 y1 y2 y3 y4, LeO (spec_DrawCourseOf.l0 k y0 y1 y2 y3 y4) (spec_DrawCourseOf.l0 (k + 1) y0 y1 y2 y3 y4)) ∧ (∀ y0 y1 y2 y3 y4 y5 y6, LeO (spec_DrawCourseOf.l1 k y0 y1 y2 y3 y4 y5 y6) (spec_DrawCourseOf.l1 (k + 1) y0 y1 y2 y3 y4 y5 y6)) ∧ (∀ y0 y1 y2 y3, LeO (spec_DrawCourseOf.l2 k y0 y1 y2 y3) (spec_DrawCourseOf.l2 (k + 1) y0 y1 y2 y3))
 | 0 => ⟨fun _ _ _ _ _ r h => by simp [spec_DrawCourseOf.l0] at h, fun _ _ _ _ _ _ _ r h => by simp [spec_DrawCourseOf.l1] at h, fun _ _ _ _ r h => by simp [spec_DrawCourseOf.l2] at h⟩
 | k + 1 => by
  obtain ⟨ih0, ih1, ih2⟩ := spec_DrawCourseOf.mono_l k
  refine ⟨?_, ?_, ?_⟩
  ·intro y0 y1 y2 y3 y4
   unfold spec_DrawCourseOf.l0
   repeat' first
   | (with_reducible exact ih0 _ _ _ _ _)
   | (with_reducible exact ih1 _ _ _ _ _ _ _)
   | (with_reducible exact ih2 _ _ _ _)
   | (with_reducible exact LeO.refl _)
   | (with_reducible exact LeO.none _)
   | (with_reducible refine LeO.ite ?_ ?_)
   | (with_reducible refine LeO.bind ?_ (fun _ => ?_))
   | exact ih0 _ _ _ _ _
   | exact ih1 _ _ _ _ _ _ _
   | exact ih2 _ _ _ _
   | exact LeO.none _
   | refine LeO.ite ?_ ?_
   | refine LeO.bind ?_ (fun _ => ?_)
  ·intro y0 y1 y2 y3 y4 y5 y6
   unfold spec_DrawCourseOf.l1
   repeat' first
   | (with_reducible exact ih0 _ _ _ _ _)
   | (with_reducible exact ih1 _ _ _ _ _ _ _)
   | (with_reducible exact ih2 _ _ _ _)
   | (with_reducible exact LeO.refl _)
   | (with_reducible exact LeO.none _)
   | (with_reducible refine LeO.ite ?_ ?_)
   | (with_reducible refine LeO.bind ?_ (fun _ => ?_))
   | exact ih0 _ _ _ _ _
   | exact ih1 _ _ _ _ _ _ _
   | exact ih2 _ _ _ _
   | exact LeO.none _
   | refine LeO.ite ?_ ?_
   | refine LeO.bind ?_ (fun _ => ?_)
  ·intro y0 y1 y2 y3
   unfold spec_DrawCourseOf.l2
   repeat' first
   | (with_reducible exact ih0 _ _ _ _ _)
   | (with_reducible exact ih1 _ _ _ _ _ _ _)
   | (with_reducible exact ih2 _ _ _ _)
   | (with_reducible exact LeO.refl _)
   | (with_reducible exact LeO.none _)
   | (with_reducible refine LeO.ite ?_ ?_)
   | (with_reducible refine LeO.bind ?_ (fun _ => ?_))
   | exact ih0 _ _ _ _ _
   | exact ih1 _ _ _ _ _ _ _
   | exact ih2 _ _ _ _
   | exact LeO.none _
   | refine LeO.ite ?_ ?_
   | refine LeO.bind ?_ (fun _ => ?_)
theorem spec_DrawCourseOf.mono : ∀ a0 k, LeO (spec_DrawCourseOf.f k a0) (spec_DrawCourseOf.f (k + 1) a0) := by
 intro a0 k
 obtain ⟨ih0, ih1, ih2⟩ := spec_DrawCourseOf.mono_l k
 unfold spec_DrawCourseOf.f
 repeat' first
  | (with_reducible exact ih0 _ _ _ _ _)
  | (with_reducible exact ih1 _ _ _ _ _ _ _)
  | (with_reducible exact ih2 _ _ _ _)
  | (with_reducible exact LeO.refl _)
  | (with_reducible exact LeO.none _)
  | (with_reducible refine LeO.ite ?_ ?_)
  | (with_reducible refine LeO.bind ?_ (fun _ => ?_))
  | exact ih0 _ _ _ _ _
  | exact ih1 _ _ _ _ _ _ _
  | exact ih2 _ _ _ _
  | exact LeO.none _
  | refine LeO.ite ?_ ?_
  | refine LeO.bind ?_ (fun _ => ?_)
set_option maxHeartbeats 8000000 in
set_option maxRecDepth 100000 in
theorem spec_DrawCourseOf.calls (k : Nat) (A0 : Option Addr) (c0 : Nat) (l0 : List Int) (r : List Int) (w : World) (hr0 : Kd.C (Kd.int .u8) w A0 l0.length l0) (hc0 : l0.length ≤ c0) (h : spec_DrawCourseOf.f k l0 = some r) :
 Calls Try.prog 32 #[.slice A0 l0.length c0] w fun e w' => ∃ v0_ : Value, e = .returned (v0_) ∧ Kd.R (Kd.int .i64) 3 w' w.heap.size (fun _ => True) v0_ r ∧ Below w.heap.size w w' := by
 have hu78 := Try.underlying78
 have HR0 := Aside0.mk hr0
 have HC0 := Aside0.mk hc0
 clear hr0 hc0
 have HB := Aside0.mk (Below.refl w.heap.size w)
 have H : ((spec_l1Cur_pick.f l0 0 0 20).bind fun bt411 => (spec_DrawCourseOf.l0 k (([] : List Int)) bt411.1 l0 bt411.2.1 bt411.2.2)) = some r := h
 clear h
 obtain ⟨y408, hy408⟩ : ∃ y_ : List Int, y_ = (([] : List Int)) := ⟨_, rfl⟩
 replace H : ((spec_l1Cur_pick.f l0 0 0 20).bind fun bt411 => (spec_DrawCourseOf.l0 k y408 bt411.1 l0 bt411.2.1 bt411.2.2)) = some r := by first | (rw [hy408]; with_reducible exact H) | (have H2_ := (Option.bind_some _ _).symm.trans H; rw [hy408]; with_reducible exact H2_) | (have H2_ := (Option.bind_some _ _).symm.trans H; with_reducible exact H2_) | with_reducible exact H | (rw [hy408]; exact H) | exact H
 have Ny408 := Aside0.mk hy408
 clear hy408
 replace H := Option.bind_eq_some_iff.mp H
 obtain ⟨⟨t411, t412, t413⟩, A20, H⟩ := H
 replace H : (spec_DrawCourseOf.l0 k y408 t411 l0 t412 t413) = some r := H
 have A2 := Aside0.mk A20
 clear A20
 have H' := Aside0.mk H
 clear H
 go_enter Try.func32, Try.ntmps32
 go_wp2_with (first | ((with_reducible refine gate_dst (N := 10) rfl ?_); refine box_event ?hg (N := 10) ?hd (cs := #[.slice A0 l0.length c0, .int .i64 0, .int .u64 0]) (t := 78) ?hr ?_; (case hd => rfl); (case hg => rfl); (case hr => exact zsx); intro gb407 hg w3 hbox hb; have n0_ := Aside0.mk (below_step (zBx HB.out) hb); have n1_ := Aside0.mk (hbox); have n2_ := Aside0.mk ((by rw [hg]; exact (below_size (zBx HB.out)) : w.heap.size ≤ gb407)); have n3_ := Aside0.mk ((by rw [hg]; exact (below_size (zBx HB.out)) : w.heap.size ≤ gb407)); clear HB; have HB := n0_; have BK407 := n1_; have GW407 := n2_; have GE407 := n3_; clear n0_ n1_ n2_ n3_; clear hb hbox hg) | ((with_reducible refine gate_dst (N := 11) rfl ?_); refine Kd.R_lit (Kd.int .i64) _ 3 ?hg (N := 11) ?hd (xs := ([] : List Int)) (inner := []) (ok := fun _ => True) (okp := fun _ => True) ?hr ?hp (fun _ hk => hk) trivial (Below.refl _ _) (Nat.le_refl _) (by simp) ?_; (case hd => rfl); (case hg => rfl); (case hr => exact zsx); (case hp => exact (Reps.none _ _)); intro v409 w4 ho5 hb hg_ hnew_; clear hg_ hnew_; (first | rw [← Ny408.out] at ho5 | (simp only [Int.reduceToNat] at ho5; rw [← Ny408.out] at ho5)); have n0_ := Aside0.mk (Kd.R_lower ho5 (below_size (zBy HB.out GE407.out))); have n1_ := Aside0.mk (blk_below (g := gb407) (o := .cells #[.slice A0 l0.length c0, .int .i64 0, .int .u64 0] 78 (0, 0)) (zbx BK407.out) hb); have n2_ := Aside0.mk (below_step (zBy HB.out GE407.out) hb); clear BK407; clear HB; have HO410 := n0_; have BK407 := n1_; have HB := n2_; clear n0_ n1_ n2_; clear hb ho5) | ((with_reducible refine gate_callee (f := 72) rfl ?_); refine goesL_ (some 13) rfl rfl Try.func72 (by kernel_rfl) rfl #[.pointer (some ⟨gb407, 0, none⟩), .int .i64 20] rfl zlx ?_; (with_reducible refine (spec_l1Cur_pick.calls gb407 l0 0 0 20 t411 t412 t413 w _ ?side1 ?side2 A2.out).mono ?_); (case side1 => first | exact ⟨_, _, (zbx BK407.out), GE407.out, HR0.out⟩); (case side2 => first | exact zBy HB.out (IsS78.ge HI407.out) | exact zBx HB.out); rintro e w6 ⟨rfl, hi, hb, hk⟩; refine ⟨_, rfl, ?_⟩; have n0_ := Aside0.mk (Kd.R_mono (Kd.R_keep (IsS78.apart (show IsS78 w _ gb407 l0 0 0 from by first | exact ⟨_, _, (zbx BK407.out), GE407.out, HR0.out⟩) (zRx HO410.out) (by decide)) hk (fun _ h => h.2)) (fun _ h => h.1)); have n1_ := Aside0.mk (hb); have n2_ := Aside0.mk (hi); clear HO410; clear HB; have HO410 := n0_; have HB := n1_; have HI407 := n2_; clear n0_ n1_ n2_; (try clear hb); (try clear hb2); (try clear hk); (try clear hi)))
 go_loopg [4, 5] k (fun kq v4 v5 w' => ∃ (x4_1 : List Int) (x5_1 : Int) (x408001_1 : Int) (x408002_1 : Int), v5 = .int .i64 x5_1 ∧ Aside0 (spec_DrawCourseOf.l0 kq x4_1 x5_1 l0 x408001_1 x408002_1 = some r) ∧ Aside0 (kq ≤ k) ∧ Aside0 (Kd.R (Kd.int .i64) 3 w' w.heap.size (fun _ => True) v4 x4_1) ∧ Aside0 (IsS78 w w' gb407 l0 x408001_1 x408002_1) ∧ Aside0 (Below w.heap.size w w'))
 case atStart => exact ⟨(y408), (t411), (t412), (t413), zrx, H', ⟨Nat.le_refl _⟩, ⟨by (with_reducible repeat (first | apply Kd.R_alloc | apply Kd.R_drewN | apply Kd.R_drew)); exact HO410.out⟩, ⟨by exact IsS78.zI HI407.out⟩, ⟨by first | exact zBy HB.out (IsS78.ge HI407.out) | exact zBx HB.out⟩⟩
 case round =>
  clear H'
  try clear p2
  try clear c3
  obtain ⟨x4_1, x5_1, x408001_1, x408002_1, rfl, HA, HK1, HO_4, HI407, HB⟩ := hrel
  cases gk with
  | zero => exact absurd HA.out (by simp [spec_DrawCourseOf.l0])
  | succ k1 =>
   have H := HA.out
   clear HA
   simp only [spec_DrawCourseOf.l0] at H
   by_cases c7 : x5_1 > 0
   ·rw [if_pos c7] at H
    have c7b0 : decide (0 < x5_1) = true := decide_eq_true c7
    clear c7
    replace H := Option.bind_eq_some_iff.mp H
    obtain ⟨⟨t414, t415, t416⟩, A80, H⟩ := H
    replace H : ((spec_l1Cur_pick.f l0 t415 t416 4).bind fun bt417 => (spec_DrawCourseOf.l1 k1 x4_1 x5_1 t414 bt417.1 l0 bt417.2.1 bt417.2.2)) = some r := H
    have A8 := Aside0.mk A80
    clear A80
    replace H := Option.bind_eq_some_iff.mp H
    obtain ⟨⟨t417, t418, t419⟩, A90, H⟩ := H
    replace H : (spec_DrawCourseOf.l1 k1 x4_1 x5_1 t414 t417 l0 t418 t419) = some r := H
    have A9 := Aside0.mk A90
    clear A90
    have H' := Aside0.mk H
    clear H
    go_wp2_with (first | ((with_reducible refine gate_callee (f := 72) rfl ?_); refine goesL_ (some 19) rfl rfl Try.func72 (by kernel_rfl) rfl #[.pointer (some ⟨gb407, 0, none⟩), .int .i64 4] rfl zlx ?_; (with_reducible refine (spec_l1Cur_pick.calls gb407 l0 x408001_1 x408002_1 4 t414 t415 t416 w _ ?side1 ?side2 A8.out).mono ?_); (case side1 => exact IsS78.zI HI407.out); (case side2 => first | exact zBy HB.out (IsS78.ge HI407.out) | exact zBx HB.out); rintro e w10 ⟨rfl, hi, hb, hk⟩; refine ⟨_, rfl, ?_⟩; have n0_ := Aside0.mk (Kd.R_mono (Kd.R_keep (IsS78.apart (show IsS78 w _ gb407 l0 x408001_1 x408002_1 from IsS78.zI HI407.out) (zRx HO_4.out) (by decide)) hk (fun _ h => h.2)) (fun _ h => h.1)); have n1_ := Aside0.mk (hb); have n2_ := Aside0.mk (hi); clear HO_4; clear HB; clear HI407; have HO_4 := n0_; have HB := n1_; have HI407 := n2_; clear n0_ n1_ n2_; (try clear hb); (try clear hb2); (try clear hk); (try clear hi)) | ((with_reducible refine gate_callee (f := 72) rfl ?_); refine goesL_ (some 21) rfl rfl Try.func72 (by kernel_rfl) rfl #[.pointer (some ⟨gb407, 0, none⟩), .int .i64 4] rfl zlx ?_; (with_reducible refine (spec_l1Cur_pick.calls gb407 l0 t415 t416 4 t417 t418 t419 w _ ?side1 ?side2 A9.out).mono ?_); (case side1 => exact IsS78.zI HI407.out); (case side2 => first | exact zBy HB.out (IsS78.ge HI407.out) | exact zBx HB.out); rintro e w11 ⟨rfl, hi, hb, hk⟩; refine ⟨_, rfl, ?_⟩; have n0_ := Aside0.mk (Kd.R_mono (Kd.R_keep (IsS78.apart (show IsS78 w _ gb407 l0 t415 t416 from IsS78.zI HI407.out) (zRx HO_4.out) (by decide)) hk (fun _ h => h.2)) (fun _ h => h.1)); have n1_ := Aside0.mk (hb); have n2_ := Aside0.mk (hi); clear HO_4; clear HB; clear HI407; have HO_4 := n0_; have HB := n1_; have HI407 := n2_; clear n0_ n1_ n2_; (try clear hb); (try clear hb2); (try clear hk); (try clear hi)))
    go_loopg [4, 7] k1 (fun kq v4 v7 w' => ∃ (x4_2 : List Int) (x7_2 : Int), v7 = .int .i64 x7_2 ∧ Aside0 (spec_DrawCourseOf.l1 kq x4_2 x5_1 t414 x7_2 l0 t418 t419 = some r) ∧ Aside0 (kq ≤ k1) ∧ Aside0 (Kd.R (Kd.int .i64) 3 w' w.heap.size (fun _ => True) v4 x4_2) ∧ Aside0 (IsS78 w w' gb407 l0 t418 t419) ∧ Aside0 (Below w.heap.size w w'))
    case atStart => exact ⟨(x4_1), (t417), zrx, H', ⟨Nat.le_refl _⟩, ⟨by (with_reducible repeat (first | apply Kd.R_alloc | apply Kd.R_drewN | apply Kd.R_drew)); exact HO_4.out⟩, ⟨by exact IsS78.zI HI407.out⟩, ⟨by first | exact zBy HB.out (IsS78.ge HI407.out) | exact zBx HB.out⟩⟩
    case round =>
     clear H'
     try clear p2
     try clear c3
     try clear c7
     try clear c7b0
     try clear p2
     obtain ⟨x4_2, x7_2, rfl, HA, HK2, HO_4, HI407, HB⟩ := hrel
     cases gk with
     | zero => exact absurd HA.out (by simp [spec_DrawCourseOf.l1])
     | succ k2 =>
      have H := HA.out
      clear HA
      simp only [spec_DrawCourseOf.l1] at H
      by_cases c12 : x7_2 ≥ 0
      ·rw [if_pos c12] at H
       have c12b0 : decide (0 ≤ x7_2) = true := decide_eq_true c12
       clear c12
       by_cases c13 : x4_2.length < 17592186044416
       ·rw [if_pos c13] at H
        have LMc13 := Aside0.mk c13
        clear c13
        obtain ⟨y420, hy420⟩ : ∃ y_ : List Int, y_ = (x4_2 ++ [t414]) := ⟨_, rfl⟩
        replace H : (spec_DrawCourseOf.l1 k2 y420 x5_1 t414 (wrap64 (x7_2 - 1)) l0 t418 t419) = some r := by first | (rw [hy420]; with_reducible exact H) | (have H2_ := (Option.bind_some _ _).symm.trans H; rw [hy420]; with_reducible exact H2_) | (have H2_ := (Option.bind_some _ _).symm.trans H; with_reducible exact H2_) | with_reducible exact H | (rw [hy420]; exact H) | exact H
        have Ny420 := Aside0.mk hy420
        clear hy420
        focus
         have H' := Aside0.mk H
         clear H
         go_wp2_with (first | ((with_reducible refine gate_builtin (b := .append) (xs := #[.tmp 26, .tmp 28]) rfl ?_); at_builtin; refine Kd.R_append (Kd.int .i64) (w0 := w) w.heap.size rfl (.tmp 26) (.tmp 28) 36 3 (.int .i64 0) 8 rfl Try.underlying36 info3 rfl (by decide) (by omega) u4 x4_2 t414 [.int .i64 t414] (fun _ => True) (fun _ => False) rfl rfl ?aP (fun _ hk => hk.elim) ?aF ?aO ?aB ?aS ?aL ?_; (case aP => exact rfl); (case aB => exact (by first | exact zBy HB.out (IsS78.ge HI407.out) | exact zBx HB.out)); (case aF => exact (fun _ _ => trivial)); (case aO => exact (zRx HO_4.out)); (case aS => exact (below_size (by first | exact zBy HB.out (IsS78.ge HI407.out) | exact zBx HB.out))); (case aL => have := LMc13.out; omega); intro v421 w14 ho hb hg hat; rw [← Ny420.out] at ho; have n0_ := Aside0.mk (IsS78.grown (IsS78.zI HI407.out) hg (IsS78.own_ne HI407.out HO_4.out (by decide))); have n1_ := Aside0.mk (hb); have n2_ := Aside0.mk (ho); clear HI407; clear HB; clear HO_4; have HI407 := n0_; have HB := n1_; have HO422 := n2_; clear n0_ n1_ n2_; clear ho hb hg hat))
         go_roundg k2
         case measure => have := HK1.out; have := HK2.out; omega
         case rel => exact ⟨(y420), (wrap64 (x7_2 - 1)), zrx, H', ⟨by have := HK1.out; have := HK2.out; omega⟩, ⟨by (with_reducible repeat (first | apply Kd.R_alloc | apply Kd.R_drewN | apply Kd.R_drew)); exact HO422.out⟩, ⟨by exact IsS78.zI HI407.out⟩, ⟨by first | exact zBy HB.out (IsS78.ge HI407.out) | exact zBx HB.out⟩⟩
       ·rw [if_neg c13] at H
        exact absurd H (by simp)
      ·rw [if_neg c12] at H
       have c12b0 : decide (0 ≤ x7_2) = false := decide_eq_false c12
       clear c12
       focus
        have H' := Aside0.mk H
        clear H
        go_wp2
        go_roundg k2
        case measure => have := HK1.out; have := HK2.out; omega
        case rel => exact ⟨(x4_2), (wrap64 (x5_1 - 1)), (t418), (t419), zrx, H', ⟨by have := HK1.out; have := HK2.out; omega⟩, ⟨by (with_reducible repeat (first | apply Kd.R_alloc | apply Kd.R_drewN | apply Kd.R_drew)); exact HO_4.out⟩, ⟨by exact IsS78.zI HI407.out⟩, ⟨by first | exact zBy HB.out (IsS78.ge HI407.out) | exact zBx HB.out⟩⟩
   ·rw [if_neg c7] at H
    have c7b0 : decide (0 < x5_1) = false := decide_eq_false c7
    clear c7
    replace H := Option.bind_eq_some_iff.mp H
    obtain ⟨⟨t423, t424, t425⟩, A150, H⟩ := H
    replace H : (if t423 = 0 then ((spec_l1Cur_among.f l0 t424 t425 (([(-1), 4] : List Int))).bind fun bt429 => (if x4_1.length < 17592186044416 then (some (x4_1 ++ [bt429.1])) else (none))) else (if t423 = 1 then (spec_DrawCourseOf.l2 k1 x4_1 l0 t424 t425) else (some x4_1))) = some r := H
    have A15 := Aside0.mk A150
    clear A150
    by_cases c16 : t423 = 0
    ·rw [if_pos c16] at H
     have c16b0 : (t423 == 0) = true := beq_iff_eq.mpr c16
     have c16b1 : (t423 != 0) = false := bne_eq_false_iff_eq.mpr c16
     clear c16
     obtain ⟨y426, hy426⟩ : ∃ y_ : List Int, y_ = (([(-1), 4] : List Int)) := ⟨_, rfl⟩
     replace H : ((spec_l1Cur_among.f l0 t424 t425 y426).bind fun bt429 => (if x4_1.length < 17592186044416 then (some (x4_1 ++ [bt429.1])) else (none))) = some r := by first | (rw [hy426]; with_reducible exact H) | (have H2_ := (Option.bind_some _ _).symm.trans H; rw [hy426]; with_reducible exact H2_) | (have H2_ := (Option.bind_some _ _).symm.trans H; with_reducible exact H2_) | with_reducible exact H | (rw [hy426]; exact H) | exact H
     have Ny426 := Aside0.mk hy426
     clear hy426
     replace H := Option.bind_eq_some_iff.mp H
     obtain ⟨⟨t429, t430, t431⟩, A170, H⟩ := H
     replace H : (if x4_1.length < 17592186044416 then (some (x4_1 ++ [t429])) else (none)) = some r := H
     have A17 := Aside0.mk A170
     clear A170
     by_cases c18 : x4_1.length < 17592186044416
     ·rw [if_pos c18] at H
      have LMc18 := Aside0.mk c18
      clear c18
      obtain ⟨y432, hy432⟩ : ∃ y_ : List Int, y_ = (x4_1 ++ [t429]) := ⟨_, rfl⟩
      replace H : (some y432) = some r := by first | (rw [hy432]; with_reducible exact H) | (have H2_ := (Option.bind_some _ _).symm.trans H; rw [hy432]; with_reducible exact H2_) | (have H2_ := (Option.bind_some _ _).symm.trans H; with_reducible exact H2_) | with_reducible exact H | (rw [hy432]; exact H) | exact H
      have Ny432 := Aside0.mk hy432
      clear hy432
      focus
       obtain rfl := Option.some.inj H
       go_wp2_with (first | ((with_reducible refine gate_callee (f := 72) rfl ?_); refine goesL_ (some 31) rfl rfl Try.func72 (by kernel_rfl) rfl #[.pointer (some ⟨gb407, 0, none⟩), .int .i64 24] rfl zlx ?_; (with_reducible refine (spec_l1Cur_pick.calls gb407 l0 x408001_1 x408002_1 24 t423 t424 t425 w _ ?side1 ?side2 A15.out).mono ?_); (case side1 => exact IsS78.zI HI407.out); (case side2 => first | exact zBy HB.out (IsS78.ge HI407.out) | exact zBx HB.out); rintro e w19 ⟨rfl, hi, hb, hk⟩; refine ⟨_, rfl, ?_⟩; have n0_ := Aside0.mk (Kd.R_mono (Kd.R_keep (IsS78.apart (show IsS78 w _ gb407 l0 x408001_1 x408002_1 from IsS78.zI HI407.out) (zRx HO_4.out) (by decide)) hk (fun _ h => h.2)) (fun _ h => h.1)); have n1_ := Aside0.mk (hb); have n2_ := Aside0.mk (hi); clear HO_4; clear HB; clear HI407; have HO_4 := n0_; have HB := n1_; have HI407 := n2_; clear n0_ n1_ n2_; (try clear hb); (try clear hb2); (try clear hk); (try clear hi)) | ((with_reducible refine gate_dst (N := 36) rfl ?_); refine Kd.R_lit (Kd.int .i64) _ 3 ?hg (N := 36) ?hd (xs := ([(-1), 4] : List Int)) (inner := [.int .i64 (-1), .int .i64 4]) (ok := fun _ => True) (okp := fun _ => True) ?hr ?hp (fun _ hk => hk) trivial (Below.refl _ _) (Nat.le_refl _) (by simp) ?_; (case hd => rfl); (case hg => rfl); (case hr => exact zsx); (case hp => exact (Reps.one (show Kd.M (Kd.int .i64) _ _ _ (-1) [.int .i64 (-1)] from rfl) (Reps.one (show Kd.M (Kd.int .i64) _ _ _ 4 [.int .i64 4] from rfl) (Reps.none _ _)))); intro v427 w20 ho21 hb hg_ hnew_; clear hg_ hnew_; (first | rw [← Ny426.out] at ho21 | (simp only [Int.reduceToNat] at ho21; rw [← Ny426.out] at ho21)); have n0_ := Aside0.mk (Kd.R_elder' (zRx HO_4.out) (Kd.R_base ho21) hb); have n1_ := Aside0.mk (Kd.R_lower (Kd.R_new' ho21 (Kd.R_lt (zRx HO_4.out))) (below_size (by first | exact zBy HB.out (IsS78.ge HI407.out) | exact zBx HB.out))); have n2_ := Aside0.mk (IsS78.below (IsS78.zI HI407.out) hb); have n3_ := Aside0.mk (below_step (by first | exact zBy HB.out (IsS78.ge HI407.out) | exact zBx HB.out) hb); clear HO_4; clear HI407; clear HB; have HO_4 := n0_; have HO428 := n1_; have HI407 := n2_; have HB := n3_; clear n0_ n1_ n2_ n3_; clear hb ho21; obtain ⟨Ao22, co22, eo22⟩ := Kd.R_slice HO428.out; subst eo22) | ((with_reducible refine gate_callee (f := 67) rfl ?_); refine goesL_ (some 37) rfl rfl Try.func67 (by kernel_rfl) rfl #[.pointer (some ⟨gb407, 0, none⟩), .slice Ao22 y426.length co22] rfl zlx ?_; (with_reducible refine (spec_l1Cur_among.calls gb407 l0 t424 t425 _ _ y426 t429 t430 t431 w _ ?side1 ?side2 ?side3 ?side4 ?side5 A17.out).mono ?_); (case side1 => exact IsS78.zI HI407.out); (case side2 => first | exact zBy HB.out (IsS78.ge HI407.out) | exact zBx HB.out); (case side3 => repeat (first | exact (Kd.R_reads' HO428.out).2.2 | (with_reducible refine Kd.C_alloc ?_ _) | (with_reducible refine Kd.C_drewN ?_ _) | (with_reducible refine Kd.C_drew ?_))); (case side4 => exact (Kd.R_reads' HO428.out).2.1); (case side5 => exact far_slice (IsS78.own_ne HI407.out HO428.out (by decide))); rintro e w23 ⟨rfl, hi, hb, hk⟩; refine ⟨_, rfl, ?_⟩; have n0_ := Aside0.mk (Kd.R_mono (Kd.R_keep (IsS78.apart (show IsS78 w _ gb407 l0 t424 t425 from IsS78.zI HI407.out) (zRx HO_4.out) (by decide)) hk (fun _ h => h.2)) (fun _ h => h.1)); have n1_ := Aside0.mk (Kd.R_mono (Kd.R_keep (IsS78.apart (show IsS78 w _ gb407 l0 t424 t425 from IsS78.zI HI407.out) (zRx HO428.out) (by decide)) hk (fun _ h => h.2)) (fun _ h => h.1)); have n2_ := Aside0.mk (hb); have n3_ := Aside0.mk (hi); clear HO_4; clear HO428; clear HB; clear HI407; have HO_4 := n0_; have HO428 := n1_; have HB := n2_; have HI407 := n3_; clear n0_ n1_ n2_ n3_; (try clear hb); (try clear hb2); (try clear hk); (try clear hi)) | ((with_reducible refine gate_builtin (b := .append) (xs := #[.tmp 34, .tmp 38]) rfl ?_); at_builtin; refine Kd.R_append (Kd.int .i64) (w0 := w) w.heap.size rfl (.tmp 34) (.tmp 38) 36 3 (.int .i64 0) 8 rfl Try.underlying36 info3 rfl (by decide) (by omega) u4 x4_1 t429 [.int .i64 t429] (fun k_ => some k_ ≠ (.slice Ao22 y426.length co22 : Value).ownBlock) (fun _ => False) rfl rfl ?aP (fun _ hk => hk.elim) ?aF ?aO ?aB ?aS ?aL ?_; (case aP => exact rfl); (case aB => exact (by first | exact zBy HB.out (IsS78.ge HI407.out) | exact zBx HB.out)); (case aF => exact (fun k_ hk => Kd.fresh' (Kd.R_lt (zRx HO428.out)) k_ hk)); (case aO => exact (by (with_reducible repeat (first | apply Kd.R_alloc | apply Kd.R_drewN | apply Kd.R_drew)); exact Kd.R_mono HO_4.out (fun _ hk => hk.2))); (case aS => exact (below_size (by first | exact zBy HB.out (IsS78.ge HI407.out) | exact zBx HB.out))); (case aL => have := LMc18.out; omega); intro v433 w24 ho hb hg hat; rw [← Ny432.out] at ho; have n0_ := Aside0.mk (IsS78.grown (IsS78.zI HI407.out) hg (IsS78.own_ne HI407.out HO_4.out (by decide))); have n1_ := Aside0.mk (Kd.R_after (ok := (fun _ => True)) (zRx HO428.out) hg hat); have n2_ := Aside0.mk (hb); have n3_ := Aside0.mk (ho); clear HI407; clear HO428; clear HB; clear HO_4; have HI407 := n0_; have HO428 := n1_; have HB := n2_; have HO434 := n3_; clear n0_ n1_ n2_ n3_; clear ho hb hg hat))
       go_ret
       exact ⟨_, by first | rfl | (simp [errW_none, errW_some] <;> rfl) | (simp [*, errW_none, errW_some] <;> rfl), by (with_reducible repeat (first | apply Kd.R_alloc | apply Kd.R_drewN | apply Kd.R_drew)); exact Kd.R_mono HO434.out (fun _ hk => trivial), by first | exact zBy HB.out (IsS78.ge HI407.out) | exact zBx HB.out⟩
     ·rw [if_neg c18] at H
      exact absurd H (by simp)
    ·rw [if_neg c16] at H
     have c16b0 : (t423 == 0) = false := beq_eq_false_iff_ne.mpr c16
     have c16b1 : (t423 != 0) = true := bne_iff_ne.mpr c16
     by_cases c25 : t423 = 1
     ·rw [if_pos c25] at H
      have c25b0 : (t423 == 1) = true := beq_iff_eq.mpr c25
      have c25b1 : (t423 != 1) = false := bne_eq_false_iff_eq.mpr c25
      clear c25
      have H' := Aside0.mk H
      clear H
      go_wp2_with (first | ((with_reducible refine gate_callee (f := 72) rfl ?_); refine goesL_ (some 31) rfl rfl Try.func72 (by kernel_rfl) rfl #[.pointer (some ⟨gb407, 0, none⟩), .int .i64 24] rfl zlx ?_; (with_reducible refine (spec_l1Cur_pick.calls gb407 l0 x408001_1 x408002_1 24 t423 t424 t425 w _ ?side1 ?side2 A15.out).mono ?_); (case side1 => exact IsS78.zI HI407.out); (case side2 => first | exact zBy HB.out (IsS78.ge HI407.out) | exact zBx HB.out); rintro e w26 ⟨rfl, hi, hb, hk⟩; refine ⟨_, rfl, ?_⟩; have n0_ := Aside0.mk (Kd.R_mono (Kd.R_keep (IsS78.apart (show IsS78 w _ gb407 l0 x408001_1 x408002_1 from IsS78.zI HI407.out) (zRx HO_4.out) (by decide)) hk (fun _ h => h.2)) (fun _ h => h.1)); have n1_ := Aside0.mk (hb); have n2_ := Aside0.mk (hi); clear HO_4; clear HB; clear HI407; have HO_4 := n0_; have HB := n1_; have HI407 := n2_; clear n0_ n1_ n2_; (try clear hb); (try clear hb2); (try clear hk); (try clear hi)))
      go_loopg [4] k1 (fun kq v4 w' => ∃ (x4_2 : List Int) (x408001_2 : Int) (x408002_2 : Int), Aside0 (spec_DrawCourseOf.l2 kq x4_2 l0 x408001_2 x408002_2 = some r) ∧ Aside0 (kq ≤ k1) ∧ Aside0 (Kd.R (Kd.int .i64) 3 w' w.heap.size (fun _ => True) v4 x4_2) ∧ Aside0 (IsS78 w w' gb407 l0 x408001_2 x408002_2) ∧ Aside0 (Below w.heap.size w w'))
      case atStart => exact ⟨(x4_1), (t424), (t425), H', ⟨Nat.le_refl _⟩, ⟨by (with_reducible repeat (first | apply Kd.R_alloc | apply Kd.R_drewN | apply Kd.R_drew)); exact HO_4.out⟩, ⟨by exact IsS78.zI HI407.out⟩, ⟨by first | exact zBy HB.out (IsS78.ge HI407.out) | exact zBx HB.out⟩⟩
      case round =>
       clear H'
       try clear c1
       try clear c2
       try clear p2
       try clear c3
       try clear c6
       try clear p6
       try clear c7
       try clear c7b0
       try clear c12
       try clear c12b0
       try clear c13
       try clear c16
       try clear c16b0
       try clear c16b1
       try clear c18
       try clear c25
       try clear c25b0
       try clear c25b1
       try clear p2
       obtain ⟨x4_2, x408001_2, x408002_2, HA, HK2, HO_4, HI407, HB⟩ := hrel
       cases gk with
       | zero => exact absurd HA.out (by simp [spec_DrawCourseOf.l2])
       | succ k2 =>
        have H := HA.out
        clear HA
        simp only [spec_DrawCourseOf.l2] at H
        replace H := Option.bind_eq_some_iff.mp H
        obtain ⟨⟨t435, t436, t437⟩, A270, H⟩ := H
        replace H : (if (x4_2.length : Int) < (wrap64 (240 + t435)) then (if x4_2.length < 17592186044416 then (spec_DrawCourseOf.l2 k2 (x4_2 ++ [0]) l0 t436 t437) else (none)) else (some x4_2)) = some r := H
        have A27 := Aside0.mk A270
        clear A270
        by_cases c28 : (x4_2.length : Int) < (wrap64 (240 + t435))
        ·rw [if_pos c28] at H
         have c28b0 : decide ((x4_2.length : Int) < (wrap64 (240 + t435))) = true := decide_eq_true c28
         clear c28
         by_cases c29 : x4_2.length < 17592186044416
         ·rw [if_pos c29] at H
          have LMc29 := Aside0.mk c29
          clear c29
          obtain ⟨y438, hy438⟩ : ∃ y_ : List Int, y_ = (x4_2 ++ [0]) := ⟨_, rfl⟩
          replace H : (spec_DrawCourseOf.l2 k2 y438 l0 t436 t437) = some r := by first | (rw [hy438]; with_reducible exact H) | (have H2_ := (Option.bind_some _ _).symm.trans H; rw [hy438]; with_reducible exact H2_) | (have H2_ := (Option.bind_some _ _).symm.trans H; with_reducible exact H2_) | with_reducible exact H | (rw [hy438]; exact H) | exact H
          have Ny438 := Aside0.mk hy438
          clear hy438
          focus
           have H' := Aside0.mk H
           clear H
           obtain ⟨Ao30, co30, eo30⟩ := Kd.R_slice HO_4.out
           subst eo30
           go_wp2_with (first | ((with_reducible refine gate_callee (f := 72) rfl ?_); refine goesL_ (some 45) rfl rfl Try.func72 (by kernel_rfl) rfl #[.pointer (some ⟨gb407, 0, none⟩), .int .i64 2] rfl zlx ?_; (with_reducible refine (spec_l1Cur_pick.calls gb407 l0 x408001_2 x408002_2 2 t435 t436 t437 w _ ?side1 ?side2 A27.out).mono ?_); (case side1 => exact IsS78.zI HI407.out); (case side2 => first | exact zBy HB.out (IsS78.ge HI407.out) | exact zBx HB.out); rintro e w31 ⟨rfl, hi, hb, hk⟩; refine ⟨_, rfl, ?_⟩; have n0_ := Aside0.mk (Kd.R_mono (Kd.R_keep (IsS78.apart (show IsS78 w _ gb407 l0 x408001_2 x408002_2 from IsS78.zI HI407.out) (zRx HO_4.out) (by decide)) hk (fun _ h => h.2)) (fun _ h => h.1)); have n1_ := Aside0.mk (hb); have n2_ := Aside0.mk (hi); clear HO_4; clear HB; clear HI407; have HO_4 := n0_; have HB := n1_; have HI407 := n2_; clear n0_ n1_ n2_; (try clear hb); (try clear hb2); (try clear hk); (try clear hi)) | ((with_reducible refine gate_builtin (b := .append) (xs := #[.tmp 48, .tmp 49]) rfl ?_); at_builtin; refine Kd.R_append (Kd.int .i64) (w0 := w) w.heap.size rfl (.tmp 48) (.tmp 49) 36 3 (.int .i64 0) 8 rfl Try.underlying36 info3 rfl (by decide) (by omega) (.slice Ao30 x4_2.length co30) x4_2 0 [.int .i64 0] (fun _ => True) (fun _ => False) rfl rfl ?aP (fun _ hk => hk.elim) ?aF ?aO ?aB ?aS ?aL ?_; (case aP => exact rfl); (case aB => exact (by first | exact zBy HB.out (IsS78.ge HI407.out) | exact zBx HB.out)); (case aF => exact (fun _ _ => trivial)); (case aO => exact (zRx HO_4.out)); (case aS => exact (below_size (by first | exact zBy HB.out (IsS78.ge HI407.out) | exact zBx HB.out))); (case aL => have := LMc29.out; omega); intro v439 w32 ho hb hg hat; rw [← Ny438.out] at ho; have n0_ := Aside0.mk (IsS78.grown (IsS78.zI HI407.out) hg (IsS78.own_ne HI407.out HO_4.out (by decide))); have n1_ := Aside0.mk (hb); have n2_ := Aside0.mk (ho); clear HI407; clear HB; clear HO_4; have HI407 := n0_; have HB := n1_; have HO440 := n2_; clear n0_ n1_ n2_; clear ho hb hg hat))
           go_roundg k2
           case measure => have := HK1.out; have := HK2.out; omega
           case rel => exact ⟨(y438), (t436), (t437), H', ⟨by have := HK1.out; have := HK2.out; omega⟩, ⟨by (with_reducible repeat (first | apply Kd.R_alloc | apply Kd.R_drewN | apply Kd.R_drew)); exact HO440.out⟩, ⟨by exact IsS78.zI HI407.out⟩, ⟨by first | exact zBy HB.out (IsS78.ge HI407.out) | exact zBx HB.out⟩⟩
         ·rw [if_neg c29] at H
          exact absurd H (by simp)
        ·rw [if_neg c28] at H
         have c28b0 : decide ((x4_2.length : Int) < (wrap64 (240 + t435))) = false := decide_eq_false c28
         clear c28
         focus
          obtain rfl := Option.some.inj H
          obtain ⟨Ao33, co33, eo33⟩ := Kd.R_slice HO_4.out
          subst eo33
          go_wp2_with (first | ((with_reducible refine gate_callee (f := 72) rfl ?_); refine goesL_ (some 45) rfl rfl Try.func72 (by kernel_rfl) rfl #[.pointer (some ⟨gb407, 0, none⟩), .int .i64 2] rfl zlx ?_; (with_reducible refine (spec_l1Cur_pick.calls gb407 l0 x408001_2 x408002_2 2 t435 t436 t437 w _ ?side1 ?side2 A27.out).mono ?_); (case side1 => exact IsS78.zI HI407.out); (case side2 => first | exact zBy HB.out (IsS78.ge HI407.out) | exact zBx HB.out); rintro e w34 ⟨rfl, hi, hb, hk⟩; refine ⟨_, rfl, ?_⟩; have n0_ := Aside0.mk (Kd.R_mono (Kd.R_keep (IsS78.apart (show IsS78 w _ gb407 l0 x408001_2 x408002_2 from IsS78.zI HI407.out) (zRx HO_4.out) (by decide)) hk (fun _ h => h.2)) (fun _ h => h.1)); have n1_ := Aside0.mk (hb); have n2_ := Aside0.mk (hi); clear HO_4; clear HB; clear HI407; have HO_4 := n0_; have HB := n1_; have HI407 := n2_; clear n0_ n1_ n2_; (try clear hb); (try clear hb2); (try clear hk); (try clear hi)))
          go_ret
          exact ⟨_, by first | rfl | (simp [errW_none, errW_some] <;> rfl) | (simp [*, errW_none, errW_some] <;> rfl), by (with_reducible repeat (first | apply Kd.R_alloc | apply Kd.R_drewN | apply Kd.R_drew)); exact HO_4.out, by first | exact zBy HB.out (IsS78.ge HI407.out) | exact zBx HB.out⟩
     ·rw [if_neg c25] at H
      have c25b0 : (t423 == 1) = false := beq_eq_false_iff_ne.mpr c25
      have c25b1 : (t423 != 1) = true := bne_iff_ne.mpr c25
      focus
       obtain rfl := Option.some.inj H
       go_wp2_with (first | ((with_reducible refine gate_callee (f := 72) rfl ?_); refine goesL_ (some 31) rfl rfl Try.func72 (by kernel_rfl) rfl #[.pointer (some ⟨gb407, 0, none⟩), .int .i64 24] rfl zlx ?_; (with_reducible refine (spec_l1Cur_pick.calls gb407 l0 x408001_1 x408002_1 24 t423 t424 t425 w _ ?side1 ?side2 A15.out).mono ?_); (case side1 => exact IsS78.zI HI407.out); (case side2 => first | exact zBy HB.out (IsS78.ge HI407.out) | exact zBx HB.out); rintro e w35 ⟨rfl, hi, hb, hk⟩; refine ⟨_, rfl, ?_⟩; have n0_ := Aside0.mk (Kd.R_mono (Kd.R_keep (IsS78.apart (show IsS78 w _ gb407 l0 x408001_1 x408002_1 from IsS78.zI HI407.out) (zRx HO_4.out) (by decide)) hk (fun _ h => h.2)) (fun _ h => h.1)); have n1_ := Aside0.mk (hb); have n2_ := Aside0.mk (hi); clear HO_4; clear HB; clear HI407; have HO_4 := n0_; have HB := n1_; have HI407 := n2_; clear n0_ n1_ n2_; (try clear hb); (try clear hb2); (try clear hk); (try clear hi)))
       go_ret
       exact ⟨_, by first | rfl | (simp [errW_none, errW_some] <;> rfl) | (simp [*, errW_none, errW_some] <;> rfl), by (with_reducible repeat (first | apply Kd.R_alloc | apply Kd.R_drewN | apply Kd.R_drew)); exact HO_4.out, by first | exact zBy HB.out (IsS78.ge HI407.out) | exact zBx HB.out⟩

end Go.Proofs.Ytkegkbpadhddkaa.XFnCourses
