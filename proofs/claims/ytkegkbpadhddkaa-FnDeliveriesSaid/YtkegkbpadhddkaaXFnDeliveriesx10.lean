-- written by wip/tools/xprint.py (a program of this project) out of the translation
import Derived.Test.YtkegkbpadhddkaaXFnDeliveriesx0
import Derived.Test.YtkegkbpadhddkaaXFnDeliveriesx8
import Derived.Test.YtkegkbpadhddkaaXFnDeliveriesx9
namespace Go.Proofs.Ytkegkbpadhddkaa.XFnDeliveries
open Go.RowKit Go.Proofs.YtkegkbpadhddkaaW.PrintWords Go.Proofs.YtkegkbpadhddkaaW.PrintLast Go.Proofs.YtkegkbpadhddkaaW.PrintMore
attribute [local go_sem] max2_int min2_int max_two min_two max_three min_three max_four min_four   -- for this text's walks alone
set_option linter.unusedVariables false
set_option linter.unusedSimpArgs false

/-! ### spec_AddDelivery: function 50 -/
mutual
def spec_AddDelivery.j0 : Nat → List (S59) → Int → Int → Bool → Option ((List (S59)) × Bool)
 | 0, _, _, _, _ => none
 | k + 1, x0, x1, x2, x17 => if x17 = true then (some ((([] : List (S59))), false)) else (spec_AddDelivery.l0 k x0 x1 x2 0)
def spec_AddDelivery.j2 : Nat → List (S59) → Int → Int → Int → Option ((List (S59)) × Bool)
 | 0, _, _, _, _ => none
 | k + 1, x0, x1, x2, x8 => if 0 ≤ x8 then (if x8 ≤ (x0.length : Int) then ((spec_l19Own.f (x0.take (x8 : Int).toNat)).bind fun t304 => ((some (([(⟨x1, 1, 0, x2⟩ : S59)] : List (S59)) : List (S59))).bind fun y307 => (if t304.length + y307.length < 4398046511104 then ((some (t304 ++ y307 : List (S59))).bind fun y310 => ((some (x0.drop (x8 : Int).toNat : List (S59))).bind fun y313 => (if y310.length + y313.length < 4398046511104 then ((some (y310 ++ y313 : List (S59))).bind fun y317 => ((spec_l19Good.f k y317).bind fun t320 => (if t320 = true then (some (y317, true)) else (some ((([] : List (S59))), false))))) else (none)))) else (none)))) else (none)) else (none)
def spec_AddDelivery.l0 : Nat → List (S59) → Int → Int → Int → Option ((List (S59)) × Bool)
 | 0, _, _, _, _ => none
 | k + 1, x0, x1, x2, x8 => if x8 < (x0.length : Int) then (if 0 ≤ x8 then (if ((rd_T59 x0 x8).f0) < x1 then (spec_AddDelivery.l0 k x0 x1 x2 (wrap64 (x8 + 1))) else (spec_AddDelivery.j2 k x0 x1 x2 x8)) else (none)) else (spec_AddDelivery.j2 k x0 x1 x2 x8)
end
def spec_AddDelivery.f (k : Nat) (l0 : List (S59)) (a1 : Int) (a2 : Int) : Option ((List (S59)) × Bool) := (spec_l19Good.f k l0).bind fun t294 => (if t294 = true then ((spec_l19Minute.f a2).bind fun t295 => (spec_AddDelivery.j0 k l0 a1 a2 (!t295))) else (spec_AddDelivery.j0 k l0 a1 a2 true))
theorem spec_AddDelivery.mono_l : ∀ k, (∀ y0 y1 y2 y3, LeO (spec_AddDelivery.j0 k y0 y1 y2 y3) (spec_AddDelivery.j0 (k + 1) y0 y1 y2 y3)) ∧ (∀ y0 y1 y2 y3, LeO (spec_AddDelivery.j2 k y0 y1 y2 y3) (spec_AddDelivery.j2 (k + 1) y0 y1 y2 y3)) ∧ (∀ y0 y1 y2 y3, LeO (spec_AddDelivery.l0 k y0 y1 y2 y3) (spec_AddDelivery.l0 (k + 1) y0 y1 y2 y3))
 | 0 => ⟨fun _ _ _ _ r h => by simp [spec_AddDelivery.j0] at h, fun _ _ _ _ r h => by simp [spec_AddDelivery.j2] at h, fun _ _ _ _ r h => by simp [spec_AddDelivery.l0] at h⟩
 | k + 1 => by
  obtain ⟨ih0, ih1, ih2⟩ := spec_AddDelivery.mono_l k
  refine ⟨?_, ?_, ?_⟩
  ·intro y0 y1 y2 y3
   unfold spec_AddDelivery.j0
   repeat' first
   | (with_reducible exact ih0 _ _ _ _)
   | (with_reducible exact ih1 _ _ _ _)
   | (with_reducible exact ih2 _ _ _ _)
   | (with_reducible exact spec_l19Good.mono _ _)
   | (with_reducible exact LeO.refl _)
   | (with_reducible exact LeO.none _)
   | (with_reducible refine LeO.ite ?_ ?_)
   | (with_reducible refine LeO.bind ?_ (fun _ => ?_))
   | exact ih0 _ _ _ _
   | exact ih1 _ _ _ _
   | exact ih2 _ _ _ _
   | exact spec_l19Good.mono _ _
   | exact LeO.none _
   | refine LeO.ite ?_ ?_
   | refine LeO.bind ?_ (fun _ => ?_)
  ·intro y0 y1 y2 y3
   unfold spec_AddDelivery.j2
   repeat' first
   | (with_reducible exact ih0 _ _ _ _)
   | (with_reducible exact ih1 _ _ _ _)
   | (with_reducible exact ih2 _ _ _ _)
   | (with_reducible exact spec_l19Good.mono _ _)
   | (with_reducible exact LeO.refl _)
   | (with_reducible exact LeO.none _)
   | (with_reducible refine LeO.ite ?_ ?_)
   | (with_reducible refine LeO.bind ?_ (fun _ => ?_))
   | exact ih0 _ _ _ _
   | exact ih1 _ _ _ _
   | exact ih2 _ _ _ _
   | exact spec_l19Good.mono _ _
   | exact LeO.none _
   | refine LeO.ite ?_ ?_
   | refine LeO.bind ?_ (fun _ => ?_)
  ·intro y0 y1 y2 y3
   unfold spec_AddDelivery.l0
   repeat' first
   | (with_reducible exact ih0 _ _ _ _)
   | (with_reducible exact ih1 _ _ _ _)
   | (with_reducible exact ih2 _ _ _ _)
   | (with_reducible exact spec_l19Good.mono _ _)
   | (with_reducible exact LeO.refl _)
   | (with_reducible exact LeO.none _)
   | (with_reducible refine LeO.ite ?_ ?_)
   | (with_reducible refine LeO.bind ?_ (fun _ => ?_))
   | exact ih0 _ _ _ _
   | exact ih1 _ _ _ _
   | exact ih2 _ _ _ _
   | exact spec_l19Good.mono _ _
   | exact LeO.none _
   | refine LeO.ite ?_ ?_
   | refine LeO.bind ?_ (fun _ => ?_)
theorem spec_AddDelivery.mono : ∀ a0 a1 a2 k, LeO (spec_AddDelivery.f k a0 a1 a2) (spec_AddDelivery.f (k + 1) a0 a1 a2) := by
 intro a0 a1 a2 k
 obtain ⟨ih0, ih1, ih2⟩ := spec_AddDelivery.mono_l k
 unfold spec_AddDelivery.f
 repeat' first
  | (with_reducible exact ih0 _ _ _ _)
  | (with_reducible exact ih1 _ _ _ _)
  | (with_reducible exact ih2 _ _ _ _)
  | (with_reducible exact spec_l19Good.mono _ _)
  | (with_reducible exact LeO.refl _)
  | (with_reducible exact LeO.none _)
  | (with_reducible refine LeO.ite ?_ ?_)
  | (with_reducible refine LeO.bind ?_ (fun _ => ?_))
  | exact ih0 _ _ _ _
  | exact ih1 _ _ _ _
  | exact ih2 _ _ _ _
  | exact spec_l19Good.mono _ _
  | exact LeO.none _
  | refine LeO.ite ?_ ?_
  | refine LeO.bind ?_ (fun _ => ?_)
def spec_AddDelivery.T6 : Bool × List (List Nat × List Nat) := (true, [([], []), ([], []), ([0, 1], [0, 1]), ([2], [2]), ([], []), ([], []), ([4, 5], [4, 5]), ([6], [6]), ([3, 7, 3], [3, 7]), ([], []), ([], []), ([9, 10], [9, 10]), ([8, 11, 8], [8, 11]), ([12, 12, 0, 1, 2, 3, 4, 5, 6, 7, 8, 9, 10, 11, 12], [12])])
def spec_AddDelivery.B6 : List Nat := [0, 0, 3, 7, 0, 0, 48, 112, 255, 0, 0, 1536, 4095, 8191]
theorem spec_AddDelivery.tab6 : rtab .any (opsOf Try.f50 6) = spec_AddDelivery.T6 := by kernel_rfl
theorem spec_AddDelivery.bits6 : waitsOk spec_AddDelivery.T6.2 spec_AddDelivery.B6 = true := by kernel_rfl
set_option maxHeartbeats 8000000 in
set_option maxRecDepth 100000 in
theorem spec_AddDelivery.calls (k : Nat) (A0 : Option Addr) (c0 : Nat) (l0 : List (S59)) (a1 : Int) (a2 : Int) (r1 : List (S59)) (r2 : Bool) (w : World) (hr0 : Kd.C k59 w A0 l0.length l0) (hc0 : l0.length ≤ c0) (h : spec_AddDelivery.f k l0 a1 a2 = some (r1, r2)) :
 Calls Try.prog 50 #[.slice A0 l0.length c0, .int .i64 a1, .int .i64 a2] w fun e w' => ∃ v0_ : Value, e = .returned (.tuple #[v0_, .bool r2]) ∧ Kd.R k59 59 w' w.heap.size (fun _ => True) v0_ r1 ∧ Below w.heap.size w w' := by
 have hu59 := Try.underlying59
 have HR0 := Aside0.mk hr0
 have HC0 := Aside0.mk hc0
 clear hr0 hc0
 have HB := Aside0.mk (Below.refl w.heap.size w)
 have H : ((spec_l19Good.f k l0).bind fun t294 => (if t294 = true then ((spec_l19Minute.f a2).bind fun t295 => (spec_AddDelivery.j0 k l0 a1 a2 (!t295))) else (spec_AddDelivery.j0 k l0 a1 a2 true))) = some (r1, r2) := h
 clear h
 have HC4 := Aside0.mk H
 clear H
 go_enter Try.func50, Try.ntmps50
 go_upto_region 1 with (fail)
 go_cut [17] (fun v17 wc => ∃ (kq : Nat) (x17_3 : Bool), v17 = .bool x17_3 ∧ Aside0 (spec_AddDelivery.j0 kq l0 a1 a2 x17_3 = some (r1, r2)) ∧ Aside0 (kq ≤ k) ∧ Aside0 (Below w.heap.size w wc))
 case first =>
  have H := HC4.out
  clear HC4
  replace H := Option.bind_eq_some_iff.mp H
  obtain ⟨t294, A50, H⟩ := H
  replace H : (if t294 = true then ((spec_l19Minute.f a2).bind fun t295 => (spec_AddDelivery.j0 k l0 a1 a2 (!t295))) else (spec_AddDelivery.j0 k l0 a1 a2 true)) = some (r1, r2) := H
  have A5 := Aside0.mk A50
  clear A50
  by_cases c6 : t294 = true
  ·subst c6
   have H1 : ((spec_l19Minute.f a2).bind fun t295 => (spec_AddDelivery.j0 k l0 a1 a2 (!t295))) = some (r1, r2) := by rw [if_pos rfl] at H; exact H
   clear H
   have H := H1
   clear H1
   replace H := Option.bind_eq_some_iff.mp H
   obtain ⟨t295, A70, H⟩ := H
   replace H : (spec_AddDelivery.j0 k l0 a1 a2 (!t295)) = some (r1, r2) := H
   have A7 := Aside0.mk A70
   clear A70
   focus
    have H' := Aside0.mk H
    clear H
    go_wp2_with (first | ((with_reducible refine gate_callee (f := 79) rfl ?_); refine goesL_ (some 11) rfl rfl Try.func79 (by kernel_rfl) rfl #[.slice A0 l0.length c0] rfl zlx ?_; (with_reducible refine (spec_l19Good.calls k _ _ l0 true _ ?side1 ?side2 A5.out).mono ?_); (case side1 => repeat (first | exact (Kd.C_below HR0.out HB.out) | (with_reducible refine Kd.C_alloc ?_ _) | (with_reducible refine Kd.C_drewN ?_ _) | (with_reducible refine Kd.C_drew ?_))); (case side2 => exact HC0.out); rintro e w8 ⟨rfl, hb⟩; refine ⟨_, rfl, ?_⟩; have n0_ := Aside0.mk (below_step (zBx HB.out) hb); clear HB; have HB := n0_; clear n0_; (try clear hb); (try clear hb2); (try clear hk); (try clear hi)) | (go_at_call 80; (with_reducible refine (spec_l19Minute.calls a2 t295 _ A7.out).mono ?_); rintro e w' ⟨rfl, ⟨nd, rfl⟩⟩))
    go_meet
    case rel => exact ⟨_, (!t295), zrx, H', ⟨by first | omega | exact Nat.le_refl _⟩, ⟨by exact zBx HB.out⟩⟩
  ·replace c6 := Bool.eq_false_iff.mpr c6
   subst c6
   have H1 : (spec_AddDelivery.j0 k l0 a1 a2 true) = some (r1, r2) := by rw [if_neg (show ¬ (false = true) by decide)] at H; exact H
   clear H
   have H := H1
   clear H1
   focus
    have H' := Aside0.mk H
    clear H
    go_wp2_with (first | ((with_reducible refine gate_callee (f := 79) rfl ?_); refine goesL_ (some 11) rfl rfl Try.func79 (by kernel_rfl) rfl #[.slice A0 l0.length c0] rfl zlx ?_; (with_reducible refine (spec_l19Good.calls k _ _ l0 false _ ?side1 ?side2 A5.out).mono ?_); (case side1 => repeat (first | exact (Kd.C_below HR0.out HB.out) | (with_reducible refine Kd.C_alloc ?_ _) | (with_reducible refine Kd.C_drewN ?_ _) | (with_reducible refine Kd.C_drew ?_))); (case side2 => exact HC0.out); rintro e w9 ⟨rfl, hb⟩; refine ⟨_, rfl, ?_⟩; have n0_ := Aside0.mk (below_step (zBx HB.out) hb); clear HB; have HB := n0_; clear n0_; (try clear hb); (try clear hb2); (try clear hk); (try clear hi)))
    go_meet
    case rel => exact ⟨_, (true), zrx, H', ⟨by first | omega | exact Nat.le_refl _⟩, ⟨by exact zBx HB.out⟩⟩
 case rest =>
  clear HC4
  try clear p2
  try clear c5
  try clear c6
  try clear c7
  obtain ⟨kq, x17_3, rfl, HA, HJ3, HB⟩ := hcut
  cases kq with
  | zero => exact absurd HA.out (by simp [spec_AddDelivery.j0])
  | succ kj3 =>
   have H := HA.out
   clear HA
   simp only [spec_AddDelivery.j0] at H
   by_cases c10 : x17_3 = true
   ·subst c10
    have H1 : (some ((([] : List (S59))), false)) = some (r1, r2) := by rw [if_pos rfl] at H; exact H
    clear H
    have H := H1
    clear H1
    obtain ⟨y296, hy296⟩ : ∃ y_ : List (S59), y_ = (([] : List (S59))) := ⟨_, rfl⟩
    replace H : (some (y296, false)) = some (r1, r2) := by first | (rw [hy296]; with_reducible exact H) | (have H2_ := (Option.bind_some _ _).symm.trans H; rw [hy296]; with_reducible exact H2_) | (have H2_ := (Option.bind_some _ _).symm.trans H; with_reducible exact H2_) | with_reducible exact H | (rw [hy296]; exact H) | exact H
    have Ny296 := Aside0.mk hy296
    clear hy296
    focus
     simp only [Option.some.injEq, Prod.mk.injEq] at H
     obtain ⟨rfl, rfl⟩ := H
     go_wp2_with (first | ((with_reducible refine gate_dst (N := 18) rfl ?_); refine Kd.R_lit k59 _ 59 ?hg (N := 18) ?hd (xs := ([] : List (S59))) (inner := []) (ok := fun _ => True) (okp := fun _ => True) ?hr ?hp (fun _ hk => hk) trivial (Below.refl _ _) (Nat.le_refl _) (by simp) ?_; (case hd => rfl); (case hg => rfl); (case hr => exact zsx); (case hp => exact (Reps.none _ _)); intro v297 w11 ho12 hb hg_ hnew_; clear hg_ hnew_; (first | rw [← Ny296.out] at ho12 | (simp only [Int.reduceToNat] at ho12; rw [← Ny296.out] at ho12)); have n0_ := Aside0.mk (Kd.R_lower ho12 (below_size (zBx HB.out))); have n1_ := Aside0.mk (below_step (zBx HB.out) hb); clear HB; have HO298 := n0_; have HB := n1_; clear n0_ n1_; clear hb ho12))
     go_ret2
     exact ⟨_, by first | rfl | (simp [errW_none, errW_some] <;> rfl) | (simp [*, errW_none, errW_some] <;> rfl), by (with_reducible repeat (first | apply Kd.R_alloc | apply Kd.R_drewN | apply Kd.R_drew)); exact HO298.out, by exact zBx HB.out⟩
   ·replace c10 := Bool.eq_false_iff.mpr c10
    subst c10
    have H1 : (spec_AddDelivery.l0 kj3 l0 a1 a2 0) = some (r1, r2) := by rw [if_neg (show ¬ (false = true) by decide)] at H; exact H
    clear H
    have H := H1
    clear H1
    have HC13 := Aside0.mk H
    clear H
    go_upto_block 0 with (fail)
    go_cut [8] (fun v8 wc => ∃ (kq : Nat) (x8_12 : Int), v8 = .int .i64 x8_12 ∧ Aside0 (spec_AddDelivery.j2 kq l0 a1 a2 x8_12 = some (r1, r2)) ∧ Aside0 (kq ≤ kj3) ∧ Aside0 (Below w.heap.size w wc))
    case first =>
     have H := HC13.out
     clear HC13
     have H' := Aside0.mk H
     clear H
     go_wp2
     go_loopg [8] kj3 (fun kq v8 w' => ∃ (x8_2 : Int), v8 = .int .i64 x8_2 ∧ Aside0 (spec_AddDelivery.l0 kq l0 a1 a2 x8_2 = some (r1, r2)) ∧ Aside0 (kq ≤ kj3) ∧ Aside0 (Below w.heap.size w w'))
     case atStart => exact ⟨(0), zrx, H', ⟨Nat.le_refl _⟩, ⟨by exact zBx HB.out⟩⟩
     case round =>
      clear H'
      try clear c1
      try clear p2
      try clear c5
      try clear c6
      try clear c7
      try clear c10
      try clear p2
      obtain ⟨x8_2, rfl, HA, HK2, HB⟩ := hrel
      cases gk with
      | zero => exact absurd HA.out (by simp [spec_AddDelivery.l0])
      | succ k2 =>
       have H := HA.out
       clear HA
       simp only [spec_AddDelivery.l0] at H
       by_cases c14 : x8_2 < (l0.length : Int)
       ·rw [if_pos c14] at H
        have c14b0 : decide (x8_2 < (l0.length : Int)) = true := decide_eq_true c14
        clear c14
        (first | rw [c14b0] | (simp only [i64_w, i32_w]; rw [c14b0]) | skip)
        by_cases c15 : 0 ≤ x8_2
        ·rw [if_pos c15] at H
         have c15b0 : decide (0 ≤ x8_2) = true := decide_eq_true c15
         clear c15
         by_cases c16 : ((rd_T59 l0 x8_2).f0) < a1
         ·rw [if_pos c16] at H
          have c16b0 : decide (((rd_T59 l0 x8_2).f0) < a1) = true := decide_eq_true c16
          clear c16
          focus
           have H' := Aside0.mk H
           clear H
           have p299 : 0 ≤ (x8_2 : Int) := of_decide_eq_true zax
           have q299 : x8_2 < (l0.length : Int) := of_decide_eq_true zax
           obtain ⟨ad299, e299, hx299_0, hx299_1, hx299_2, hx299_3⟩ := at_T59 HR0.out x8_2 p299 q299
           cases e299
           replace hx299_0 := (HB.out.cell (World.block_lt_of_cell? w _ hx299_0)).trans hx299_0
           replace hx299_1 := (HB.out.cell (World.block_lt_of_cell? w _ hx299_1)).trans hx299_1
           replace hx299_2 := (HB.out.cell (World.block_lt_of_cell? w _ hx299_2)).trans hx299_2
           replace hx299_3 := (HB.out.cell (World.block_lt_of_cell? w _ hx299_3)).trans hx299_3
           replace p299 := eq_true p299
           replace q299 := eq_true q299
           go_wp2
           go_roundg k2
           case measure => have := HJ3.out; have := HK2.out; omega
           case rel => exact ⟨(wrap64 (x8_2 + 1)), zrx, H', ⟨by have := HJ3.out; have := HK2.out; omega⟩, ⟨by exact zBx HB.out⟩⟩
         ·rw [if_neg c16] at H
          have c16b0 : decide (((rd_T59 l0 x8_2).f0) < a1) = false := decide_eq_false c16
          clear c16
          focus
           have H' := Aside0.mk H
           clear H
           have p299 : 0 ≤ (x8_2 : Int) := of_decide_eq_true zax
           have q299 : x8_2 < (l0.length : Int) := of_decide_eq_true zax
           obtain ⟨ad299, e299, hx299_0, hx299_1, hx299_2, hx299_3⟩ := at_T59 HR0.out x8_2 p299 q299
           cases e299
           replace hx299_0 := (HB.out.cell (World.block_lt_of_cell? w _ hx299_0)).trans hx299_0
           replace hx299_1 := (HB.out.cell (World.block_lt_of_cell? w _ hx299_1)).trans hx299_1
           replace hx299_2 := (HB.out.cell (World.block_lt_of_cell? w _ hx299_2)).trans hx299_2
           replace hx299_3 := (HB.out.cell (World.block_lt_of_cell? w _ hx299_3)).trans hx299_3
           replace p299 := eq_true p299
           replace q299 := eq_true q299
           go_wp2
           go_meet
           case rel => exact ⟨_, (x8_2), zrx, H', ⟨by have := HJ3.out; have := HK2.out; first | omega | exact Nat.le_refl _⟩, ⟨by exact zBx HB.out⟩⟩
        ·rw [if_neg c15] at H
         exact absurd H (by simp)
       ·rw [if_neg c14] at H
        have c14b0 : decide (x8_2 < (l0.length : Int)) = false := decide_eq_false c14
        clear c14
        (first | rw [c14b0] | (simp only [i64_w, i32_w]; rw [c14b0]) | skip)
        focus
         have H' := Aside0.mk H
         clear H
         go_wp2
         go_meet
         case rel => exact ⟨_, (x8_2), zrx, H', ⟨by have := HJ3.out; have := HK2.out; first | omega | exact Nat.le_refl _⟩, ⟨by exact zBx HB.out⟩⟩
    case rest =>
     clear HC13
     try clear c1
     try clear p2
     try clear q2
     try clear hx2
     try clear c5
     try clear c6
     try clear p6
     try clear c7
     try clear c10
     try clear c14
     try clear c14b0
     try clear c15
     try clear c15b0
     try clear c16
     try clear c16b0
     try clear hx299_0
     try clear hx299_1
     try clear hx299_2
     try clear hx299_3
     try clear p2
     try clear p299
     try clear q299
     obtain ⟨kq, x8_12, rfl, HA, HJ12, HB⟩ := hcut
     cases kq with
     | zero => exact absurd HA.out (by simp [spec_AddDelivery.j2])
     | succ kj12 =>
      have H := HA.out
      clear HA
      simp only [spec_AddDelivery.j2] at H
      by_cases c17 : 0 ≤ x8_12
      ·rw [if_pos c17] at H
       have c17b0 := eq_true c17
       have c17b1 : decide (0 ≤ x8_12) = true := decide_eq_true c17
       clear c17
       by_cases c18 : x8_12 ≤ (l0.length : Int)
       ·rw [if_pos c18] at H
        have c18b0 := eq_true c18
        have c18b1 : decide (x8_12 ≤ (l0.length : Int)) = true := decide_eq_true c18
        clear c18
        obtain ⟨y300, hy300⟩ : ∃ y_ : List (S59), y_ = (l0.take (x8_12 : Int).toNat) := ⟨_, rfl⟩
        replace H : ((spec_l19Own.f y300).bind fun t304 => ((some (([(⟨a1, 1, 0, a2⟩ : S59)] : List (S59)) : List (S59))).bind fun y307 => (if t304.length + y307.length < 4398046511104 then ((some (t304 ++ y307 : List (S59))).bind fun y310 => ((some (l0.drop (x8_12 : Int).toNat : List (S59))).bind fun y313 => (if y310.length + y313.length < 4398046511104 then ((some (y310 ++ y313 : List (S59))).bind fun y317 => ((spec_l19Good.f kj12 y317).bind fun t320 => (if t320 = true then (some (y317, true)) else (some ((([] : List (S59))), false))))) else (none)))) else (none)))) = some (r1, r2) := by first | (rw [hy300]; with_reducible exact H) | (have H2_ := (Option.bind_some _ _).symm.trans H; rw [hy300]; with_reducible exact H2_) | (have H2_ := (Option.bind_some _ _).symm.trans H; with_reducible exact H2_) | with_reducible exact H | (rw [hy300]; exact H) | exact H
        have Ny300 := Aside0.mk hy300
        clear hy300
        replace H := Option.bind_eq_some_iff.mp H
        obtain ⟨t304, A190, H⟩ := H
        replace H : ((some (([(⟨a1, 1, 0, a2⟩ : S59)] : List (S59)) : List (S59))).bind fun y307 => (if t304.length + y307.length < 4398046511104 then ((some (t304 ++ y307 : List (S59))).bind fun y310 => ((some (l0.drop (x8_12 : Int).toNat : List (S59))).bind fun y313 => (if y310.length + y313.length < 4398046511104 then ((some (y310 ++ y313 : List (S59))).bind fun y317 => ((spec_l19Good.f kj12 y317).bind fun t320 => (if t320 = true then (some (y317, true)) else (some ((([] : List (S59))), false))))) else (none)))) else (none))) = some (r1, r2) := H
        have A19 := Aside0.mk A190
        clear A190
        obtain ⟨y307, hy307⟩ : ∃ y_ : List (S59), y_ = (([(⟨a1, 1, 0, a2⟩ : S59)] : List (S59))) := ⟨_, rfl⟩
        replace H : (if t304.length + y307.length < 4398046511104 then ((some (t304 ++ y307 : List (S59))).bind fun y310 => ((some (l0.drop (x8_12 : Int).toNat : List (S59))).bind fun y313 => (if y310.length + y313.length < 4398046511104 then ((some (y310 ++ y313 : List (S59))).bind fun y317 => ((spec_l19Good.f kj12 y317).bind fun t320 => (if t320 = true then (some (y317, true)) else (some ((([] : List (S59))), false))))) else (none)))) else (none)) = some (r1, r2) := by first | (rw [hy307]; with_reducible exact H) | (have H2_ := (Option.bind_some _ _).symm.trans H; rw [hy307]; with_reducible exact H2_) | (have H2_ := (Option.bind_some _ _).symm.trans H; with_reducible exact H2_) | with_reducible exact H | (rw [hy307]; exact H) | exact H
        have Ny307 := Aside0.mk hy307
        clear hy307
        by_cases c20 : t304.length + y307.length < 4398046511104
        ·rw [if_pos c20] at H
         have LMc20 := Aside0.mk c20
         clear c20
         obtain ⟨y310, hy310⟩ : ∃ y_ : List (S59), y_ = (t304 ++ y307) := ⟨_, rfl⟩
         replace H : ((some (l0.drop (x8_12 : Int).toNat : List (S59))).bind fun y313 => (if y310.length + y313.length < 4398046511104 then ((some (y310 ++ y313 : List (S59))).bind fun y317 => ((spec_l19Good.f kj12 y317).bind fun t320 => (if t320 = true then (some (y317, true)) else (some ((([] : List (S59))), false))))) else (none))) = some (r1, r2) := by first | (rw [hy310]; with_reducible exact H) | (have H2_ := (Option.bind_some _ _).symm.trans H; rw [hy310]; with_reducible exact H2_) | (have H2_ := (Option.bind_some _ _).symm.trans H; with_reducible exact H2_) | with_reducible exact H | (rw [hy310]; exact H) | exact H
         have Ny310 := Aside0.mk hy310
         clear hy310
         have c21b0 := eq_true (of_decide_eq_true zax : 0 ≤ x8_12)
         have c22b0 := eq_true (of_decide_eq_true zax : x8_12 ≤ (l0.length : Int))
         obtain ⟨y313, hy313⟩ : ∃ y_ : List (S59), y_ = (l0.drop (x8_12 : Int).toNat) := ⟨_, rfl⟩
         replace H : (if y310.length + y313.length < 4398046511104 then ((some (y310 ++ y313 : List (S59))).bind fun y317 => ((spec_l19Good.f kj12 y317).bind fun t320 => (if t320 = true then (some (y317, true)) else (some ((([] : List (S59))), false))))) else (none)) = some (r1, r2) := by first | (rw [hy313]; with_reducible exact H) | (have H2_ := (Option.bind_some _ _).symm.trans H; rw [hy313]; with_reducible exact H2_) | (have H2_ := (Option.bind_some _ _).symm.trans H; with_reducible exact H2_) | with_reducible exact H | (rw [hy313]; exact H) | exact H
         have Ny313 := Aside0.mk hy313
         clear hy313
         by_cases c23 : y310.length + y313.length < 4398046511104
         ·rw [if_pos c23] at H
          have LMc23 := Aside0.mk c23
          clear c23
          obtain ⟨y317, hy317⟩ : ∃ y_ : List (S59), y_ = (y310 ++ y313) := ⟨_, rfl⟩
          replace H : ((spec_l19Good.f kj12 y317).bind fun t320 => (if t320 = true then (some (y317, true)) else (some ((([] : List (S59))), false)))) = some (r1, r2) := by first | (rw [hy317]; with_reducible exact H) | (have H2_ := (Option.bind_some _ _).symm.trans H; rw [hy317]; with_reducible exact H2_) | (have H2_ := (Option.bind_some _ _).symm.trans H; with_reducible exact H2_) | with_reducible exact H | (rw [hy317]; exact H) | exact H
          have Ny317 := Aside0.mk hy317
          clear hy317
          replace H := Option.bind_eq_some_iff.mp H
          obtain ⟨t320, A240, H⟩ := H
          replace H : (if t320 = true then (some (y317, true)) else (some ((([] : List (S59))), false))) = some (r1, r2) := H
          have A24 := Aside0.mk A240
          clear A240
          by_cases c25 : t320 = true
          ·subst c25
           have H1 : (some (y317, true)) = some (r1, r2) := by rw [if_pos rfl] at H; exact H
           clear H
           have H := H1
           clear H1
           focus
            simp only [Option.some.injEq, Prod.mk.injEq] at H
            obtain ⟨rfl, rfl⟩ := H
            try go_wp2
            have n0_ := Aside0.mk (below_drew1 HB.out)
            clear HB
            have HB := n0_
            clear n0_
            have q27 : (x8_12 : Int) ≤ ((l0.length : Int) : Int) := of_decide_eq_true zax
            obtain ⟨i027, hi027, _, hsz27, _⟩ := info_parts info59
            have hroom27 : l0.length ≤ c0 := HC0.out
            have hC27 : Kd.C k59 _ A0 l0.length l0 := HR0.out
            have hcut27 := cut_to (P := Try.prog) 52 59 .i64 Try.underlying52 hi027 A0 l0.length c0 x8_12 (of_decide_eq_true zax) q27 hroom27
            have hr27 := Kd.C_take (m := (x8_12 : Int).toNat) hC27 (by omega)
            have hy27 : y300.length = (x8_12 : Int).toNat := (by rw [Ny300.out, List.length_take]; omega)
            rw [← Ny300.out] at hr27
            rw [← hy27] at hcut27
            have HR303 := Aside0.mk hr27
            have HC303 := Aside0.mk (show y300.length ≤ c0 from by omega)
            clear hr27 hC27 hroom27 hi027 hsz27
            have KY27 := Aside0.mk hy27
            clear hy27
            replace q27 := eq_true q27
            have q28 : (x8_12 : Int) ≤ ((l0.length : Int) : Int) := of_decide_eq_true zax
            obtain ⟨i028, hi028, _, hsz28, _⟩ := info_parts info59
            have hroom28 : l0.length ≤ c0 := HC0.out
            have hC28 : Kd.C k59 _ A0 l0.length l0 := HR0.out
            have q028 : (0 : Int) ≤ (x8_12 : Int) := of_decide_eq_true zax
            have hcut28 := cut_from (P := Try.prog) 52 59 .i64 Try.underlying52 hi028 4 hsz28 A0 l0.length c0 x8_12 q028 q28
            have hr28 := Kd.C_drop (m := (x8_12 : Int).toNat) (c := c0) hC28 (by omega) hroom28
            obtain ⟨A28, hA28⟩ : ∃ A1, A1 = (if c0 = (x8_12 : Int).toNat then A0 else (A0 : Option Addr).map (·.add ((x8_12 : Int).toNat * 4))) := ⟨_, rfl⟩
            obtain ⟨c28, hc28⟩ : ∃ c1, c1 = c0 - (x8_12 : Int).toNat := ⟨_, rfl⟩
            have hy28 : y313.length = l0.length - (x8_12 : Int).toNat := (by rw [Ny313.out, List.length_drop] <;> omega)
            rw [show (l0).drop (x8_12 : Int).toNat = y313 from Ny313.out.symm] at hr28
            replace hr28 : Kd.C k59 _ A28 y313.length y313 := (by rw [hA28]; exact hr28)
            rw [← hy28, ← hA28, ← hc28] at hcut28
            have HR316 := Aside0.mk hr28
            have HC316 := Aside0.mk (show y313.length ≤ c28 from by rw [hy28, hc28]; exact Nat.sub_le_sub_right hroom28 _)
            clear hr28 hC28 hroom28 hi028 hsz28 hc28
            have KY28 := Aside0.mk hy28
            have KA28 := Aside0.mk hA28
            clear hy28 hA28
            replace q28 := eq_true q28
            refine start_ (n := 14) (S := fun w' => True) (ds := []) #[F,F,F,F,F,F,F,F,F,F,F,F,F,F] (by kernel_rfl) rfl rfl trivial (fun hHeld => ?_); refine with_tabW spec_AddDelivery.tab6 spec_AddDelivery.bits6 (fun HT_ HW_ => ?_)
            generalize wc.drew = w26 at HB HR303 HR316 hHeld ⊢
            refine pure_ (i := 0) (N := some 34) (v := ?_) (a' := ?_) #[T,F,F,F,F,F,F,F,F,F,F,F,F,F] rfl rfl (any_of HT_.out (by kernel_rfl)) (fun _ _ _ h => h) (Or.inl ⟨by rfl, ?_⟩) ?_ ?_
            rotate_left
            ·exact zwx
            rotate_left
            ·exact zpx
            refine pure_ (i := 1) (N := some 35) (v := ?_) (a' := ?_) #[T,T,F,F,F,F,F,F,F,F,F,F,F,F] rfl rfl (any_of HT_.out (by kernel_rfl)) (fun _ _ _ h => h) (Or.inl ⟨by rfl, ?_⟩) ?_ ?_
            rotate_left
            ·exact zwx
            rotate_left
            ·exact zpx
            refine pure_ (i := 2) (N := some 36) (v := ?_) (a' := ?_) #[T,T,T,F,F,F,F,F,F,F,F,F,F,F] rfl rfl (any_of HT_.out (by kernel_rfl)) (fun _ _ _ h => h) (Or.inl ⟨by rfl, ?_⟩) ?_ ?_
            rotate_left
            ·exact zwx
            rotate_left
            ·exact zpx
            refine pure_ (i := 4) (N := some 38) (v := ?_) (a' := ?_) #[T,T,T,F,T,F,F,F,F,F,F,F,F,F] rfl rfl (any_of HT_.out (by kernel_rfl)) (fun _ _ _ h => h) (Or.inl ⟨by rfl, ?_⟩) ?_ ?_
            rotate_left
            ·exact zwx
            rotate_left
            ·exact zpx
            refine pure_ (i := 5) (N := some 39) (v := ?_) (a' := ?_) #[T,T,T,F,T,T,F,F,F,F,F,F,F,F] rfl rfl (any_of HT_.out (by kernel_rfl)) (fun _ _ _ h => h) (Or.inl ⟨by rfl, ?_⟩) ?_ ?_
            rotate_left
            ·exact zwx
            rotate_left
            ·exact zpx
            refine pure_ (i := 6) (N := some 40) (v := ?_) (a' := ?_) #[T,T,T,F,T,T,T,F,F,F,F,F,F,F] rfl rfl (any_of HT_.out (by kernel_rfl)) (fun _ _ _ h => h) (Or.inl ⟨by rfl, ?_⟩) ?_ ?_
            rotate_left
            ·exact zwx
            rotate_left
            ·exact zpx
            refine pure_ (i := 9) (N := some 43) (v := ?_) (a' := ?_) #[T,T,T,F,T,T,T,F,F,T,F,F,F,F] rfl rfl (any_of HT_.out (by kernel_rfl)) (fun _ _ _ h => h) (Or.inl ⟨by rfl, ?_⟩) ?_ ?_
            rotate_left
            ·exact zwx
            rotate_left
            ·exact zpx
            refine pure_ (i := 10) (N := some 44) (v := ?_) (a' := ?_) #[T,T,T,F,T,T,T,F,F,T,T,F,F,F] rfl rfl (any_of HT_.out (by kernel_rfl)) (fun _ _ _ h => h) (Or.inl ⟨by rfl, ?_⟩) ?_ ?_
            rotate_left
            ·exact zwx
            rotate_left
            ·exact zpx
            refine pure_ (i := 11) (N := some 45) (v := ?_) (a' := ?_) #[T,T,T,F,T,T,T,F,F,T,T,T,F,F] rfl rfl (any_of HT_.out (by kernel_rfl)) (fun _ _ _ h => h) (Or.inl ⟨by rfl, ?_⟩) ?_ ?_
            rotate_left
            ·exact zwx
            rotate_left
            ·exact zpx
            refine join_ (σ := Value × Value) 3 #[T,T,T,T,T,T,T,T,F,T,T,T,F,F] (fun s_ => [(37, s_.1), (41, s_.2)]) (fun s_ w' => (Kd.R k59 59 w' w.heap.size (fun k_ => some k_ ≠ (s_.2 : Value).ownBlock) s_.1 t304) ∧ (Kd.R k59 59 w' w.heap.size (fun k_ => some k_ ≠ (s_.1 : Value).ownBlock) s_.2 y307) ∧ (Below w.heap.size w w')) ?_ ?_
            rotate_left
            ·intro hCont
             refine two_ (i := 3) (j := 7) (Ni := some 37) (Nj := some 41) #[T,T,T,T,T,T,T,F,F,T,T,T,F,F] #[T,T,T,F,T,T,T,T,F,T,T,T,F,F] rfl rfl rfl rfl (two_of HT_.out (by kernel_rfl)) (by decide) (by decide) (fun K hK => ?_) (fun K hK => ?_)
             ·skip
              refine goes_ Try.func81 (by kernel_rfl) rfl #[.slice A0 y300.length c0] (by rfl) rfl rfl zlx ?_
              with_reducible refine (spec_l19Own.calls _ _ y300 t304 _ ?side1 ?side2 A19.out).mono ?_
              (case side1 => repeat (first | exact (Kd.C_below HR303.out HB.out) | (with_reducible refine Kd.C_alloc ?_ _) | (with_reducible refine Kd.C_drewN ?_ _) | (with_reducible refine Kd.C_drew ?_)))
              (case side2 => exact HC303.out)
              rintro e w29 ⟨v305, rfl, ho0, hb⟩
              refine ⟨_, rfl, ?_⟩
              have n0_ := Aside0.mk (Kd.R_lower ho0 (below_size (zBx HB.out)))
              have n1_ := Aside0.mk (below_step (zBx HB.out) hb)
              clear HB
              have HO306 := n0_
              have HB := n1_
              clear n0_ n1_
              (try clear hb)
              (try clear hb2)
              (try clear hk)
              (try clear hi)
              (try clear ho0)
              refine hK.out _ _ trivial (fun hHeld => ?_)
              clear hK K
              refine norm_ (a' := ?_) ?_ ?_
              rotate_left
              ·show Act.put _ (some 37) _ = _
               simp only [Act.put, List.setIfInBounds_toArray, List.set_cons_zero, List.set_cons_succ, i64_w, i32_w]
               rfl
              refine one_ (i := 7) (N := some 41) #[T,T,T,T,T,T,T,T,F,T,T,T,F,F] rfl rfl (one_of HT_.out (by kernel_rfl)) (by decide) (fun K hK => ?_)
              refine Kd.R_lit_step k59 _ 59 ?hg (N := 41) ?hd (xs := ([(⟨a1, 1, 0, a2⟩ : S59)] : List (S59))) (inner := [.int .i64 a1, .int .i64 1, .int .i64 0, .int .i64 a2]) (ok := fun _ => True) (okp := fun _ => True) ?hr ?hp (fun _ hk => hk) trivial (Below.refl _ _) (Nat.le_refl _) (by simp) ?_; (case hd => rfl); (case hg => rfl); (case hr => exact zsx); (case hp => exact (Reps.c4 (show Kd.M k59 _ _ _ (⟨a1, 1, 0, a2⟩ : S59) [.int .i64 a1, .int .i64 1, .int .i64 0, .int .i64 a2] from (k59_mkM _ _ _ (⟨a1, 1, 0, a2⟩ : S59) )) (Reps.none _ _)))
              intro v308 w30 ho31 hb hg_ hnew_
              clear hg_ hnew_
              (first | rw [← Ny307.out] at ho31 | (simp only [Int.reduceToNat] at ho31; rw [← Ny307.out] at ho31))
              have n0_ := Aside0.mk (Kd.R_elder' (zRx HO306.out) (Kd.R_base ho31) hb)
              have n1_ := Aside0.mk (Kd.R_lower (Kd.R_new' ho31 (Kd.R_lt (zRx HO306.out))) (below_size (zBx HB.out)))
              have n2_ := Aside0.mk (below_step (zBx HB.out) hb)
              clear HO306
              clear HB
              have HO306 := n0_
              have HO309 := n1_
              have HB := n2_
              clear n0_ n1_ n2_
              clear hb ho31
              refine hK.out _ _ trivial (fun hHeld => ?_)
              clear hK K
              refine norm_ (a' := ?_) ?_ ?_
              rotate_left
              ·show Act.put _ (some 41) _ = _
               simp only [Act.put, List.setIfInBounds_toArray, List.set_cons_zero, List.set_cons_succ, i64_w, i32_w]
               rfl
              exact norm_ (by simp only [putAll, Act.put, List.setIfInBounds_toArray, List.set_cons_zero, List.set_cons_succ]) (hCont (v305, v308) _ ⟨(by (with_reducible repeat (first | apply Kd.R_alloc | apply Kd.R_drewN | apply Kd.R_drew)); exact Kd.R_mono HO306.out (fun _ hk => hk.2)), (by (with_reducible repeat (first | apply Kd.R_alloc | apply Kd.R_drewN | apply Kd.R_drew)); exact Kd.R_mono HO309.out (fun _ hk => hk.2)), (zBx HB.out)⟩)
             ·skip
              refine Kd.R_lit_step k59 _ 59 ?hg (N := 41) ?hd (xs := ([(⟨a1, 1, 0, a2⟩ : S59)] : List (S59))) (inner := [.int .i64 a1, .int .i64 1, .int .i64 0, .int .i64 a2]) (ok := fun _ => True) (okp := fun _ => True) ?hr ?hp (fun _ hk => hk) trivial (Below.refl _ _) (Nat.le_refl _) (by simp) ?_; (case hd => rfl); (case hg => rfl); (case hr => exact zsx); (case hp => exact (Reps.c4 (show Kd.M k59 _ _ _ (⟨a1, 1, 0, a2⟩ : S59) [.int .i64 a1, .int .i64 1, .int .i64 0, .int .i64 a2] from (k59_mkM _ _ _ (⟨a1, 1, 0, a2⟩ : S59) )) (Reps.none _ _)))
              intro v308 w29 ho30 hb hg_ hnew_
              clear hg_ hnew_
              (first | rw [← Ny307.out] at ho30 | (simp only [Int.reduceToNat] at ho30; rw [← Ny307.out] at ho30))
              have n0_ := Aside0.mk (Kd.R_lower ho30 (below_size (zBx HB.out)))
              have n1_ := Aside0.mk (below_step (zBx HB.out) hb)
              clear HB
              have HO309 := n0_
              have HB := n1_
              clear n0_ n1_
              clear hb ho30
              refine hK.out _ _ trivial (fun hHeld => ?_)
              clear hK K
              refine norm_ (a' := ?_) ?_ ?_
              rotate_left
              ·show Act.put _ (some 41) _ = _
               simp only [Act.put, List.setIfInBounds_toArray, List.set_cons_zero, List.set_cons_succ, i64_w, i32_w]
               rfl
              refine one_ (i := 3) (N := some 37) #[T,T,T,T,T,T,T,T,F,T,T,T,F,F] rfl rfl (one_of HT_.out (by kernel_rfl)) (by decide) (fun K hK => ?_)
              refine goes_ Try.func81 (by kernel_rfl) rfl #[.slice A0 y300.length c0] (by rfl) rfl rfl zlx ?_
              with_reducible refine (spec_l19Own.calls _ _ y300 t304 _ ?side1 ?side2 A19.out).mono ?_
              (case side1 => repeat (first | exact (Kd.C_below HR303.out HB.out) | (with_reducible refine Kd.C_alloc ?_ _) | (with_reducible refine Kd.C_drewN ?_ _) | (with_reducible refine Kd.C_drew ?_)))
              (case side2 => exact HC303.out)
              rintro e w31 ⟨v305, rfl, ho0, hb⟩
              refine ⟨_, rfl, ?_⟩
              have n0_ := Aside0.mk (Kd.R_elder' (zRx HO309.out) (Kd.R_base ho0) hb)
              have n1_ := Aside0.mk (Kd.R_lower (Kd.R_new' ho0 (Kd.R_lt (zRx HO309.out))) (below_size (zBx HB.out)))
              have n2_ := Aside0.mk (below_step (zBx HB.out) hb)
              clear HO309
              clear HB
              have HO309 := n0_
              have HO306 := n1_
              have HB := n2_
              clear n0_ n1_ n2_
              (try clear hb)
              (try clear hb2)
              (try clear hk)
              (try clear hi)
              (try clear ho0)
              refine hK.out _ _ trivial (fun hHeld => ?_)
              clear hK K
              refine norm_ (a' := ?_) ?_ ?_
              rotate_left
              ·show Act.put _ (some 37) _ = _
               simp only [Act.put, List.setIfInBounds_toArray, List.set_cons_zero, List.set_cons_succ, i64_w, i32_w]
               rfl
              exact norm_ (by simp only [putAll, Act.put, List.setIfInBounds_toArray, List.set_cons_zero, List.set_cons_succ]) (hCont (v305, v308) _ ⟨(by (with_reducible repeat (first | apply Kd.R_alloc | apply Kd.R_drewN | apply Kd.R_drew)); exact Kd.R_mono HO306.out (fun _ hk => hk.2)), (by (with_reducible repeat (first | apply Kd.R_alloc | apply Kd.R_drewN | apply Kd.R_drew)); exact Kd.R_mono HO309.out (fun _ hk => hk.2)), (zBx HB.out)⟩)
            rintro ⟨v305, v308⟩ w32 ⟨h0_, h1_, h2_⟩
            have n0_ : Aside0 (Kd.R k59 59 w32 w.heap.size (fun k_ => some k_ ≠ (v308 : Value).ownBlock) v305 t304) := ⟨h0_⟩
            have n1_ : Aside0 (Kd.R k59 59 w32 w.heap.size (fun k_ => some k_ ≠ (v305 : Value).ownBlock) v308 y307) := ⟨h1_⟩
            have n2_ : Aside0 (Below w.heap.size w w32) := ⟨h2_⟩
            clear HB
            clear h0_ h1_ h2_
            have HO306 := n0_
            have HO309 := n1_
            have HB := n2_
            clear n0_ n1_ n2_
            have hHeld := trivial
            obtain ⟨Ao34, co34, eo34⟩ := Kd.R_slice HO309.out
            (first | subst eo34 | (injection eo34 with f1_ f2_ f3_; have f4_ := f1_.symm; have f5_ := f3_.symm; clear f1_ f2_ f3_; subst f4_; subst f5_))
            refine norm_ (a' := ?_) ?_ ?_
            rotate_left
            ·simp only [putAll, Act.put, List.setIfInBounds_toArray, List.set_cons_zero, List.set_cons_succ]
             rfl
            refine one_ (i := 8) (N := some 42) #[T,T,T,T,T,T,T,T,T,T,T,T,F,F] rfl rfl (one_of HT_.out (by kernel_rfl)) (by decide) (fun K hK => ?_)
            refine Kd.R_append_rows_step k59 (w0 := w) w.heap.size (by rfl) (.tmp 37) (.tmp 41) 52 59 (.agg #[(.int .i64 0), (.int .i64 0), (.int .i64 0), (.int .i64 0)]) 32 rfl Try.underlying52 info59 rfl (by decide) (by omega) v305 t304 y307 _ _ _ (fun k_ => some k_ ≠ (.slice Ao34 y307.length co34 : Value).ownBlock) (fun _ => False) rfl rfl ?aO ?aR (fun _ _ h => h) (fun _ h => h.elim) ?aF ?aB ?aS ?aL ?_
            (case aR => repeat (first | exact (Kd.R_reads' HO309.out).2.2 | (with_reducible refine Kd.C_alloc ?_ _) | (with_reducible refine Kd.C_drewN ?_ _) | (with_reducible refine Kd.C_drew ?_)))
            (case aB => exact (zBx HB.out))
            (case aF => exact (fun k_ hk => Kd.fresh' (Kd.R_lt (zRx HO309.out)) k_ hk))
            (case aO => exact (zRx HO306.out))
            (case aS => exact (below_size (zBx HB.out)))
            (case aL => have := LMc20.out; omega)
            intro v311 w33 ho hb hg hat
            rw [← Ny310.out] at ho
            have n0_ := Aside0.mk (Kd.R_after (ok := (fun _ => True)) (by (with_reducible repeat (first | apply Kd.R_alloc | apply Kd.R_drewN | apply Kd.R_drew)); exact Kd.R_mono HO309.out (fun _ hk => ⟨trivial, hk⟩)) hg hat)
            have n1_ := Aside0.mk (hb)
            have n2_ := Aside0.mk (ho)
            clear HO309
            clear HB
            clear HO306
            have HO309 := n0_
            have HB := n1_
            have HO312 := n2_
            clear n0_ n1_ n2_
            clear ho hb hg hat
            refine hK.out _ _ trivial (fun hHeld => ?_)
            clear hK K
            refine norm_ (a' := ?_) ?_ ?_
            rotate_left
            ·show Act.put _ (some 42) _ = _
             simp only [Act.put, List.setIfInBounds_toArray, List.set_cons_zero, List.set_cons_succ, i64_w, i32_w]
             rfl
            refine one_ (i := 12) (N := some 46) #[T,T,T,T,T,T,T,T,T,T,T,T,T,F] rfl rfl (one_of HT_.out (by kernel_rfl)) (by decide) (fun K hK => ?_)
            refine Kd.R_append_rows_step k59 (w0 := w) w.heap.size (by rfl) (.tmp 42) (.tmp 45) 52 59 (.agg #[(.int .i64 0), (.int .i64 0), (.int .i64 0), (.int .i64 0)]) 32 rfl Try.underlying52 info59 rfl (by decide) (by omega) v311 y310 y313 _ _ _ (fun k_ => some k_ ≠ (.slice Ao34 y307.length co34 : Value).ownBlock) (fun _ => False) rfl rfl ?aO ?aR (fun _ _ h => h) (fun _ h => h.elim) ?aF ?aB ?aS ?aL ?_
            (case aR => repeat (first | exact (Kd.C_below HR316.out HB.out) | (with_reducible refine Kd.C_alloc ?_ _) | (with_reducible refine Kd.C_drewN ?_ _) | (with_reducible refine Kd.C_drew ?_)))
            (case aB => exact (zBx HB.out))
            (case aF => exact (fun k_ hk => Kd.fresh' (Kd.R_lt (zRx HO309.out)) k_ hk))
            (case aO => exact (zRx HO312.out))
            (case aS => exact (below_size (zBx HB.out)))
            (case aL => have := LMc23.out; omega)
            intro v318 w35 ho hb hg hat
            rw [← Ny317.out] at ho
            have n0_ := Aside0.mk (Kd.R_after (ok := (fun _ => True)) (zRx HO309.out) hg hat)
            have n1_ := Aside0.mk (hb)
            have n2_ := Aside0.mk (ho)
            clear HO309
            clear HB
            clear HO312
            have HO309 := n0_
            have HB := n1_
            have HO319 := n2_
            clear n0_ n1_ n2_
            clear ho hb hg hat
            refine hK.out _ _ trivial (fun hHeld => ?_)
            clear hK K
            refine norm_ (a' := ?_) ?_ ?_
            rotate_left
            ·show Act.put _ (some 46) _ = _
             simp only [Act.put, List.setIfInBounds_toArray, List.set_cons_zero, List.set_cons_succ, i64_w, i32_w]
             rfl
            refine pure_ (i := 13) (N := some 9) (v := ?_) (a' := ?_) #[T,T,T,T,T,T,T,T,T,T,T,T,T,T] rfl rfl (any_of HT_.out (by kernel_rfl)) (fun _ _ _ h => h) (Or.inl ⟨by rfl, ?_⟩) ?_ ?_
            rotate_left
            ·exact zwx
            rotate_left
            ·exact zpx
            refine done_ (done_of HT_.out (by kernel_rfl)) ?_
            obtain ⟨Ao36, co36, eo36⟩ := Kd.R_slice HO319.out
            subst eo36
            try go_wp2_with (first | ((with_reducible refine gate_callee (f := 79) rfl ?_); refine goesL_ (some 48) rfl rfl Try.func79 (by kernel_rfl) rfl #[.slice Ao36 y317.length co36] rfl zlx ?_; (with_reducible refine (spec_l19Good.calls kj12 _ _ y317 true _ ?side1 ?side2 A24.out).mono ?_); (case side1 => repeat (first | exact (Kd.R_reads' HO319.out).2.2 | (with_reducible refine Kd.C_alloc ?_ _) | (with_reducible refine Kd.C_drewN ?_ _) | (with_reducible refine Kd.C_drew ?_))); (case side2 => exact (Kd.R_reads' HO319.out).2.1); rintro e w37 ⟨rfl, hb⟩; refine ⟨_, rfl, ?_⟩; have n0_ := Aside0.mk (Kd.R_below (zRx HO309.out) hb); have n1_ := Aside0.mk (Kd.R_below (zRx HO319.out) hb); have n2_ := Aside0.mk (below_step (zBx HB.out) hb); clear HO309; clear HO319; clear HB; have HO309 := n0_; have HO319 := n1_; have HB := n2_; clear n0_ n1_ n2_; (try clear hb); (try clear hb2); (try clear hk); (try clear hi)))
            go_ret2
            exact ⟨_, by first | rfl | (simp [errW_none, errW_some] <;> rfl) | (simp [*, errW_none, errW_some] <;> rfl), by (with_reducible repeat (first | apply Kd.R_alloc | apply Kd.R_drewN | apply Kd.R_drew)); exact Kd.R_mono HO319.out (fun _ hk => trivial), by exact zBx HB.out⟩
          ·replace c25 := Bool.eq_false_iff.mpr c25
           subst c25
           have H1 : (some ((([] : List (S59))), false)) = some (r1, r2) := by rw [if_neg (show ¬ (false = true) by decide)] at H; exact H
           clear H
           have H := H1
           clear H1
           obtain ⟨y321, hy321⟩ : ∃ y_ : List (S59), y_ = (([] : List (S59))) := ⟨_, rfl⟩
           replace H : (some (y321, false)) = some (r1, r2) := by first | (rw [hy321]; with_reducible exact H) | (have H2_ := (Option.bind_some _ _).symm.trans H; rw [hy321]; with_reducible exact H2_) | (have H2_ := (Option.bind_some _ _).symm.trans H; with_reducible exact H2_) | with_reducible exact H | (rw [hy321]; exact H) | exact H
           have Ny321 := Aside0.mk hy321
           clear hy321
           focus
            simp only [Option.some.injEq, Prod.mk.injEq] at H
            obtain ⟨rfl, rfl⟩ := H
            try go_wp2
            have n0_ := Aside0.mk (below_drew1 HB.out)
            clear HB
            have HB := n0_
            clear n0_
            have q39 : (x8_12 : Int) ≤ ((l0.length : Int) : Int) := of_decide_eq_true zax
            obtain ⟨i039, hi039, _, hsz39, _⟩ := info_parts info59
            have hroom39 : l0.length ≤ c0 := HC0.out
            have hC39 : Kd.C k59 _ A0 l0.length l0 := HR0.out
            have hcut39 := cut_to (P := Try.prog) 52 59 .i64 Try.underlying52 hi039 A0 l0.length c0 x8_12 (of_decide_eq_true zax) q39 hroom39
            have hr39 := Kd.C_take (m := (x8_12 : Int).toNat) hC39 (by omega)
            have hy39 : y300.length = (x8_12 : Int).toNat := (by rw [Ny300.out, List.length_take]; omega)
            rw [← Ny300.out] at hr39
            rw [← hy39] at hcut39
            have HR303 := Aside0.mk hr39
            have HC303 := Aside0.mk (show y300.length ≤ c0 from by omega)
            clear hr39 hC39 hroom39 hi039 hsz39
            have KY39 := Aside0.mk hy39
            clear hy39
            replace q39 := eq_true q39
            have q40 : (x8_12 : Int) ≤ ((l0.length : Int) : Int) := of_decide_eq_true zax
            obtain ⟨i040, hi040, _, hsz40, _⟩ := info_parts info59
            have hroom40 : l0.length ≤ c0 := HC0.out
            have hC40 : Kd.C k59 _ A0 l0.length l0 := HR0.out
            have q040 : (0 : Int) ≤ (x8_12 : Int) := of_decide_eq_true zax
            have hcut40 := cut_from (P := Try.prog) 52 59 .i64 Try.underlying52 hi040 4 hsz40 A0 l0.length c0 x8_12 q040 q40
            have hr40 := Kd.C_drop (m := (x8_12 : Int).toNat) (c := c0) hC40 (by omega) hroom40
            obtain ⟨A40, hA40⟩ : ∃ A1, A1 = (if c0 = (x8_12 : Int).toNat then A0 else (A0 : Option Addr).map (·.add ((x8_12 : Int).toNat * 4))) := ⟨_, rfl⟩
            obtain ⟨c40, hc40⟩ : ∃ c1, c1 = c0 - (x8_12 : Int).toNat := ⟨_, rfl⟩
            have hy40 : y313.length = l0.length - (x8_12 : Int).toNat := (by rw [Ny313.out, List.length_drop] <;> omega)
            rw [show (l0).drop (x8_12 : Int).toNat = y313 from Ny313.out.symm] at hr40
            replace hr40 : Kd.C k59 _ A40 y313.length y313 := (by rw [hA40]; exact hr40)
            rw [← hy40, ← hA40, ← hc40] at hcut40
            have HR316 := Aside0.mk hr40
            have HC316 := Aside0.mk (show y313.length ≤ c40 from by rw [hy40, hc40]; exact Nat.sub_le_sub_right hroom40 _)
            clear hr40 hC40 hroom40 hi040 hsz40 hc40
            have KY40 := Aside0.mk hy40
            have KA40 := Aside0.mk hA40
            clear hy40 hA40
            replace q40 := eq_true q40
            refine start_ (n := 14) (S := fun w' => True) (ds := []) #[F,F,F,F,F,F,F,F,F,F,F,F,F,F] (by kernel_rfl) rfl rfl trivial (fun hHeld => ?_); refine with_tabW spec_AddDelivery.tab6 spec_AddDelivery.bits6 (fun HT_ HW_ => ?_)
            generalize wc.drew = w38 at HB HR303 HR316 hHeld ⊢
            refine pure_ (i := 0) (N := some 34) (v := ?_) (a' := ?_) #[T,F,F,F,F,F,F,F,F,F,F,F,F,F] rfl rfl (any_of HT_.out (by kernel_rfl)) (fun _ _ _ h => h) (Or.inl ⟨by rfl, ?_⟩) ?_ ?_
            rotate_left
            ·exact zwx
            rotate_left
            ·exact zpx
            refine pure_ (i := 1) (N := some 35) (v := ?_) (a' := ?_) #[T,T,F,F,F,F,F,F,F,F,F,F,F,F] rfl rfl (any_of HT_.out (by kernel_rfl)) (fun _ _ _ h => h) (Or.inl ⟨by rfl, ?_⟩) ?_ ?_
            rotate_left
            ·exact zwx
            rotate_left
            ·exact zpx
            refine pure_ (i := 2) (N := some 36) (v := ?_) (a' := ?_) #[T,T,T,F,F,F,F,F,F,F,F,F,F,F] rfl rfl (any_of HT_.out (by kernel_rfl)) (fun _ _ _ h => h) (Or.inl ⟨by rfl, ?_⟩) ?_ ?_
            rotate_left
            ·exact zwx
            rotate_left
            ·exact zpx
            refine pure_ (i := 4) (N := some 38) (v := ?_) (a' := ?_) #[T,T,T,F,T,F,F,F,F,F,F,F,F,F] rfl rfl (any_of HT_.out (by kernel_rfl)) (fun _ _ _ h => h) (Or.inl ⟨by rfl, ?_⟩) ?_ ?_
            rotate_left
            ·exact zwx
            rotate_left
            ·exact zpx
            refine pure_ (i := 5) (N := some 39) (v := ?_) (a' := ?_) #[T,T,T,F,T,T,F,F,F,F,F,F,F,F] rfl rfl (any_of HT_.out (by kernel_rfl)) (fun _ _ _ h => h) (Or.inl ⟨by rfl, ?_⟩) ?_ ?_
            rotate_left
            ·exact zwx
            rotate_left
            ·exact zpx
            refine pure_ (i := 6) (N := some 40) (v := ?_) (a' := ?_) #[T,T,T,F,T,T,T,F,F,F,F,F,F,F] rfl rfl (any_of HT_.out (by kernel_rfl)) (fun _ _ _ h => h) (Or.inl ⟨by rfl, ?_⟩) ?_ ?_
            rotate_left
            ·exact zwx
            rotate_left
            ·exact zpx
            refine pure_ (i := 9) (N := some 43) (v := ?_) (a' := ?_) #[T,T,T,F,T,T,T,F,F,T,F,F,F,F] rfl rfl (any_of HT_.out (by kernel_rfl)) (fun _ _ _ h => h) (Or.inl ⟨by rfl, ?_⟩) ?_ ?_
            rotate_left
            ·exact zwx
            rotate_left
            ·exact zpx
            refine pure_ (i := 10) (N := some 44) (v := ?_) (a' := ?_) #[T,T,T,F,T,T,T,F,F,T,T,F,F,F] rfl rfl (any_of HT_.out (by kernel_rfl)) (fun _ _ _ h => h) (Or.inl ⟨by rfl, ?_⟩) ?_ ?_
            rotate_left
            ·exact zwx
            rotate_left
            ·exact zpx
            refine pure_ (i := 11) (N := some 45) (v := ?_) (a' := ?_) #[T,T,T,F,T,T,T,F,F,T,T,T,F,F] rfl rfl (any_of HT_.out (by kernel_rfl)) (fun _ _ _ h => h) (Or.inl ⟨by rfl, ?_⟩) ?_ ?_
            rotate_left
            ·exact zwx
            rotate_left
            ·exact zpx
            refine join_ (σ := Value × Value) 3 #[T,T,T,T,T,T,T,T,F,T,T,T,F,F] (fun s_ => [(37, s_.1), (41, s_.2)]) (fun s_ w' => (Kd.R k59 59 w' w.heap.size (fun k_ => some k_ ≠ (s_.2 : Value).ownBlock) s_.1 t304) ∧ (Kd.R k59 59 w' w.heap.size (fun k_ => some k_ ≠ (s_.1 : Value).ownBlock) s_.2 y307) ∧ (Below w.heap.size w w')) ?_ ?_
            rotate_left
            ·intro hCont
             refine two_ (i := 3) (j := 7) (Ni := some 37) (Nj := some 41) #[T,T,T,T,T,T,T,F,F,T,T,T,F,F] #[T,T,T,F,T,T,T,T,F,T,T,T,F,F] rfl rfl rfl rfl (two_of HT_.out (by kernel_rfl)) (by decide) (by decide) (fun K hK => ?_) (fun K hK => ?_)
             ·skip
              refine goes_ Try.func81 (by kernel_rfl) rfl #[.slice A0 y300.length c0] (by rfl) rfl rfl zlx ?_
              with_reducible refine (spec_l19Own.calls _ _ y300 t304 _ ?side1 ?side2 A19.out).mono ?_
              (case side1 => repeat (first | exact (Kd.C_below HR303.out HB.out) | (with_reducible refine Kd.C_alloc ?_ _) | (with_reducible refine Kd.C_drewN ?_ _) | (with_reducible refine Kd.C_drew ?_)))
              (case side2 => exact HC303.out)
              rintro e w41 ⟨v305, rfl, ho0, hb⟩
              refine ⟨_, rfl, ?_⟩
              have n0_ := Aside0.mk (Kd.R_lower ho0 (below_size (zBx HB.out)))
              have n1_ := Aside0.mk (below_step (zBx HB.out) hb)
              clear HB
              have HO306 := n0_
              have HB := n1_
              clear n0_ n1_
              (try clear hb)
              (try clear hb2)
              (try clear hk)
              (try clear hi)
              (try clear ho0)
              refine hK.out _ _ trivial (fun hHeld => ?_)
              clear hK K
              refine norm_ (a' := ?_) ?_ ?_
              rotate_left
              ·show Act.put _ (some 37) _ = _
               simp only [Act.put, List.setIfInBounds_toArray, List.set_cons_zero, List.set_cons_succ, i64_w, i32_w]
               rfl
              refine one_ (i := 7) (N := some 41) #[T,T,T,T,T,T,T,T,F,T,T,T,F,F] rfl rfl (one_of HT_.out (by kernel_rfl)) (by decide) (fun K hK => ?_)
              refine Kd.R_lit_step k59 _ 59 ?hg (N := 41) ?hd (xs := ([(⟨a1, 1, 0, a2⟩ : S59)] : List (S59))) (inner := [.int .i64 a1, .int .i64 1, .int .i64 0, .int .i64 a2]) (ok := fun _ => True) (okp := fun _ => True) ?hr ?hp (fun _ hk => hk) trivial (Below.refl _ _) (Nat.le_refl _) (by simp) ?_; (case hd => rfl); (case hg => rfl); (case hr => exact zsx); (case hp => exact (Reps.c4 (show Kd.M k59 _ _ _ (⟨a1, 1, 0, a2⟩ : S59) [.int .i64 a1, .int .i64 1, .int .i64 0, .int .i64 a2] from (k59_mkM _ _ _ (⟨a1, 1, 0, a2⟩ : S59) )) (Reps.none _ _)))
              intro v308 w42 ho43 hb hg_ hnew_
              clear hg_ hnew_
              (first | rw [← Ny307.out] at ho43 | (simp only [Int.reduceToNat] at ho43; rw [← Ny307.out] at ho43))
              have n0_ := Aside0.mk (Kd.R_elder' (zRx HO306.out) (Kd.R_base ho43) hb)
              have n1_ := Aside0.mk (Kd.R_lower (Kd.R_new' ho43 (Kd.R_lt (zRx HO306.out))) (below_size (zBx HB.out)))
              have n2_ := Aside0.mk (below_step (zBx HB.out) hb)
              clear HO306
              clear HB
              have HO306 := n0_
              have HO309 := n1_
              have HB := n2_
              clear n0_ n1_ n2_
              clear hb ho43
              refine hK.out _ _ trivial (fun hHeld => ?_)
              clear hK K
              refine norm_ (a' := ?_) ?_ ?_
              rotate_left
              ·show Act.put _ (some 41) _ = _
               simp only [Act.put, List.setIfInBounds_toArray, List.set_cons_zero, List.set_cons_succ, i64_w, i32_w]
               rfl
              exact norm_ (by simp only [putAll, Act.put, List.setIfInBounds_toArray, List.set_cons_zero, List.set_cons_succ]) (hCont (v305, v308) _ ⟨(by (with_reducible repeat (first | apply Kd.R_alloc | apply Kd.R_drewN | apply Kd.R_drew)); exact Kd.R_mono HO306.out (fun _ hk => hk.2)), (by (with_reducible repeat (first | apply Kd.R_alloc | apply Kd.R_drewN | apply Kd.R_drew)); exact Kd.R_mono HO309.out (fun _ hk => hk.2)), (zBx HB.out)⟩)
             ·skip
              refine Kd.R_lit_step k59 _ 59 ?hg (N := 41) ?hd (xs := ([(⟨a1, 1, 0, a2⟩ : S59)] : List (S59))) (inner := [.int .i64 a1, .int .i64 1, .int .i64 0, .int .i64 a2]) (ok := fun _ => True) (okp := fun _ => True) ?hr ?hp (fun _ hk => hk) trivial (Below.refl _ _) (Nat.le_refl _) (by simp) ?_; (case hd => rfl); (case hg => rfl); (case hr => exact zsx); (case hp => exact (Reps.c4 (show Kd.M k59 _ _ _ (⟨a1, 1, 0, a2⟩ : S59) [.int .i64 a1, .int .i64 1, .int .i64 0, .int .i64 a2] from (k59_mkM _ _ _ (⟨a1, 1, 0, a2⟩ : S59) )) (Reps.none _ _)))
              intro v308 w41 ho42 hb hg_ hnew_
              clear hg_ hnew_
              (first | rw [← Ny307.out] at ho42 | (simp only [Int.reduceToNat] at ho42; rw [← Ny307.out] at ho42))
              have n0_ := Aside0.mk (Kd.R_lower ho42 (below_size (zBx HB.out)))
              have n1_ := Aside0.mk (below_step (zBx HB.out) hb)
              clear HB
              have HO309 := n0_
              have HB := n1_
              clear n0_ n1_
              clear hb ho42
              refine hK.out _ _ trivial (fun hHeld => ?_)
              clear hK K
              refine norm_ (a' := ?_) ?_ ?_
              rotate_left
              ·show Act.put _ (some 41) _ = _
               simp only [Act.put, List.setIfInBounds_toArray, List.set_cons_zero, List.set_cons_succ, i64_w, i32_w]
               rfl
              refine one_ (i := 3) (N := some 37) #[T,T,T,T,T,T,T,T,F,T,T,T,F,F] rfl rfl (one_of HT_.out (by kernel_rfl)) (by decide) (fun K hK => ?_)
              refine goes_ Try.func81 (by kernel_rfl) rfl #[.slice A0 y300.length c0] (by rfl) rfl rfl zlx ?_
              with_reducible refine (spec_l19Own.calls _ _ y300 t304 _ ?side1 ?side2 A19.out).mono ?_
              (case side1 => repeat (first | exact (Kd.C_below HR303.out HB.out) | (with_reducible refine Kd.C_alloc ?_ _) | (with_reducible refine Kd.C_drewN ?_ _) | (with_reducible refine Kd.C_drew ?_)))
              (case side2 => exact HC303.out)
              rintro e w43 ⟨v305, rfl, ho0, hb⟩
              refine ⟨_, rfl, ?_⟩
              have n0_ := Aside0.mk (Kd.R_elder' (zRx HO309.out) (Kd.R_base ho0) hb)
              have n1_ := Aside0.mk (Kd.R_lower (Kd.R_new' ho0 (Kd.R_lt (zRx HO309.out))) (below_size (zBx HB.out)))
              have n2_ := Aside0.mk (below_step (zBx HB.out) hb)
              clear HO309
              clear HB
              have HO309 := n0_
              have HO306 := n1_
              have HB := n2_
              clear n0_ n1_ n2_
              (try clear hb)
              (try clear hb2)
              (try clear hk)
              (try clear hi)
              (try clear ho0)
              refine hK.out _ _ trivial (fun hHeld => ?_)
              clear hK K
              refine norm_ (a' := ?_) ?_ ?_
              rotate_left
              ·show Act.put _ (some 37) _ = _
               simp only [Act.put, List.setIfInBounds_toArray, List.set_cons_zero, List.set_cons_succ, i64_w, i32_w]
               rfl
              exact norm_ (by simp only [putAll, Act.put, List.setIfInBounds_toArray, List.set_cons_zero, List.set_cons_succ]) (hCont (v305, v308) _ ⟨(by (with_reducible repeat (first | apply Kd.R_alloc | apply Kd.R_drewN | apply Kd.R_drew)); exact Kd.R_mono HO306.out (fun _ hk => hk.2)), (by (with_reducible repeat (first | apply Kd.R_alloc | apply Kd.R_drewN | apply Kd.R_drew)); exact Kd.R_mono HO309.out (fun _ hk => hk.2)), (zBx HB.out)⟩)
            rintro ⟨v305, v308⟩ w44 ⟨h0_, h1_, h2_⟩
            have n0_ : Aside0 (Kd.R k59 59 w44 w.heap.size (fun k_ => some k_ ≠ (v308 : Value).ownBlock) v305 t304) := ⟨h0_⟩
            have n1_ : Aside0 (Kd.R k59 59 w44 w.heap.size (fun k_ => some k_ ≠ (v305 : Value).ownBlock) v308 y307) := ⟨h1_⟩
            have n2_ : Aside0 (Below w.heap.size w w44) := ⟨h2_⟩
            clear HB
            clear h0_ h1_ h2_
            have HO306 := n0_
            have HO309 := n1_
            have HB := n2_
            clear n0_ n1_ n2_
            have hHeld := trivial
            obtain ⟨Ao46, co46, eo46⟩ := Kd.R_slice HO309.out
            (first | subst eo46 | (injection eo46 with f1_ f2_ f3_; have f4_ := f1_.symm; have f5_ := f3_.symm; clear f1_ f2_ f3_; subst f4_; subst f5_))
            refine norm_ (a' := ?_) ?_ ?_
            rotate_left
            ·simp only [putAll, Act.put, List.setIfInBounds_toArray, List.set_cons_zero, List.set_cons_succ]
             rfl
            refine one_ (i := 8) (N := some 42) #[T,T,T,T,T,T,T,T,T,T,T,T,F,F] rfl rfl (one_of HT_.out (by kernel_rfl)) (by decide) (fun K hK => ?_)
            refine Kd.R_append_rows_step k59 (w0 := w) w.heap.size (by rfl) (.tmp 37) (.tmp 41) 52 59 (.agg #[(.int .i64 0), (.int .i64 0), (.int .i64 0), (.int .i64 0)]) 32 rfl Try.underlying52 info59 rfl (by decide) (by omega) v305 t304 y307 _ _ _ (fun k_ => some k_ ≠ (.slice Ao46 y307.length co46 : Value).ownBlock) (fun _ => False) rfl rfl ?aO ?aR (fun _ _ h => h) (fun _ h => h.elim) ?aF ?aB ?aS ?aL ?_
            (case aR => repeat (first | exact (Kd.R_reads' HO309.out).2.2 | (with_reducible refine Kd.C_alloc ?_ _) | (with_reducible refine Kd.C_drewN ?_ _) | (with_reducible refine Kd.C_drew ?_)))
            (case aB => exact (zBx HB.out))
            (case aF => exact (fun k_ hk => Kd.fresh' (Kd.R_lt (zRx HO309.out)) k_ hk))
            (case aO => exact (zRx HO306.out))
            (case aS => exact (below_size (zBx HB.out)))
            (case aL => have := LMc20.out; omega)
            intro v311 w45 ho hb hg hat
            rw [← Ny310.out] at ho
            have n0_ := Aside0.mk (Kd.R_after (ok := (fun _ => True)) (by (with_reducible repeat (first | apply Kd.R_alloc | apply Kd.R_drewN | apply Kd.R_drew)); exact Kd.R_mono HO309.out (fun _ hk => ⟨trivial, hk⟩)) hg hat)
            have n1_ := Aside0.mk (hb)
            have n2_ := Aside0.mk (ho)
            clear HO309
            clear HB
            clear HO306
            have HO309 := n0_
            have HB := n1_
            have HO312 := n2_
            clear n0_ n1_ n2_
            clear ho hb hg hat
            refine hK.out _ _ trivial (fun hHeld => ?_)
            clear hK K
            refine norm_ (a' := ?_) ?_ ?_
            rotate_left
            ·show Act.put _ (some 42) _ = _
             simp only [Act.put, List.setIfInBounds_toArray, List.set_cons_zero, List.set_cons_succ, i64_w, i32_w]
             rfl
            refine one_ (i := 12) (N := some 46) #[T,T,T,T,T,T,T,T,T,T,T,T,T,F] rfl rfl (one_of HT_.out (by kernel_rfl)) (by decide) (fun K hK => ?_)
            refine Kd.R_append_rows_step k59 (w0 := w) w.heap.size (by rfl) (.tmp 42) (.tmp 45) 52 59 (.agg #[(.int .i64 0), (.int .i64 0), (.int .i64 0), (.int .i64 0)]) 32 rfl Try.underlying52 info59 rfl (by decide) (by omega) v311 y310 y313 _ _ _ (fun k_ => some k_ ≠ (.slice Ao46 y307.length co46 : Value).ownBlock) (fun _ => False) rfl rfl ?aO ?aR (fun _ _ h => h) (fun _ h => h.elim) ?aF ?aB ?aS ?aL ?_
            (case aR => repeat (first | exact (Kd.C_below HR316.out HB.out) | (with_reducible refine Kd.C_alloc ?_ _) | (with_reducible refine Kd.C_drewN ?_ _) | (with_reducible refine Kd.C_drew ?_)))
            (case aB => exact (zBx HB.out))
            (case aF => exact (fun k_ hk => Kd.fresh' (Kd.R_lt (zRx HO309.out)) k_ hk))
            (case aO => exact (zRx HO312.out))
            (case aS => exact (below_size (zBx HB.out)))
            (case aL => have := LMc23.out; omega)
            intro v318 w47 ho hb hg hat
            rw [← Ny317.out] at ho
            have n0_ := Aside0.mk (Kd.R_after (ok := (fun _ => True)) (zRx HO309.out) hg hat)
            have n1_ := Aside0.mk (hb)
            have n2_ := Aside0.mk (ho)
            clear HO309
            clear HB
            clear HO312
            have HO309 := n0_
            have HB := n1_
            have HO319 := n2_
            clear n0_ n1_ n2_
            clear ho hb hg hat
            refine hK.out _ _ trivial (fun hHeld => ?_)
            clear hK K
            refine norm_ (a' := ?_) ?_ ?_
            rotate_left
            ·show Act.put _ (some 46) _ = _
             simp only [Act.put, List.setIfInBounds_toArray, List.set_cons_zero, List.set_cons_succ, i64_w, i32_w]
             rfl
            refine pure_ (i := 13) (N := some 9) (v := ?_) (a' := ?_) #[T,T,T,T,T,T,T,T,T,T,T,T,T,T] rfl rfl (any_of HT_.out (by kernel_rfl)) (fun _ _ _ h => h) (Or.inl ⟨by rfl, ?_⟩) ?_ ?_
            rotate_left
            ·exact zwx
            rotate_left
            ·exact zpx
            refine done_ (done_of HT_.out (by kernel_rfl)) ?_
            obtain ⟨Ao48, co48, eo48⟩ := Kd.R_slice HO319.out
            subst eo48
            try go_wp2_with (first | ((with_reducible refine gate_callee (f := 79) rfl ?_); refine goesL_ (some 48) rfl rfl Try.func79 (by kernel_rfl) rfl #[.slice Ao48 y317.length co48] rfl zlx ?_; (with_reducible refine (spec_l19Good.calls kj12 _ _ y317 false _ ?side1 ?side2 A24.out).mono ?_); (case side1 => repeat (first | exact (Kd.R_reads' HO319.out).2.2 | (with_reducible refine Kd.C_alloc ?_ _) | (with_reducible refine Kd.C_drewN ?_ _) | (with_reducible refine Kd.C_drew ?_))); (case side2 => exact (Kd.R_reads' HO319.out).2.1); rintro e w49 ⟨rfl, hb⟩; refine ⟨_, rfl, ?_⟩; have n0_ := Aside0.mk (Kd.R_below (zRx HO309.out) hb); have n1_ := Aside0.mk (Kd.R_below (zRx HO319.out) hb); have n2_ := Aside0.mk (below_step (zBx HB.out) hb); clear HO309; clear HO319; clear HB; have HO309 := n0_; have HO319 := n1_; have HB := n2_; clear n0_ n1_ n2_; (try clear hb); (try clear hb2); (try clear hk); (try clear hi)) | ((with_reducible refine gate_dst (N := 50) rfl ?_); refine Kd.R_lit k59 _ 59 ?hg (N := 50) ?hd (xs := ([] : List (S59))) (inner := []) (ok := fun _ => True) (okp := fun _ => True) ?hr ?hp (fun _ hk => hk) trivial (Below.refl _ _) (Nat.le_refl _) (by simp) ?_; (case hd => rfl); (case hg => rfl); (case hr => exact zsx); (case hp => exact (Reps.none _ _)); intro v322 w50 ho51 hb hg_ hnew_; clear hg_ hnew_; (first | rw [← Ny321.out] at ho51 | (simp only [Int.reduceToNat] at ho51; rw [← Ny321.out] at ho51)); have n0_ := Aside0.mk (Kd.R_elder' (zRx HO309.out) (Kd.R_base ho51) hb); have n1_ := Aside0.mk (Kd.R_elder' (zRx HO319.out) (Kd.R_base ho51) hb); have n2_ := Aside0.mk (Kd.R_lower (Kd.R_new' (Kd.R_new' ho51 (Kd.R_lt (zRx HO309.out))) (Kd.R_lt (zRx HO319.out))) (below_size (zBx HB.out))); have n3_ := Aside0.mk (below_step (zBx HB.out) hb); clear HO309; clear HO319; clear HB; have HO309 := n0_; have HO319 := n1_; have HO323 := n2_; have HB := n3_; clear n0_ n1_ n2_ n3_; clear hb ho51))
            go_ret2
            exact ⟨_, by first | rfl | (simp [errW_none, errW_some] <;> rfl) | (simp [*, errW_none, errW_some] <;> rfl), by (with_reducible repeat (first | apply Kd.R_alloc | apply Kd.R_drewN | apply Kd.R_drew)); exact Kd.R_mono HO323.out (fun _ hk => trivial), by exact zBx HB.out⟩
         ·rw [if_neg c23] at H
          exact absurd H (by simp)
        ·rw [if_neg c20] at H
         exact absurd H (by simp)
       ·rw [if_neg c18] at H
        exact absurd H (by simp)
      ·rw [if_neg c17] at H
       exact absurd H (by simp)

end Go.Proofs.Ytkegkbpadhddkaa.XFnDeliveries
