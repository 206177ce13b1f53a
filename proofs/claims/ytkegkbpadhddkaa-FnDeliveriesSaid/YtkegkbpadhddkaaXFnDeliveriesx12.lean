-- written by wip/tools/xprint.py (a program of this project) out of the translation
import Derived.Test.YtkegkbpadhddkaaXFnDeliveriesx0
import Derived.Test.YtkegkbpadhddkaaXFnDeliveriesx3
import Derived.Test.YtkegkbpadhddkaaXFnDeliveriesx6
namespace Go.Proofs.Ytkegkbpadhddkaa.XFnDeliveries
open Go.RowKit Go.Proofs.YtkegkbpadhddkaaW.PrintWords Go.Proofs.YtkegkbpadhddkaaW.PrintLast Go.Proofs.YtkegkbpadhddkaaW.PrintMore
attribute [local go_sem] max2_int min2_int max_two min_two max_three min_three max_four min_four   -- for this text's walks alone
set_option linter.unusedVariables false
set_option linter.unusedSimpArgs false

/-! ### impl_SendNext: function 52 -/
mutual
def impl_SendNext.j0 : Nat → List (S59) → Int → Bool → Option ((List (S59)) × Int × Bool)
 | 0, _, _, _ => none
 | k + 1, x0, x1, x18 => if x18 = true then (some (([] : List (S59)), 0, false)) else (impl_SendNext.l0 k x0 x1 (-1) x0 (x0.length : Int) 0)
def impl_SendNext.l0 : Nat → List (S59) → Int → Int → List (S59) → Int → Int → Option ((List (S59)) × Int × Bool)
 | 0, _, _, _, _, _, _ => none
 | k + 1, x0, x1, x7, x19, x20, x21 => if x21 < x20 then (if 0 ≤ x21 then (if x21 < (x19.length : Int) then (if ((rd_T59 x19 x21).f1) = 1 then (if ((rd_T59 x19 x21).f3) ≤ x1 then (if x7 < 0 then (impl_SendNext.l0 k x0 x1 x21 x19 x20 (wrap64 (x21 + 1))) else (if 0 ≤ x7 then (if x7 < (x0.length : Int) then (if ((rd_T59 x19 x21).f3) < ((rd_T59 x0 x7).f3) then (impl_SendNext.l0 k x0 x1 x21 x19 x20 (wrap64 (x21 + 1))) else (impl_SendNext.l0 k x0 x1 x7 x19 x20 (wrap64 (x21 + 1)))) else (none)) else (none))) else (impl_SendNext.l0 k x0 x1 x7 x19 x20 (wrap64 (x21 + 1)))) else (impl_SendNext.l0 k x0 x1 x7 x19 x20 (wrap64 (x21 + 1)))) else (none)) else (none)) else (if x7 < 0 then (some (([] : List (S59)), 0, false)) else ((slices_Clone_Delivery.f x0).bind fun t338 => (if 0 ≤ x7 then (if x7 < (x0.length : Int) then (if x7 < (t338.length : Int) then (some ((t338.set (x7 : Int).toNat (⟨(rd_T59 x0 x7).f0, 2, wrap64 (((rd_T59 x0 x7).f2) + 1), wrap64 (x1 + 10)⟩ : S59)), (rd_T59 x0 x7).f0, true)) else (none)) else (none)) else (none))))
end
def impl_SendNext.f (k : Nat) (l0 : List (S59)) (a1 : Int) : Option ((List (S59)) × Int × Bool) := (impl_IsValidQueue.f k l0).bind fun t333 => (if t333 = true then ((impl_isMinute.f a1).bind fun t334 => (impl_SendNext.j0 k l0 a1 (!t334))) else (impl_SendNext.j0 k l0 a1 true))
theorem impl_SendNext.mono_l : ∀ k, (∀ y0 y1 y2, LeO (impl_SendNext.j0 k y0 y1 y2) (impl_SendNext.j0 (k + 1) y0 y1 y2)) ∧ (∀ y0 y1 y2 y3 y4 y5, LeO (impl_SendNext.l0 k y0 y1 y2 y3 y4 y5) (impl_SendNext.l0 (k + 1) y0 y1 y2 y3 y4 y5))
 | 0 => ⟨fun _ _ _ r h => by simp [impl_SendNext.j0] at h, fun _ _ _ _ _ _ r h => by simp [impl_SendNext.l0] at h⟩
 | k + 1 => by
  obtain ⟨ih0, ih1⟩ := impl_SendNext.mono_l k
  refine ⟨?_, ?_⟩
  ·intro y0 y1 y2
   unfold impl_SendNext.j0
   repeat' first
   | (with_reducible exact ih0 _ _ _)
   | (with_reducible exact ih1 _ _ _ _ _ _)
   | (with_reducible exact impl_IsValidQueue.mono _ _)
   | (with_reducible exact LeO.refl _)
   | (with_reducible exact LeO.none _)
   | (with_reducible refine LeO.ite ?_ ?_)
   | (with_reducible refine LeO.bind ?_ (fun _ => ?_))
   | exact ih0 _ _ _
   | exact ih1 _ _ _ _ _ _
   | exact impl_IsValidQueue.mono _ _
   | exact LeO.none _
   | refine LeO.ite ?_ ?_
   | refine LeO.bind ?_ (fun _ => ?_)
  ·intro y0 y1 y2 y3 y4 y5
   unfold impl_SendNext.l0
   repeat' first
   | (with_reducible exact ih0 _ _ _)
   | (with_reducible exact ih1 _ _ _ _ _ _)
   | (with_reducible exact impl_IsValidQueue.mono _ _)
   | (with_reducible exact LeO.refl _)
   | (with_reducible exact LeO.none _)
   | (with_reducible refine LeO.ite ?_ ?_)
   | (with_reducible refine LeO.bind ?_ (fun _ => ?_))
   | exact ih0 _ _ _
   | exact ih1 _ _ _ _ _ _
   | exact impl_IsValidQueue.mono _ _
   | exact LeO.none _
   | refine LeO.ite ?_ ?_
   | refine LeO.bind ?_ (fun _ => ?_)
theorem impl_SendNext.mono : ∀ a0 a1 k, LeO (impl_SendNext.f k a0 a1) (impl_SendNext.f (k + 1) a0 a1) := by
 intro a0 a1 k
 obtain ⟨ih0, ih1⟩ := impl_SendNext.mono_l k
 unfold impl_SendNext.f
 repeat' first
  | (with_reducible exact ih0 _ _ _)
  | (with_reducible exact ih1 _ _ _ _ _ _)
  | (with_reducible exact impl_IsValidQueue.mono _ _)
  | (with_reducible exact LeO.refl _)
  | (with_reducible exact LeO.none _)
  | (with_reducible refine LeO.ite ?_ ?_)
  | (with_reducible refine LeO.bind ?_ (fun _ => ?_))
  | exact ih0 _ _ _
  | exact ih1 _ _ _ _ _ _
  | exact impl_IsValidQueue.mono _ _
  | exact LeO.none _
  | refine LeO.ite ?_ ?_
  | refine LeO.bind ?_ (fun _ => ?_)
def impl_SendNext.T7 : Bool × List (List Nat × List Nat) := (true, [([], []), ([0], [0]), ([1], [1]), ([2], [2]), ([3], [3]), ([4, 3], [3, 4]), ([3], [3]), ([5, 6, 3], [3, 5, 6]), ([3, 7], [3, 7]), ([8, 3], [8]), ([9], [9]), ([10, 9], [9, 10]), ([11, 9, 9], [9, 11]), ([12], [12]), ([13, 12], [12, 13]), ([12], [12]), ([12], [12]), ([15, 16, 12], [12, 15, 16]), ([17, 12], [12, 17]), ([18, 12], [12, 18]), ([14, 19, 12], [12, 14, 19]), ([12, 20, 9], [9, 12, 20]), ([9, 21], [9, 21])])
def impl_SendNext.B7 : List Nat := [0, 1, 3, 7, 15, 31, 15, 127, 255, 511, 1023, 2047, 4095, 8191, 16383, 8191, 8191, 106495, 237567, 499711, 1048575, 2097151, 4194303]
theorem impl_SendNext.tab7 : rtab .any (opsOf Try.f52 7) = impl_SendNext.T7 := by kernel_rfl
theorem impl_SendNext.bits7 : waitsOk impl_SendNext.T7.2 impl_SendNext.B7 = true := by kernel_rfl
def impl_SendNext.T13 : Bool × List (List Nat × List Nat) := (true, [([], []), ([], []), ([], []), ([], []), ([2, 3], [2, 3]), ([4], [4]), ([5], [5]), ([], []), ([], []), ([7, 8], [7, 8]), ([9], [9]), ([10], [10]), ([11], [11]), ([], []), ([13], [13]), ([6, 12, 14], [6, 12, 14]), ([0, 1, 0, 1, 2, 3, 4, 5, 6, 7, 8, 9, 10, 11, 12, 13, 14, 15], [0, 1]), ([16, 15, 0, 1, 2, 3, 4, 5, 6, 7, 8, 9, 10, 11, 12, 13, 14, 15], [15, 16])])
def impl_SendNext.B13 : List Nat := [0, 0, 0, 0, 12, 28, 60, 0, 0, 384, 896, 1920, 3968, 0, 8192, 32764, 65535, 131071]
theorem impl_SendNext.tab13 : rtab .any (opsOf Try.f52 13) = impl_SendNext.T13 := by kernel_rfl
theorem impl_SendNext.bits13 : waitsOk impl_SendNext.T13.2 impl_SendNext.B13 = true := by kernel_rfl
def impl_SendNext.T14 : Bool × List (List Nat × List Nat) := (true, [([], []), ([], []), ([], []), ([1, 2], [1, 2]), ([3], [3]), ([4], [4]), ([0, 0], [0]), ([5, 6, 0, 1, 2, 3, 4, 5, 6], [5]), ([7, 0, 1, 2, 3, 4, 5, 6, 7], [])])
def impl_SendNext.B14 : List Nat := [0, 0, 0, 6, 14, 30, 1, 127, 255]
theorem impl_SendNext.tab14 : rtab .any (opsOf Try.f52 14) = impl_SendNext.T14 := by kernel_rfl
theorem impl_SendNext.bits14 : waitsOk impl_SendNext.T14.2 impl_SendNext.B14 = true := by kernel_rfl
set_option maxHeartbeats 8000000 in
set_option maxRecDepth 100000 in
theorem impl_SendNext.calls (k : Nat) (A0 : Option Addr) (c0 : Nat) (l0 : List (S59)) (a1 : Int) (r1 : List (S59)) (r2 : Int) (r3 : Bool) (w : World) (hr0 : Kd.C k59 w A0 l0.length l0) (hc0 : l0.length ≤ c0) (h : impl_SendNext.f k l0 a1 = some (r1, r2, r3)) :
 Calls Try.prog 52 #[.slice A0 l0.length c0, .int .i64 a1] w fun e w' => ∃ v0_ : Value, e = .returned (.tuple #[v0_, .int .i64 r2, .bool r3]) ∧ Kd.R k59 59 w' w.heap.size (fun _ => True) v0_ r1 ∧ Below w.heap.size w w' := by
 have hu59 := Try.underlying59
 have HR0 := Aside0.mk hr0
 have HC0 := Aside0.mk hc0
 clear hr0 hc0
 have HB := Aside0.mk (Below.refl w.heap.size w)
 have H : ((impl_IsValidQueue.f k l0).bind fun t333 => (if t333 = true then ((impl_isMinute.f a1).bind fun t334 => (impl_SendNext.j0 k l0 a1 (!t334))) else (impl_SendNext.j0 k l0 a1 true))) = some (r1, r2, r3) := h
 clear h
 have HC3 := Aside0.mk H
 clear H
 go_enter Try.func52, Try.ntmps52
 go_upto_region 1 with (fail)
 go_cut [18] (fun v18 wc => ∃ (kq : Nat) (x18_2 : Bool), v18 = .bool x18_2 ∧ Aside0 (impl_SendNext.j0 kq l0 a1 x18_2 = some (r1, r2, r3)) ∧ Aside0 (kq ≤ k) ∧ Aside0 (Below w.heap.size w wc))
 case first =>
  have H := HC3.out
  clear HC3
  replace H := Option.bind_eq_some_iff.mp H
  obtain ⟨t333, A40, H⟩ := H
  replace H : (if t333 = true then ((impl_isMinute.f a1).bind fun t334 => (impl_SendNext.j0 k l0 a1 (!t334))) else (impl_SendNext.j0 k l0 a1 true)) = some (r1, r2, r3) := H
  have A4 := Aside0.mk A40
  clear A40
  by_cases c5 : t333 = true
  ·subst c5
   have H1 : ((impl_isMinute.f a1).bind fun t334 => (impl_SendNext.j0 k l0 a1 (!t334))) = some (r1, r2, r3) := by rw [if_pos rfl] at H; exact H
   clear H
   have H := H1
   clear H1
   replace H := Option.bind_eq_some_iff.mp H
   obtain ⟨t334, A60, H⟩ := H
   replace H : (impl_SendNext.j0 k l0 a1 (!t334)) = some (r1, r2, r3) := H
   have A6 := Aside0.mk A60
   clear A60
   focus
    have H' := Aside0.mk H
    clear H
    go_wp2_with (first | ((with_reducible refine gate_callee (f := 41) rfl ?_); refine goesL_ (some 12) rfl rfl Try.func41 (by kernel_rfl) rfl #[.slice A0 l0.length c0] rfl zlx ?_; (with_reducible refine (impl_IsValidQueue.calls k _ _ l0 true _ ?side1 ?side2 A4.out).mono ?_); (case side1 => repeat (first | exact (Kd.C_below HR0.out HB.out) | (with_reducible refine Kd.C_alloc ?_ _) | (with_reducible refine Kd.C_drewN ?_ _) | (with_reducible refine Kd.C_drew ?_))); (case side2 => exact HC0.out); rintro e w7 ⟨rfl, hb⟩; refine ⟨_, rfl, ?_⟩; have n0_ := Aside0.mk (below_step (zBx HB.out) hb); clear HB; have HB := n0_; clear n0_; (try clear hb); (try clear hb2); (try clear hk); (try clear hi)) | (go_at_call 77; (with_reducible refine (impl_isMinute.calls a1 t334 _ A6.out).mono ?_); rintro e w' ⟨rfl, ⟨nd, rfl⟩⟩))
    go_meet
    case rel => exact ⟨_, (!t334), zrx, H', ⟨by first | omega | exact Nat.le_refl _⟩, ⟨by exact zBx HB.out⟩⟩
  ·replace c5 := Bool.eq_false_iff.mpr c5
   subst c5
   have H1 : (impl_SendNext.j0 k l0 a1 true) = some (r1, r2, r3) := by rw [if_neg (show ¬ (false = true) by decide)] at H; exact H
   clear H
   have H := H1
   clear H1
   focus
    have H' := Aside0.mk H
    clear H
    go_wp2_with (first | ((with_reducible refine gate_callee (f := 41) rfl ?_); refine goesL_ (some 12) rfl rfl Try.func41 (by kernel_rfl) rfl #[.slice A0 l0.length c0] rfl zlx ?_; (with_reducible refine (impl_IsValidQueue.calls k _ _ l0 false _ ?side1 ?side2 A4.out).mono ?_); (case side1 => repeat (first | exact (Kd.C_below HR0.out HB.out) | (with_reducible refine Kd.C_alloc ?_ _) | (with_reducible refine Kd.C_drewN ?_ _) | (with_reducible refine Kd.C_drew ?_))); (case side2 => exact HC0.out); rintro e w8 ⟨rfl, hb⟩; refine ⟨_, rfl, ?_⟩; have n0_ := Aside0.mk (below_step (zBx HB.out) hb); clear HB; have HB := n0_; clear n0_; (try clear hb); (try clear hb2); (try clear hk); (try clear hi)))
    go_meet
    case rel => exact ⟨_, (true), zrx, H', ⟨by first | omega | exact Nat.le_refl _⟩, ⟨by exact zBx HB.out⟩⟩
 case rest =>
  clear HC3
  try clear p2
  try clear c4
  try clear c5
  obtain ⟨kq, x18_2, rfl, HA, HJ2, HB⟩ := hcut
  cases kq with
  | zero => exact absurd HA.out (by simp [impl_SendNext.j0])
  | succ kj2 =>
   have H := HA.out
   clear HA
   simp only [impl_SendNext.j0] at H
   by_cases c9 : x18_2 = true
   ·subst c9
    have H1 : (some (([] : List (S59)), 0, false)) = some (r1, r2, r3) := by rw [if_pos rfl] at H; exact H
    clear H
    have H := H1
    clear H1
    focus
     simp only [Option.some.injEq, Prod.mk.injEq] at H
     obtain ⟨rfl, rfl, rfl⟩ := H
     go_wp2
     go_ret3
     exact ⟨_, by first | rfl | (simp [errW_none, errW_some] <;> rfl) | (simp [*, errW_none, errW_some] <;> rfl), by first | exact Kd.R_nil _ _ _ _ _ | exact Kd.N_nil _ _ _ _ _ | exact Kd.V_nil _ _ _ _ _ | exact Kd.Q_nil _ _ _ _ _ | exact Kd.S_nil _ _ _ _ _, by exact zBx HB.out⟩
   ·replace c9 := Bool.eq_false_iff.mpr c9
    subst c9
    have H1 : (impl_SendNext.l0 kj2 l0 a1 (-1) l0 (l0.length : Int) 0) = some (r1, r2, r3) := by rw [if_neg (show ¬ (false = true) by decide)] at H; exact H
    clear H
    have H := H1
    clear H1
    have H' := Aside0.mk H
    clear H
    go_wp2
    go_loopg [7, 21] kj2 (fun kq v7 v21 w' => ∃ (x7_2 : Int) (x21_2 : Int), v7 = .int .i64 x7_2 ∧ v21 = .int .i64 x21_2 ∧ Aside0 (impl_SendNext.l0 kq l0 a1 x7_2 l0 (l0.length : Int) x21_2 = some (r1, r2, r3)) ∧ Aside0 (kq ≤ kj2) ∧ Aside0 (Below w.heap.size w w'))
    case atStart => exact ⟨((-1)), (0), zrx, zrx, H', ⟨Nat.le_refl _⟩, ⟨by exact zBx HB.out⟩⟩
    case round =>
     clear H'
     try clear p2
     try clear c4
     try clear c5
     try clear c9
     try clear p2
     obtain ⟨x7_2, x21_2, rfl, rfl, HA, HK2, HB⟩ := hrel
     cases gk with
     | zero => exact absurd HA.out (by simp [impl_SendNext.l0])
     | succ k2 =>
      have H := HA.out
      clear HA
      simp only [impl_SendNext.l0] at H
      by_cases c10 : x21_2 < (l0.length : Int)
      ·rw [if_pos c10] at H
       have c10b0 : decide (x21_2 < (l0.length : Int)) = true := decide_eq_true c10
       clear c10
       by_cases c11 : 0 ≤ x21_2
       ·rw [if_pos c11] at H
        have c11b0 : decide (0 ≤ x21_2) = true := decide_eq_true c11
        clear c11
        by_cases c12 : x21_2 < (l0.length : Int)
        ·rw [if_pos c12] at H
         have c12b0 : decide (x21_2 < (l0.length : Int)) = true := decide_eq_true c12
         clear c12
         by_cases c13 : ((rd_T59 l0 x21_2).f1) = 1
         ·rw [if_pos c13] at H
          have c13b0 : (((rd_T59 l0 x21_2).f1) == 1) = true := beq_iff_eq.mpr c13
          have c13b1 : (((rd_T59 l0 x21_2).f1) != 1) = false := bne_eq_false_iff_eq.mpr c13
          clear c13
          by_cases c14 : ((rd_T59 l0 x21_2).f3) ≤ a1
          ·rw [if_pos c14] at H
           have c14b0 : decide (((rd_T59 l0 x21_2).f3) ≤ a1) = true := decide_eq_true c14
           clear c14
           by_cases c15 : x7_2 < 0
           ·rw [if_pos c15] at H
            have c15b0 : decide (x7_2 < 0) = true := decide_eq_true c15
            clear c15
            focus
             have H' := Aside0.mk H
             clear H
             have p335 : 0 ≤ (x21_2 : Int) := of_decide_eq_true zax
             have q335 : x21_2 < (l0.length : Int) := of_decide_eq_true zax
             obtain ⟨ad335, e335, hx335_0, hx335_1, hx335_2, hx335_3⟩ := at_T59 HR0.out x21_2 p335 q335
             cases e335
             replace hx335_0 := (HB.out.cell (World.block_lt_of_cell? w _ hx335_0)).trans hx335_0
             replace hx335_1 := (HB.out.cell (World.block_lt_of_cell? w _ hx335_1)).trans hx335_1
             replace hx335_2 := (HB.out.cell (World.block_lt_of_cell? w _ hx335_2)).trans hx335_2
             replace hx335_3 := (HB.out.cell (World.block_lt_of_cell? w _ hx335_3)).trans hx335_3
             replace p335 := eq_true p335
             replace q335 := eq_true q335
             try go_wp2_with (first | ((with_reducible refine gate_dst (N := 9) rfl ?_); refine box_event ?hg (N := 9) ?hd (cs := #[.int .i64 0, .int .i64 0, .int .i64 0, .int .i64 0]) (t := 59) ?hr ?_; (case hd => rfl); (case hg => rfl); (case hr => exact zsx); intro gb336 hg w16 hbox hb; have n0_ := Aside0.mk (below_step (zBx HB.out) hb); have n1_ := Aside0.mk (hbox); have n2_ := Aside0.mk ((by rw [hg]; exact (below_size (zBx HB.out)) : w.heap.size ≤ gb336)); have n3_ := Aside0.mk ((by rw [hg]; exact (below_size (zBx HB.out)) : w.heap.size ≤ gb336)); clear HB; have HB := n0_; have BK336 := n1_; have GW336 := n2_; have GE336 := n3_; clear n0_ n1_ n2_ n3_; clear hb hbox hg; have hcz17_0 : w16.cell? ⟨gb336, 0, none⟩ = some (.int .i64 0) := (blk_cell BK336.out 0).trans rfl; have hcz17_1 : w16.cell? ⟨gb336, 1, none⟩ = some (.int .i64 0) := (blk_cell BK336.out 1).trans rfl; have hcz17_2 : w16.cell? ⟨gb336, 2, none⟩ = some (.int .i64 0) := (blk_cell BK336.out 2).trans rfl; have hcz17_3 : w16.cell? ⟨gb336, 3, none⟩ = some (.int .i64 0) := (blk_cell BK336.out 3).trans rfl; have hfz17_0 := blk_frozen BK336.out 0; have hfz17_1 := blk_frozen BK336.out 1; have hfz17_2 := blk_frozen BK336.out 2; have hfz17_3 := blk_frozen BK336.out 3))
             have n0_ : Aside0 (((((w16.setCell ⟨gb336, 0, none⟩ (.int .i64 ((rd_T59 l0 x21_2).f0))).setCell ⟨gb336, 1, none⟩ (.int .i64 ((rd_T59 l0 x21_2).f1))).setCell ⟨gb336, 2, none⟩ (.int .i64 ((rd_T59 l0 x21_2).f2))).setCell ⟨gb336, 3, none⟩ (.int .i64 ((rd_T59 l0 x21_2).f3))).heap[gb336]? = some (.cells #[.int .i64 ((rd_T59 l0 x21_2).f0), .int .i64 ((rd_T59 l0 x21_2).f1), .int .i64 ((rd_T59 l0 x21_2).f2), .int .i64 ((rd_T59 l0 x21_2).f3)] 59 (0, 0))) := ⟨by (with_reducible repeat (first | refine blk_drewN ?_ _ | refine blk_drew ?_ | refine blk_alloc ?_ _)); refine blk_put (cs := #[.int .i64 ((rd_T59 l0 x21_2).f0), .int .i64 ((rd_T59 l0 x21_2).f1), .int .i64 ((rd_T59 l0 x21_2).f2), .int .i64 0]) ?_ 3 _ rfl; (with_reducible repeat (first | refine blk_drewN ?_ _ | refine blk_drew ?_ | refine blk_alloc ?_ _)); refine blk_put (cs := #[.int .i64 ((rd_T59 l0 x21_2).f0), .int .i64 ((rd_T59 l0 x21_2).f1), .int .i64 0, .int .i64 0]) ?_ 2 _ rfl; (with_reducible repeat (first | refine blk_drewN ?_ _ | refine blk_drew ?_ | refine blk_alloc ?_ _)); refine blk_put (cs := #[.int .i64 ((rd_T59 l0 x21_2).f0), .int .i64 0, .int .i64 0, .int .i64 0]) ?_ 1 _ rfl; (with_reducible repeat (first | refine blk_drewN ?_ _ | refine blk_drew ?_ | refine blk_alloc ?_ _)); refine blk_put (cs := #[.int .i64 0, .int .i64 0, .int .i64 0, .int .i64 0]) ?_ 0 _ rfl; (with_reducible repeat (first | refine blk_drewN ?_ _ | refine blk_drew ?_ | refine blk_alloc ?_ _)); exact BK336.out⟩
             have n1_ : Aside0 (Below w.heap.size w ((((w16.setCell ⟨gb336, 0, none⟩ (.int .i64 ((rd_T59 l0 x21_2).f0))).setCell ⟨gb336, 1, none⟩ (.int .i64 ((rd_T59 l0 x21_2).f1))).setCell ⟨gb336, 2, none⟩ (.int .i64 ((rd_T59 l0 x21_2).f2))).setCell ⟨gb336, 3, none⟩ (.int .i64 ((rd_T59 l0 x21_2).f3)))) := ⟨by exact zBy HB.out GE336.out⟩
             (try clear BK336)
             (try clear HB)
             generalize ((((w16.setCell ⟨gb336, 0, none⟩ (.int .i64 ((rd_T59 l0 x21_2).f0))).setCell ⟨gb336, 1, none⟩ (.int .i64 ((rd_T59 l0 x21_2).f1))).setCell ⟨gb336, 2, none⟩ (.int .i64 ((rd_T59 l0 x21_2).f2))).setCell ⟨gb336, 3, none⟩ (.int .i64 ((rd_T59 l0 x21_2).f3))) = w18 at n0_ n1_ ⊢
             have BK336 := n0_
             have HB := n1_
             clear n0_ n1_
             have n0_ := Aside0.mk (blk_drew BK336.out)
             have n1_ := Aside0.mk (below_drew1 HB.out)
             clear BK336
             clear HB
             have BK336 := n0_
             have HB := n1_
             clear n0_ n1_
             refine start_ (n := 23) (S := fun w' => w'.cell? ⟨gb336, 0, none⟩ = some (.int .i64 ((rd_T59 l0 x21_2).f0)) ∧ w'.cell? ⟨gb336, 1, none⟩ = some (.int .i64 ((rd_T59 l0 x21_2).f1)) ∧ w'.cell? ⟨gb336, 2, none⟩ = some (.int .i64 ((rd_T59 l0 x21_2).f2)) ∧ w'.cell? ⟨gb336, 3, none⟩ = some (.int .i64 ((rd_T59 l0 x21_2).f3))) (ds := []) #[F,F,F,F,F,F,F,F,F,F,F,F,F,F,F,F,F,F,F,F,F,F,F] (by kernel_rfl) rfl rfl ⟨(blk_cell BK336.out 0).trans rfl, (blk_cell BK336.out 1).trans rfl, (blk_cell BK336.out 2).trans rfl, (blk_cell BK336.out 3).trans rfl⟩ (fun hHeld => ?_); refine with_tabW impl_SendNext.tab7 impl_SendNext.bits7 (fun HT_ HW_ => ?_)
             generalize w18.drew = w19 at BK336 HB hHeld ⊢
             refine pure_ (i := 0) (N := some 26) (v := ?_) (a' := ?_) #[T,F,F,F,F,F,F,F,F,F,F,F,F,F,F,F,F,F,F,F,F,F,F] rfl rfl (any_of HT_.out (by kernel_rfl)) (fun _ _ _ h => h) (Or.inl ⟨by rfl, ?_⟩) ?_ ?_
             rotate_left
             ·exact zwx
             rotate_left
             ·exact zpx
             refine take_ (i := 1) (N := some 27) (v := ?_) (a' := ?_) #[T,T,F,F,F,F,F,F,F,F,F,F,F,F,F,F,F,F,F,F,F,F,F] rfl rfl (take_ofW HT_.out HW_.out (by kernel_rfl)) (fun _ _ _ h => h) (Or.inl ⟨by rfl, ?_⟩) hHeld ?_ ?_
             rotate_left
             ·rintro w' ⟨s0, s1, s2, s3⟩
              go_simp
              with_reducible rfl
             rotate_left
             ·exact zpx
             refine pure_ (i := 2) (N := some 28) (v := ?_) (a' := ?_) #[T,T,T,F,F,F,F,F,F,F,F,F,F,F,F,F,F,F,F,F,F,F,F] rfl rfl (any_of HT_.out (by kernel_rfl)) (fun _ _ _ h => h) (Or.inl ⟨by rfl, ?_⟩) ?_ ?_
             rotate_left
             ·exact zwx
             rotate_left
             ·exact zpx
             refine pure_ (i := 3) (N := some 29) (v := ?_) (a' := ?_) #[T,T,T,T,F,F,F,F,F,F,F,F,F,F,F,F,F,F,F,F,F,F,F] rfl rfl (any_of HT_.out (by kernel_rfl)) (fun _ _ _ h => h) (Or.inl ⟨by rfl, ?_⟩) ?_ ?_
             rotate_left
             ·exact zwx
             rotate_left
             ·exact zpx
             refine pure_ (i := 4) (N := some 30) (v := ?_) (a' := ?_) #[T,T,T,T,T,F,F,F,F,F,F,F,F,F,F,F,F,F,F,F,F,F,F] rfl rfl (any_of HT_.out (by kernel_rfl)) (fun _ _ _ h => h) (Or.inl ⟨by rfl, ?_⟩) ?_ ?_
             rotate_left
             ·exact zwx
             rotate_left
             ·exact zpx
             refine pure_ (i := 6) (N := some 32) (v := ?_) (a' := ?_) #[T,T,T,T,T,F,T,F,F,F,F,F,F,F,F,F,F,F,F,F,F,F,F] rfl rfl (any_of HT_.out (by kernel_rfl)) (fun _ _ _ h => h) (Or.inl ⟨by rfl, ?_⟩) ?_ ?_
             rotate_left
             ·exact zwx
             rotate_left
             ·exact zpx
             refine take_ (i := 5) (N := some 31) (v := ?_) (a' := ?_) #[T,T,T,T,T,T,T,F,F,F,F,F,F,F,F,F,F,F,F,F,F,F,F] rfl rfl (take_ofW HT_.out HW_.out (by kernel_rfl)) (fun _ _ _ h => h) (Or.inl ⟨by rfl, ?_⟩) hHeld ?_ ?_
             rotate_left
             ·rintro w' ⟨s0, s1, s2, s3⟩
              go_simp
              with_reducible rfl
             rotate_left
             ·exact zpx
             refine pure_ (i := 7) (N := some 33) (v := ?_) (a' := ?_) #[T,T,T,T,T,T,T,T,F,F,F,F,F,F,F,F,F,F,F,F,F,F,F] rfl rfl (any_of HT_.out (by kernel_rfl)) (fun _ _ _ h => h) (Or.inl ⟨by rfl, ?_⟩) ?_ ?_
             rotate_left
             ·exact zwx
             rotate_left
             ·exact zpx
             refine pure_ (i := 8) (N := some 34) (v := ?_) (a' := ?_) #[T,T,T,T,T,T,T,T,T,F,F,F,F,F,F,F,F,F,F,F,F,F,F] rfl rfl (any_of HT_.out (by kernel_rfl)) (fun _ _ _ h => h) (Or.inl ⟨by rfl, ?_⟩) ?_ ?_
             rotate_left
             ·exact zwx
             rotate_left
             ·exact zpx
             refine pure_ (i := 9) (N := some 35) (v := ?_) (a' := ?_) #[T,T,T,T,T,T,T,T,T,T,F,F,F,F,F,F,F,F,F,F,F,F,F] rfl rfl (any_of HT_.out (by kernel_rfl)) (fun _ _ _ h => h) (Or.inl ⟨by rfl, ?_⟩) ?_ ?_
             rotate_left
             ·exact zwx
             rotate_left
             ·exact zpx
             refine pure_ (i := 10) (N := some 36) (v := ?_) (a' := ?_) #[T,T,T,T,T,T,T,T,T,T,T,F,F,F,F,F,F,F,F,F,F,F,F] rfl rfl (any_of HT_.out (by kernel_rfl)) (fun _ _ _ h => h) (Or.inl ⟨by rfl, ?_⟩) ?_ ?_
             rotate_left
             ·exact zwx
             rotate_left
             ·exact zpx
             refine pure_ (i := 11) (N := some 37) (v := ?_) (a' := ?_) #[T,T,T,T,T,T,T,T,T,T,T,T,F,F,F,F,F,F,F,F,F,F,F] rfl rfl (any_of HT_.out (by kernel_rfl)) (fun _ _ _ h => h) (Or.inl ⟨by rfl, ?_⟩) ?_ ?_
             rotate_left
             ·exact zwx
             rotate_left
             ·exact zpx
             refine pure_ (i := 12) (N := some 38) (v := ?_) (a' := ?_) #[T,T,T,T,T,T,T,T,T,T,T,T,T,F,F,F,F,F,F,F,F,F,F] rfl rfl (any_of HT_.out (by kernel_rfl)) (fun _ _ _ h => h) (Or.inl ⟨by rfl, ?_⟩) ?_ ?_
             rotate_left
             ·exact zwx
             rotate_left
             ·exact zpx
             refine pure_ (i := 13) (N := some 39) (v := undef) (a' := ?_) #[T,T,T,T,T,T,T,T,T,T,T,T,T,T,F,F,F,F,F,F,F,F,F] rfl rfl (any_of HT_.out (by kernel_rfl)) (fun _ _ _ h => h) (Or.inr ⟨by rfl, rfl⟩) ?_ ?_
             rotate_left
             ·exact zpx
             refine pure_ (i := 14) (N := some 40) (v := undef) (a' := ?_) #[T,T,T,T,T,T,T,T,T,T,T,T,T,T,T,F,F,F,F,F,F,F,F] rfl rfl (any_of HT_.out (by kernel_rfl)) (fun _ _ _ h => h) (Or.inr ⟨by rfl, rfl⟩) ?_ ?_
             rotate_left
             ·exact zpx
             refine pure_ (i := 15) (N := some 41) (v := undef) (a' := ?_) #[T,T,T,T,T,T,T,T,T,T,T,T,T,T,T,T,F,F,F,F,F,F,F] rfl rfl (any_of HT_.out (by kernel_rfl)) (fun _ _ _ h => h) (Or.inr ⟨by rfl, rfl⟩) ?_ ?_
             rotate_left
             ·exact zpx
             refine pure_ (i := 16) (N := some 42) (v := undef) (a' := ?_) #[T,T,T,T,T,T,T,T,T,T,T,T,T,T,T,T,T,F,F,F,F,F,F] rfl rfl (any_of HT_.out (by kernel_rfl)) (fun _ _ _ h => h) (Or.inr ⟨by rfl, rfl⟩) ?_ ?_
             rotate_left
             ·exact zpx
             refine pure_ (i := 17) (N := some 43) (v := undef) (a' := ?_) #[T,T,T,T,T,T,T,T,T,T,T,T,T,T,T,T,T,T,F,F,F,F,F] rfl rfl (any_of HT_.out (by kernel_rfl)) (fun _ _ _ h => h) (Or.inr ⟨by rfl, rfl⟩) ?_ ?_
             rotate_left
             ·exact zpx
             refine pure_ (i := 18) (N := some 44) (v := undef) (a' := ?_) #[T,T,T,T,T,T,T,T,T,T,T,T,T,T,T,T,T,T,T,F,F,F,F] rfl rfl (any_of HT_.out (by kernel_rfl)) (fun _ _ _ h => h) (Or.inr ⟨by rfl, rfl⟩) ?_ ?_
             rotate_left
             ·exact zpx
             refine pure_ (i := 19) (N := some 45) (v := undef) (a' := ?_) #[T,T,T,T,T,T,T,T,T,T,T,T,T,T,T,T,T,T,T,T,F,F,F] rfl rfl (any_of HT_.out (by kernel_rfl)) (fun _ _ _ h => h) (Or.inr ⟨by rfl, rfl⟩) ?_ ?_
             rotate_left
             ·exact zpx
             refine pure_ (i := 20) (N := some 46) (v := undef) (a' := ?_) #[T,T,T,T,T,T,T,T,T,T,T,T,T,T,T,T,T,T,T,T,T,F,F] rfl rfl (any_of HT_.out (by kernel_rfl)) (fun _ _ _ h => h) (Or.inr ⟨by rfl, rfl⟩) ?_ ?_
             rotate_left
             ·exact zpx
             refine pure_ (i := 21) (N := some 47) (v := ?_) (a' := ?_) #[T,T,T,T,T,T,T,T,T,T,T,T,T,T,T,T,T,T,T,T,T,T,F] rfl rfl (any_of HT_.out (by kernel_rfl)) (fun _ _ _ h => h) (Or.inl ⟨by rfl, ?_⟩) ?_ ?_
             rotate_left
             ·exact zwx
             rotate_left
             ·exact zpx
             refine pure_ (i := 22) (N := some 48) (v := ?_) (a' := ?_) #[T,T,T,T,T,T,T,T,T,T,T,T,T,T,T,T,T,T,T,T,T,T,T] rfl rfl (any_of HT_.out (by kernel_rfl)) (fun _ _ _ h => h) (Or.inl ⟨by rfl, ?_⟩) ?_ ?_
             rotate_left
             ·exact zwx
             rotate_left
             ·exact zpx
             refine done_ (done_of HT_.out (by kernel_rfl)) ?_
             try go_wp2
             go_roundg k2
             case measure => have := HJ2.out; have := HK2.out; omega
             case rel => exact ⟨(x21_2), (wrap64 (x21_2 + 1)), zrx, zrx, H', ⟨by have := HJ2.out; have := HK2.out; omega⟩, ⟨by exact zBy HB.out GE336.out⟩⟩
           ·rw [if_neg c15] at H
            have c15b0 : decide (x7_2 < 0) = false := decide_eq_false c15
            clear c15
            by_cases c20 : 0 ≤ x7_2
            ·rw [if_pos c20] at H
             have c20b0 : decide (0 ≤ x7_2) = true := decide_eq_true c20
             clear c20
             by_cases c21 : x7_2 < (l0.length : Int)
             ·rw [if_pos c21] at H
              have c21b0 : decide (x7_2 < (l0.length : Int)) = true := decide_eq_true c21
              clear c21
              by_cases c22 : ((rd_T59 l0 x21_2).f3) < ((rd_T59 l0 x7_2).f3)
              ·rw [if_pos c22] at H
               have c22b0 : decide (((rd_T59 l0 x21_2).f3) < ((rd_T59 l0 x7_2).f3)) = true := decide_eq_true c22
               clear c22
               focus
                have H' := Aside0.mk H
                clear H
                have p335 : 0 ≤ (x21_2 : Int) := of_decide_eq_true zax
                have q335 : x21_2 < (l0.length : Int) := of_decide_eq_true zax
                obtain ⟨ad335, e335, hx335_0, hx335_1, hx335_2, hx335_3⟩ := at_T59 HR0.out x21_2 p335 q335
                cases e335
                replace hx335_0 := (HB.out.cell (World.block_lt_of_cell? w _ hx335_0)).trans hx335_0
                replace hx335_1 := (HB.out.cell (World.block_lt_of_cell? w _ hx335_1)).trans hx335_1
                replace hx335_2 := (HB.out.cell (World.block_lt_of_cell? w _ hx335_2)).trans hx335_2
                replace hx335_3 := (HB.out.cell (World.block_lt_of_cell? w _ hx335_3)).trans hx335_3
                replace p335 := eq_true p335
                replace q335 := eq_true q335
                try go_wp2_with (first | ((with_reducible refine gate_dst (N := 9) rfl ?_); refine box_event ?hg (N := 9) ?hd (cs := #[.int .i64 0, .int .i64 0, .int .i64 0, .int .i64 0]) (t := 59) ?hr ?_; (case hd => rfl); (case hg => rfl); (case hr => exact zsx); intro gb336 hg w23 hbox hb; have n0_ := Aside0.mk (below_step (zBx HB.out) hb); have n1_ := Aside0.mk (hbox); have n2_ := Aside0.mk ((by rw [hg]; exact (below_size (zBx HB.out)) : w.heap.size ≤ gb336)); have n3_ := Aside0.mk ((by rw [hg]; exact (below_size (zBx HB.out)) : w.heap.size ≤ gb336)); clear HB; have HB := n0_; have BK336 := n1_; have GW336 := n2_; have GE336 := n3_; clear n0_ n1_ n2_ n3_; clear hb hbox hg; have hcz24_0 : w23.cell? ⟨gb336, 0, none⟩ = some (.int .i64 0) := (blk_cell BK336.out 0).trans rfl; have hcz24_1 : w23.cell? ⟨gb336, 1, none⟩ = some (.int .i64 0) := (blk_cell BK336.out 1).trans rfl; have hcz24_2 : w23.cell? ⟨gb336, 2, none⟩ = some (.int .i64 0) := (blk_cell BK336.out 2).trans rfl; have hcz24_3 : w23.cell? ⟨gb336, 3, none⟩ = some (.int .i64 0) := (blk_cell BK336.out 3).trans rfl; have hfz24_0 := blk_frozen BK336.out 0; have hfz24_1 := blk_frozen BK336.out 1; have hfz24_2 := blk_frozen BK336.out 2; have hfz24_3 := blk_frozen BK336.out 3))
                have n0_ : Aside0 (((((w23.setCell ⟨gb336, 0, none⟩ (.int .i64 ((rd_T59 l0 x21_2).f0))).setCell ⟨gb336, 1, none⟩ (.int .i64 ((rd_T59 l0 x21_2).f1))).setCell ⟨gb336, 2, none⟩ (.int .i64 ((rd_T59 l0 x21_2).f2))).setCell ⟨gb336, 3, none⟩ (.int .i64 ((rd_T59 l0 x21_2).f3))).heap[gb336]? = some (.cells #[.int .i64 ((rd_T59 l0 x21_2).f0), .int .i64 ((rd_T59 l0 x21_2).f1), .int .i64 ((rd_T59 l0 x21_2).f2), .int .i64 ((rd_T59 l0 x21_2).f3)] 59 (0, 0))) := ⟨by (with_reducible repeat (first | refine blk_drewN ?_ _ | refine blk_drew ?_ | refine blk_alloc ?_ _)); refine blk_put (cs := #[.int .i64 ((rd_T59 l0 x21_2).f0), .int .i64 ((rd_T59 l0 x21_2).f1), .int .i64 ((rd_T59 l0 x21_2).f2), .int .i64 0]) ?_ 3 _ rfl; (with_reducible repeat (first | refine blk_drewN ?_ _ | refine blk_drew ?_ | refine blk_alloc ?_ _)); refine blk_put (cs := #[.int .i64 ((rd_T59 l0 x21_2).f0), .int .i64 ((rd_T59 l0 x21_2).f1), .int .i64 0, .int .i64 0]) ?_ 2 _ rfl; (with_reducible repeat (first | refine blk_drewN ?_ _ | refine blk_drew ?_ | refine blk_alloc ?_ _)); refine blk_put (cs := #[.int .i64 ((rd_T59 l0 x21_2).f0), .int .i64 0, .int .i64 0, .int .i64 0]) ?_ 1 _ rfl; (with_reducible repeat (first | refine blk_drewN ?_ _ | refine blk_drew ?_ | refine blk_alloc ?_ _)); refine blk_put (cs := #[.int .i64 0, .int .i64 0, .int .i64 0, .int .i64 0]) ?_ 0 _ rfl; (with_reducible repeat (first | refine blk_drewN ?_ _ | refine blk_drew ?_ | refine blk_alloc ?_ _)); exact BK336.out⟩
                have n1_ : Aside0 (Below w.heap.size w ((((w23.setCell ⟨gb336, 0, none⟩ (.int .i64 ((rd_T59 l0 x21_2).f0))).setCell ⟨gb336, 1, none⟩ (.int .i64 ((rd_T59 l0 x21_2).f1))).setCell ⟨gb336, 2, none⟩ (.int .i64 ((rd_T59 l0 x21_2).f2))).setCell ⟨gb336, 3, none⟩ (.int .i64 ((rd_T59 l0 x21_2).f3)))) := ⟨by exact zBy HB.out GE336.out⟩
                (try clear BK336)
                (try clear HB)
                generalize ((((w23.setCell ⟨gb336, 0, none⟩ (.int .i64 ((rd_T59 l0 x21_2).f0))).setCell ⟨gb336, 1, none⟩ (.int .i64 ((rd_T59 l0 x21_2).f1))).setCell ⟨gb336, 2, none⟩ (.int .i64 ((rd_T59 l0 x21_2).f2))).setCell ⟨gb336, 3, none⟩ (.int .i64 ((rd_T59 l0 x21_2).f3))) = w25 at n0_ n1_ ⊢
                have BK336 := n0_
                have HB := n1_
                clear n0_ n1_
                have n0_ := Aside0.mk (blk_drew BK336.out)
                have n1_ := Aside0.mk (below_drew1 HB.out)
                clear BK336
                clear HB
                have BK336 := n0_
                have HB := n1_
                clear n0_ n1_
                have p337 : 0 ≤ (x7_2 : Int) := of_decide_eq_true zax
                have q337 : x7_2 < (l0.length : Int) := of_decide_eq_true zax
                obtain ⟨ad337, e337, hx337_0, hx337_1, hx337_2, hx337_3⟩ := at_T59 HR0.out x7_2 p337 q337
                have hw337_3 := hx337_3
                have hw337_2 := hx337_2
                have hw337_1 := hx337_1
                have hw337_0 := hx337_0
                obtain rfl : ad335 = ad337 := (by injection e337)
                replace hx337_0 := (HB.out.cell (World.block_lt_of_cell? w _ hx337_0)).trans hx337_0
                replace hx337_1 := (HB.out.cell (World.block_lt_of_cell? w _ hx337_1)).trans hx337_1
                replace hx337_2 := (HB.out.cell (World.block_lt_of_cell? w _ hx337_2)).trans hx337_2
                replace hx337_3 := (HB.out.cell (World.block_lt_of_cell? w _ hx337_3)).trans hx337_3
                replace p337 := eq_true p337
                replace q337 := eq_true q337
                refine start_ (n := 23) (S := fun w' => w'.cell? ⟨gb336, 0, none⟩ = some (.int .i64 ((rd_T59 l0 x21_2).f0)) ∧ w'.cell? ⟨gb336, 1, none⟩ = some (.int .i64 ((rd_T59 l0 x21_2).f1)) ∧ w'.cell? ⟨gb336, 2, none⟩ = some (.int .i64 ((rd_T59 l0 x21_2).f2)) ∧ w'.cell? ⟨gb336, 3, none⟩ = some (.int .i64 ((rd_T59 l0 x21_2).f3)) ∧ w'.cell? (ad335.add ((x7_2).toNat * 4)) = some (.int .i64 ((rd_T59 l0 x7_2).f0)) ∧ w'.cell? ⟨(ad335.add ((x7_2).toNat * 4)).block, (ad335.add ((x7_2).toNat * 4)).off + 1, none⟩ = some (.int .i64 ((rd_T59 l0 x7_2).f1)) ∧ w'.cell? ⟨(ad335.add ((x7_2).toNat * 4)).block, (ad335.add ((x7_2).toNat * 4)).off + 2, none⟩ = some (.int .i64 ((rd_T59 l0 x7_2).f2)) ∧ w'.cell? ⟨(ad335.add ((x7_2).toNat * 4)).block, (ad335.add ((x7_2).toNat * 4)).off + 3, none⟩ = some (.int .i64 ((rd_T59 l0 x7_2).f3))) (ds := []) #[F,F,F,F,F,F,F,F,F,F,F,F,F,F,F,F,F,F,F,F,F,F,F] (by kernel_rfl) rfl rfl ⟨(blk_cell BK336.out 0).trans rfl, (blk_cell BK336.out 1).trans rfl, (blk_cell BK336.out 2).trans rfl, (blk_cell BK336.out 3).trans rfl, ((HB.out.cell (World.block_lt_of_cell? w _ hw337_0)).trans hw337_0), ((HB.out.cell (World.block_lt_of_cell? w _ hw337_1)).trans hw337_1), ((HB.out.cell (World.block_lt_of_cell? w _ hw337_2)).trans hw337_2), ((HB.out.cell (World.block_lt_of_cell? w _ hw337_3)).trans hw337_3)⟩ (fun hHeld => ?_); refine with_tabW impl_SendNext.tab7 impl_SendNext.bits7 (fun HT_ HW_ => ?_)
                generalize w25.drew = w26 at BK336 HB hx337_0 hx337_1 hx337_2 hx337_3 hHeld ⊢
                refine pure_ (i := 0) (N := some 26) (v := ?_) (a' := ?_) #[T,F,F,F,F,F,F,F,F,F,F,F,F,F,F,F,F,F,F,F,F,F,F] rfl rfl (any_of HT_.out (by kernel_rfl)) (fun _ _ _ h => h) (Or.inl ⟨by rfl, ?_⟩) ?_ ?_
                rotate_left
                ·exact zwx
                rotate_left
                ·exact zpx
                refine take_ (i := 1) (N := some 27) (v := ?_) (a' := ?_) #[T,T,F,F,F,F,F,F,F,F,F,F,F,F,F,F,F,F,F,F,F,F,F] rfl rfl (take_ofW HT_.out HW_.out (by kernel_rfl)) (fun _ _ _ h => h) (Or.inl ⟨by rfl, ?_⟩) hHeld ?_ ?_
                rotate_left
                ·rintro w' ⟨s0, s1, s2, s3, s4, s5, s6, s7⟩
                 go_simp
                 with_reducible rfl
                rotate_left
                ·exact zpx
                refine pure_ (i := 2) (N := some 28) (v := ?_) (a' := ?_) #[T,T,T,F,F,F,F,F,F,F,F,F,F,F,F,F,F,F,F,F,F,F,F] rfl rfl (any_of HT_.out (by kernel_rfl)) (fun _ _ _ h => h) (Or.inl ⟨by rfl, ?_⟩) ?_ ?_
                rotate_left
                ·exact zwx
                rotate_left
                ·exact zpx
                refine pure_ (i := 3) (N := some 29) (v := ?_) (a' := ?_) #[T,T,T,T,F,F,F,F,F,F,F,F,F,F,F,F,F,F,F,F,F,F,F] rfl rfl (any_of HT_.out (by kernel_rfl)) (fun _ _ _ h => h) (Or.inl ⟨by rfl, ?_⟩) ?_ ?_
                rotate_left
                ·exact zwx
                rotate_left
                ·exact zpx
                refine pure_ (i := 4) (N := some 30) (v := ?_) (a' := ?_) #[T,T,T,T,T,F,F,F,F,F,F,F,F,F,F,F,F,F,F,F,F,F,F] rfl rfl (any_of HT_.out (by kernel_rfl)) (fun _ _ _ h => h) (Or.inl ⟨by rfl, ?_⟩) ?_ ?_
                rotate_left
                ·exact zwx
                rotate_left
                ·exact zpx
                refine pure_ (i := 6) (N := some 32) (v := ?_) (a' := ?_) #[T,T,T,T,T,F,T,F,F,F,F,F,F,F,F,F,F,F,F,F,F,F,F] rfl rfl (any_of HT_.out (by kernel_rfl)) (fun _ _ _ h => h) (Or.inl ⟨by rfl, ?_⟩) ?_ ?_
                rotate_left
                ·exact zwx
                rotate_left
                ·exact zpx
                refine take_ (i := 5) (N := some 31) (v := ?_) (a' := ?_) #[T,T,T,T,T,T,T,F,F,F,F,F,F,F,F,F,F,F,F,F,F,F,F] rfl rfl (take_ofW HT_.out HW_.out (by kernel_rfl)) (fun _ _ _ h => h) (Or.inl ⟨by rfl, ?_⟩) hHeld ?_ ?_
                rotate_left
                ·rintro w' ⟨s0, s1, s2, s3, s4, s5, s6, s7⟩
                 go_simp
                 with_reducible rfl
                rotate_left
                ·exact zpx
                refine pure_ (i := 7) (N := some 33) (v := ?_) (a' := ?_) #[T,T,T,T,T,T,T,T,F,F,F,F,F,F,F,F,F,F,F,F,F,F,F] rfl rfl (any_of HT_.out (by kernel_rfl)) (fun _ _ _ h => h) (Or.inl ⟨by rfl, ?_⟩) ?_ ?_
                rotate_left
                ·exact zwx
                rotate_left
                ·exact zpx
                refine pure_ (i := 8) (N := some 34) (v := ?_) (a' := ?_) #[T,T,T,T,T,T,T,T,T,F,F,F,F,F,F,F,F,F,F,F,F,F,F] rfl rfl (any_of HT_.out (by kernel_rfl)) (fun _ _ _ h => h) (Or.inl ⟨by rfl, ?_⟩) ?_ ?_
                rotate_left
                ·exact zwx
                rotate_left
                ·exact zpx
                refine pure_ (i := 9) (N := some 35) (v := ?_) (a' := ?_) #[T,T,T,T,T,T,T,T,T,T,F,F,F,F,F,F,F,F,F,F,F,F,F] rfl rfl (any_of HT_.out (by kernel_rfl)) (fun _ _ _ h => h) (Or.inl ⟨by rfl, ?_⟩) ?_ ?_
                rotate_left
                ·exact zwx
                rotate_left
                ·exact zpx
                refine pure_ (i := 10) (N := some 36) (v := ?_) (a' := ?_) #[T,T,T,T,T,T,T,T,T,T,T,F,F,F,F,F,F,F,F,F,F,F,F] rfl rfl (any_of HT_.out (by kernel_rfl)) (fun _ _ _ h => h) (Or.inl ⟨by rfl, ?_⟩) ?_ ?_
                rotate_left
                ·exact zwx
                rotate_left
                ·exact zpx
                refine pure_ (i := 11) (N := some 37) (v := ?_) (a' := ?_) #[T,T,T,T,T,T,T,T,T,T,T,T,F,F,F,F,F,F,F,F,F,F,F] rfl rfl (any_of HT_.out (by kernel_rfl)) (fun _ _ _ h => h) (Or.inl ⟨by rfl, ?_⟩) ?_ ?_
                rotate_left
                ·exact zwx
                rotate_left
                ·exact zpx
                refine pure_ (i := 12) (N := some 38) (v := ?_) (a' := ?_) #[T,T,T,T,T,T,T,T,T,T,T,T,T,F,F,F,F,F,F,F,F,F,F] rfl rfl (any_of HT_.out (by kernel_rfl)) (fun _ _ _ h => h) (Or.inl ⟨by rfl, ?_⟩) ?_ ?_
                rotate_left
                ·exact zwx
                rotate_left
                ·exact zpx
                refine pure_ (i := 13) (N := some 39) (v := ?_) (a' := ?_) #[T,T,T,T,T,T,T,T,T,T,T,T,T,T,F,F,F,F,F,F,F,F,F] rfl rfl (any_of HT_.out (by kernel_rfl)) (fun _ _ _ h => h) (Or.inl ⟨by rfl, ?_⟩) ?_ ?_
                rotate_left
                ·exact zwx
                rotate_left
                ·exact zpx
                refine pure_ (i := 15) (N := some 41) (v := ?_) (a' := ?_) #[T,T,T,T,T,T,T,T,T,T,T,T,T,T,F,T,F,F,F,F,F,F,F] rfl rfl (any_of HT_.out (by kernel_rfl)) (fun _ _ _ h => h) (Or.inl ⟨by rfl, ?_⟩) ?_ ?_
                rotate_left
                ·exact zwx
                rotate_left
                ·exact zpx
                refine pure_ (i := 16) (N := some 42) (v := ?_) (a' := ?_) #[T,T,T,T,T,T,T,T,T,T,T,T,T,T,F,T,T,F,F,F,F,F,F] rfl rfl (any_of HT_.out (by kernel_rfl)) (fun _ _ _ h => h) (Or.inl ⟨by rfl, ?_⟩) ?_ ?_
                rotate_left
                ·exact zwx
                rotate_left
                ·exact zpx
                refine pure_ (i := 17) (N := some 43) (v := ?_) (a' := ?_) #[T,T,T,T,T,T,T,T,T,T,T,T,T,T,F,T,T,T,F,F,F,F,F] rfl rfl (any_of HT_.out (by kernel_rfl)) (fun _ _ _ h => h) (Or.inl ⟨by rfl, ?_⟩) ?_ ?_
                rotate_left
                ·exact zwx
                rotate_left
                ·exact zpx
                refine pure_ (i := 18) (N := some 44) (v := ?_) (a' := ?_) #[T,T,T,T,T,T,T,T,T,T,T,T,T,T,F,T,T,T,T,F,F,F,F] rfl rfl (any_of HT_.out (by kernel_rfl)) (fun _ _ _ h => h) (Or.inl ⟨by rfl, ?_⟩) ?_ ?_
                rotate_left
                ·exact zwx
                rotate_left
                ·exact zpx
                refine take_ (i := 14) (N := some 40) (v := ?_) (a' := ?_) #[T,T,T,T,T,T,T,T,T,T,T,T,T,T,T,T,T,T,T,F,F,F,F] rfl rfl (take_ofW HT_.out HW_.out (by kernel_rfl)) (fun _ _ _ h => h) (Or.inl ⟨by rfl, ?_⟩) hHeld ?_ ?_
                rotate_left
                ·rintro w' ⟨s0, s1, s2, s3, s4, s5, s6, s7⟩
                 go_simp
                 with_reducible rfl
                rotate_left
                ·exact zpx
                refine take_ (i := 19) (N := some 45) (v := ?_) (a' := ?_) #[T,T,T,T,T,T,T,T,T,T,T,T,T,T,T,T,T,T,T,T,F,F,F] rfl rfl (take_ofW HT_.out HW_.out (by kernel_rfl)) (fun _ _ _ h => h) (Or.inl ⟨by rfl, ?_⟩) hHeld ?_ ?_
                rotate_left
                ·rintro w' ⟨s0, s1, s2, s3, s4, s5, s6, s7⟩
                 go_simp
                 with_reducible rfl
                rotate_left
                ·exact zpx
                refine pure_ (i := 20) (N := some 46) (v := ?_) (a' := ?_) #[T,T,T,T,T,T,T,T,T,T,T,T,T,T,T,T,T,T,T,T,T,F,F] rfl rfl (any_of HT_.out (by kernel_rfl)) (fun _ _ _ h => h) (Or.inl ⟨by rfl, ?_⟩) ?_ ?_
                rotate_left
                ·exact zwx
                rotate_left
                ·exact zpx
                refine pure_ (i := 21) (N := some 47) (v := ?_) (a' := ?_) #[T,T,T,T,T,T,T,T,T,T,T,T,T,T,T,T,T,T,T,T,T,T,F] rfl rfl (any_of HT_.out (by kernel_rfl)) (fun _ _ _ h => h) (Or.inl ⟨by rfl, ?_⟩) ?_ ?_
                rotate_left
                ·exact zwx
                rotate_left
                ·exact zpx
                refine pure_ (i := 22) (N := some 48) (v := ?_) (a' := ?_) #[T,T,T,T,T,T,T,T,T,T,T,T,T,T,T,T,T,T,T,T,T,T,T] rfl rfl (any_of HT_.out (by kernel_rfl)) (fun _ _ _ h => h) (Or.inl ⟨by rfl, ?_⟩) ?_ ?_
                rotate_left
                ·exact zwx
                rotate_left
                ·exact zpx
                refine done_ (done_of HT_.out (by kernel_rfl)) ?_
                try go_wp2
                go_roundg k2
                case measure => have := HJ2.out; have := HK2.out; omega
                case rel => exact ⟨(x21_2), (wrap64 (x21_2 + 1)), zrx, zrx, H', ⟨by have := HJ2.out; have := HK2.out; omega⟩, ⟨by exact zBy HB.out GE336.out⟩⟩
              ·rw [if_neg c22] at H
               have c22b0 : decide (((rd_T59 l0 x21_2).f3) < ((rd_T59 l0 x7_2).f3)) = false := decide_eq_false c22
               clear c22
               focus
                have H' := Aside0.mk H
                clear H
                have p335 : 0 ≤ (x21_2 : Int) := of_decide_eq_true zax
                have q335 : x21_2 < (l0.length : Int) := of_decide_eq_true zax
                obtain ⟨ad335, e335, hx335_0, hx335_1, hx335_2, hx335_3⟩ := at_T59 HR0.out x21_2 p335 q335
                cases e335
                replace hx335_0 := (HB.out.cell (World.block_lt_of_cell? w _ hx335_0)).trans hx335_0
                replace hx335_1 := (HB.out.cell (World.block_lt_of_cell? w _ hx335_1)).trans hx335_1
                replace hx335_2 := (HB.out.cell (World.block_lt_of_cell? w _ hx335_2)).trans hx335_2
                replace hx335_3 := (HB.out.cell (World.block_lt_of_cell? w _ hx335_3)).trans hx335_3
                replace p335 := eq_true p335
                replace q335 := eq_true q335
                try go_wp2_with (first | ((with_reducible refine gate_dst (N := 9) rfl ?_); refine box_event ?hg (N := 9) ?hd (cs := #[.int .i64 0, .int .i64 0, .int .i64 0, .int .i64 0]) (t := 59) ?hr ?_; (case hd => rfl); (case hg => rfl); (case hr => exact zsx); intro gb336 hg w27 hbox hb; have n0_ := Aside0.mk (below_step (zBx HB.out) hb); have n1_ := Aside0.mk (hbox); have n2_ := Aside0.mk ((by rw [hg]; exact (below_size (zBx HB.out)) : w.heap.size ≤ gb336)); have n3_ := Aside0.mk ((by rw [hg]; exact (below_size (zBx HB.out)) : w.heap.size ≤ gb336)); clear HB; have HB := n0_; have BK336 := n1_; have GW336 := n2_; have GE336 := n3_; clear n0_ n1_ n2_ n3_; clear hb hbox hg; have hcz28_0 : w27.cell? ⟨gb336, 0, none⟩ = some (.int .i64 0) := (blk_cell BK336.out 0).trans rfl; have hcz28_1 : w27.cell? ⟨gb336, 1, none⟩ = some (.int .i64 0) := (blk_cell BK336.out 1).trans rfl; have hcz28_2 : w27.cell? ⟨gb336, 2, none⟩ = some (.int .i64 0) := (blk_cell BK336.out 2).trans rfl; have hcz28_3 : w27.cell? ⟨gb336, 3, none⟩ = some (.int .i64 0) := (blk_cell BK336.out 3).trans rfl; have hfz28_0 := blk_frozen BK336.out 0; have hfz28_1 := blk_frozen BK336.out 1; have hfz28_2 := blk_frozen BK336.out 2; have hfz28_3 := blk_frozen BK336.out 3))
                have n0_ : Aside0 (((((w27.setCell ⟨gb336, 0, none⟩ (.int .i64 ((rd_T59 l0 x21_2).f0))).setCell ⟨gb336, 1, none⟩ (.int .i64 ((rd_T59 l0 x21_2).f1))).setCell ⟨gb336, 2, none⟩ (.int .i64 ((rd_T59 l0 x21_2).f2))).setCell ⟨gb336, 3, none⟩ (.int .i64 ((rd_T59 l0 x21_2).f3))).heap[gb336]? = some (.cells #[.int .i64 ((rd_T59 l0 x21_2).f0), .int .i64 ((rd_T59 l0 x21_2).f1), .int .i64 ((rd_T59 l0 x21_2).f2), .int .i64 ((rd_T59 l0 x21_2).f3)] 59 (0, 0))) := ⟨by (with_reducible repeat (first | refine blk_drewN ?_ _ | refine blk_drew ?_ | refine blk_alloc ?_ _)); refine blk_put (cs := #[.int .i64 ((rd_T59 l0 x21_2).f0), .int .i64 ((rd_T59 l0 x21_2).f1), .int .i64 ((rd_T59 l0 x21_2).f2), .int .i64 0]) ?_ 3 _ rfl; (with_reducible repeat (first | refine blk_drewN ?_ _ | refine blk_drew ?_ | refine blk_alloc ?_ _)); refine blk_put (cs := #[.int .i64 ((rd_T59 l0 x21_2).f0), .int .i64 ((rd_T59 l0 x21_2).f1), .int .i64 0, .int .i64 0]) ?_ 2 _ rfl; (with_reducible repeat (first | refine blk_drewN ?_ _ | refine blk_drew ?_ | refine blk_alloc ?_ _)); refine blk_put (cs := #[.int .i64 ((rd_T59 l0 x21_2).f0), .int .i64 0, .int .i64 0, .int .i64 0]) ?_ 1 _ rfl; (with_reducible repeat (first | refine blk_drewN ?_ _ | refine blk_drew ?_ | refine blk_alloc ?_ _)); refine blk_put (cs := #[.int .i64 0, .int .i64 0, .int .i64 0, .int .i64 0]) ?_ 0 _ rfl; (with_reducible repeat (first | refine blk_drewN ?_ _ | refine blk_drew ?_ | refine blk_alloc ?_ _)); exact BK336.out⟩
                have n1_ : Aside0 (Below w.heap.size w ((((w27.setCell ⟨gb336, 0, none⟩ (.int .i64 ((rd_T59 l0 x21_2).f0))).setCell ⟨gb336, 1, none⟩ (.int .i64 ((rd_T59 l0 x21_2).f1))).setCell ⟨gb336, 2, none⟩ (.int .i64 ((rd_T59 l0 x21_2).f2))).setCell ⟨gb336, 3, none⟩ (.int .i64 ((rd_T59 l0 x21_2).f3)))) := ⟨by exact zBy HB.out GE336.out⟩
                (try clear BK336)
                (try clear HB)
                generalize ((((w27.setCell ⟨gb336, 0, none⟩ (.int .i64 ((rd_T59 l0 x21_2).f0))).setCell ⟨gb336, 1, none⟩ (.int .i64 ((rd_T59 l0 x21_2).f1))).setCell ⟨gb336, 2, none⟩ (.int .i64 ((rd_T59 l0 x21_2).f2))).setCell ⟨gb336, 3, none⟩ (.int .i64 ((rd_T59 l0 x21_2).f3))) = w29 at n0_ n1_ ⊢
                have BK336 := n0_
                have HB := n1_
                clear n0_ n1_
                have n0_ := Aside0.mk (blk_drew BK336.out)
                have n1_ := Aside0.mk (below_drew1 HB.out)
                clear BK336
                clear HB
                have BK336 := n0_
                have HB := n1_
                clear n0_ n1_
                have p337 : 0 ≤ (x7_2 : Int) := of_decide_eq_true zax
                have q337 : x7_2 < (l0.length : Int) := of_decide_eq_true zax
                obtain ⟨ad337, e337, hx337_0, hx337_1, hx337_2, hx337_3⟩ := at_T59 HR0.out x7_2 p337 q337
                have hw337_3 := hx337_3
                have hw337_2 := hx337_2
                have hw337_1 := hx337_1
                have hw337_0 := hx337_0
                obtain rfl : ad335 = ad337 := (by injection e337)
                replace hx337_0 := (HB.out.cell (World.block_lt_of_cell? w _ hx337_0)).trans hx337_0
                replace hx337_1 := (HB.out.cell (World.block_lt_of_cell? w _ hx337_1)).trans hx337_1
                replace hx337_2 := (HB.out.cell (World.block_lt_of_cell? w _ hx337_2)).trans hx337_2
                replace hx337_3 := (HB.out.cell (World.block_lt_of_cell? w _ hx337_3)).trans hx337_3
                replace p337 := eq_true p337
                replace q337 := eq_true q337
                refine start_ (n := 23) (S := fun w' => w'.cell? ⟨gb336, 0, none⟩ = some (.int .i64 ((rd_T59 l0 x21_2).f0)) ∧ w'.cell? ⟨gb336, 1, none⟩ = some (.int .i64 ((rd_T59 l0 x21_2).f1)) ∧ w'.cell? ⟨gb336, 2, none⟩ = some (.int .i64 ((rd_T59 l0 x21_2).f2)) ∧ w'.cell? ⟨gb336, 3, none⟩ = some (.int .i64 ((rd_T59 l0 x21_2).f3)) ∧ w'.cell? (ad335.add ((x7_2).toNat * 4)) = some (.int .i64 ((rd_T59 l0 x7_2).f0)) ∧ w'.cell? ⟨(ad335.add ((x7_2).toNat * 4)).block, (ad335.add ((x7_2).toNat * 4)).off + 1, none⟩ = some (.int .i64 ((rd_T59 l0 x7_2).f1)) ∧ w'.cell? ⟨(ad335.add ((x7_2).toNat * 4)).block, (ad335.add ((x7_2).toNat * 4)).off + 2, none⟩ = some (.int .i64 ((rd_T59 l0 x7_2).f2)) ∧ w'.cell? ⟨(ad335.add ((x7_2).toNat * 4)).block, (ad335.add ((x7_2).toNat * 4)).off + 3, none⟩ = some (.int .i64 ((rd_T59 l0 x7_2).f3))) (ds := []) #[F,F,F,F,F,F,F,F,F,F,F,F,F,F,F,F,F,F,F,F,F,F,F] (by kernel_rfl) rfl rfl ⟨(blk_cell BK336.out 0).trans rfl, (blk_cell BK336.out 1).trans rfl, (blk_cell BK336.out 2).trans rfl, (blk_cell BK336.out 3).trans rfl, ((HB.out.cell (World.block_lt_of_cell? w _ hw337_0)).trans hw337_0), ((HB.out.cell (World.block_lt_of_cell? w _ hw337_1)).trans hw337_1), ((HB.out.cell (World.block_lt_of_cell? w _ hw337_2)).trans hw337_2), ((HB.out.cell (World.block_lt_of_cell? w _ hw337_3)).trans hw337_3)⟩ (fun hHeld => ?_); refine with_tabW impl_SendNext.tab7 impl_SendNext.bits7 (fun HT_ HW_ => ?_)
                generalize w29.drew = w30 at BK336 HB hx337_0 hx337_1 hx337_2 hx337_3 hHeld ⊢
                refine pure_ (i := 0) (N := some 26) (v := ?_) (a' := ?_) #[T,F,F,F,F,F,F,F,F,F,F,F,F,F,F,F,F,F,F,F,F,F,F] rfl rfl (any_of HT_.out (by kernel_rfl)) (fun _ _ _ h => h) (Or.inl ⟨by rfl, ?_⟩) ?_ ?_
                rotate_left
                ·exact zwx
                rotate_left
                ·exact zpx
                refine take_ (i := 1) (N := some 27) (v := ?_) (a' := ?_) #[T,T,F,F,F,F,F,F,F,F,F,F,F,F,F,F,F,F,F,F,F,F,F] rfl rfl (take_ofW HT_.out HW_.out (by kernel_rfl)) (fun _ _ _ h => h) (Or.inl ⟨by rfl, ?_⟩) hHeld ?_ ?_
                rotate_left
                ·rintro w' ⟨s0, s1, s2, s3, s4, s5, s6, s7⟩
                 go_simp
                 with_reducible rfl
                rotate_left
                ·exact zpx
                refine pure_ (i := 2) (N := some 28) (v := ?_) (a' := ?_) #[T,T,T,F,F,F,F,F,F,F,F,F,F,F,F,F,F,F,F,F,F,F,F] rfl rfl (any_of HT_.out (by kernel_rfl)) (fun _ _ _ h => h) (Or.inl ⟨by rfl, ?_⟩) ?_ ?_
                rotate_left
                ·exact zwx
                rotate_left
                ·exact zpx
                refine pure_ (i := 3) (N := some 29) (v := ?_) (a' := ?_) #[T,T,T,T,F,F,F,F,F,F,F,F,F,F,F,F,F,F,F,F,F,F,F] rfl rfl (any_of HT_.out (by kernel_rfl)) (fun _ _ _ h => h) (Or.inl ⟨by rfl, ?_⟩) ?_ ?_
                rotate_left
                ·exact zwx
                rotate_left
                ·exact zpx
                refine pure_ (i := 4) (N := some 30) (v := ?_) (a' := ?_) #[T,T,T,T,T,F,F,F,F,F,F,F,F,F,F,F,F,F,F,F,F,F,F] rfl rfl (any_of HT_.out (by kernel_rfl)) (fun _ _ _ h => h) (Or.inl ⟨by rfl, ?_⟩) ?_ ?_
                rotate_left
                ·exact zwx
                rotate_left
                ·exact zpx
                refine pure_ (i := 6) (N := some 32) (v := ?_) (a' := ?_) #[T,T,T,T,T,F,T,F,F,F,F,F,F,F,F,F,F,F,F,F,F,F,F] rfl rfl (any_of HT_.out (by kernel_rfl)) (fun _ _ _ h => h) (Or.inl ⟨by rfl, ?_⟩) ?_ ?_
                rotate_left
                ·exact zwx
                rotate_left
                ·exact zpx
                refine take_ (i := 5) (N := some 31) (v := ?_) (a' := ?_) #[T,T,T,T,T,T,T,F,F,F,F,F,F,F,F,F,F,F,F,F,F,F,F] rfl rfl (take_ofW HT_.out HW_.out (by kernel_rfl)) (fun _ _ _ h => h) (Or.inl ⟨by rfl, ?_⟩) hHeld ?_ ?_
                rotate_left
                ·rintro w' ⟨s0, s1, s2, s3, s4, s5, s6, s7⟩
                 go_simp
                 with_reducible rfl
                rotate_left
                ·exact zpx
                refine pure_ (i := 7) (N := some 33) (v := ?_) (a' := ?_) #[T,T,T,T,T,T,T,T,F,F,F,F,F,F,F,F,F,F,F,F,F,F,F] rfl rfl (any_of HT_.out (by kernel_rfl)) (fun _ _ _ h => h) (Or.inl ⟨by rfl, ?_⟩) ?_ ?_
                rotate_left
                ·exact zwx
                rotate_left
                ·exact zpx
                refine pure_ (i := 8) (N := some 34) (v := ?_) (a' := ?_) #[T,T,T,T,T,T,T,T,T,F,F,F,F,F,F,F,F,F,F,F,F,F,F] rfl rfl (any_of HT_.out (by kernel_rfl)) (fun _ _ _ h => h) (Or.inl ⟨by rfl, ?_⟩) ?_ ?_
                rotate_left
                ·exact zwx
                rotate_left
                ·exact zpx
                refine pure_ (i := 9) (N := some 35) (v := ?_) (a' := ?_) #[T,T,T,T,T,T,T,T,T,T,F,F,F,F,F,F,F,F,F,F,F,F,F] rfl rfl (any_of HT_.out (by kernel_rfl)) (fun _ _ _ h => h) (Or.inl ⟨by rfl, ?_⟩) ?_ ?_
                rotate_left
                ·exact zwx
                rotate_left
                ·exact zpx
                refine pure_ (i := 10) (N := some 36) (v := ?_) (a' := ?_) #[T,T,T,T,T,T,T,T,T,T,T,F,F,F,F,F,F,F,F,F,F,F,F] rfl rfl (any_of HT_.out (by kernel_rfl)) (fun _ _ _ h => h) (Or.inl ⟨by rfl, ?_⟩) ?_ ?_
                rotate_left
                ·exact zwx
                rotate_left
                ·exact zpx
                refine pure_ (i := 11) (N := some 37) (v := ?_) (a' := ?_) #[T,T,T,T,T,T,T,T,T,T,T,T,F,F,F,F,F,F,F,F,F,F,F] rfl rfl (any_of HT_.out (by kernel_rfl)) (fun _ _ _ h => h) (Or.inl ⟨by rfl, ?_⟩) ?_ ?_
                rotate_left
                ·exact zwx
                rotate_left
                ·exact zpx
                refine pure_ (i := 12) (N := some 38) (v := ?_) (a' := ?_) #[T,T,T,T,T,T,T,T,T,T,T,T,T,F,F,F,F,F,F,F,F,F,F] rfl rfl (any_of HT_.out (by kernel_rfl)) (fun _ _ _ h => h) (Or.inl ⟨by rfl, ?_⟩) ?_ ?_
                rotate_left
                ·exact zwx
                rotate_left
                ·exact zpx
                refine pure_ (i := 13) (N := some 39) (v := ?_) (a' := ?_) #[T,T,T,T,T,T,T,T,T,T,T,T,T,T,F,F,F,F,F,F,F,F,F] rfl rfl (any_of HT_.out (by kernel_rfl)) (fun _ _ _ h => h) (Or.inl ⟨by rfl, ?_⟩) ?_ ?_
                rotate_left
                ·exact zwx
                rotate_left
                ·exact zpx
                refine pure_ (i := 15) (N := some 41) (v := ?_) (a' := ?_) #[T,T,T,T,T,T,T,T,T,T,T,T,T,T,F,T,F,F,F,F,F,F,F] rfl rfl (any_of HT_.out (by kernel_rfl)) (fun _ _ _ h => h) (Or.inl ⟨by rfl, ?_⟩) ?_ ?_
                rotate_left
                ·exact zwx
                rotate_left
                ·exact zpx
                refine pure_ (i := 16) (N := some 42) (v := ?_) (a' := ?_) #[T,T,T,T,T,T,T,T,T,T,T,T,T,T,F,T,T,F,F,F,F,F,F] rfl rfl (any_of HT_.out (by kernel_rfl)) (fun _ _ _ h => h) (Or.inl ⟨by rfl, ?_⟩) ?_ ?_
                rotate_left
                ·exact zwx
                rotate_left
                ·exact zpx
                refine pure_ (i := 17) (N := some 43) (v := ?_) (a' := ?_) #[T,T,T,T,T,T,T,T,T,T,T,T,T,T,F,T,T,T,F,F,F,F,F] rfl rfl (any_of HT_.out (by kernel_rfl)) (fun _ _ _ h => h) (Or.inl ⟨by rfl, ?_⟩) ?_ ?_
                rotate_left
                ·exact zwx
                rotate_left
                ·exact zpx
                refine pure_ (i := 18) (N := some 44) (v := ?_) (a' := ?_) #[T,T,T,T,T,T,T,T,T,T,T,T,T,T,F,T,T,T,T,F,F,F,F] rfl rfl (any_of HT_.out (by kernel_rfl)) (fun _ _ _ h => h) (Or.inl ⟨by rfl, ?_⟩) ?_ ?_
                rotate_left
                ·exact zwx
                rotate_left
                ·exact zpx
                refine take_ (i := 14) (N := some 40) (v := ?_) (a' := ?_) #[T,T,T,T,T,T,T,T,T,T,T,T,T,T,T,T,T,T,T,F,F,F,F] rfl rfl (take_ofW HT_.out HW_.out (by kernel_rfl)) (fun _ _ _ h => h) (Or.inl ⟨by rfl, ?_⟩) hHeld ?_ ?_
                rotate_left
                ·rintro w' ⟨s0, s1, s2, s3, s4, s5, s6, s7⟩
                 go_simp
                 with_reducible rfl
                rotate_left
                ·exact zpx
                refine take_ (i := 19) (N := some 45) (v := ?_) (a' := ?_) #[T,T,T,T,T,T,T,T,T,T,T,T,T,T,T,T,T,T,T,T,F,F,F] rfl rfl (take_ofW HT_.out HW_.out (by kernel_rfl)) (fun _ _ _ h => h) (Or.inl ⟨by rfl, ?_⟩) hHeld ?_ ?_
                rotate_left
                ·rintro w' ⟨s0, s1, s2, s3, s4, s5, s6, s7⟩
                 go_simp
                 with_reducible rfl
                rotate_left
                ·exact zpx
                refine pure_ (i := 20) (N := some 46) (v := ?_) (a' := ?_) #[T,T,T,T,T,T,T,T,T,T,T,T,T,T,T,T,T,T,T,T,T,F,F] rfl rfl (any_of HT_.out (by kernel_rfl)) (fun _ _ _ h => h) (Or.inl ⟨by rfl, ?_⟩) ?_ ?_
                rotate_left
                ·exact zwx
                rotate_left
                ·exact zpx
                refine pure_ (i := 21) (N := some 47) (v := ?_) (a' := ?_) #[T,T,T,T,T,T,T,T,T,T,T,T,T,T,T,T,T,T,T,T,T,T,F] rfl rfl (any_of HT_.out (by kernel_rfl)) (fun _ _ _ h => h) (Or.inl ⟨by rfl, ?_⟩) ?_ ?_
                rotate_left
                ·exact zwx
                rotate_left
                ·exact zpx
                refine pure_ (i := 22) (N := some 48) (v := ?_) (a' := ?_) #[T,T,T,T,T,T,T,T,T,T,T,T,T,T,T,T,T,T,T,T,T,T,T] rfl rfl (any_of HT_.out (by kernel_rfl)) (fun _ _ _ h => h) (Or.inl ⟨by rfl, ?_⟩) ?_ ?_
                rotate_left
                ·exact zwx
                rotate_left
                ·exact zpx
                refine done_ (done_of HT_.out (by kernel_rfl)) ?_
                try go_wp2
                go_roundg k2
                case measure => have := HJ2.out; have := HK2.out; omega
                case rel => exact ⟨(x7_2), (wrap64 (x21_2 + 1)), zrx, zrx, H', ⟨by have := HJ2.out; have := HK2.out; omega⟩, ⟨by exact zBy HB.out GE336.out⟩⟩
             ·rw [if_neg c21] at H
              exact absurd H (by simp)
            ·rw [if_neg c20] at H
             exact absurd H (by simp)
          ·rw [if_neg c14] at H
           have c14b0 : decide (((rd_T59 l0 x21_2).f3) ≤ a1) = false := decide_eq_false c14
           clear c14
           focus
            have H' := Aside0.mk H
            clear H
            have p335 : 0 ≤ (x21_2 : Int) := of_decide_eq_true zax
            have q335 : x21_2 < (l0.length : Int) := of_decide_eq_true zax
            obtain ⟨ad335, e335, hx335_0, hx335_1, hx335_2, hx335_3⟩ := at_T59 HR0.out x21_2 p335 q335
            cases e335
            replace hx335_0 := (HB.out.cell (World.block_lt_of_cell? w _ hx335_0)).trans hx335_0
            replace hx335_1 := (HB.out.cell (World.block_lt_of_cell? w _ hx335_1)).trans hx335_1
            replace hx335_2 := (HB.out.cell (World.block_lt_of_cell? w _ hx335_2)).trans hx335_2
            replace hx335_3 := (HB.out.cell (World.block_lt_of_cell? w _ hx335_3)).trans hx335_3
            replace p335 := eq_true p335
            replace q335 := eq_true q335
            try go_wp2_with (first | ((with_reducible refine gate_dst (N := 9) rfl ?_); refine box_event ?hg (N := 9) ?hd (cs := #[.int .i64 0, .int .i64 0, .int .i64 0, .int .i64 0]) (t := 59) ?hr ?_; (case hd => rfl); (case hg => rfl); (case hr => exact zsx); intro gb336 hg w31 hbox hb; have n0_ := Aside0.mk (below_step (zBx HB.out) hb); have n1_ := Aside0.mk (hbox); have n2_ := Aside0.mk ((by rw [hg]; exact (below_size (zBx HB.out)) : w.heap.size ≤ gb336)); have n3_ := Aside0.mk ((by rw [hg]; exact (below_size (zBx HB.out)) : w.heap.size ≤ gb336)); clear HB; have HB := n0_; have BK336 := n1_; have GW336 := n2_; have GE336 := n3_; clear n0_ n1_ n2_ n3_; clear hb hbox hg; have hcz32_0 : w31.cell? ⟨gb336, 0, none⟩ = some (.int .i64 0) := (blk_cell BK336.out 0).trans rfl; have hcz32_1 : w31.cell? ⟨gb336, 1, none⟩ = some (.int .i64 0) := (blk_cell BK336.out 1).trans rfl; have hcz32_2 : w31.cell? ⟨gb336, 2, none⟩ = some (.int .i64 0) := (blk_cell BK336.out 2).trans rfl; have hcz32_3 : w31.cell? ⟨gb336, 3, none⟩ = some (.int .i64 0) := (blk_cell BK336.out 3).trans rfl; have hfz32_0 := blk_frozen BK336.out 0; have hfz32_1 := blk_frozen BK336.out 1; have hfz32_2 := blk_frozen BK336.out 2; have hfz32_3 := blk_frozen BK336.out 3))
            have n0_ : Aside0 (((((w31.setCell ⟨gb336, 0, none⟩ (.int .i64 ((rd_T59 l0 x21_2).f0))).setCell ⟨gb336, 1, none⟩ (.int .i64 ((rd_T59 l0 x21_2).f1))).setCell ⟨gb336, 2, none⟩ (.int .i64 ((rd_T59 l0 x21_2).f2))).setCell ⟨gb336, 3, none⟩ (.int .i64 ((rd_T59 l0 x21_2).f3))).heap[gb336]? = some (.cells #[.int .i64 ((rd_T59 l0 x21_2).f0), .int .i64 ((rd_T59 l0 x21_2).f1), .int .i64 ((rd_T59 l0 x21_2).f2), .int .i64 ((rd_T59 l0 x21_2).f3)] 59 (0, 0))) := ⟨by (with_reducible repeat (first | refine blk_drewN ?_ _ | refine blk_drew ?_ | refine blk_alloc ?_ _)); refine blk_put (cs := #[.int .i64 ((rd_T59 l0 x21_2).f0), .int .i64 ((rd_T59 l0 x21_2).f1), .int .i64 ((rd_T59 l0 x21_2).f2), .int .i64 0]) ?_ 3 _ rfl; (with_reducible repeat (first | refine blk_drewN ?_ _ | refine blk_drew ?_ | refine blk_alloc ?_ _)); refine blk_put (cs := #[.int .i64 ((rd_T59 l0 x21_2).f0), .int .i64 ((rd_T59 l0 x21_2).f1), .int .i64 0, .int .i64 0]) ?_ 2 _ rfl; (with_reducible repeat (first | refine blk_drewN ?_ _ | refine blk_drew ?_ | refine blk_alloc ?_ _)); refine blk_put (cs := #[.int .i64 ((rd_T59 l0 x21_2).f0), .int .i64 0, .int .i64 0, .int .i64 0]) ?_ 1 _ rfl; (with_reducible repeat (first | refine blk_drewN ?_ _ | refine blk_drew ?_ | refine blk_alloc ?_ _)); refine blk_put (cs := #[.int .i64 0, .int .i64 0, .int .i64 0, .int .i64 0]) ?_ 0 _ rfl; (with_reducible repeat (first | refine blk_drewN ?_ _ | refine blk_drew ?_ | refine blk_alloc ?_ _)); exact BK336.out⟩
            have n1_ : Aside0 (Below w.heap.size w ((((w31.setCell ⟨gb336, 0, none⟩ (.int .i64 ((rd_T59 l0 x21_2).f0))).setCell ⟨gb336, 1, none⟩ (.int .i64 ((rd_T59 l0 x21_2).f1))).setCell ⟨gb336, 2, none⟩ (.int .i64 ((rd_T59 l0 x21_2).f2))).setCell ⟨gb336, 3, none⟩ (.int .i64 ((rd_T59 l0 x21_2).f3)))) := ⟨by exact zBy HB.out GE336.out⟩
            (try clear BK336)
            (try clear HB)
            generalize ((((w31.setCell ⟨gb336, 0, none⟩ (.int .i64 ((rd_T59 l0 x21_2).f0))).setCell ⟨gb336, 1, none⟩ (.int .i64 ((rd_T59 l0 x21_2).f1))).setCell ⟨gb336, 2, none⟩ (.int .i64 ((rd_T59 l0 x21_2).f2))).setCell ⟨gb336, 3, none⟩ (.int .i64 ((rd_T59 l0 x21_2).f3))) = w33 at n0_ n1_ ⊢
            have BK336 := n0_
            have HB := n1_
            clear n0_ n1_
            have n0_ := Aside0.mk (blk_drew BK336.out)
            have n1_ := Aside0.mk (below_drew1 HB.out)
            clear BK336
            clear HB
            have BK336 := n0_
            have HB := n1_
            clear n0_ n1_
            refine start_ (n := 23) (S := fun w' => w'.cell? ⟨gb336, 0, none⟩ = some (.int .i64 ((rd_T59 l0 x21_2).f0)) ∧ w'.cell? ⟨gb336, 1, none⟩ = some (.int .i64 ((rd_T59 l0 x21_2).f1)) ∧ w'.cell? ⟨gb336, 2, none⟩ = some (.int .i64 ((rd_T59 l0 x21_2).f2)) ∧ w'.cell? ⟨gb336, 3, none⟩ = some (.int .i64 ((rd_T59 l0 x21_2).f3))) (ds := []) #[F,F,F,F,F,F,F,F,F,F,F,F,F,F,F,F,F,F,F,F,F,F,F] (by kernel_rfl) rfl rfl ⟨(blk_cell BK336.out 0).trans rfl, (blk_cell BK336.out 1).trans rfl, (blk_cell BK336.out 2).trans rfl, (blk_cell BK336.out 3).trans rfl⟩ (fun hHeld => ?_); refine with_tabW impl_SendNext.tab7 impl_SendNext.bits7 (fun HT_ HW_ => ?_)
            generalize w33.drew = w34 at BK336 HB hHeld ⊢
            refine pure_ (i := 0) (N := some 26) (v := ?_) (a' := ?_) #[T,F,F,F,F,F,F,F,F,F,F,F,F,F,F,F,F,F,F,F,F,F,F] rfl rfl (any_of HT_.out (by kernel_rfl)) (fun _ _ _ h => h) (Or.inl ⟨by rfl, ?_⟩) ?_ ?_
            rotate_left
            ·exact zwx
            rotate_left
            ·exact zpx
            refine take_ (i := 1) (N := some 27) (v := ?_) (a' := ?_) #[T,T,F,F,F,F,F,F,F,F,F,F,F,F,F,F,F,F,F,F,F,F,F] rfl rfl (take_ofW HT_.out HW_.out (by kernel_rfl)) (fun _ _ _ h => h) (Or.inl ⟨by rfl, ?_⟩) hHeld ?_ ?_
            rotate_left
            ·rintro w' ⟨s0, s1, s2, s3⟩
             go_simp
             with_reducible rfl
            rotate_left
            ·exact zpx
            refine pure_ (i := 2) (N := some 28) (v := ?_) (a' := ?_) #[T,T,T,F,F,F,F,F,F,F,F,F,F,F,F,F,F,F,F,F,F,F,F] rfl rfl (any_of HT_.out (by kernel_rfl)) (fun _ _ _ h => h) (Or.inl ⟨by rfl, ?_⟩) ?_ ?_
            rotate_left
            ·exact zwx
            rotate_left
            ·exact zpx
            refine pure_ (i := 3) (N := some 29) (v := ?_) (a' := ?_) #[T,T,T,T,F,F,F,F,F,F,F,F,F,F,F,F,F,F,F,F,F,F,F] rfl rfl (any_of HT_.out (by kernel_rfl)) (fun _ _ _ h => h) (Or.inl ⟨by rfl, ?_⟩) ?_ ?_
            rotate_left
            ·exact zwx
            rotate_left
            ·exact zpx
            refine pure_ (i := 4) (N := some 30) (v := ?_) (a' := ?_) #[T,T,T,T,T,F,F,F,F,F,F,F,F,F,F,F,F,F,F,F,F,F,F] rfl rfl (any_of HT_.out (by kernel_rfl)) (fun _ _ _ h => h) (Or.inl ⟨by rfl, ?_⟩) ?_ ?_
            rotate_left
            ·exact zwx
            rotate_left
            ·exact zpx
            refine pure_ (i := 6) (N := some 32) (v := ?_) (a' := ?_) #[T,T,T,T,T,F,T,F,F,F,F,F,F,F,F,F,F,F,F,F,F,F,F] rfl rfl (any_of HT_.out (by kernel_rfl)) (fun _ _ _ h => h) (Or.inl ⟨by rfl, ?_⟩) ?_ ?_
            rotate_left
            ·exact zwx
            rotate_left
            ·exact zpx
            refine take_ (i := 5) (N := some 31) (v := ?_) (a' := ?_) #[T,T,T,T,T,T,T,F,F,F,F,F,F,F,F,F,F,F,F,F,F,F,F] rfl rfl (take_ofW HT_.out HW_.out (by kernel_rfl)) (fun _ _ _ h => h) (Or.inl ⟨by rfl, ?_⟩) hHeld ?_ ?_
            rotate_left
            ·rintro w' ⟨s0, s1, s2, s3⟩
             go_simp
             with_reducible rfl
            rotate_left
            ·exact zpx
            refine pure_ (i := 7) (N := some 33) (v := ?_) (a' := ?_) #[T,T,T,T,T,T,T,T,F,F,F,F,F,F,F,F,F,F,F,F,F,F,F] rfl rfl (any_of HT_.out (by kernel_rfl)) (fun _ _ _ h => h) (Or.inl ⟨by rfl, ?_⟩) ?_ ?_
            rotate_left
            ·exact zwx
            rotate_left
            ·exact zpx
            refine pure_ (i := 8) (N := some 34) (v := ?_) (a' := ?_) #[T,T,T,T,T,T,T,T,T,F,F,F,F,F,F,F,F,F,F,F,F,F,F] rfl rfl (any_of HT_.out (by kernel_rfl)) (fun _ _ _ h => h) (Or.inl ⟨by rfl, ?_⟩) ?_ ?_
            rotate_left
            ·exact zwx
            rotate_left
            ·exact zpx
            refine pure_ (i := 9) (N := some 35) (v := ?_) (a' := ?_) #[T,T,T,T,T,T,T,T,T,T,F,F,F,F,F,F,F,F,F,F,F,F,F] rfl rfl (any_of HT_.out (by kernel_rfl)) (fun _ _ _ h => h) (Or.inl ⟨by rfl, ?_⟩) ?_ ?_
            rotate_left
            ·exact zwx
            rotate_left
            ·exact zpx
            refine pure_ (i := 10) (N := some 36) (v := undef) (a' := ?_) #[T,T,T,T,T,T,T,T,T,T,T,F,F,F,F,F,F,F,F,F,F,F,F] rfl rfl (any_of HT_.out (by kernel_rfl)) (fun _ _ _ h => h) (Or.inr ⟨by rfl, rfl⟩) ?_ ?_
            rotate_left
            ·exact zpx
            refine pure_ (i := 11) (N := some 37) (v := undef) (a' := ?_) #[T,T,T,T,T,T,T,T,T,T,T,T,F,F,F,F,F,F,F,F,F,F,F] rfl rfl (any_of HT_.out (by kernel_rfl)) (fun _ _ _ h => h) (Or.inr ⟨by rfl, rfl⟩) ?_ ?_
            rotate_left
            ·exact zpx
            refine pure_ (i := 12) (N := some 38) (v := undef) (a' := ?_) #[T,T,T,T,T,T,T,T,T,T,T,T,T,F,F,F,F,F,F,F,F,F,F] rfl rfl (any_of HT_.out (by kernel_rfl)) (fun _ _ _ h => h) (Or.inr ⟨by rfl, rfl⟩) ?_ ?_
            rotate_left
            ·exact zpx
            refine pure_ (i := 13) (N := some 39) (v := undef) (a' := ?_) #[T,T,T,T,T,T,T,T,T,T,T,T,T,T,F,F,F,F,F,F,F,F,F] rfl rfl (any_of HT_.out (by kernel_rfl)) (fun _ _ _ h => h) (Or.inr ⟨by rfl, rfl⟩) ?_ ?_
            rotate_left
            ·exact zpx
            refine pure_ (i := 14) (N := some 40) (v := undef) (a' := ?_) #[T,T,T,T,T,T,T,T,T,T,T,T,T,T,T,F,F,F,F,F,F,F,F] rfl rfl (any_of HT_.out (by kernel_rfl)) (fun _ _ _ h => h) (Or.inr ⟨by rfl, rfl⟩) ?_ ?_
            rotate_left
            ·exact zpx
            refine pure_ (i := 15) (N := some 41) (v := undef) (a' := ?_) #[T,T,T,T,T,T,T,T,T,T,T,T,T,T,T,T,F,F,F,F,F,F,F] rfl rfl (any_of HT_.out (by kernel_rfl)) (fun _ _ _ h => h) (Or.inr ⟨by rfl, rfl⟩) ?_ ?_
            rotate_left
            ·exact zpx
            refine pure_ (i := 16) (N := some 42) (v := undef) (a' := ?_) #[T,T,T,T,T,T,T,T,T,T,T,T,T,T,T,T,T,F,F,F,F,F,F] rfl rfl (any_of HT_.out (by kernel_rfl)) (fun _ _ _ h => h) (Or.inr ⟨by rfl, rfl⟩) ?_ ?_
            rotate_left
            ·exact zpx
            refine pure_ (i := 17) (N := some 43) (v := undef) (a' := ?_) #[T,T,T,T,T,T,T,T,T,T,T,T,T,T,T,T,T,T,F,F,F,F,F] rfl rfl (any_of HT_.out (by kernel_rfl)) (fun _ _ _ h => h) (Or.inr ⟨by rfl, rfl⟩) ?_ ?_
            rotate_left
            ·exact zpx
            refine pure_ (i := 18) (N := some 44) (v := undef) (a' := ?_) #[T,T,T,T,T,T,T,T,T,T,T,T,T,T,T,T,T,T,T,F,F,F,F] rfl rfl (any_of HT_.out (by kernel_rfl)) (fun _ _ _ h => h) (Or.inr ⟨by rfl, rfl⟩) ?_ ?_
            rotate_left
            ·exact zpx
            refine pure_ (i := 19) (N := some 45) (v := undef) (a' := ?_) #[T,T,T,T,T,T,T,T,T,T,T,T,T,T,T,T,T,T,T,T,F,F,F] rfl rfl (any_of HT_.out (by kernel_rfl)) (fun _ _ _ h => h) (Or.inr ⟨by rfl, rfl⟩) ?_ ?_
            rotate_left
            ·exact zpx
            refine pure_ (i := 20) (N := some 46) (v := undef) (a' := ?_) #[T,T,T,T,T,T,T,T,T,T,T,T,T,T,T,T,T,T,T,T,T,F,F] rfl rfl (any_of HT_.out (by kernel_rfl)) (fun _ _ _ h => h) (Or.inr ⟨by rfl, rfl⟩) ?_ ?_
            rotate_left
            ·exact zpx
            refine pure_ (i := 21) (N := some 47) (v := undef) (a' := ?_) #[T,T,T,T,T,T,T,T,T,T,T,T,T,T,T,T,T,T,T,T,T,T,F] rfl rfl (any_of HT_.out (by kernel_rfl)) (fun _ _ _ h => h) (Or.inr ⟨by rfl, rfl⟩) ?_ ?_
            rotate_left
            ·exact zpx
            refine pure_ (i := 22) (N := some 48) (v := ?_) (a' := ?_) #[T,T,T,T,T,T,T,T,T,T,T,T,T,T,T,T,T,T,T,T,T,T,T] rfl rfl (any_of HT_.out (by kernel_rfl)) (fun _ _ _ h => h) (Or.inl ⟨by rfl, ?_⟩) ?_ ?_
            rotate_left
            ·exact zwx
            rotate_left
            ·exact zpx
            refine done_ (done_of HT_.out (by kernel_rfl)) ?_
            try go_wp2
            go_roundg k2
            case measure => have := HJ2.out; have := HK2.out; omega
            case rel => exact ⟨(x7_2), (wrap64 (x21_2 + 1)), zrx, zrx, H', ⟨by have := HJ2.out; have := HK2.out; omega⟩, ⟨by exact zBy HB.out GE336.out⟩⟩
         ·rw [if_neg c13] at H
          have c13b0 : (((rd_T59 l0 x21_2).f1) == 1) = false := beq_eq_false_iff_ne.mpr c13
          have c13b1 : (((rd_T59 l0 x21_2).f1) != 1) = true := bne_iff_ne.mpr c13
          focus
           have H' := Aside0.mk H
           clear H
           have p335 : 0 ≤ (x21_2 : Int) := of_decide_eq_true zax
           have q335 : x21_2 < (l0.length : Int) := of_decide_eq_true zax
           obtain ⟨ad335, e335, hx335_0, hx335_1, hx335_2, hx335_3⟩ := at_T59 HR0.out x21_2 p335 q335
           cases e335
           replace hx335_0 := (HB.out.cell (World.block_lt_of_cell? w _ hx335_0)).trans hx335_0
           replace hx335_1 := (HB.out.cell (World.block_lt_of_cell? w _ hx335_1)).trans hx335_1
           replace hx335_2 := (HB.out.cell (World.block_lt_of_cell? w _ hx335_2)).trans hx335_2
           replace hx335_3 := (HB.out.cell (World.block_lt_of_cell? w _ hx335_3)).trans hx335_3
           replace p335 := eq_true p335
           replace q335 := eq_true q335
           try go_wp2_with (first | ((with_reducible refine gate_dst (N := 9) rfl ?_); refine box_event ?hg (N := 9) ?hd (cs := #[.int .i64 0, .int .i64 0, .int .i64 0, .int .i64 0]) (t := 59) ?hr ?_; (case hd => rfl); (case hg => rfl); (case hr => exact zsx); intro gb336 hg w35 hbox hb; have n0_ := Aside0.mk (below_step (zBx HB.out) hb); have n1_ := Aside0.mk (hbox); have n2_ := Aside0.mk ((by rw [hg]; exact (below_size (zBx HB.out)) : w.heap.size ≤ gb336)); have n3_ := Aside0.mk ((by rw [hg]; exact (below_size (zBx HB.out)) : w.heap.size ≤ gb336)); clear HB; have HB := n0_; have BK336 := n1_; have GW336 := n2_; have GE336 := n3_; clear n0_ n1_ n2_ n3_; clear hb hbox hg; have hcz36_0 : w35.cell? ⟨gb336, 0, none⟩ = some (.int .i64 0) := (blk_cell BK336.out 0).trans rfl; have hcz36_1 : w35.cell? ⟨gb336, 1, none⟩ = some (.int .i64 0) := (blk_cell BK336.out 1).trans rfl; have hcz36_2 : w35.cell? ⟨gb336, 2, none⟩ = some (.int .i64 0) := (blk_cell BK336.out 2).trans rfl; have hcz36_3 : w35.cell? ⟨gb336, 3, none⟩ = some (.int .i64 0) := (blk_cell BK336.out 3).trans rfl; have hfz36_0 := blk_frozen BK336.out 0; have hfz36_1 := blk_frozen BK336.out 1; have hfz36_2 := blk_frozen BK336.out 2; have hfz36_3 := blk_frozen BK336.out 3))
           have n0_ : Aside0 (((((w35.setCell ⟨gb336, 0, none⟩ (.int .i64 ((rd_T59 l0 x21_2).f0))).setCell ⟨gb336, 1, none⟩ (.int .i64 ((rd_T59 l0 x21_2).f1))).setCell ⟨gb336, 2, none⟩ (.int .i64 ((rd_T59 l0 x21_2).f2))).setCell ⟨gb336, 3, none⟩ (.int .i64 ((rd_T59 l0 x21_2).f3))).heap[gb336]? = some (.cells #[.int .i64 ((rd_T59 l0 x21_2).f0), .int .i64 ((rd_T59 l0 x21_2).f1), .int .i64 ((rd_T59 l0 x21_2).f2), .int .i64 ((rd_T59 l0 x21_2).f3)] 59 (0, 0))) := ⟨by (with_reducible repeat (first | refine blk_drewN ?_ _ | refine blk_drew ?_ | refine blk_alloc ?_ _)); refine blk_put (cs := #[.int .i64 ((rd_T59 l0 x21_2).f0), .int .i64 ((rd_T59 l0 x21_2).f1), .int .i64 ((rd_T59 l0 x21_2).f2), .int .i64 0]) ?_ 3 _ rfl; (with_reducible repeat (first | refine blk_drewN ?_ _ | refine blk_drew ?_ | refine blk_alloc ?_ _)); refine blk_put (cs := #[.int .i64 ((rd_T59 l0 x21_2).f0), .int .i64 ((rd_T59 l0 x21_2).f1), .int .i64 0, .int .i64 0]) ?_ 2 _ rfl; (with_reducible repeat (first | refine blk_drewN ?_ _ | refine blk_drew ?_ | refine blk_alloc ?_ _)); refine blk_put (cs := #[.int .i64 ((rd_T59 l0 x21_2).f0), .int .i64 0, .int .i64 0, .int .i64 0]) ?_ 1 _ rfl; (with_reducible repeat (first | refine blk_drewN ?_ _ | refine blk_drew ?_ | refine blk_alloc ?_ _)); refine blk_put (cs := #[.int .i64 0, .int .i64 0, .int .i64 0, .int .i64 0]) ?_ 0 _ rfl; (with_reducible repeat (first | refine blk_drewN ?_ _ | refine blk_drew ?_ | refine blk_alloc ?_ _)); exact BK336.out⟩
           have n1_ : Aside0 (Below w.heap.size w ((((w35.setCell ⟨gb336, 0, none⟩ (.int .i64 ((rd_T59 l0 x21_2).f0))).setCell ⟨gb336, 1, none⟩ (.int .i64 ((rd_T59 l0 x21_2).f1))).setCell ⟨gb336, 2, none⟩ (.int .i64 ((rd_T59 l0 x21_2).f2))).setCell ⟨gb336, 3, none⟩ (.int .i64 ((rd_T59 l0 x21_2).f3)))) := ⟨by exact zBy HB.out GE336.out⟩
           (try clear BK336)
           (try clear HB)
           generalize ((((w35.setCell ⟨gb336, 0, none⟩ (.int .i64 ((rd_T59 l0 x21_2).f0))).setCell ⟨gb336, 1, none⟩ (.int .i64 ((rd_T59 l0 x21_2).f1))).setCell ⟨gb336, 2, none⟩ (.int .i64 ((rd_T59 l0 x21_2).f2))).setCell ⟨gb336, 3, none⟩ (.int .i64 ((rd_T59 l0 x21_2).f3))) = w37 at n0_ n1_ ⊢
           have BK336 := n0_
           have HB := n1_
           clear n0_ n1_
           have n0_ := Aside0.mk (blk_drew BK336.out)
           have n1_ := Aside0.mk (below_drew1 HB.out)
           clear BK336
           clear HB
           have BK336 := n0_
           have HB := n1_
           clear n0_ n1_
           refine start_ (n := 23) (S := fun w' => w'.cell? ⟨gb336, 0, none⟩ = some (.int .i64 ((rd_T59 l0 x21_2).f0)) ∧ w'.cell? ⟨gb336, 1, none⟩ = some (.int .i64 ((rd_T59 l0 x21_2).f1)) ∧ w'.cell? ⟨gb336, 2, none⟩ = some (.int .i64 ((rd_T59 l0 x21_2).f2)) ∧ w'.cell? ⟨gb336, 3, none⟩ = some (.int .i64 ((rd_T59 l0 x21_2).f3))) (ds := []) #[F,F,F,F,F,F,F,F,F,F,F,F,F,F,F,F,F,F,F,F,F,F,F] (by kernel_rfl) rfl rfl ⟨(blk_cell BK336.out 0).trans rfl, (blk_cell BK336.out 1).trans rfl, (blk_cell BK336.out 2).trans rfl, (blk_cell BK336.out 3).trans rfl⟩ (fun hHeld => ?_); refine with_tabW impl_SendNext.tab7 impl_SendNext.bits7 (fun HT_ HW_ => ?_)
           generalize w37.drew = w38 at BK336 HB hHeld ⊢
           refine pure_ (i := 0) (N := some 26) (v := ?_) (a' := ?_) #[T,F,F,F,F,F,F,F,F,F,F,F,F,F,F,F,F,F,F,F,F,F,F] rfl rfl (any_of HT_.out (by kernel_rfl)) (fun _ _ _ h => h) (Or.inl ⟨by rfl, ?_⟩) ?_ ?_
           rotate_left
           ·exact zwx
           rotate_left
           ·exact zpx
           refine take_ (i := 1) (N := some 27) (v := ?_) (a' := ?_) #[T,T,F,F,F,F,F,F,F,F,F,F,F,F,F,F,F,F,F,F,F,F,F] rfl rfl (take_ofW HT_.out HW_.out (by kernel_rfl)) (fun _ _ _ h => h) (Or.inl ⟨by rfl, ?_⟩) hHeld ?_ ?_
           rotate_left
           ·rintro w' ⟨s0, s1, s2, s3⟩
            go_simp
            with_reducible rfl
           rotate_left
           ·exact zpx
           refine pure_ (i := 2) (N := some 28) (v := ?_) (a' := ?_) #[T,T,T,F,F,F,F,F,F,F,F,F,F,F,F,F,F,F,F,F,F,F,F] rfl rfl (any_of HT_.out (by kernel_rfl)) (fun _ _ _ h => h) (Or.inl ⟨by rfl, ?_⟩) ?_ ?_
           rotate_left
           ·exact zwx
           rotate_left
           ·exact zpx
           refine pure_ (i := 3) (N := some 29) (v := ?_) (a' := ?_) #[T,T,T,T,F,F,F,F,F,F,F,F,F,F,F,F,F,F,F,F,F,F,F] rfl rfl (any_of HT_.out (by kernel_rfl)) (fun _ _ _ h => h) (Or.inl ⟨by rfl, ?_⟩) ?_ ?_
           rotate_left
           ·exact zwx
           rotate_left
           ·exact zpx
           refine pure_ (i := 4) (N := some 30) (v := undef) (a' := ?_) #[T,T,T,T,T,F,F,F,F,F,F,F,F,F,F,F,F,F,F,F,F,F,F] rfl rfl (any_of HT_.out (by kernel_rfl)) (fun _ _ _ h => h) (Or.inr ⟨by rfl, rfl⟩) ?_ ?_
           rotate_left
           ·exact zpx
           refine pure_ (i := 5) (N := some 31) (v := undef) (a' := ?_) #[T,T,T,T,T,T,F,F,F,F,F,F,F,F,F,F,F,F,F,F,F,F,F] rfl rfl (any_of HT_.out (by kernel_rfl)) (fun _ _ _ h => h) (Or.inr ⟨by rfl, rfl⟩) ?_ ?_
           rotate_left
           ·exact zpx
           refine pure_ (i := 6) (N := some 32) (v := undef) (a' := ?_) #[T,T,T,T,T,T,T,F,F,F,F,F,F,F,F,F,F,F,F,F,F,F,F] rfl rfl (any_of HT_.out (by kernel_rfl)) (fun _ _ _ h => h) (Or.inr ⟨by rfl, rfl⟩) ?_ ?_
           rotate_left
           ·exact zpx
           refine pure_ (i := 7) (N := some 33) (v := undef) (a' := ?_) #[T,T,T,T,T,T,T,T,F,F,F,F,F,F,F,F,F,F,F,F,F,F,F] rfl rfl (any_of HT_.out (by kernel_rfl)) (fun _ _ _ h => h) (Or.inr ⟨by rfl, rfl⟩) ?_ ?_
           rotate_left
           ·exact zpx
           refine pure_ (i := 8) (N := some 34) (v := ?_) (a' := ?_) #[T,T,T,T,T,T,T,T,T,F,F,F,F,F,F,F,F,F,F,F,F,F,F] rfl rfl (any_of HT_.out (by kernel_rfl)) (fun _ _ _ h => h) (Or.inl ⟨by rfl, ?_⟩) ?_ ?_
           rotate_left
           ·exact zwx
           rotate_left
           ·exact zpx
           refine pure_ (i := 9) (N := some 35) (v := ?_) (a' := ?_) #[T,T,T,T,T,T,T,T,T,T,F,F,F,F,F,F,F,F,F,F,F,F,F] rfl rfl (any_of HT_.out (by kernel_rfl)) (fun _ _ _ h => h) (Or.inl ⟨by rfl, ?_⟩) ?_ ?_
           rotate_left
           ·exact zwx
           rotate_left
           ·exact zpx
           refine pure_ (i := 10) (N := some 36) (v := undef) (a' := ?_) #[T,T,T,T,T,T,T,T,T,T,T,F,F,F,F,F,F,F,F,F,F,F,F] rfl rfl (any_of HT_.out (by kernel_rfl)) (fun _ _ _ h => h) (Or.inr ⟨by rfl, rfl⟩) ?_ ?_
           rotate_left
           ·exact zpx
           refine pure_ (i := 11) (N := some 37) (v := undef) (a' := ?_) #[T,T,T,T,T,T,T,T,T,T,T,T,F,F,F,F,F,F,F,F,F,F,F] rfl rfl (any_of HT_.out (by kernel_rfl)) (fun _ _ _ h => h) (Or.inr ⟨by rfl, rfl⟩) ?_ ?_
           rotate_left
           ·exact zpx
           refine pure_ (i := 12) (N := some 38) (v := undef) (a' := ?_) #[T,T,T,T,T,T,T,T,T,T,T,T,T,F,F,F,F,F,F,F,F,F,F] rfl rfl (any_of HT_.out (by kernel_rfl)) (fun _ _ _ h => h) (Or.inr ⟨by rfl, rfl⟩) ?_ ?_
           rotate_left
           ·exact zpx
           refine pure_ (i := 13) (N := some 39) (v := undef) (a' := ?_) #[T,T,T,T,T,T,T,T,T,T,T,T,T,T,F,F,F,F,F,F,F,F,F] rfl rfl (any_of HT_.out (by kernel_rfl)) (fun _ _ _ h => h) (Or.inr ⟨by rfl, rfl⟩) ?_ ?_
           rotate_left
           ·exact zpx
           refine pure_ (i := 14) (N := some 40) (v := undef) (a' := ?_) #[T,T,T,T,T,T,T,T,T,T,T,T,T,T,T,F,F,F,F,F,F,F,F] rfl rfl (any_of HT_.out (by kernel_rfl)) (fun _ _ _ h => h) (Or.inr ⟨by rfl, rfl⟩) ?_ ?_
           rotate_left
           ·exact zpx
           refine pure_ (i := 15) (N := some 41) (v := undef) (a' := ?_) #[T,T,T,T,T,T,T,T,T,T,T,T,T,T,T,T,F,F,F,F,F,F,F] rfl rfl (any_of HT_.out (by kernel_rfl)) (fun _ _ _ h => h) (Or.inr ⟨by rfl, rfl⟩) ?_ ?_
           rotate_left
           ·exact zpx
           refine pure_ (i := 16) (N := some 42) (v := undef) (a' := ?_) #[T,T,T,T,T,T,T,T,T,T,T,T,T,T,T,T,T,F,F,F,F,F,F] rfl rfl (any_of HT_.out (by kernel_rfl)) (fun _ _ _ h => h) (Or.inr ⟨by rfl, rfl⟩) ?_ ?_
           rotate_left
           ·exact zpx
           refine pure_ (i := 17) (N := some 43) (v := undef) (a' := ?_) #[T,T,T,T,T,T,T,T,T,T,T,T,T,T,T,T,T,T,F,F,F,F,F] rfl rfl (any_of HT_.out (by kernel_rfl)) (fun _ _ _ h => h) (Or.inr ⟨by rfl, rfl⟩) ?_ ?_
           rotate_left
           ·exact zpx
           refine pure_ (i := 18) (N := some 44) (v := undef) (a' := ?_) #[T,T,T,T,T,T,T,T,T,T,T,T,T,T,T,T,T,T,T,F,F,F,F] rfl rfl (any_of HT_.out (by kernel_rfl)) (fun _ _ _ h => h) (Or.inr ⟨by rfl, rfl⟩) ?_ ?_
           rotate_left
           ·exact zpx
           refine pure_ (i := 19) (N := some 45) (v := undef) (a' := ?_) #[T,T,T,T,T,T,T,T,T,T,T,T,T,T,T,T,T,T,T,T,F,F,F] rfl rfl (any_of HT_.out (by kernel_rfl)) (fun _ _ _ h => h) (Or.inr ⟨by rfl, rfl⟩) ?_ ?_
           rotate_left
           ·exact zpx
           refine pure_ (i := 20) (N := some 46) (v := undef) (a' := ?_) #[T,T,T,T,T,T,T,T,T,T,T,T,T,T,T,T,T,T,T,T,T,F,F] rfl rfl (any_of HT_.out (by kernel_rfl)) (fun _ _ _ h => h) (Or.inr ⟨by rfl, rfl⟩) ?_ ?_
           rotate_left
           ·exact zpx
           refine pure_ (i := 21) (N := some 47) (v := undef) (a' := ?_) #[T,T,T,T,T,T,T,T,T,T,T,T,T,T,T,T,T,T,T,T,T,T,F] rfl rfl (any_of HT_.out (by kernel_rfl)) (fun _ _ _ h => h) (Or.inr ⟨by rfl, rfl⟩) ?_ ?_
           rotate_left
           ·exact zpx
           refine pure_ (i := 22) (N := some 48) (v := ?_) (a' := ?_) #[T,T,T,T,T,T,T,T,T,T,T,T,T,T,T,T,T,T,T,T,T,T,T] rfl rfl (any_of HT_.out (by kernel_rfl)) (fun _ _ _ h => h) (Or.inl ⟨by rfl, ?_⟩) ?_ ?_
           rotate_left
           ·exact zwx
           rotate_left
           ·exact zpx
           refine done_ (done_of HT_.out (by kernel_rfl)) ?_
           try go_wp2
           go_roundg k2
           case measure => have := HJ2.out; have := HK2.out; omega
           case rel => exact ⟨(x7_2), (wrap64 (x21_2 + 1)), zrx, zrx, H', ⟨by have := HJ2.out; have := HK2.out; omega⟩, ⟨by exact zBy HB.out GE336.out⟩⟩
        ·rw [if_neg c12] at H
         exact absurd H (by simp)
       ·rw [if_neg c11] at H
        exact absurd H (by simp)
      ·rw [if_neg c10] at H
       have c10b0 : decide (x21_2 < (l0.length : Int)) = false := decide_eq_false c10
       clear c10
       by_cases c39 : x7_2 < 0
       ·rw [if_pos c39] at H
        have c39b0 : decide (x7_2 < 0) = true := decide_eq_true c39
        clear c39
        focus
         simp only [Option.some.injEq, Prod.mk.injEq] at H
         obtain ⟨rfl, rfl, rfl⟩ := H
         go_wp2
         go_ret3
         exact ⟨_, by first | rfl | (simp [errW_none, errW_some] <;> rfl) | (simp [*, errW_none, errW_some] <;> rfl), by first | exact Kd.R_nil _ _ _ _ _ | exact Kd.N_nil _ _ _ _ _ | exact Kd.V_nil _ _ _ _ _ | exact Kd.Q_nil _ _ _ _ _ | exact Kd.S_nil _ _ _ _ _, by exact zBx HB.out⟩
       ·rw [if_neg c39] at H
        have c39b0 : decide (x7_2 < 0) = false := decide_eq_false c39
        clear c39
        replace H := Option.bind_eq_some_iff.mp H
        obtain ⟨t338, A400, H⟩ := H
        replace H : (if 0 ≤ x7_2 then (if x7_2 < (l0.length : Int) then (if x7_2 < (t338.length : Int) then (some ((t338.set (x7_2 : Int).toNat (⟨(rd_T59 l0 x7_2).f0, 2, wrap64 (((rd_T59 l0 x7_2).f2) + 1), wrap64 (a1 + 10)⟩ : S59)), (rd_T59 l0 x7_2).f0, true)) else (none)) else (none)) else (none)) = some (r1, r2, r3) := H
        have A40 := Aside0.mk A400
        clear A400
        by_cases c41 : 0 ≤ x7_2
        ·rw [if_pos c41] at H
         have c41b0 : decide (0 ≤ x7_2) = true := decide_eq_true c41
         clear c41
         by_cases c42 : x7_2 < (l0.length : Int)
         ·rw [if_pos c42] at H
          have c42b0 : decide (x7_2 < (l0.length : Int)) = true := decide_eq_true c42
          clear c42
          by_cases c43 : x7_2 < (t338.length : Int)
          ·rw [if_pos c43] at H
           have c43b0 : decide (x7_2 < (t338.length : Int)) = true := decide_eq_true c43
           clear c43
           obtain ⟨y343, hy343⟩ : ∃ y_ : List (S59), y_ = (t338.set (x7_2 : Int).toNat (⟨(rd_T59 l0 x7_2).f0, 2, wrap64 (((rd_T59 l0 x7_2).f2) + 1), wrap64 (a1 + 10)⟩ : S59)) := ⟨_, rfl⟩
           replace H : (some (y343, (rd_T59 l0 x7_2).f0, true)) = some (r1, r2, r3) := by first | (rw [hy343]; with_reducible exact H) | (have H2_ := (Option.bind_some _ _).symm.trans H; rw [hy343]; with_reducible exact H2_) | (have H2_ := (Option.bind_some _ _).symm.trans H; with_reducible exact H2_) | with_reducible exact H | (rw [hy343]; exact H) | exact H
           have Ny343 := Aside0.mk hy343
           clear hy343
           focus
            simp only [Option.some.injEq, Prod.mk.injEq] at H
            obtain ⟨rfl, rfl, rfl⟩ := H
            try go_wp2_with (first | ((with_reducible refine gate_callee (f := 78) rfl ?_); refine goesL_ (some 54) rfl rfl Try.func78 (by kernel_rfl) rfl #[.slice A0 l0.length c0] rfl zlx ?_; (with_reducible refine (slices_Clone_Delivery.calls _ _ l0 t338 _ ?side1 ?side2 A40.out).mono ?_); (case side1 => repeat (first | exact (Kd.C_below HR0.out HB.out) | (with_reducible refine Kd.C_alloc ?_ _) | (with_reducible refine Kd.C_drewN ?_ _) | (with_reducible refine Kd.C_drew ?_))); (case side2 => exact HC0.out); rintro e w45 ⟨v339, rfl, ho0, hb⟩; refine ⟨_, rfl, ?_⟩; have n0_ := Aside0.mk (Kd.R_lower ho0 (below_size (zBx HB.out))); have n1_ := Aside0.mk (below_step (zBx HB.out) hb); clear HB; have HO340 := n0_; have HB := n1_; clear n0_ n1_; (try clear hb); (try clear hb2); (try clear hk); (try clear hi); (try clear ho0)))
            have n0_ := Aside0.mk (Kd.R_drew HO340.out)
            have n1_ := Aside0.mk (below_drew1 HB.out)
            clear HO340
            clear HB
            have HO340 := n0_
            have HB := n1_
            clear n0_ n1_
            have p341 : 0 ≤ (x7_2 : Int) := of_decide_eq_true zax
            have q341 : x7_2 < (l0.length : Int) := of_decide_eq_true zax
            obtain ⟨ad341, e341, hx341_0, hx341_1, hx341_2, hx341_3⟩ := at_T59 HR0.out x7_2 p341 q341
            have hw341_3 := hx341_3
            have hw341_2 := hx341_2
            have hw341_1 := hx341_1
            have hw341_0 := hx341_0
            cases e341
            replace hx341_0 := (HB.out.cell (World.block_lt_of_cell? w _ hx341_0)).trans hx341_0
            replace hx341_1 := (HB.out.cell (World.block_lt_of_cell? w _ hx341_1)).trans hx341_1
            replace hx341_2 := (HB.out.cell (World.block_lt_of_cell? w _ hx341_2)).trans hx341_2
            replace hx341_3 := (HB.out.cell (World.block_lt_of_cell? w _ hx341_3)).trans hx341_3
            replace p341 := eq_true p341
            replace q341 := eq_true q341
            have p342 : 0 ≤ (x7_2 : Int) := of_decide_eq_true zax
            have q342 : x7_2 < (l0.length : Int) := of_decide_eq_true zax
            obtain ⟨ad342, e342, hx342_0, hx342_1, hx342_2, hx342_3⟩ := at_T59 HR0.out x7_2 p342 q342
            have hw342_3 := hx342_3
            have hw342_2 := hx342_2
            have hw342_1 := hx342_1
            have hw342_0 := hx342_0
            obtain rfl : ad341 = ad342 := (by injection e342)
            replace hx342_0 := (HB.out.cell (World.block_lt_of_cell? w _ hx342_0)).trans hx342_0
            replace hx342_1 := (HB.out.cell (World.block_lt_of_cell? w _ hx342_1)).trans hx342_1
            replace hx342_2 := (HB.out.cell (World.block_lt_of_cell? w _ hx342_2)).trans hx342_2
            replace hx342_3 := (HB.out.cell (World.block_lt_of_cell? w _ hx342_3)).trans hx342_3
            replace p342 := eq_true p342
            replace q342 := eq_true q342
            have p44 : 0 ≤ (x7_2 : Int) := of_decide_eq_true zax
            have q44 : (x7_2 : Int) < ((t338.length : Int) : Int) := of_decide_eq_true zax
            obtain ⟨go44, co44, eo44, gb44, gl44, cl44, HG44⟩ := Kd.R_form HO340.out (by omega)
            (first | cases eo44 | (injection eo44 with ea_ en_ ec_; (first | subst ea_ | (injection ea_ with ea_; subst ea_)); subst ec_; clear en_))
            have GB44 := Aside0.mk gb44
            have GG44 := Aside0.mk HG44
            clear gb44 gl44 HG44
            obtain ⟨ce44, hcl44, hM44, hcc44, hfr44⟩ := Kd.R_elem HO340.out z59 (x7_2 : Int) p44 q44
            obtain rfl := k59_openM hM44
            have hx44_0 : World.cell? _ ⟨go44, (x7_2 : Int).toNat * 4, none⟩ = some (.int .i64 ((rd_T59 t338 x7_2).f0)) := hcc44 0 _ rfl
            have hx44_1 : World.cell? _ ⟨go44, (x7_2 : Int).toNat * 4 + 1, none⟩ = some (.int .i64 ((rd_T59 t338 x7_2).f1)) := hcc44 1 _ rfl
            have hx44_2 : World.cell? _ ⟨go44, (x7_2 : Int).toNat * 4 + 2, none⟩ = some (.int .i64 ((rd_T59 t338 x7_2).f2)) := hcc44 2 _ rfl
            have hx44_3 : World.cell? _ ⟨go44, (x7_2 : Int).toNat * 4 + 3, none⟩ = some (.int .i64 ((rd_T59 t338 x7_2).f3)) := hcc44 3 _ rfl
            have hf44_0 : World.frozen? _ ⟨go44, (x7_2 : Int).toNat * 4, none⟩ = false := hfr44 0
            have hf44_1 : World.frozen? _ ⟨go44, (x7_2 : Int).toNat * 4 + 1, none⟩ = false := hfr44 1
            have hf44_2 : World.frozen? _ ⟨go44, (x7_2 : Int).toNat * 4 + 2, none⟩ = false := hfr44 2
            have hf44_3 : World.frozen? _ ⟨go44, (x7_2 : Int).toNat * 4 + 3, none⟩ = false := hfr44 3
            clear hcl44 hcc44 hfr44 hM44
            replace p44 := eq_true p44
            replace q44 := eq_true q44
            obtain ⟨ce47, hcl47, hM47, hcc47, hfr47⟩ := Kd.R_elem HO340.out z59 (x7_2 : Int) (of_decide_eq_true zax) (by have h_ : (x7_2 : Int) < ((t338.length : Int) : Int) := of_decide_eq_true zax; first | exact h_ | (have e_ := (Kd.R_reads' HO340.out).1; omega) | simpa using h_)
            obtain rfl := k59_openM hM47
            have HP47 := (Kd.R_seg HO340.out (x7_2 : Int) (of_decide_eq_true zax) (by have h_ : (x7_2 : Int) < ((t338.length : Int) : Int) := of_decide_eq_true zax; first | exact h_ | (have e_ := (Kd.R_reads' HO340.out).1; omega) | simpa using h_) (seg := [.int .i64 ((rd_T59 l0 x7_2).f0), .int .i64 2, .int .i64 (wrap64 (((rd_T59 l0 x7_2).f2) + 1)), .int .i64 (wrap64 (a1 + 10))]) (j := 0) hcl47 hcc47 (show 4 ≤ 4 from by decide) (x' := (⟨(rd_T59 l0 x7_2).f0, 2, wrap64 (((rd_T59 l0 x7_2).f2) + 1), wrap64 (a1 + 10)⟩ : S59)) (k59_mkM _ _ _ (⟨(rd_T59 l0 x7_2).f0, 2, wrap64 (((rd_T59 l0 x7_2).f2) + 1), wrap64 (a1 + 10)⟩ : S59) ) (fun _ hk => hk)).1
            rw [← Ny343.out] at HP47
            have HQ47 := Aside0.mk HP47
            clear hcl47 hcc47 hfr47 hM47 HP47
            refine start_ (n := 18) (S := fun w' => w'.cell? (ad341.add ((x7_2).toNat * 4)) = some (.int .i64 ((rd_T59 l0 x7_2).f0)) ∧ w'.cell? ⟨(ad341.add ((x7_2).toNat * 4)).block, (ad341.add ((x7_2).toNat * 4)).off + 1, none⟩ = some (.int .i64 ((rd_T59 l0 x7_2).f1)) ∧ w'.cell? ⟨(ad341.add ((x7_2).toNat * 4)).block, (ad341.add ((x7_2).toNat * 4)).off + 2, none⟩ = some (.int .i64 ((rd_T59 l0 x7_2).f2)) ∧ w'.cell? ⟨(ad341.add ((x7_2).toNat * 4)).block, (ad341.add ((x7_2).toNat * 4)).off + 3, none⟩ = some (.int .i64 ((rd_T59 l0 x7_2).f3)) ∧ w'.cell? (ad341.add ((x7_2).toNat * 4)) = some (.int .i64 ((rd_T59 l0 x7_2).f0)) ∧ w'.cell? ⟨(ad341.add ((x7_2).toNat * 4)).block, (ad341.add ((x7_2).toNat * 4)).off + 1, none⟩ = some (.int .i64 ((rd_T59 l0 x7_2).f1)) ∧ w'.cell? ⟨(ad341.add ((x7_2).toNat * 4)).block, (ad341.add ((x7_2).toNat * 4)).off + 2, none⟩ = some (.int .i64 ((rd_T59 l0 x7_2).f2)) ∧ w'.cell? ⟨(ad341.add ((x7_2).toNat * 4)).block, (ad341.add ((x7_2).toNat * 4)).off + 3, none⟩ = some (.int .i64 ((rd_T59 l0 x7_2).f3))) (ds := [17]) #[F,F,F,F,F,F,F,F,F,F,F,F,F,F,F,F,F,F] (by kernel_rfl) rfl rfl ⟨((HB.out.cell (World.block_lt_of_cell? w _ hw341_0)).trans hw341_0), ((HB.out.cell (World.block_lt_of_cell? w _ hw341_1)).trans hw341_1), ((HB.out.cell (World.block_lt_of_cell? w _ hw341_2)).trans hw341_2), ((HB.out.cell (World.block_lt_of_cell? w _ hw341_3)).trans hw341_3), ((HB.out.cell (World.block_lt_of_cell? w _ hw342_0)).trans hw342_0), ((HB.out.cell (World.block_lt_of_cell? w _ hw342_1)).trans hw342_1), ((HB.out.cell (World.block_lt_of_cell? w _ hw342_2)).trans hw342_2), ((HB.out.cell (World.block_lt_of_cell? w _ hw342_3)).trans hw342_3)⟩ (fun hHeld => ?_); refine with_tabW impl_SendNext.tab13 impl_SendNext.bits13 (fun HT_ HW_ => ?_)
            generalize w45.drew = w46 at HO340 HB GG44 HQ47 hf44_0 hf44_1 hf44_2 hf44_3 hx341_0 hx341_1 hx341_2 hx341_3 hx342_0 hx342_1 hx342_2 hx342_3 hx44_0 hx44_1 hx44_2 hx44_3 hHeld ⊢
            refine pure_ (i := 0) (N := some 55) (v := ?_) (a' := ?_) #[T,F,F,F,F,F,F,F,F,F,F,F,F,F,F,F,F,F] rfl rfl (any_of HT_.out (by kernel_rfl)) (fun _ _ _ h => h) (Or.inl ⟨by rfl, ?_⟩) ?_ ?_
            rotate_left
            ·exact zwx
            rotate_left
            ·exact zpx
            refine pure_ (i := 1) (N := some 56) (v := ?_) (a' := ?_) #[T,T,F,F,F,F,F,F,F,F,F,F,F,F,F,F,F,F] rfl rfl (any_of HT_.out (by kernel_rfl)) (fun _ _ _ h => h) (Or.inl ⟨by rfl, ?_⟩) ?_ ?_
            rotate_left
            ·exact zwx
            rotate_left
            ·exact zpx
            refine pure_ (i := 2) (N := some 57) (v := ?_) (a' := ?_) #[T,T,T,F,F,F,F,F,F,F,F,F,F,F,F,F,F,F] rfl rfl (any_of HT_.out (by kernel_rfl)) (fun _ _ _ h => h) (Or.inl ⟨by rfl, ?_⟩) ?_ ?_
            rotate_left
            ·exact zwx
            rotate_left
            ·exact zpx
            refine pure_ (i := 3) (N := some 58) (v := ?_) (a' := ?_) #[T,T,T,T,F,F,F,F,F,F,F,F,F,F,F,F,F,F] rfl rfl (any_of HT_.out (by kernel_rfl)) (fun _ _ _ h => h) (Or.inl ⟨by rfl, ?_⟩) ?_ ?_
            rotate_left
            ·exact zwx
            rotate_left
            ·exact zpx
            refine pure_ (i := 4) (N := some 59) (v := ?_) (a' := ?_) #[T,T,T,T,T,F,F,F,F,F,F,F,F,F,F,F,F,F] rfl rfl (any_of HT_.out (by kernel_rfl)) (fun _ _ _ h => h) (Or.inl ⟨by rfl, ?_⟩) ?_ ?_
            rotate_left
            ·exact zwx
            rotate_left
            ·exact zpx
            refine pure_ (i := 5) (N := some 60) (v := ?_) (a' := ?_) #[T,T,T,T,T,T,F,F,F,F,F,F,F,F,F,F,F,F] rfl rfl (any_of HT_.out (by kernel_rfl)) (fun _ _ _ h => h) (Or.inl ⟨by rfl, ?_⟩) ?_ ?_
            rotate_left
            ·exact zwx
            rotate_left
            ·exact zpx
            refine pure_ (i := 7) (N := some 62) (v := ?_) (a' := ?_) #[T,T,T,T,T,T,F,T,F,F,F,F,F,F,F,F,F,F] rfl rfl (any_of HT_.out (by kernel_rfl)) (fun _ _ _ h => h) (Or.inl ⟨by rfl, ?_⟩) ?_ ?_
            rotate_left
            ·exact zwx
            rotate_left
            ·exact zpx
            refine pure_ (i := 8) (N := some 63) (v := ?_) (a' := ?_) #[T,T,T,T,T,T,F,T,T,F,F,F,F,F,F,F,F,F] rfl rfl (any_of HT_.out (by kernel_rfl)) (fun _ _ _ h => h) (Or.inl ⟨by rfl, ?_⟩) ?_ ?_
            rotate_left
            ·exact zwx
            rotate_left
            ·exact zpx
            refine pure_ (i := 9) (N := some 64) (v := ?_) (a' := ?_) #[T,T,T,T,T,T,F,T,T,T,F,F,F,F,F,F,F,F] rfl rfl (any_of HT_.out (by kernel_rfl)) (fun _ _ _ h => h) (Or.inl ⟨by rfl, ?_⟩) ?_ ?_
            rotate_left
            ·exact zwx
            rotate_left
            ·exact zpx
            refine pure_ (i := 10) (N := some 65) (v := ?_) (a' := ?_) #[T,T,T,T,T,T,F,T,T,T,T,F,F,F,F,F,F,F] rfl rfl (any_of HT_.out (by kernel_rfl)) (fun _ _ _ h => h) (Or.inl ⟨by rfl, ?_⟩) ?_ ?_
            rotate_left
            ·exact zwx
            rotate_left
            ·exact zpx
            refine pure_ (i := 13) (N := some 68) (v := ?_) (a' := ?_) #[T,T,T,T,T,T,F,T,T,T,T,F,F,T,F,F,F,F] rfl rfl (any_of HT_.out (by kernel_rfl)) (fun _ _ _ h => h) (Or.inl ⟨by rfl, ?_⟩) ?_ ?_
            rotate_left
            ·exact zwx
            rotate_left
            ·exact zpx
            refine pure_ (i := 14) (N := some 69) (v := ?_) (a' := ?_) #[T,T,T,T,T,T,F,T,T,T,T,F,F,T,T,F,F,F] rfl rfl (any_of HT_.out (by kernel_rfl)) (fun _ _ _ h => h) (Or.inl ⟨by rfl, ?_⟩) ?_ ?_
            rotate_left
            ·exact zwx
            rotate_left
            ·exact zpx
            refine take_ (i := 6) (N := some 61) (v := ?_) (a' := ?_) #[T,T,T,T,T,T,T,T,T,T,T,F,F,T,T,F,F,F] rfl rfl (take_ofW HT_.out HW_.out (by kernel_rfl)) (fun _ _ _ h => h) (Or.inl ⟨by rfl, ?_⟩) hHeld ?_ ?_
            rotate_left
            ·rintro w' ⟨s0, s1, s2, s3, s4, s5, s6, s7⟩
             go_simp
             with_reducible rfl
            rotate_left
            ·exact zpx
            refine take_ (i := 11) (N := some 66) (v := ?_) (a' := ?_) #[T,T,T,T,T,T,T,T,T,T,T,T,F,T,T,F,F,F] rfl rfl (take_ofW HT_.out HW_.out (by kernel_rfl)) (fun _ _ _ h => h) (Or.inl ⟨by rfl, ?_⟩) hHeld ?_ ?_
            rotate_left
            ·rintro w' ⟨s0, s1, s2, s3, s4, s5, s6, s7⟩
             go_simp
             with_reducible rfl
            rotate_left
            ·exact zpx
            refine pure_ (i := 12) (N := some 67) (v := ?_) (a' := ?_) #[T,T,T,T,T,T,T,T,T,T,T,T,T,T,T,F,F,F] rfl rfl (any_of HT_.out (by kernel_rfl)) (fun _ _ _ h => h) (Or.inl ⟨by rfl, ?_⟩) ?_ ?_
            rotate_left
            ·exact zwx
            rotate_left
            ·exact zpx
            refine pure_ (i := 15) (N := some 70) (v := ?_) (a' := ?_) #[T,T,T,T,T,T,T,T,T,T,T,T,T,T,T,T,F,F] rfl rfl (any_of HT_.out (by kernel_rfl)) (fun _ _ _ h => h) (Or.inl ⟨by rfl, ?_⟩) ?_ ?_
            rotate_left
            ·exact zwx
            rotate_left
            ·exact zpx
            refine pure_ (i := 16) (N := some 71) (v := ?_) (a' := ?_) #[T,T,T,T,T,T,T,T,T,T,T,T,T,T,T,T,T,F] rfl rfl (any_of HT_.out (by kernel_rfl)) (fun _ _ _ h => h) (Or.inl ⟨by rfl, ?_⟩) ?_ ?_
            rotate_left
            ·exact zwx
            rotate_left
            ·exact zpx
            refine last_ (i := 17) (N := none) #[T,T,T,T,T,T,T,T,T,T,T,T,T,T,T,T,T,T] rfl rfl (one_of HT_.out (by kernel_rfl)) (by decide) (fun K hK => ?_)
            refine skip_ (w1 := ?_) (by rfl) rfl ?_ ?_
            rotate_left
            ·go_simp
             rfl
            refine hK.out _ _ ?_
            clear hK K
            refine done_ (done_of HT_.out (by kernel_rfl)) ?_
            try go_wp2
            have n0_ : Aside0 (Kd.R k59 59 ((((w46.setCell ⟨go44, (x7_2 : Int).toNat * 4, none⟩ (.int .i64 ((rd_T59 l0 x7_2).f0))).setCell ⟨go44, (x7_2 : Int).toNat * 4 + 1, none⟩ (.int .i64 2)).setCell ⟨go44, (x7_2 : Int).toNat * 4 + 2, none⟩ (.int .i64 (wrap64 (((rd_T59 l0 x7_2).f2) + 1)))).setCell ⟨go44, (x7_2 : Int).toNat * 4 + 3, none⟩ (.int .i64 (wrap64 (a1 + 10)))) w.heap.size (fun _ => True) (.slice (some ⟨go44, 0, none⟩) t338.length co44) y343) := ⟨by (with_reducible repeat (first | apply Kd.R_alloc | apply Kd.R_drewN | apply Kd.R_drew)); exact HQ47.out⟩
            have n1_ : Aside0 (Below w.heap.size w ((((w46.setCell ⟨go44, (x7_2 : Int).toNat * 4, none⟩ (.int .i64 ((rd_T59 l0 x7_2).f0))).setCell ⟨go44, (x7_2 : Int).toNat * 4 + 1, none⟩ (.int .i64 2)).setCell ⟨go44, (x7_2 : Int).toNat * 4 + 2, none⟩ (.int .i64 (wrap64 (((rd_T59 l0 x7_2).f2) + 1)))).setCell ⟨go44, (x7_2 : Int).toNat * 4 + 3, none⟩ (.int .i64 (wrap64 (a1 + 10))))) := ⟨by repeat (first | (with_reducible first | exact HB.out | apply below_alloc | apply pw_below_drewN | apply below_drew1 | refine below_set ?_ GB44.out | refine below_set ?_ GB44.out | refine below_set ?_ GB44.out | refine below_set ?_ GB44.out) | exact HB.out)⟩
            (try clear HO340)
            (try clear HB)
            generalize ((((w46.setCell ⟨go44, (x7_2 : Int).toNat * 4, none⟩ (.int .i64 ((rd_T59 l0 x7_2).f0))).setCell ⟨go44, (x7_2 : Int).toNat * 4 + 1, none⟩ (.int .i64 2)).setCell ⟨go44, (x7_2 : Int).toNat * 4 + 2, none⟩ (.int .i64 (wrap64 (((rd_T59 l0 x7_2).f2) + 1)))).setCell ⟨go44, (x7_2 : Int).toNat * 4 + 3, none⟩ (.int .i64 (wrap64 (a1 + 10)))) = w48 at n0_ n1_ ⊢
            have HO340 := n0_
            have HB := n1_
            clear n0_ n1_
            have n0_ := Aside0.mk (Kd.R_drew HO340.out)
            have n1_ := Aside0.mk (below_drew1 HB.out)
            clear HO340
            clear HB
            have HO340 := n0_
            have HB := n1_
            clear n0_ n1_
            have p344 : 0 ≤ (x7_2 : Int) := of_decide_eq_true zax
            have q344 : x7_2 < (l0.length : Int) := of_decide_eq_true zax
            obtain ⟨ad344, e344, hx344_0, hx344_1, hx344_2, hx344_3⟩ := at_T59 HR0.out x7_2 p344 q344
            have hw344_3 := hx344_3
            have hw344_2 := hx344_2
            have hw344_1 := hx344_1
            have hw344_0 := hx344_0
            obtain rfl : ad341 = ad344 := (by injection e344)
            replace hx344_0 := (HB.out.cell (World.block_lt_of_cell? w _ hx344_0)).trans hx344_0
            replace hx344_1 := (HB.out.cell (World.block_lt_of_cell? w _ hx344_1)).trans hx344_1
            replace hx344_2 := (HB.out.cell (World.block_lt_of_cell? w _ hx344_2)).trans hx344_2
            replace hx344_3 := (HB.out.cell (World.block_lt_of_cell? w _ hx344_3)).trans hx344_3
            replace p344 := eq_true p344
            replace q344 := eq_true q344
            refine start_ (n := 9) (S := fun w' => w'.cell? (ad341.add ((x7_2).toNat * 4)) = some (.int .i64 ((rd_T59 l0 x7_2).f0)) ∧ w'.cell? ⟨(ad341.add ((x7_2).toNat * 4)).block, (ad341.add ((x7_2).toNat * 4)).off + 1, none⟩ = some (.int .i64 ((rd_T59 l0 x7_2).f1)) ∧ w'.cell? ⟨(ad341.add ((x7_2).toNat * 4)).block, (ad341.add ((x7_2).toNat * 4)).off + 2, none⟩ = some (.int .i64 ((rd_T59 l0 x7_2).f2)) ∧ w'.cell? ⟨(ad341.add ((x7_2).toNat * 4)).block, (ad341.add ((x7_2).toNat * 4)).off + 3, none⟩ = some (.int .i64 ((rd_T59 l0 x7_2).f3))) (ds := []) #[F,F,F,F,F,F,F,F,F] (by kernel_rfl) rfl rfl ⟨((HB.out.cell (World.block_lt_of_cell? w _ hw344_0)).trans hw344_0), ((HB.out.cell (World.block_lt_of_cell? w _ hw344_1)).trans hw344_1), ((HB.out.cell (World.block_lt_of_cell? w _ hw344_2)).trans hw344_2), ((HB.out.cell (World.block_lt_of_cell? w _ hw344_3)).trans hw344_3)⟩ (fun hHeld => ?_); refine with_tabW impl_SendNext.tab14 impl_SendNext.bits14 (fun HT_ HW_ => ?_)
            generalize w48.drew = w49 at HO340 HB HQ47 hx344_0 hx344_1 hx344_2 hx344_3 hHeld ⊢
            refine pure_ (i := 0) (N := some 72) (v := ?_) (a' := ?_) #[T,F,F,F,F,F,F,F,F] rfl rfl (any_of HT_.out (by kernel_rfl)) (fun _ _ _ h => h) (Or.inl ⟨by rfl, ?_⟩) ?_ ?_
            rotate_left
            ·exact zwx
            rotate_left
            ·exact zpx
            refine pure_ (i := 1) (N := some 73) (v := ?_) (a' := ?_) #[T,T,F,F,F,F,F,F,F] rfl rfl (any_of HT_.out (by kernel_rfl)) (fun _ _ _ h => h) (Or.inl ⟨by rfl, ?_⟩) ?_ ?_
            rotate_left
            ·exact zwx
            rotate_left
            ·exact zpx
            refine pure_ (i := 2) (N := some 74) (v := ?_) (a' := ?_) #[T,T,T,F,F,F,F,F,F] rfl rfl (any_of HT_.out (by kernel_rfl)) (fun _ _ _ h => h) (Or.inl ⟨by rfl, ?_⟩) ?_ ?_
            rotate_left
            ·exact zwx
            rotate_left
            ·exact zpx
            refine pure_ (i := 3) (N := some 75) (v := ?_) (a' := ?_) #[T,T,T,T,F,F,F,F,F] rfl rfl (any_of HT_.out (by kernel_rfl)) (fun _ _ _ h => h) (Or.inl ⟨by rfl, ?_⟩) ?_ ?_
            rotate_left
            ·exact zwx
            rotate_left
            ·exact zpx
            refine pure_ (i := 4) (N := some 76) (v := ?_) (a' := ?_) #[T,T,T,T,T,F,F,F,F] rfl rfl (any_of HT_.out (by kernel_rfl)) (fun _ _ _ h => h) (Or.inl ⟨by rfl, ?_⟩) ?_ ?_
            rotate_left
            ·exact zwx
            rotate_left
            ·exact zpx
            refine pure_ (i := 6) (N := some 4) (v := ?_) (a' := ?_) #[T,T,T,T,T,F,T,F,F] rfl rfl (any_of HT_.out (by kernel_rfl)) (fun _ _ _ h => h) (Or.inl ⟨by rfl, ?_⟩) ?_ ?_
            rotate_left
            ·exact zwx
            rotate_left
            ·exact zpx
            refine take_ (i := 5) (N := some 77) (v := ?_) (a' := ?_) #[T,T,T,T,T,T,T,F,F] rfl rfl (take_ofW HT_.out HW_.out (by kernel_rfl)) (fun _ _ _ h => h) (Or.inl ⟨by rfl, ?_⟩) hHeld ?_ ?_
            rotate_left
            ·rintro w' ⟨s0, s1, s2, s3⟩
             go_simp
             with_reducible rfl
            rotate_left
            ·exact zpx
            refine pure_ (i := 7) (N := some 5) (v := ?_) (a' := ?_) #[T,T,T,T,T,T,T,T,F] rfl rfl (any_of HT_.out (by kernel_rfl)) (fun _ _ _ h => h) (Or.inl ⟨by rfl, ?_⟩) ?_ ?_
            rotate_left
            ·exact zwx
            rotate_left
            ·exact zpx
            refine pure_ (i := 8) (N := some 6) (v := ?_) (a' := ?_) #[T,T,T,T,T,T,T,T,T] rfl rfl (any_of HT_.out (by kernel_rfl)) (fun _ _ _ h => h) (Or.inl ⟨by rfl, ?_⟩) ?_ ?_
            rotate_left
            ·exact zwx
            rotate_left
            ·exact zpx
            refine done_ (done_of HT_.out (by kernel_rfl)) ?_
            try go_wp2
            go_ret3
            exact ⟨_, by first | rfl | (simp [errW_none, errW_some] <;> rfl) | (simp [*, errW_none, errW_some] <;> rfl), by (with_reducible repeat (first | apply Kd.R_alloc | apply Kd.R_drewN | apply Kd.R_drew)); exact HO340.out, by exact zBx HB.out⟩
          ·rw [if_neg c43] at H
           exact absurd H (by simp)
         ·rw [if_neg c42] at H
          exact absurd H (by simp)
        ·rw [if_neg c41] at H
         exact absurd H (by simp)

end Go.Proofs.Ytkegkbpadhddkaa.XFnDeliveries
