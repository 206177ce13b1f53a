-- written by wip/tools/xprint.py (a program of this project) out of the translation
import Derived.Test.YtkegkbpadhddkaaXFnDeliveriesx0
import Derived.Test.YtkegkbpadhddkaaXFnDeliveriesx3
import Derived.Test.YtkegkbpadhddkaaXFnDeliveriesx4
import Derived.Test.YtkegkbpadhddkaaXFnDeliveriesx5
import Derived.Test.YtkegkbpadhddkaaXFnDeliveriesx6
import Derived.Test.YtkegkbpadhddkaaXFnDeliveriesx8
import Derived.Test.YtkegkbpadhddkaaXFnDeliveriesx9
namespace Go.Proofs.Ytkegkbpadhddkaa.XFnDeliveries
open Go.RowKit Go.Proofs.YtkegkbpadhddkaaW.PrintWords Go.Proofs.YtkegkbpadhddkaaW.PrintLast Go.Proofs.YtkegkbpadhddkaaW.PrintMore
attribute [local go_sem] max2_int min2_int max_two min_two max_three min_three max_four min_four   -- for this text's walks alone
set_option linter.unusedVariables false
set_option linter.unusedSimpArgs false

/-! ### impl_TakeReceipt: function 54 -/
def impl_TakeReceipt.f (k : Nat) (l0 : List (S59)) (a1 : Int) : Option ((List (S59)) × Bool) := (impl_IsValidQueue.f k l0).bind fun t364 => (if t364 = true then ((impl_deliveryAt.f k l0 a1).bind fun t365 => (if t365 < 0 then (some (([] : List (S59)), false)) else (if 0 ≤ t365 then (if t365 < (l0.length : Int) then (if ((rd_T59 l0 t365).f1) = 2 then ((slices_Clone_Delivery.f l0).bind fun t367 => (if t365 < (t367.length : Int) then ((some (t367.set (t365 : Int).toNat (⟨(rd_T59 t367 t365).f0, 3, (rd_T59 t367 t365).f2, (rd_T59 t367 t365).f3⟩ : S59) : List (S59))).bind fun y370 => (some ((y370.set (t365 : Int).toNat (⟨(rd_T59 y370 t365).f0, (rd_T59 y370 t365).f1, (rd_T59 y370 t365).f2, 0⟩ : S59)), true))) else (none))) else (if ((rd_T59 l0 t365).f1) = 3 then ((slices_Clone_Delivery.f l0).bind fun t373 => (if t365 < (t373.length : Int) then ((some (t373.set (t365 : Int).toNat (⟨(rd_T59 t373 t365).f0, 3, (rd_T59 t373 t365).f2, (rd_T59 t373 t365).f3⟩ : S59) : List (S59))).bind fun y376 => (some ((y376.set (t365 : Int).toNat (⟨(rd_T59 y376 t365).f0, (rd_T59 y376 t365).f1, (rd_T59 y376 t365).f2, 0⟩ : S59)), true))) else (none))) else (some (([] : List (S59)), false)))) else (none)) else (none)))) else (some (([] : List (S59)), false)))
theorem impl_TakeReceipt.mono : ∀ a0 a1 k, LeO (impl_TakeReceipt.f k a0 a1) (impl_TakeReceipt.f (k + 1) a0 a1) := by
 intro a0 a1 k
 unfold impl_TakeReceipt.f
 repeat' first
  | (with_reducible exact impl_IsValidQueue.mono _ _)
  | (with_reducible exact impl_deliveryAt.mono _ _ _)
  | (with_reducible exact LeO.refl _)
  | (with_reducible exact LeO.none _)
  | (with_reducible refine LeO.ite ?_ ?_)
  | (with_reducible refine LeO.bind ?_ (fun _ => ?_))
  | exact impl_IsValidQueue.mono _ _
  | exact impl_deliveryAt.mono _ _ _
  | exact LeO.none _
  | refine LeO.ite ?_ ?_
  | refine LeO.bind ?_ (fun _ => ?_)
set_option maxHeartbeats 8000000 in
set_option maxRecDepth 100000 in
theorem impl_TakeReceipt.calls (k : Nat) (A0 : Option Addr) (c0 : Nat) (l0 : List (S59)) (a1 : Int) (r1 : List (S59)) (r2 : Bool) (w : World) (hr0 : Kd.C k59 w A0 l0.length l0) (hc0 : l0.length ≤ c0) (h : impl_TakeReceipt.f k l0 a1 = some (r1, r2)) :
 Calls Try.prog 54 #[.slice A0 l0.length c0, .int .i64 a1] w fun e w' => ∃ v0_ : Value, e = .returned (.tuple #[v0_, .bool r2]) ∧ Kd.R k59 59 w' w.heap.size (fun _ => True) v0_ r1 ∧ Below w.heap.size w w' := by
 have HR0 := Aside0.mk hr0
 have HC0 := Aside0.mk hc0
 clear hr0 hc0
 have HB := Aside0.mk (Below.refl w.heap.size w)
 have H : ((impl_IsValidQueue.f k l0).bind fun t364 => (if t364 = true then ((impl_deliveryAt.f k l0 a1).bind fun t365 => (if t365 < 0 then (some (([] : List (S59)), false)) else (if 0 ≤ t365 then (if t365 < (l0.length : Int) then (if ((rd_T59 l0 t365).f1) = 2 then ((slices_Clone_Delivery.f l0).bind fun t367 => (if t365 < (t367.length : Int) then ((some (t367.set (t365 : Int).toNat (⟨(rd_T59 t367 t365).f0, 3, (rd_T59 t367 t365).f2, (rd_T59 t367 t365).f3⟩ : S59) : List (S59))).bind fun y370 => (some ((y370.set (t365 : Int).toNat (⟨(rd_T59 y370 t365).f0, (rd_T59 y370 t365).f1, (rd_T59 y370 t365).f2, 0⟩ : S59)), true))) else (none))) else (if ((rd_T59 l0 t365).f1) = 3 then ((slices_Clone_Delivery.f l0).bind fun t373 => (if t365 < (t373.length : Int) then ((some (t373.set (t365 : Int).toNat (⟨(rd_T59 t373 t365).f0, 3, (rd_T59 t373 t365).f2, (rd_T59 t373 t365).f3⟩ : S59) : List (S59))).bind fun y376 => (some ((y376.set (t365 : Int).toNat (⟨(rd_T59 y376 t365).f0, (rd_T59 y376 t365).f1, (rd_T59 y376 t365).f2, 0⟩ : S59)), true))) else (none))) else (some (([] : List (S59)), false)))) else (none)) else (none)))) else (some (([] : List (S59)), false)))) = some (r1, r2) := h
 clear h
 replace H := Option.bind_eq_some_iff.mp H
 obtain ⟨t364, A30, H⟩ := H
 replace H : (if t364 = true then ((impl_deliveryAt.f k l0 a1).bind fun t365 => (if t365 < 0 then (some (([] : List (S59)), false)) else (if 0 ≤ t365 then (if t365 < (l0.length : Int) then (if ((rd_T59 l0 t365).f1) = 2 then ((slices_Clone_Delivery.f l0).bind fun t367 => (if t365 < (t367.length : Int) then ((some (t367.set (t365 : Int).toNat (⟨(rd_T59 t367 t365).f0, 3, (rd_T59 t367 t365).f2, (rd_T59 t367 t365).f3⟩ : S59) : List (S59))).bind fun y370 => (some ((y370.set (t365 : Int).toNat (⟨(rd_T59 y370 t365).f0, (rd_T59 y370 t365).f1, (rd_T59 y370 t365).f2, 0⟩ : S59)), true))) else (none))) else (if ((rd_T59 l0 t365).f1) = 3 then ((slices_Clone_Delivery.f l0).bind fun t373 => (if t365 < (t373.length : Int) then ((some (t373.set (t365 : Int).toNat (⟨(rd_T59 t373 t365).f0, 3, (rd_T59 t373 t365).f2, (rd_T59 t373 t365).f3⟩ : S59) : List (S59))).bind fun y376 => (some ((y376.set (t365 : Int).toNat (⟨(rd_T59 y376 t365).f0, (rd_T59 y376 t365).f1, (rd_T59 y376 t365).f2, 0⟩ : S59)), true))) else (none))) else (some (([] : List (S59)), false)))) else (none)) else (none)))) else (some (([] : List (S59)), false))) = some (r1, r2) := H
 have A3 := Aside0.mk A30
 clear A30
 by_cases c4 : t364 = true
 ·subst c4
  have H1 : ((impl_deliveryAt.f k l0 a1).bind fun t365 => (if t365 < 0 then (some (([] : List (S59)), false)) else (if 0 ≤ t365 then (if t365 < (l0.length : Int) then (if ((rd_T59 l0 t365).f1) = 2 then ((slices_Clone_Delivery.f l0).bind fun t367 => (if t365 < (t367.length : Int) then ((some (t367.set (t365 : Int).toNat (⟨(rd_T59 t367 t365).f0, 3, (rd_T59 t367 t365).f2, (rd_T59 t367 t365).f3⟩ : S59) : List (S59))).bind fun y370 => (some ((y370.set (t365 : Int).toNat (⟨(rd_T59 y370 t365).f0, (rd_T59 y370 t365).f1, (rd_T59 y370 t365).f2, 0⟩ : S59)), true))) else (none))) else (if ((rd_T59 l0 t365).f1) = 3 then ((slices_Clone_Delivery.f l0).bind fun t373 => (if t365 < (t373.length : Int) then ((some (t373.set (t365 : Int).toNat (⟨(rd_T59 t373 t365).f0, 3, (rd_T59 t373 t365).f2, (rd_T59 t373 t365).f3⟩ : S59) : List (S59))).bind fun y376 => (some ((y376.set (t365 : Int).toNat (⟨(rd_T59 y376 t365).f0, (rd_T59 y376 t365).f1, (rd_T59 y376 t365).f2, 0⟩ : S59)), true))) else (none))) else (some (([] : List (S59)), false)))) else (none)) else (none)))) = some (r1, r2) := by rw [if_pos rfl] at H; exact H
  clear H
  have H := H1
  clear H1
  replace H := Option.bind_eq_some_iff.mp H
  obtain ⟨t365, A50, H⟩ := H
  replace H : (if t365 < 0 then (some (([] : List (S59)), false)) else (if 0 ≤ t365 then (if t365 < (l0.length : Int) then (if ((rd_T59 l0 t365).f1) = 2 then ((slices_Clone_Delivery.f l0).bind fun t367 => (if t365 < (t367.length : Int) then ((some (t367.set (t365 : Int).toNat (⟨(rd_T59 t367 t365).f0, 3, (rd_T59 t367 t365).f2, (rd_T59 t367 t365).f3⟩ : S59) : List (S59))).bind fun y370 => (some ((y370.set (t365 : Int).toNat (⟨(rd_T59 y370 t365).f0, (rd_T59 y370 t365).f1, (rd_T59 y370 t365).f2, 0⟩ : S59)), true))) else (none))) else (if ((rd_T59 l0 t365).f1) = 3 then ((slices_Clone_Delivery.f l0).bind fun t373 => (if t365 < (t373.length : Int) then ((some (t373.set (t365 : Int).toNat (⟨(rd_T59 t373 t365).f0, 3, (rd_T59 t373 t365).f2, (rd_T59 t373 t365).f3⟩ : S59) : List (S59))).bind fun y376 => (some ((y376.set (t365 : Int).toNat (⟨(rd_T59 y376 t365).f0, (rd_T59 y376 t365).f1, (rd_T59 y376 t365).f2, 0⟩ : S59)), true))) else (none))) else (some (([] : List (S59)), false)))) else (none)) else (none))) = some (r1, r2) := H
  have A5 := Aside0.mk A50
  clear A50
  by_cases c6 : t365 < 0
  ·rw [if_pos c6] at H
   have c6b0 : decide (t365 < 0) = true := decide_eq_true c6
   clear c6
   focus
    simp only [Option.some.injEq, Prod.mk.injEq] at H
    obtain ⟨rfl, rfl⟩ := H
    go_enter Try.func54, Try.ntmps54
    go_wp2_with (first | ((with_reducible refine gate_callee (f := 41) rfl ?_); refine goesL_ (some 9) rfl rfl Try.func41 (by kernel_rfl) rfl #[.slice A0 l0.length c0] rfl zlx ?_; (with_reducible refine (impl_IsValidQueue.calls k _ _ l0 true _ ?side1 ?side2 A3.out).mono ?_); (case side1 => exact zCx HR0.out); (case side2 => exact HC0.out); rintro e w7 ⟨rfl, hb⟩; refine ⟨_, rfl, ?_⟩; have n0_ := Aside0.mk (below_step (zBx HB.out) hb); clear HB; have HB := n0_; clear n0_; (try clear hb); (try clear hb2); (try clear hk); (try clear hi)) | ((with_reducible refine gate_callee (f := 89) rfl ?_); refine goesL_ (some 13) rfl rfl Try.func89 (by kernel_rfl) rfl #[.slice A0 l0.length c0, .int .i64 a1] rfl zlx ?_; (with_reducible refine (impl_deliveryAt.calls k _ _ l0 a1 t365 _ ?side1 ?side2 A5.out).mono ?_); (case side1 => repeat (first | exact (Kd.C_below HR0.out HB.out) | (with_reducible refine Kd.C_alloc ?_ _) | (with_reducible refine Kd.C_drewN ?_ _) | (with_reducible refine Kd.C_drew ?_))); (case side2 => exact HC0.out); rintro e w8 ⟨rfl, hb⟩; refine ⟨_, rfl, ?_⟩; have n0_ := Aside0.mk (below_step (zBx HB.out) hb); clear HB; have HB := n0_; clear n0_; (try clear hb); (try clear hb2); (try clear hk); (try clear hi)))
    go_ret2
    exact ⟨_, by first | rfl | (simp [errW_none, errW_some] <;> rfl) | (simp [*, errW_none, errW_some] <;> rfl), by first | exact Kd.R_nil _ _ _ _ _ | exact Kd.N_nil _ _ _ _ _ | exact Kd.V_nil _ _ _ _ _ | exact Kd.Q_nil _ _ _ _ _ | exact Kd.S_nil _ _ _ _ _, by exact zBx HB.out⟩
  ·rw [if_neg c6] at H
   have c6b0 : decide (t365 < 0) = false := decide_eq_false c6
   clear c6
   by_cases c9 : 0 ≤ t365
   ·rw [if_pos c9] at H
    have c9b0 : decide (0 ≤ t365) = true := decide_eq_true c9
    clear c9
    by_cases c10 : t365 < (l0.length : Int)
    ·rw [if_pos c10] at H
     have c10b0 : decide (t365 < (l0.length : Int)) = true := decide_eq_true c10
     clear c10
     by_cases c11 : ((rd_T59 l0 t365).f1) = 2
     ·rw [if_pos c11] at H
      have c11b0 : (((rd_T59 l0 t365).f1) == 2) = true := beq_iff_eq.mpr c11
      have c11b1 : (((rd_T59 l0 t365).f1) != 2) = false := bne_eq_false_iff_eq.mpr c11
      clear c11
      replace H := Option.bind_eq_some_iff.mp H
      obtain ⟨t367, A120, H⟩ := H
      replace H : (if t365 < (t367.length : Int) then ((some (t367.set (t365 : Int).toNat (⟨(rd_T59 t367 t365).f0, 3, (rd_T59 t367 t365).f2, (rd_T59 t367 t365).f3⟩ : S59) : List (S59))).bind fun y370 => (some ((y370.set (t365 : Int).toNat (⟨(rd_T59 y370 t365).f0, (rd_T59 y370 t365).f1, (rd_T59 y370 t365).f2, 0⟩ : S59)), true))) else (none)) = some (r1, r2) := H
      have A12 := Aside0.mk A120
      clear A120
      by_cases c13 : t365 < (t367.length : Int)
      ·rw [if_pos c13] at H
       have c13b0 : decide (t365 < (t367.length : Int)) = true := decide_eq_true c13
       clear c13
       obtain ⟨y370, hy370⟩ : ∃ y_ : List (S59), y_ = (t367.set (t365 : Int).toNat (⟨(rd_T59 t367 t365).f0, 3, (rd_T59 t367 t365).f2, (rd_T59 t367 t365).f3⟩ : S59)) := ⟨_, rfl⟩
       replace H : (some ((y370.set (t365 : Int).toNat (⟨(rd_T59 y370 t365).f0, (rd_T59 y370 t365).f1, (rd_T59 y370 t365).f2, 0⟩ : S59)), true)) = some (r1, r2) := by first | (rw [hy370]; with_reducible exact H) | (have H2_ := (Option.bind_some _ _).symm.trans H; rw [hy370]; with_reducible exact H2_) | (have H2_ := (Option.bind_some _ _).symm.trans H; with_reducible exact H2_) | with_reducible exact H | (rw [hy370]; exact H) | exact H
       have Ny370 := Aside0.mk hy370
       clear hy370
       obtain ⟨y371, hy371⟩ : ∃ y_ : List (S59), y_ = (y370.set (t365 : Int).toNat (⟨(rd_T59 y370 t365).f0, (rd_T59 y370 t365).f1, (rd_T59 y370 t365).f2, 0⟩ : S59)) := ⟨_, rfl⟩
       replace H : (some (y371, true)) = some (r1, r2) := by first | (rw [hy371]; with_reducible exact H) | (have H2_ := (Option.bind_some _ _).symm.trans H; rw [hy371]; with_reducible exact H2_) | (have H2_ := (Option.bind_some _ _).symm.trans H; with_reducible exact H2_) | with_reducible exact H | (rw [hy371]; exact H) | exact H
       have Ny371 := Aside0.mk hy371
       clear hy371
       focus
        simp only [Option.some.injEq, Prod.mk.injEq] at H
        obtain ⟨rfl, rfl⟩ := H
        go_enter Try.func54, Try.ntmps54
        go_wp2_with (first | ((with_reducible refine gate_callee (f := 41) rfl ?_); refine goesL_ (some 9) rfl rfl Try.func41 (by kernel_rfl) rfl #[.slice A0 l0.length c0] rfl zlx ?_; (with_reducible refine (impl_IsValidQueue.calls k _ _ l0 true _ ?side1 ?side2 A3.out).mono ?_); (case side1 => exact zCx HR0.out); (case side2 => exact HC0.out); rintro e w16 ⟨rfl, hb⟩; refine ⟨_, rfl, ?_⟩; have n0_ := Aside0.mk (below_step (zBx HB.out) hb); clear HB; have HB := n0_; clear n0_; (try clear hb); (try clear hb2); (try clear hk); (try clear hi)) | ((with_reducible refine gate_callee (f := 89) rfl ?_); refine goesL_ (some 13) rfl rfl Try.func89 (by kernel_rfl) rfl #[.slice A0 l0.length c0, .int .i64 a1] rfl zlx ?_; (with_reducible refine (impl_deliveryAt.calls k _ _ l0 a1 t365 _ ?side1 ?side2 A5.out).mono ?_); (case side1 => repeat (first | exact (Kd.C_below HR0.out HB.out) | (with_reducible refine Kd.C_alloc ?_ _) | (with_reducible refine Kd.C_drewN ?_ _) | (with_reducible refine Kd.C_drew ?_))); (case side2 => exact HC0.out); rintro e w17 ⟨rfl, hb⟩; refine ⟨_, rfl, ?_⟩; have n0_ := Aside0.mk (below_step (zBx HB.out) hb); clear HB; have HB := n0_; clear n0_; (try clear hb); (try clear hb2); (try clear hk); (try clear hi); have p366 : 0 ≤ (t365 : Int) := of_decide_eq_true zax; have q366 : t365 < (l0.length : Int) := of_decide_eq_true zax; obtain ⟨ad366, e366, hx366_0, hx366_1, hx366_2, hx366_3⟩ := at_T59 HR0.out t365 p366 q366; cases e366; replace hx366_0 := (HB.out.cell (World.block_lt_of_cell? w _ hx366_0)).trans hx366_0; replace hx366_1 := (HB.out.cell (World.block_lt_of_cell? w _ hx366_1)).trans hx366_1; replace hx366_2 := (HB.out.cell (World.block_lt_of_cell? w _ hx366_2)).trans hx366_2; replace hx366_3 := (HB.out.cell (World.block_lt_of_cell? w _ hx366_3)).trans hx366_3; replace p366 := eq_true p366; replace q366 := eq_true q366) | ((with_reducible refine gate_callee (f := 78) rfl ?_); refine goesL_ (some 33) rfl rfl Try.func78 (by kernel_rfl) rfl #[.slice (some ad366) l0.length c0] rfl zlx ?_; (with_reducible refine (slices_Clone_Delivery.calls _ _ l0 t367 _ ?side1 ?side2 A12.out).mono ?_); (case side1 => repeat (first | exact (Kd.C_below HR0.out HB.out) | (with_reducible refine Kd.C_alloc ?_ _) | (with_reducible refine Kd.C_drewN ?_ _) | (with_reducible refine Kd.C_drew ?_))); (case side2 => exact HC0.out); rintro e w18 ⟨v368, rfl, ho0, hb⟩; refine ⟨_, rfl, ?_⟩; have n0_ := Aside0.mk (Kd.R_lower ho0 (below_size (zBx HB.out))); have n1_ := Aside0.mk (below_step (zBx HB.out) hb); clear HB; have HO369 := n0_; have HB := n1_; clear n0_ n1_; (try clear hb); (try clear hb2); (try clear hk); (try clear hi); (try clear ho0); have p14 : 0 ≤ (t365 : Int) := of_decide_eq_true zax; have q14 : (t365 : Int) < ((t367.length : Int) : Int) := of_decide_eq_true zax; obtain ⟨go14, co14, eo14, gb14, gl14, cl14, HG14⟩ := Kd.R_form HO369.out (by omega); (first | cases eo14 | (injection eo14 with ea_ en_ ec_; (first | subst ea_ | (injection ea_ with ea_; subst ea_)); subst ec_; clear en_)); have GB14 := Aside0.mk gb14; have GG14 := Aside0.mk HG14; clear gb14 gl14 HG14; obtain ⟨ce14, hcl14, hM14, hcc14, hfr14⟩ := Kd.R_elem HO369.out z59 (t365 : Int) p14 q14; obtain rfl := k59_openM hM14; have hx14_0 : w18.cell? ⟨go14, (t365 : Int).toNat * 4, none⟩ = some (.int .i64 ((rd_T59 t367 t365).f0)) := hcc14 0 _ rfl; have hx14_1 : w18.cell? ⟨go14, (t365 : Int).toNat * 4 + 1, none⟩ = some (.int .i64 ((rd_T59 t367 t365).f1)) := hcc14 1 _ rfl; have hx14_2 : w18.cell? ⟨go14, (t365 : Int).toNat * 4 + 2, none⟩ = some (.int .i64 ((rd_T59 t367 t365).f2)) := hcc14 2 _ rfl; have hx14_3 : w18.cell? ⟨go14, (t365 : Int).toNat * 4 + 3, none⟩ = some (.int .i64 ((rd_T59 t367 t365).f3)) := hcc14 3 _ rfl; have hf14_0 : w18.frozen? ⟨go14, (t365 : Int).toNat * 4, none⟩ = false := hfr14 0; have hf14_1 : w18.frozen? ⟨go14, (t365 : Int).toNat * 4 + 1, none⟩ = false := hfr14 1; have hf14_2 : w18.frozen? ⟨go14, (t365 : Int).toNat * 4 + 2, none⟩ = false := hfr14 2; have hf14_3 : w18.frozen? ⟨go14, (t365 : Int).toNat * 4 + 3, none⟩ = false := hfr14 3; clear hcl14 hcc14 hfr14 hM14; replace p14 := eq_true p14; replace q14 := eq_true q14; have HX19 := Aside0.mk (show Kd.R k59 59 w18 w.heap.size (fun _ => True) (.slice (some ⟨go14, 0, none⟩) t367.length co14) t367 from (zRx HO369.out)); obtain ⟨ce19, hcl19, hM19, hcc19, hfr19⟩ := Kd.R_elem HX19.out z59 (t365 : Int) (of_decide_eq_true zax) (by have h_ : (t365 : Int) < ((t367.length : Int) : Int) := of_decide_eq_true zax; first | exact h_ | (have e_ := (Kd.R_reads' HO369.out).1; omega) | simpa using h_); obtain rfl := k59_openM hM19; have HP19 := Kd.R_seg HX19.out (t365 : Int) (of_decide_eq_true zax) (by have h_ : (t365 : Int) < ((t367.length : Int) : Int) := of_decide_eq_true zax; first | exact h_ | (have e_ := (Kd.R_reads' HO369.out).1; omega) | simpa using h_) (seg := [.int .i64 3]) (j := 1) hcl19 hcc19 (show 2 ≤ 4 from by decide) (x' := (⟨(rd_T59 t367 t365).f0, 3, (rd_T59 t367 t365).f2, (rd_T59 t367 t365).f3⟩ : S59)) (k59_mkM _ _ _ (⟨(rd_T59 t367 t365).f0, 3, (rd_T59 t367 t365).f2, (rd_T59 t367 t365).f3⟩ : S59) ) (fun _ hk => hk); have hx19_1 := hcc19 1 _ rfl; (try simp only [show (k59).sz = 4 from rfl, Nat.mul_one, Nat.add_zero] at hx19_1); have hf19_1 := hfr19 1; (try simp only [show (k59).sz = 4 from rfl, Nat.mul_one, Nat.add_zero] at hf19_1); clear hcl19 hcc19 hfr19 hM19) | ((with_reducible refine gate_store (t := 3) (p := 39) rfl ?_); refine store_event (t := 3) (p := 39) (v := ?vo_w20) (w1 := (w18.setCell ⟨go14, (t365 : Int).toNat * 4 + 1, none⟩ (.int .i64 3))) ?hg ?ho ?hn ?hr ?_; (case ho => rfl); (case hg => rfl); (case hn => rfl); (case hr => exact zsx); intro w20 hw; have hg : w18.grownBy w20 (some go14) := (by rw [hw]; exact HP19.2); have hp_ : Kd.R k59 59 w20 w.heap.size (fun _ => True) (.slice (some ⟨go14, 0, none⟩) t367.length co14) y370 := (by rw [hw, Ny370.out]; exact HP19.1); clear HP19; have n0_ := Aside0.mk (hp_); have n1_ := Aside0.mk ((by rw [hw]; exact below_set (HB.out) GB14.out : Below w.heap.size w w20)); clear HO369; clear HB; have HO369 := n0_; have HB := n1_; clear n0_ n1_; clear hg hw hp_; have p15 : 0 ≤ (t365 : Int) := of_decide_eq_true zax; have q15 : (t365 : Int) < ((t367.length : Int) : Int) := of_decide_eq_true zax; obtain ⟨ce15, hcl15, hM15, hcc15, hfr15⟩ := Kd.R_elem HO369.out z59 (t365 : Int) p15 q15; obtain rfl := k59_openM hM15; have hx15_0 : w20.cell? ⟨go14, (t365 : Int).toNat * 4, none⟩ = some (.int .i64 ((rd_T59 y370 t365).f0)) := hcc15 0 _ rfl; have hx15_1 : w20.cell? ⟨go14, (t365 : Int).toNat * 4 + 1, none⟩ = some (.int .i64 ((rd_T59 y370 t365).f1)) := hcc15 1 _ rfl; have hx15_2 : w20.cell? ⟨go14, (t365 : Int).toNat * 4 + 2, none⟩ = some (.int .i64 ((rd_T59 y370 t365).f2)) := hcc15 2 _ rfl; have hx15_3 : w20.cell? ⟨go14, (t365 : Int).toNat * 4 + 3, none⟩ = some (.int .i64 ((rd_T59 y370 t365).f3)) := hcc15 3 _ rfl; have hf15_0 : w20.frozen? ⟨go14, (t365 : Int).toNat * 4, none⟩ = false := hfr15 0; have hf15_1 : w20.frozen? ⟨go14, (t365 : Int).toNat * 4 + 1, none⟩ = false := hfr15 1; have hf15_2 : w20.frozen? ⟨go14, (t365 : Int).toNat * 4 + 2, none⟩ = false := hfr15 2; have hf15_3 : w20.frozen? ⟨go14, (t365 : Int).toNat * 4 + 3, none⟩ = false := hfr15 3; clear hcl15 hcc15 hfr15 hM15; replace p15 := eq_true p15; replace q15 := eq_true q15; have HX21 := Aside0.mk (show Kd.R k59 59 w20 w.heap.size (fun _ => True) (.slice (some ⟨go14, 0, none⟩) t367.length co14) y370 from (zRx HO369.out)); obtain ⟨ce21, hcl21, hM21, hcc21, hfr21⟩ := Kd.R_elem HX21.out z59 (t365 : Int) (of_decide_eq_true zax) (by have h_ : (t365 : Int) < ((t367.length : Int) : Int) := of_decide_eq_true zax; first | exact h_ | (have e_ := (Kd.R_reads' HO369.out).1; omega) | simpa using h_); obtain rfl := k59_openM hM21; have HP21 := Kd.R_seg HX21.out (t365 : Int) (of_decide_eq_true zax) (by have h_ : (t365 : Int) < ((t367.length : Int) : Int) := of_decide_eq_true zax; first | exact h_ | (have e_ := (Kd.R_reads' HO369.out).1; omega) | simpa using h_) (seg := [.int .i64 0]) (j := 3) hcl21 hcc21 (show 4 ≤ 4 from by decide) (x' := (⟨(rd_T59 y370 t365).f0, (rd_T59 y370 t365).f1, (rd_T59 y370 t365).f2, 0⟩ : S59)) (k59_mkM _ _ _ (⟨(rd_T59 y370 t365).f0, (rd_T59 y370 t365).f1, (rd_T59 y370 t365).f2, 0⟩ : S59) ) (fun _ hk => hk); have hx21_3 := hcc21 3 _ rfl; (try simp only [show (k59).sz = 4 from rfl, Nat.mul_one, Nat.add_zero] at hx21_3); have hf21_3 := hfr21 3; (try simp only [show (k59).sz = 4 from rfl, Nat.mul_one, Nat.add_zero] at hf21_3); clear hcl21 hcc21 hfr21 hM21) | ((with_reducible refine gate_store (t := 3) (p := 41) rfl ?_); refine store_event (t := 3) (p := 41) (v := ?vo_w22) (w1 := (w20.setCell ⟨go14, (t365 : Int).toNat * 4 + 3, none⟩ (.int .i64 0))) ?hg ?ho ?hn ?hr ?_; (case ho => rfl); (case hg => rfl); (case hn => rfl); (case hr => exact zsx); intro w22 hw; have hg : w20.grownBy w22 (some go14) := (by rw [hw]; exact HP21.2); have hp_ : Kd.R k59 59 w22 w.heap.size (fun _ => True) (.slice (some ⟨go14, 0, none⟩) t367.length co14) y371 := (by rw [hw, Ny371.out]; exact HP21.1); clear HP21; have n0_ := Aside0.mk (hp_); have n1_ := Aside0.mk ((by rw [hw]; exact below_set (HB.out) GB14.out : Below w.heap.size w w22)); clear HO369; clear HB; have HO369 := n0_; have HB := n1_; clear n0_ n1_; clear hg hw hp_))
        go_ret2
        exact ⟨_, by first | rfl | (simp [errW_none, errW_some] <;> rfl) | (simp [*, errW_none, errW_some] <;> rfl), by (with_reducible repeat (first | apply Kd.R_alloc | apply Kd.R_drewN | apply Kd.R_drew)); exact HO369.out, by exact zBx HB.out⟩
      ·rw [if_neg c13] at H
       exact absurd H (by simp)
     ·rw [if_neg c11] at H
      have c11b0 : (((rd_T59 l0 t365).f1) == 2) = false := beq_eq_false_iff_ne.mpr c11
      have c11b1 : (((rd_T59 l0 t365).f1) != 2) = true := bne_iff_ne.mpr c11
      by_cases c23 : ((rd_T59 l0 t365).f1) = 3
      ·rw [if_pos c23] at H
       have c23b0 : (((rd_T59 l0 t365).f1) == 3) = true := beq_iff_eq.mpr c23
       have c23b1 : (((rd_T59 l0 t365).f1) != 3) = false := bne_eq_false_iff_eq.mpr c23
       clear c23
       replace H := Option.bind_eq_some_iff.mp H
       obtain ⟨t373, A240, H⟩ := H
       replace H : (if t365 < (t373.length : Int) then ((some (t373.set (t365 : Int).toNat (⟨(rd_T59 t373 t365).f0, 3, (rd_T59 t373 t365).f2, (rd_T59 t373 t365).f3⟩ : S59) : List (S59))).bind fun y376 => (some ((y376.set (t365 : Int).toNat (⟨(rd_T59 y376 t365).f0, (rd_T59 y376 t365).f1, (rd_T59 y376 t365).f2, 0⟩ : S59)), true))) else (none)) = some (r1, r2) := H
       have A24 := Aside0.mk A240
       clear A240
       by_cases c25 : t365 < (t373.length : Int)
       ·rw [if_pos c25] at H
        have c25b0 : decide (t365 < (t373.length : Int)) = true := decide_eq_true c25
        clear c25
        obtain ⟨y376, hy376⟩ : ∃ y_ : List (S59), y_ = (t373.set (t365 : Int).toNat (⟨(rd_T59 t373 t365).f0, 3, (rd_T59 t373 t365).f2, (rd_T59 t373 t365).f3⟩ : S59)) := ⟨_, rfl⟩
        replace H : (some ((y376.set (t365 : Int).toNat (⟨(rd_T59 y376 t365).f0, (rd_T59 y376 t365).f1, (rd_T59 y376 t365).f2, 0⟩ : S59)), true)) = some (r1, r2) := by first | (rw [hy376]; with_reducible exact H) | (have H2_ := (Option.bind_some _ _).symm.trans H; rw [hy376]; with_reducible exact H2_) | (have H2_ := (Option.bind_some _ _).symm.trans H; with_reducible exact H2_) | with_reducible exact H | (rw [hy376]; exact H) | exact H
        have Ny376 := Aside0.mk hy376
        clear hy376
        obtain ⟨y377, hy377⟩ : ∃ y_ : List (S59), y_ = (y376.set (t365 : Int).toNat (⟨(rd_T59 y376 t365).f0, (rd_T59 y376 t365).f1, (rd_T59 y376 t365).f2, 0⟩ : S59)) := ⟨_, rfl⟩
        replace H : (some (y377, true)) = some (r1, r2) := by first | (rw [hy377]; with_reducible exact H) | (have H2_ := (Option.bind_some _ _).symm.trans H; rw [hy377]; with_reducible exact H2_) | (have H2_ := (Option.bind_some _ _).symm.trans H; with_reducible exact H2_) | with_reducible exact H | (rw [hy377]; exact H) | exact H
        have Ny377 := Aside0.mk hy377
        clear hy377
        focus
         simp only [Option.some.injEq, Prod.mk.injEq] at H
         obtain ⟨rfl, rfl⟩ := H
         go_enter Try.func54, Try.ntmps54
         go_wp2_with (first | ((with_reducible refine gate_callee (f := 41) rfl ?_); refine goesL_ (some 9) rfl rfl Try.func41 (by kernel_rfl) rfl #[.slice A0 l0.length c0] rfl zlx ?_; (with_reducible refine (impl_IsValidQueue.calls k _ _ l0 true _ ?side1 ?side2 A3.out).mono ?_); (case side1 => exact zCx HR0.out); (case side2 => exact HC0.out); rintro e w28 ⟨rfl, hb⟩; refine ⟨_, rfl, ?_⟩; have n0_ := Aside0.mk (below_step (zBx HB.out) hb); clear HB; have HB := n0_; clear n0_; (try clear hb); (try clear hb2); (try clear hk); (try clear hi)) | ((with_reducible refine gate_callee (f := 89) rfl ?_); refine goesL_ (some 13) rfl rfl Try.func89 (by kernel_rfl) rfl #[.slice A0 l0.length c0, .int .i64 a1] rfl zlx ?_; (with_reducible refine (impl_deliveryAt.calls k _ _ l0 a1 t365 _ ?side1 ?side2 A5.out).mono ?_); (case side1 => repeat (first | exact (Kd.C_below HR0.out HB.out) | (with_reducible refine Kd.C_alloc ?_ _) | (with_reducible refine Kd.C_drewN ?_ _) | (with_reducible refine Kd.C_drew ?_))); (case side2 => exact HC0.out); rintro e w29 ⟨rfl, hb⟩; refine ⟨_, rfl, ?_⟩; have n0_ := Aside0.mk (below_step (zBx HB.out) hb); clear HB; have HB := n0_; clear n0_; (try clear hb); (try clear hb2); (try clear hk); (try clear hi); have p366 : 0 ≤ (t365 : Int) := of_decide_eq_true zax; have q366 : t365 < (l0.length : Int) := of_decide_eq_true zax; obtain ⟨ad366, e366, hx366_0, hx366_1, hx366_2, hx366_3⟩ := at_T59 HR0.out t365 p366 q366; cases e366; replace hx366_0 := (HB.out.cell (World.block_lt_of_cell? w _ hx366_0)).trans hx366_0; replace hx366_1 := (HB.out.cell (World.block_lt_of_cell? w _ hx366_1)).trans hx366_1; replace hx366_2 := (HB.out.cell (World.block_lt_of_cell? w _ hx366_2)).trans hx366_2; replace hx366_3 := (HB.out.cell (World.block_lt_of_cell? w _ hx366_3)).trans hx366_3; replace p366 := eq_true p366; replace q366 := eq_true q366; have p372 : 0 ≤ (t365 : Int) := of_decide_eq_true zax; have q372 : t365 < (l0.length : Int) := of_decide_eq_true zax; obtain ⟨ad372, e372, hx372_0, hx372_1, hx372_2, hx372_3⟩ := at_T59 HR0.out t365 p372 q372; obtain rfl : ad366 = ad372 := (by injection e372); replace hx372_0 := (HB.out.cell (World.block_lt_of_cell? w _ hx372_0)).trans hx372_0; replace hx372_1 := (HB.out.cell (World.block_lt_of_cell? w _ hx372_1)).trans hx372_1; replace hx372_2 := (HB.out.cell (World.block_lt_of_cell? w _ hx372_2)).trans hx372_2; replace hx372_3 := (HB.out.cell (World.block_lt_of_cell? w _ hx372_3)).trans hx372_3; replace p372 := eq_true p372; replace q372 := eq_true q372) | ((with_reducible refine gate_callee (f := 78) rfl ?_); refine goesL_ (some 33) rfl rfl Try.func78 (by kernel_rfl) rfl #[.slice (some ad366) l0.length c0] rfl zlx ?_; (with_reducible refine (slices_Clone_Delivery.calls _ _ l0 t373 _ ?side1 ?side2 A24.out).mono ?_); (case side1 => repeat (first | exact (Kd.C_below HR0.out HB.out) | (with_reducible refine Kd.C_alloc ?_ _) | (with_reducible refine Kd.C_drewN ?_ _) | (with_reducible refine Kd.C_drew ?_))); (case side2 => exact HC0.out); rintro e w30 ⟨v374, rfl, ho0, hb⟩; refine ⟨_, rfl, ?_⟩; have n0_ := Aside0.mk (Kd.R_lower ho0 (below_size (zBx HB.out))); have n1_ := Aside0.mk (below_step (zBx HB.out) hb); clear HB; have HO375 := n0_; have HB := n1_; clear n0_ n1_; (try clear hb); (try clear hb2); (try clear hk); (try clear hi); (try clear ho0); have p26 : 0 ≤ (t365 : Int) := of_decide_eq_true zax; have q26 : (t365 : Int) < ((t373.length : Int) : Int) := of_decide_eq_true zax; obtain ⟨go26, co26, eo26, gb26, gl26, cl26, HG26⟩ := Kd.R_form HO375.out (by omega); (first | cases eo26 | (injection eo26 with ea_ en_ ec_; (first | subst ea_ | (injection ea_ with ea_; subst ea_)); subst ec_; clear en_)); have GB26 := Aside0.mk gb26; have GG26 := Aside0.mk HG26; clear gb26 gl26 HG26; obtain ⟨ce26, hcl26, hM26, hcc26, hfr26⟩ := Kd.R_elem HO375.out z59 (t365 : Int) p26 q26; obtain rfl := k59_openM hM26; have hx26_0 : w30.cell? ⟨go26, (t365 : Int).toNat * 4, none⟩ = some (.int .i64 ((rd_T59 t373 t365).f0)) := hcc26 0 _ rfl; have hx26_1 : w30.cell? ⟨go26, (t365 : Int).toNat * 4 + 1, none⟩ = some (.int .i64 ((rd_T59 t373 t365).f1)) := hcc26 1 _ rfl; have hx26_2 : w30.cell? ⟨go26, (t365 : Int).toNat * 4 + 2, none⟩ = some (.int .i64 ((rd_T59 t373 t365).f2)) := hcc26 2 _ rfl; have hx26_3 : w30.cell? ⟨go26, (t365 : Int).toNat * 4 + 3, none⟩ = some (.int .i64 ((rd_T59 t373 t365).f3)) := hcc26 3 _ rfl; have hf26_0 : w30.frozen? ⟨go26, (t365 : Int).toNat * 4, none⟩ = false := hfr26 0; have hf26_1 : w30.frozen? ⟨go26, (t365 : Int).toNat * 4 + 1, none⟩ = false := hfr26 1; have hf26_2 : w30.frozen? ⟨go26, (t365 : Int).toNat * 4 + 2, none⟩ = false := hfr26 2; have hf26_3 : w30.frozen? ⟨go26, (t365 : Int).toNat * 4 + 3, none⟩ = false := hfr26 3; clear hcl26 hcc26 hfr26 hM26; replace p26 := eq_true p26; replace q26 := eq_true q26; have HX31 := Aside0.mk (show Kd.R k59 59 w30 w.heap.size (fun _ => True) (.slice (some ⟨go26, 0, none⟩) t373.length co26) t373 from (zRx HO375.out)); obtain ⟨ce31, hcl31, hM31, hcc31, hfr31⟩ := Kd.R_elem HX31.out z59 (t365 : Int) (of_decide_eq_true zax) (by have h_ : (t365 : Int) < ((t373.length : Int) : Int) := of_decide_eq_true zax; first | exact h_ | (have e_ := (Kd.R_reads' HO375.out).1; omega) | simpa using h_); obtain rfl := k59_openM hM31; have HP31 := Kd.R_seg HX31.out (t365 : Int) (of_decide_eq_true zax) (by have h_ : (t365 : Int) < ((t373.length : Int) : Int) := of_decide_eq_true zax; first | exact h_ | (have e_ := (Kd.R_reads' HO375.out).1; omega) | simpa using h_) (seg := [.int .i64 3]) (j := 1) hcl31 hcc31 (show 2 ≤ 4 from by decide) (x' := (⟨(rd_T59 t373 t365).f0, 3, (rd_T59 t373 t365).f2, (rd_T59 t373 t365).f3⟩ : S59)) (k59_mkM _ _ _ (⟨(rd_T59 t373 t365).f0, 3, (rd_T59 t373 t365).f2, (rd_T59 t373 t365).f3⟩ : S59) ) (fun _ hk => hk); have hx31_1 := hcc31 1 _ rfl; (try simp only [show (k59).sz = 4 from rfl, Nat.mul_one, Nat.add_zero] at hx31_1); have hf31_1 := hfr31 1; (try simp only [show (k59).sz = 4 from rfl, Nat.mul_one, Nat.add_zero] at hf31_1); clear hcl31 hcc31 hfr31 hM31) | ((with_reducible refine gate_store (t := 3) (p := 39) rfl ?_); refine store_event (t := 3) (p := 39) (v := ?vo_w32) (w1 := (w30.setCell ⟨go26, (t365 : Int).toNat * 4 + 1, none⟩ (.int .i64 3))) ?hg ?ho ?hn ?hr ?_; (case ho => rfl); (case hg => rfl); (case hn => rfl); (case hr => exact zsx); intro w32 hw; have hg : w30.grownBy w32 (some go26) := (by rw [hw]; exact HP31.2); have hp_ : Kd.R k59 59 w32 w.heap.size (fun _ => True) (.slice (some ⟨go26, 0, none⟩) t373.length co26) y376 := (by rw [hw, Ny376.out]; exact HP31.1); clear HP31; have n0_ := Aside0.mk (hp_); have n1_ := Aside0.mk ((by rw [hw]; exact below_set (HB.out) GB26.out : Below w.heap.size w w32)); clear HO375; clear HB; have HO375 := n0_; have HB := n1_; clear n0_ n1_; clear hg hw hp_; have p27 : 0 ≤ (t365 : Int) := of_decide_eq_true zax; have q27 : (t365 : Int) < ((t373.length : Int) : Int) := of_decide_eq_true zax; obtain ⟨ce27, hcl27, hM27, hcc27, hfr27⟩ := Kd.R_elem HO375.out z59 (t365 : Int) p27 q27; obtain rfl := k59_openM hM27; have hx27_0 : w32.cell? ⟨go26, (t365 : Int).toNat * 4, none⟩ = some (.int .i64 ((rd_T59 y376 t365).f0)) := hcc27 0 _ rfl; have hx27_1 : w32.cell? ⟨go26, (t365 : Int).toNat * 4 + 1, none⟩ = some (.int .i64 ((rd_T59 y376 t365).f1)) := hcc27 1 _ rfl; have hx27_2 : w32.cell? ⟨go26, (t365 : Int).toNat * 4 + 2, none⟩ = some (.int .i64 ((rd_T59 y376 t365).f2)) := hcc27 2 _ rfl; have hx27_3 : w32.cell? ⟨go26, (t365 : Int).toNat * 4 + 3, none⟩ = some (.int .i64 ((rd_T59 y376 t365).f3)) := hcc27 3 _ rfl; have hf27_0 : w32.frozen? ⟨go26, (t365 : Int).toNat * 4, none⟩ = false := hfr27 0; have hf27_1 : w32.frozen? ⟨go26, (t365 : Int).toNat * 4 + 1, none⟩ = false := hfr27 1; have hf27_2 : w32.frozen? ⟨go26, (t365 : Int).toNat * 4 + 2, none⟩ = false := hfr27 2; have hf27_3 : w32.frozen? ⟨go26, (t365 : Int).toNat * 4 + 3, none⟩ = false := hfr27 3; clear hcl27 hcc27 hfr27 hM27; replace p27 := eq_true p27; replace q27 := eq_true q27; have HX33 := Aside0.mk (show Kd.R k59 59 w32 w.heap.size (fun _ => True) (.slice (some ⟨go26, 0, none⟩) t373.length co26) y376 from (zRx HO375.out)); obtain ⟨ce33, hcl33, hM33, hcc33, hfr33⟩ := Kd.R_elem HX33.out z59 (t365 : Int) (of_decide_eq_true zax) (by have h_ : (t365 : Int) < ((t373.length : Int) : Int) := of_decide_eq_true zax; first | exact h_ | (have e_ := (Kd.R_reads' HO375.out).1; omega) | simpa using h_); obtain rfl := k59_openM hM33; have HP33 := Kd.R_seg HX33.out (t365 : Int) (of_decide_eq_true zax) (by have h_ : (t365 : Int) < ((t373.length : Int) : Int) := of_decide_eq_true zax; first | exact h_ | (have e_ := (Kd.R_reads' HO375.out).1; omega) | simpa using h_) (seg := [.int .i64 0]) (j := 3) hcl33 hcc33 (show 4 ≤ 4 from by decide) (x' := (⟨(rd_T59 y376 t365).f0, (rd_T59 y376 t365).f1, (rd_T59 y376 t365).f2, 0⟩ : S59)) (k59_mkM _ _ _ (⟨(rd_T59 y376 t365).f0, (rd_T59 y376 t365).f1, (rd_T59 y376 t365).f2, 0⟩ : S59) ) (fun _ hk => hk); have hx33_3 := hcc33 3 _ rfl; (try simp only [show (k59).sz = 4 from rfl, Nat.mul_one, Nat.add_zero] at hx33_3); have hf33_3 := hfr33 3; (try simp only [show (k59).sz = 4 from rfl, Nat.mul_one, Nat.add_zero] at hf33_3); clear hcl33 hcc33 hfr33 hM33) | ((with_reducible refine gate_store (t := 3) (p := 41) rfl ?_); refine store_event (t := 3) (p := 41) (v := ?vo_w34) (w1 := (w32.setCell ⟨go26, (t365 : Int).toNat * 4 + 3, none⟩ (.int .i64 0))) ?hg ?ho ?hn ?hr ?_; (case ho => rfl); (case hg => rfl); (case hn => rfl); (case hr => exact zsx); intro w34 hw; have hg : w32.grownBy w34 (some go26) := (by rw [hw]; exact HP33.2); have hp_ : Kd.R k59 59 w34 w.heap.size (fun _ => True) (.slice (some ⟨go26, 0, none⟩) t373.length co26) y377 := (by rw [hw, Ny377.out]; exact HP33.1); clear HP33; have n0_ := Aside0.mk (hp_); have n1_ := Aside0.mk ((by rw [hw]; exact below_set (HB.out) GB26.out : Below w.heap.size w w34)); clear HO375; clear HB; have HO375 := n0_; have HB := n1_; clear n0_ n1_; clear hg hw hp_))
         go_ret2
         exact ⟨_, by first | rfl | (simp [errW_none, errW_some] <;> rfl) | (simp [*, errW_none, errW_some] <;> rfl), by (with_reducible repeat (first | apply Kd.R_alloc | apply Kd.R_drewN | apply Kd.R_drew)); exact HO375.out, by exact zBx HB.out⟩
       ·rw [if_neg c25] at H
        exact absurd H (by simp)
      ·rw [if_neg c23] at H
       have c23b0 : (((rd_T59 l0 t365).f1) == 3) = false := beq_eq_false_iff_ne.mpr c23
       have c23b1 : (((rd_T59 l0 t365).f1) != 3) = true := bne_iff_ne.mpr c23
       focus
        simp only [Option.some.injEq, Prod.mk.injEq] at H
        obtain ⟨rfl, rfl⟩ := H
        go_enter Try.func54, Try.ntmps54
        go_wp2_with (first | ((with_reducible refine gate_callee (f := 41) rfl ?_); refine goesL_ (some 9) rfl rfl Try.func41 (by kernel_rfl) rfl #[.slice A0 l0.length c0] rfl zlx ?_; (with_reducible refine (impl_IsValidQueue.calls k _ _ l0 true _ ?side1 ?side2 A3.out).mono ?_); (case side1 => exact zCx HR0.out); (case side2 => exact HC0.out); rintro e w35 ⟨rfl, hb⟩; refine ⟨_, rfl, ?_⟩; have n0_ := Aside0.mk (below_step (zBx HB.out) hb); clear HB; have HB := n0_; clear n0_; (try clear hb); (try clear hb2); (try clear hk); (try clear hi)) | ((with_reducible refine gate_callee (f := 89) rfl ?_); refine goesL_ (some 13) rfl rfl Try.func89 (by kernel_rfl) rfl #[.slice A0 l0.length c0, .int .i64 a1] rfl zlx ?_; (with_reducible refine (impl_deliveryAt.calls k _ _ l0 a1 t365 _ ?side1 ?side2 A5.out).mono ?_); (case side1 => repeat (first | exact (Kd.C_below HR0.out HB.out) | (with_reducible refine Kd.C_alloc ?_ _) | (with_reducible refine Kd.C_drewN ?_ _) | (with_reducible refine Kd.C_drew ?_))); (case side2 => exact HC0.out); rintro e w36 ⟨rfl, hb⟩; refine ⟨_, rfl, ?_⟩; have n0_ := Aside0.mk (below_step (zBx HB.out) hb); clear HB; have HB := n0_; clear n0_; (try clear hb); (try clear hb2); (try clear hk); (try clear hi); have p366 : 0 ≤ (t365 : Int) := of_decide_eq_true zax; have q366 : t365 < (l0.length : Int) := of_decide_eq_true zax; obtain ⟨ad366, e366, hx366_0, hx366_1, hx366_2, hx366_3⟩ := at_T59 HR0.out t365 p366 q366; cases e366; replace hx366_0 := (HB.out.cell (World.block_lt_of_cell? w _ hx366_0)).trans hx366_0; replace hx366_1 := (HB.out.cell (World.block_lt_of_cell? w _ hx366_1)).trans hx366_1; replace hx366_2 := (HB.out.cell (World.block_lt_of_cell? w _ hx366_2)).trans hx366_2; replace hx366_3 := (HB.out.cell (World.block_lt_of_cell? w _ hx366_3)).trans hx366_3; replace p366 := eq_true p366; replace q366 := eq_true q366; have p372 : 0 ≤ (t365 : Int) := of_decide_eq_true zax; have q372 : t365 < (l0.length : Int) := of_decide_eq_true zax; obtain ⟨ad372, e372, hx372_0, hx372_1, hx372_2, hx372_3⟩ := at_T59 HR0.out t365 p372 q372; obtain rfl : ad366 = ad372 := (by injection e372); replace hx372_0 := (HB.out.cell (World.block_lt_of_cell? w _ hx372_0)).trans hx372_0; replace hx372_1 := (HB.out.cell (World.block_lt_of_cell? w _ hx372_1)).trans hx372_1; replace hx372_2 := (HB.out.cell (World.block_lt_of_cell? w _ hx372_2)).trans hx372_2; replace hx372_3 := (HB.out.cell (World.block_lt_of_cell? w _ hx372_3)).trans hx372_3; replace p372 := eq_true p372; replace q372 := eq_true q372))
        go_ret2
        exact ⟨_, by first | rfl | (simp [errW_none, errW_some] <;> rfl) | (simp [*, errW_none, errW_some] <;> rfl), by first | exact Kd.R_nil _ _ _ _ _ | exact Kd.N_nil _ _ _ _ _ | exact Kd.V_nil _ _ _ _ _ | exact Kd.Q_nil _ _ _ _ _ | exact Kd.S_nil _ _ _ _ _, by exact zBx HB.out⟩
    ·rw [if_neg c10] at H
     exact absurd H (by simp)
   ·rw [if_neg c9] at H
    exact absurd H (by simp)
 ·replace c4 := Bool.eq_false_iff.mpr c4
  subst c4
  have H1 : (some (([] : List (S59)), false)) = some (r1, r2) := by rw [if_neg (show ¬ (false = true) by decide)] at H; exact H
  clear H
  have H := H1
  clear H1
  focus
   simp only [Option.some.injEq, Prod.mk.injEq] at H
   obtain ⟨rfl, rfl⟩ := H
   go_enter Try.func54, Try.ntmps54
   go_wp2_with (first | ((with_reducible refine gate_callee (f := 41) rfl ?_); refine goesL_ (some 9) rfl rfl Try.func41 (by kernel_rfl) rfl #[.slice A0 l0.length c0] rfl zlx ?_; (with_reducible refine (impl_IsValidQueue.calls k _ _ l0 false _ ?side1 ?side2 A3.out).mono ?_); (case side1 => exact zCx HR0.out); (case side2 => exact HC0.out); rintro e w37 ⟨rfl, hb⟩; refine ⟨_, rfl, ?_⟩; have n0_ := Aside0.mk (below_step (zBx HB.out) hb); clear HB; have HB := n0_; clear n0_; (try clear hb); (try clear hb2); (try clear hk); (try clear hi)))
   go_ret2
   exact ⟨_, by first | rfl | (simp [errW_none, errW_some] <;> rfl) | (simp [*, errW_none, errW_some] <;> rfl), by first | exact Kd.R_nil _ _ _ _ _ | exact Kd.N_nil _ _ _ _ _ | exact Kd.V_nil _ _ _ _ _ | exact Kd.Q_nil _ _ _ _ _ | exact Kd.S_nil _ _ _ _ _, by exact zBx HB.out⟩

/-! ### spec_l1Cur_one: function 94 -/
def spec_l1Cur_one.f (s0_0 : List Int) (s0_1 : Int) (s0_2 : Int) (a1 : Int) : Option (Bool × Int × Int) := (spec_l1Cur_pick.f s0_0 s0_1 s0_2 a1).bind fun bt378 => (some ((bt378.1 == 0), bt378.2.1, bt378.2.2))
set_option maxHeartbeats 8000000 in
set_option maxRecDepth 100000 in
theorem spec_l1Cur_one.calls (g : Nat) (s0_0 : List Int) (s0_1 : Int) (s0_2 : Int) (a1 : Int) (r1 : Bool) (r2 : Int) (r3 : Int) (w0 w : World) (hI : IsS78 w0 w g s0_0 s0_1 s0_2) (hB : Below w0.heap.size w0 w) (h : spec_l1Cur_one.f s0_0 s0_1 s0_2 a1 = some (r1, r2, r3)) :
 Calls Try.prog 94 #[.pointer (some ⟨g, 0, none⟩), .int .i64 a1] w fun e w' => e = .returned (.bool r1) ∧ IsS78 w0 w' g s0_0 r2 r3 ∧ Below w0.heap.size w0 w' ∧ KeepBut w w' g none := by
 have HI0 := Aside0.mk hI
 have HK := Aside0.mk (KeepBut.refl w g none)
 have HL := Aside0.mk hB.size
 clear hI
 have HW0 := Aside0.mk hB.size
 have HB := Aside0.mk hB
 clear hB
 have H : ((spec_l1Cur_pick.f s0_0 s0_1 s0_2 a1).bind fun bt378 => (some ((bt378.1 == 0), bt378.2.1, bt378.2.2))) = some (r1, r2, r3) := h
 clear h
 replace H := Option.bind_eq_some_iff.mp H
 obtain ⟨⟨t378, t379, t380⟩, A30, H⟩ := H
 replace H : (some ((t378 == 0), t379, t380)) = some (r1, r2, r3) := H
 have A3 := Aside0.mk A30
 clear A30
 focus
  simp only [Option.some.injEq, Prod.mk.injEq] at H
  obtain ⟨rfl, rfl, rfl⟩ := H
  go_enter Try.func94, Try.ntmps94
  go_wp2_with (first | ((with_reducible refine gate_callee (f := 72) rfl ?_); refine goesL_ (some 7) rfl rfl Try.func72 (by kernel_rfl) rfl #[.pointer (some ⟨g, 0, none⟩), .int .i64 a1] rfl zlx ?_; (with_reducible refine (spec_l1Cur_pick.calls g s0_0 s0_1 s0_2 a1 t378 t379 t380 w0 _ ?side1 ?side2 A3.out).mono ?_); (case side1 => exact IsS78.zI HI0.out); (case side2 => first | exact zBy HB.out (IsS78.ge HI0.out) | exact zBx HB.out); rintro e w4 ⟨rfl, hi, hb, hk⟩; refine ⟨_, rfl, ?_⟩; have n0_ := Aside0.mk (KeepBut.trans (zKx HK.out) hk (.inl rfl)); have n1_ := Aside0.mk (hb); have n2_ := Aside0.mk (hi); clear HK; clear HB; clear HI0; have HK := n0_; have HB := n1_; have HI0 := n2_; clear n0_ n1_ n2_; (try clear hb); (try clear hb2); (try clear hk); (try clear hi)))
  go_ret
  exact ⟨by first | rfl | (simp [errW_none, errW_some] <;> rfl) | (simp [*, errW_none, errW_some] <;> rfl), by exact IsS78.zI HI0.out, by first | exact zBy HB.out (IsS78.ge HI0.out) | exact zBx HB.out, by exact zKx HK.out⟩

/-! ### spec_l1Cur_delivery: function 93 -/
def spec_l1Cur_delivery.j0 : Nat → List (S59) → Bool → List Int → Int → Int → Option (Int × Int × Int)
 | 0, _, _, _, _, _ => none
 | k + 1, x1, x11, x1000, x1001, x1002 => if x11 = true then ((spec_l1Cur_among.f x1000 x1001 x1002 (([0, 1, 50, 999, 1000] : List Int))).bind fun bt387 => (some (bt387.1, bt387.2.1, bt387.2.2))) else ((spec_l1Cur_pick.f x1000 x1001 x1002 (x1.length : Int)).bind fun bt390 => (if 0 ≤ bt390.1 then (if bt390.1 < (x1.length : Int) then (some ((rd_T59 x1 bt390.1).f0, bt390.2.1, bt390.2.2)) else (none)) else (none)))
def spec_l1Cur_delivery.f (k : Nat) (s0_0 : List Int) (s0_1 : Int) (s0_2 : Int) (l1 : List (S59)) : Option (Int × Int × Int) := if (l1.length : Int) = 0 then (spec_l1Cur_delivery.j0 k l1 true s0_0 s0_1 s0_2) else ((spec_l1Cur_one.f s0_0 s0_1 s0_2 8).bind fun bt381 => (spec_l1Cur_delivery.j0 k l1 bt381.1 s0_0 bt381.2.1 bt381.2.2))
theorem spec_l1Cur_delivery.mono_l : ∀ k, (∀ y0 y1 y2 y3 y4, LeO (spec_l1Cur_delivery.j0 k y0 y1 y2 y3 y4) (spec_l1Cur_delivery.j0 (k + 1) y0 y1 y2 y3 y4))
 | 0 => fun _ _ _ _ _ r h => by simp [spec_l1Cur_delivery.j0] at h
 | k + 1 => by
  have ih0 := spec_l1Cur_delivery.mono_l k
  ·intro y0 y1 y2 y3 y4
   unfold spec_l1Cur_delivery.j0
   repeat' first
   | (with_reducible exact ih0 _ _ _ _ _)
   | (with_reducible exact LeO.refl _)
   | (with_reducible exact LeO.none _)
   | (with_reducible refine LeO.ite ?_ ?_)
   | (with_reducible refine LeO.bind ?_ (fun _ => ?_))
   | exact ih0 _ _ _ _ _
   | exact LeO.none _
   | refine LeO.ite ?_ ?_
   | refine LeO.bind ?_ (fun _ => ?_)
theorem spec_l1Cur_delivery.mono : ∀ a0 a1 a2 a3 k, LeO (spec_l1Cur_delivery.f k a0 a1 a2 a3) (spec_l1Cur_delivery.f (k + 1) a0 a1 a2 a3) := by
 intro a0 a1 a2 a3 k
 have ih0 := spec_l1Cur_delivery.mono_l k
 unfold spec_l1Cur_delivery.f
 repeat' first
  | (with_reducible exact ih0 _ _ _ _ _)
  | (with_reducible exact LeO.refl _)
  | (with_reducible exact LeO.none _)
  | (with_reducible refine LeO.ite ?_ ?_)
  | (with_reducible refine LeO.bind ?_ (fun _ => ?_))
  | exact ih0 _ _ _ _ _
  | exact LeO.none _
  | refine LeO.ite ?_ ?_
  | refine LeO.bind ?_ (fun _ => ?_)
set_option maxHeartbeats 8000000 in
set_option maxRecDepth 100000 in
theorem spec_l1Cur_delivery.calls (k : Nat) (g : Nat) (s0_0 : List Int) (s0_1 : Int) (s0_2 : Int) (A1 : Option Addr) (c1 : Nat) (l1 : List (S59)) (r1 : Int) (r2 : Int) (r3 : Int) (w0 w : World) (hI : IsS78 w0 w g s0_0 s0_1 s0_2) (hB : Below w0.heap.size w0 w) (hr1 : ∀ W_, KeepBut w W_ g none → Kd.C k59 W_ A1 l1.length l1) (hc1 : l1.length ≤ c1) (h : spec_l1Cur_delivery.f k s0_0 s0_1 s0_2 l1 = some (r1, r2, r3)) :
 Calls Try.prog 93 #[.pointer (some ⟨g, 0, none⟩), .slice A1 l1.length c1] w fun e w' => e = .returned (.int .i64 r1) ∧ IsS78 w0 w' g s0_0 r2 r3 ∧ Below w0.heap.size w0 w' ∧ KeepBut w w' g none := by
 have HR1 := Aside0.mk hr1
 have HC1 := Aside0.mk hc1
 clear hr1 hc1
 have HI0 := Aside0.mk hI
 have HK := Aside0.mk (KeepBut.refl w g none)
 have HL := Aside0.mk hB.size
 clear hI
 have HW0 := Aside0.mk hB.size
 have HB := Aside0.mk hB
 clear hB
 have H : (if (l1.length : Int) = 0 then (spec_l1Cur_delivery.j0 k l1 true s0_0 s0_1 s0_2) else ((spec_l1Cur_one.f s0_0 s0_1 s0_2 8).bind fun bt381 => (spec_l1Cur_delivery.j0 k l1 bt381.1 s0_0 bt381.2.1 bt381.2.2))) = some (r1, r2, r3) := h
 clear h
 have HC3 := Aside0.mk H
 clear H
 go_enter Try.func93, Try.ntmps93
 go_upto_region 1 with (fail)
 go_cut [11] (fun v11 wc => ∃ (kq : Nat) (x11_2 : Bool) (x1001_2 : Int) (x1002_2 : Int), v11 = .bool x11_2 ∧ Aside0 (spec_l1Cur_delivery.j0 kq l1 x11_2 s0_0 x1001_2 x1002_2 = some (r1, r2, r3)) ∧ Aside0 (kq ≤ k) ∧ Aside0 (IsS78 w0 wc g s0_0 x1001_2 x1002_2) ∧ Aside0 (KeepBut w wc g none) ∧ Aside0 (Below w0.heap.size w0 wc))
 case first =>
  have H := HC3.out
  clear HC3
  by_cases c4 : (l1.length : Int) = 0
  ·rw [if_pos c4] at H
   have c4b0 : ((l1.length : Int) == 0) = true := beq_iff_eq.mpr c4
   have c4b1 : ((l1.length : Int) != 0) = false := bne_eq_false_iff_eq.mpr c4
   clear c4
   (first | rw [c4b0] | (simp only [i64_w, i32_w]; rw [c4b0]) | skip)
   focus
    have H' := Aside0.mk H
    clear H
    go_wp2
    go_meet
    case rel => exact ⟨_, (true), (s0_1), (s0_2), zrx, H', ⟨by first | omega | exact Nat.le_refl _⟩, ⟨by exact IsS78.zI HI0.out⟩, ⟨by exact zKx HK.out⟩, ⟨by first | exact zBy HB.out (IsS78.ge HI0.out) | exact zBx HB.out⟩⟩
  ·rw [if_neg c4] at H
   have c4b0 : ((l1.length : Int) == 0) = false := beq_eq_false_iff_ne.mpr c4
   have c4b1 : ((l1.length : Int) != 0) = true := bne_iff_ne.mpr c4
   have c4b2 : ¬ (l1 = []) := fun h_ => c4 (by rw [h_]; rfl)
   (first | rw [c4b0] | (simp only [i64_w, i32_w]; rw [c4b0]) | skip)
   replace H := Option.bind_eq_some_iff.mp H
   obtain ⟨⟨t381, t382, t383⟩, A50, H⟩ := H
   replace H : (spec_l1Cur_delivery.j0 k l1 t381 s0_0 t382 t383) = some (r1, r2, r3) := H
   have A5 := Aside0.mk A50
   clear A50
   focus
    have H' := Aside0.mk H
    clear H
    go_wp2_with (first | (go_at_call 94; (with_reducible refine (spec_l1Cur_one.calls g s0_0 s0_1 s0_2 8 t381 t382 t383 w0 _ ?side1 ?side2 A5.out).mono ?_); (case side1 => exact IsS78.zI HI0.out); (case side2 => first | exact zBy HB.out (IsS78.ge HI0.out) | exact zBx HB.out); rintro e w6 ⟨rfl, hi, hb, hk⟩; have n0_ := Aside0.mk (KeepBut.trans (zKx HK.out) hk (.inl rfl)); have n1_ := Aside0.mk (hb); have n2_ := Aside0.mk (hi); clear HK; clear HB; clear HI0; have HK := n0_; have HB := n1_; have HI0 := n2_; clear n0_ n1_ n2_; (try clear hb); (try clear hb2); (try clear hk); (try clear hi)))
    go_meet
    case rel => exact ⟨_, (t381), (t382), (t383), zrx, H', ⟨by first | omega | exact Nat.le_refl _⟩, ⟨by exact IsS78.zI HI0.out⟩, ⟨by exact zKx HK.out⟩, ⟨by first | exact zBy HB.out (IsS78.ge HI0.out) | exact zBx HB.out⟩⟩
 case rest =>
  clear HC3
  try clear c1
  try clear p2
  try clear c4
  try clear c4b0
  try clear c4b1
  try clear c4b2
  obtain ⟨kq, x11_2, x1001_2, x1002_2, rfl, HA, HJ2, HI0, HK, HB⟩ := hcut
  cases kq with
  | zero => exact absurd HA.out (by simp [spec_l1Cur_delivery.j0])
  | succ kj2 =>
   have H := HA.out
   clear HA
   simp only [spec_l1Cur_delivery.j0] at H
   by_cases c7 : x11_2 = true
   ·subst c7
    have H1 : ((spec_l1Cur_among.f s0_0 x1001_2 x1002_2 (([0, 1, 50, 999, 1000] : List Int))).bind fun bt387 => (some (bt387.1, bt387.2.1, bt387.2.2))) = some (r1, r2, r3) := by rw [if_pos rfl] at H; exact H
    clear H
    have H := H1
    clear H1
    obtain ⟨y384, hy384⟩ : ∃ y_ : List Int, y_ = (([0, 1, 50, 999, 1000] : List Int)) := ⟨_, rfl⟩
    replace H : ((spec_l1Cur_among.f s0_0 x1001_2 x1002_2 y384).bind fun bt387 => (some (bt387.1, bt387.2.1, bt387.2.2))) = some (r1, r2, r3) := by first | (rw [hy384]; with_reducible exact H) | (have H2_ := (Option.bind_some _ _).symm.trans H; rw [hy384]; with_reducible exact H2_) | (have H2_ := (Option.bind_some _ _).symm.trans H; with_reducible exact H2_) | with_reducible exact H | (rw [hy384]; exact H) | exact H
    have Ny384 := Aside0.mk hy384
    clear hy384
    replace H := Option.bind_eq_some_iff.mp H
    obtain ⟨⟨t387, t388, t389⟩, A80, H⟩ := H
    replace H : (some (t387, t388, t389)) = some (r1, r2, r3) := H
    have A8 := Aside0.mk A80
    clear A80
    focus
     simp only [Option.some.injEq, Prod.mk.injEq] at H
     obtain ⟨rfl, rfl, rfl⟩ := H
     go_wp2_with (first | ((with_reducible refine gate_dst (N := 13) rfl ?_); refine Kd.R_lit (Kd.int .i64) _ 3 ?hg (N := 13) ?hd (xs := ([0, 1, 50, 999, 1000] : List Int)) (inner := [.int .i64 0, .int .i64 1, .int .i64 50, .int .i64 999, .int .i64 1000]) (ok := fun _ => True) (okp := fun _ => True) ?hr ?hp (fun _ hk => hk) trivial (Below.refl _ _) (Nat.le_refl _) (by simp) ?_; (case hd => rfl); (case hg => rfl); (case hr => exact zsx); (case hp => exact (Reps.one (show Kd.M (Kd.int .i64) _ _ _ 0 [.int .i64 0] from rfl) (Reps.one (show Kd.M (Kd.int .i64) _ _ _ 1 [.int .i64 1] from rfl) (Reps.one (show Kd.M (Kd.int .i64) _ _ _ 50 [.int .i64 50] from rfl) (Reps.one (show Kd.M (Kd.int .i64) _ _ _ 999 [.int .i64 999] from rfl) (Reps.one (show Kd.M (Kd.int .i64) _ _ _ 1000 [.int .i64 1000] from rfl) (Reps.none _ _))))))); intro v385 w9 ho10 hb hg_ hnew_; clear hg_ hnew_; (first | rw [← Ny384.out] at ho10 | (simp only [Int.reduceToNat] at ho10; rw [← Ny384.out] at ho10)); have n0_ := Aside0.mk (Kd.R_lower ho10 (keep_size (w := w) (g := g) (row := none) (zKx HK.out))); have n1_ := Aside0.mk (IsS78.below (IsS78.zI HI0.out) hb); have n2_ := Aside0.mk (KeepBut.trans (zKx HK.out) (KeepBut.of_below hb g none) (.inl rfl)); have n3_ := Aside0.mk (below_step (by first | exact zBy HB.out (IsS78.ge HI0.out) | exact zBx HB.out) hb); clear HI0; clear HK; clear HB; have HO386 := n0_; have HI0 := n1_; have HK := n2_; have HB := n3_; clear n0_ n1_ n2_ n3_; clear hb ho10; obtain ⟨Ao11, co11, eo11⟩ := Kd.R_slice HO386.out; subst eo11) | ((with_reducible refine gate_callee (f := 67) rfl ?_); refine goesL_ (some 14) rfl rfl Try.func67 (by kernel_rfl) rfl #[.pointer (some ⟨g, 0, none⟩), .slice Ao11 y384.length co11] rfl zlx ?_; (with_reducible refine (spec_l1Cur_among.calls g s0_0 x1001_2 x1002_2 _ _ y384 t387 t388 t389 w0 _ ?side1 ?side2 ?side3 ?side4 ?side5 A8.out).mono ?_); (case side1 => exact IsS78.zI HI0.out); (case side2 => first | exact zBy HB.out (IsS78.ge HI0.out) | exact zBx HB.out); (case side3 => repeat (first | exact (Kd.R_reads' HO386.out).2.2 | (with_reducible refine Kd.C_alloc ?_ _) | (with_reducible refine Kd.C_drewN ?_ _) | (with_reducible refine Kd.C_drew ?_))); (case side4 => exact (Kd.R_reads' HO386.out).2.1); (case side5 => exact far_slice (IsS78.own_ne HI0.out HO386.out (by decide))); rintro e w12 ⟨rfl, hi, hb, hk⟩; refine ⟨_, rfl, ?_⟩; have n0_ := Aside0.mk (Kd.R_mono (Kd.R_keep (IsS78.apart (show IsS78 w0 _ g s0_0 x1001_2 x1002_2 from IsS78.zI HI0.out) (zRx HO386.out) (by decide)) hk (fun _ h => h.2)) (fun _ h => h.1)); have n1_ := Aside0.mk (KeepBut.trans (zKx HK.out) hk (.inl rfl)); have n2_ := Aside0.mk (hb); have n3_ := Aside0.mk (hi); clear HO386; clear HK; clear HB; clear HI0; have HO386 := n0_; have HK := n1_; have HB := n2_; have HI0 := n3_; clear n0_ n1_ n2_ n3_; (try clear hb); (try clear hb2); (try clear hk); (try clear hi)))
     go_ret
     exact ⟨by first | rfl | (simp [errW_none, errW_some] <;> rfl) | (simp [*, errW_none, errW_some] <;> rfl), by exact IsS78.zI HI0.out, by first | exact zBy HB.out (IsS78.ge HI0.out) | exact zBx HB.out, by exact zKx HK.out⟩
   ·replace c7 := Bool.eq_false_iff.mpr c7
    subst c7
    have H1 : ((spec_l1Cur_pick.f s0_0 x1001_2 x1002_2 (l1.length : Int)).bind fun bt390 => (if 0 ≤ bt390.1 then (if bt390.1 < (l1.length : Int) then (some ((rd_T59 l1 bt390.1).f0, bt390.2.1, bt390.2.2)) else (none)) else (none))) = some (r1, r2, r3) := by rw [if_neg (show ¬ (false = true) by decide)] at H; exact H
    clear H
    have H := H1
    clear H1
    replace H := Option.bind_eq_some_iff.mp H
    obtain ⟨⟨t390, t391, t392⟩, A130, H⟩ := H
    replace H : (if 0 ≤ t390 then (if t390 < (l1.length : Int) then (some ((rd_T59 l1 t390).f0, t391, t392)) else (none)) else (none)) = some (r1, r2, r3) := H
    have A13 := Aside0.mk A130
    clear A130
    by_cases c14 : 0 ≤ t390
    ·rw [if_pos c14] at H
     have c14b0 : decide (0 ≤ t390) = true := decide_eq_true c14
     clear c14
     by_cases c15 : t390 < (l1.length : Int)
     ·rw [if_pos c15] at H
      have c15b0 : decide (t390 < (l1.length : Int)) = true := decide_eq_true c15
      clear c15
      focus
       simp only [Option.some.injEq, Prod.mk.injEq] at H
       obtain ⟨rfl, rfl, rfl⟩ := H
       go_wp2_with (first | ((with_reducible refine gate_callee (f := 72) rfl ?_); refine goesL_ (some 19) rfl rfl Try.func72 (by kernel_rfl) rfl #[.pointer (some ⟨g, 0, none⟩), .int .i64 (l1.length : Int)] rfl zlx ?_; (with_reducible refine (spec_l1Cur_pick.calls g s0_0 x1001_2 x1002_2 (l1.length : Int) t390 t391 t392 w0 _ ?side1 ?side2 A13.out).mono ?_); (case side1 => exact IsS78.zI HI0.out); (case side2 => first | exact zBy HB.out (IsS78.ge HI0.out) | exact zBx HB.out); rintro e w16 ⟨rfl, hi, hb, hk⟩; refine ⟨_, rfl, ?_⟩; have n0_ := Aside0.mk (KeepBut.trans (zKx HK.out) hk (.inl rfl)); have n1_ := Aside0.mk (hb); have n2_ := Aside0.mk (hi); clear HK; clear HB; clear HI0; have HK := n0_; have HB := n1_; have HI0 := n2_; clear n0_ n1_ n2_; (try clear hb); (try clear hb2); (try clear hk); (try clear hi); have p393 : 0 ≤ (t390 : Int) := of_decide_eq_true zax; have q393 : t390 < (l1.length : Int) := of_decide_eq_true zax; obtain ⟨ad393, e393, hx393_0, hx393_1, hx393_2, hx393_3⟩ := at_T59 (Kd.C_foot_now HR1.out HK.out) t390 p393 q393; cases e393; replace p393 := eq_true p393; replace q393 := eq_true q393))
       go_ret
       exact ⟨by first | rfl | (simp [errW_none, errW_some] <;> rfl) | (simp [*, errW_none, errW_some] <;> rfl), by exact IsS78.zI HI0.out, by first | exact zBy HB.out (IsS78.ge HI0.out) | exact zBx HB.out, by exact zKx HK.out⟩
     ·rw [if_neg c15] at H
      exact absurd H (by simp)
    ·rw [if_neg c14] at H
     exact absurd H (by simp)

/-! ### spec_DrawTakeReceipt: function 55 -/
def spec_DrawTakeReceipt.f (k : Nat) (l0 : List Int) : Option ((List (S59)) × Int) := (spec_l1Cur_queue.f k l0 0 0).bind fun bt395 => ((spec_l1Cur_delivery.f k l0 bt395.2.1 bt395.2.2 bt395.1).bind fun bt400 => (some (bt395.1, bt400.1)))
theorem spec_DrawTakeReceipt.mono : ∀ a0 k, LeO (spec_DrawTakeReceipt.f k a0) (spec_DrawTakeReceipt.f (k + 1) a0) := by
 intro a0 k
 unfold spec_DrawTakeReceipt.f
 repeat' first
  | (with_reducible exact spec_l1Cur_delivery.mono _ _ _ _ _)
  | (with_reducible exact spec_l1Cur_queue.mono _ _ _ _)
  | (with_reducible exact LeO.refl _)
  | (with_reducible exact LeO.none _)
  | (with_reducible refine LeO.ite ?_ ?_)
  | (with_reducible refine LeO.bind ?_ (fun _ => ?_))
  | exact spec_l1Cur_delivery.mono _ _ _ _ _
  | exact spec_l1Cur_queue.mono _ _ _ _
  | exact LeO.none _
  | refine LeO.ite ?_ ?_
  | refine LeO.bind ?_ (fun _ => ?_)
set_option maxHeartbeats 8000000 in
set_option maxRecDepth 100000 in
theorem spec_DrawTakeReceipt.calls (k : Nat) (A0 : Option Addr) (c0 : Nat) (l0 : List Int) (r1 : List (S59)) (r2 : Int) (w : World) (hr0 : Kd.C (Kd.int .u8) w A0 l0.length l0) (hc0 : l0.length ≤ c0) (h : spec_DrawTakeReceipt.f k l0 = some (r1, r2)) :
 Calls Try.prog 55 #[.slice A0 l0.length c0] w fun e w' => ∃ v0_ : Value, e = .returned (.tuple #[v0_, .int .i64 r2]) ∧ Kd.R k59 59 w' w.heap.size (fun _ => True) v0_ r1 ∧ Below w.heap.size w w' := by
 have hu78 := Try.underlying78
 have HR0 := Aside0.mk hr0
 have HC0 := Aside0.mk hc0
 clear hr0 hc0
 have HB := Aside0.mk (Below.refl w.heap.size w)
 have H : ((spec_l1Cur_queue.f k l0 0 0).bind fun bt395 => ((spec_l1Cur_delivery.f k l0 bt395.2.1 bt395.2.2 bt395.1).bind fun bt400 => (some (bt395.1, bt400.1)))) = some (r1, r2) := h
 clear h
 replace H := Option.bind_eq_some_iff.mp H
 obtain ⟨⟨t395, t398, t399⟩, A20, H⟩ := H
 replace H : ((spec_l1Cur_delivery.f k l0 t398 t399 t395).bind fun bt400 => (some (t395, bt400.1))) = some (r1, r2) := H
 have A2 := Aside0.mk A20
 clear A20
 replace H := Option.bind_eq_some_iff.mp H
 obtain ⟨⟨t400, t401, t402⟩, A30, H⟩ := H
 replace H : (some (t395, t400)) = some (r1, r2) := H
 have A3 := Aside0.mk A30
 clear A30
 focus
  simp only [Option.some.injEq, Prod.mk.injEq] at H
  obtain ⟨rfl, rfl⟩ := H
  go_enter Try.func55, Try.ntmps55
  go_wp2_with (first | ((with_reducible refine gate_dst (N := 8) rfl ?_); refine box_event ?hg (N := 8) ?hd (cs := #[.slice A0 l0.length c0, .int .i64 0, .int .u64 0]) (t := 78) ?hr ?_; (case hd => rfl); (case hg => rfl); (case hr => exact zsx); intro gb394 hg w4 hbox hb; have n0_ := Aside0.mk (below_step (zBx HB.out) hb); have n1_ := Aside0.mk (hbox); have n2_ := Aside0.mk ((by rw [hg]; exact (below_size (zBx HB.out)) : w.heap.size ≤ gb394)); have n3_ := Aside0.mk ((by rw [hg]; exact (below_size (zBx HB.out)) : w.heap.size ≤ gb394)); clear HB; have HB := n0_; have BK394 := n1_; have GW394 := n2_; have GE394 := n3_; clear n0_ n1_ n2_ n3_; clear hb hbox hg) | ((with_reducible refine gate_callee (f := 87) rfl ?_); refine goesL_ (some 10) rfl rfl Try.func87 (by kernel_rfl) rfl #[.pointer (some ⟨gb394, 0, none⟩)] rfl zlx ?_; (with_reducible refine (spec_l1Cur_queue.calls k gb394 l0 0 0 t395 t398 t399 w _ ?side1 ?side2 A2.out).mono ?_); (case side1 => first | exact ⟨_, _, (zbx BK394.out), GE394.out, HR0.out⟩); (case side2 => first | exact zBy HB.out (IsS78.ge HI394.out) | exact zBx HB.out); rintro e w5 ⟨v396, rfl, ho0, hi, hb, hk⟩; refine ⟨_, rfl, ?_⟩; have n0_ := Aside0.mk (Kd.R_lower ho0 (below_size (by first | exact zBy HB.out (IsS78.ge HI394.out) | exact zBx HB.out))); have n1_ := Aside0.mk (hb); have n2_ := Aside0.mk (hi); clear HB; have HO397 := n0_; have HB := n1_; have HI394 := n2_; clear n0_ n1_ n2_; (try clear hb); (try clear hb2); (try clear hk); (try clear hi); (try clear ho0); obtain ⟨Ao6, co6, eo6⟩ := Kd.R_slice HO397.out; subst eo6) | ((with_reducible refine gate_callee (f := 93) rfl ?_); refine goesL_ (some 14) rfl rfl Try.func93 (by kernel_rfl) rfl #[.pointer (some ⟨gb394, 0, none⟩), .slice Ao6 t395.length co6] rfl zlx ?_; (with_reducible refine (spec_l1Cur_delivery.calls k gb394 l0 t398 t399 _ _ t395 t400 t401 t402 w _ ?side1 ?side2 ?side3 ?side4 A3.out).mono ?_); (case side1 => exact IsS78.zI HI394.out); (case side2 => first | exact zBy HB.out (IsS78.ge HI394.out) | exact zBx HB.out); (case side3 => exact Kd.C_foot_own (IsS78.apart (show IsS78 w _ gb394 l0 t398 t399 from IsS78.zI HI394.out) (zRx HO397.out) (by decide)) (fun _ h_ => h_.2)); (case side4 => exact (Kd.R_reads' HO397.out).2.1); rintro e w7 ⟨rfl, hi, hb, hk⟩; refine ⟨_, rfl, ?_⟩; have n0_ := Aside0.mk (Kd.R_mono (Kd.R_keep (IsS78.apart (show IsS78 w _ gb394 l0 t398 t399 from IsS78.zI HI394.out) (zRx HO397.out) (by decide)) hk (fun _ h => h.2)) (fun _ h => h.1)); have n1_ := Aside0.mk (hb); have n2_ := Aside0.mk (hi); clear HO397; clear HB; clear HI394; have HO397 := n0_; have HB := n1_; have HI394 := n2_; clear n0_ n1_ n2_; (try clear hb); (try clear hb2); (try clear hk); (try clear hi)))
  go_ret2
  exact ⟨_, by first | rfl | (simp [errW_none, errW_some] <;> rfl) | (simp [*, errW_none, errW_some] <;> rfl), by (with_reducible repeat (first | apply Kd.R_alloc | apply Kd.R_drewN | apply Kd.R_drew)); exact HO397.out, by first | exact zBy HB.out (IsS78.ge HI394.out) | exact zBx HB.out⟩

/-! ### spec_TakeReceipt: function 56 -/
def spec_TakeReceipt.l0 : Nat → Int → List (S59) → Int → Option ((List (S59)) × Bool)
 | 0, _, _, _ => none
 | k + 1, x1, x6, x7 => if x7 < (x6.length : Int) then (if 0 ≤ x7 then (if ((rd_T59 x6 x7).f0) = x1 then (if ((rd_T59 x6 x7).f1) = 2 then (some ((x6.set (x7 : Int).toNat (⟨x1, 3, (rd_T59 x6 x7).f2, 0⟩ : S59)), true)) else (if ((rd_T59 x6 x7).f1) = 3 then (some ((x6.set (x7 : Int).toNat (⟨x1, 3, (rd_T59 x6 x7).f2, 0⟩ : S59)), true)) else (spec_TakeReceipt.l0 k x1 x6 (wrap64 (x7 + 1))))) else (spec_TakeReceipt.l0 k x1 x6 (wrap64 (x7 + 1)))) else (none)) else (some ((([] : List (S59))), false))
def spec_TakeReceipt.f (k : Nat) (l0 : List (S59)) (a1 : Int) : Option ((List (S59)) × Bool) := (spec_l19Good.f k l0).bind fun t403 => (if t403 = true then ((spec_l19Own.f l0).bind fun t407 => (spec_TakeReceipt.l0 k a1 t407 0)) else (some ((([] : List (S59))), false)))
theorem spec_TakeReceipt.mono_l : ∀ k, (∀ y0 y1 y2, LeO (spec_TakeReceipt.l0 k y0 y1 y2) (spec_TakeReceipt.l0 (k + 1) y0 y1 y2))
 | 0 => fun _ _ _ r h => by simp [spec_TakeReceipt.l0] at h
 | k + 1 => by
  have ih0 := spec_TakeReceipt.mono_l k
  ·intro y0 y1 y2
   unfold spec_TakeReceipt.l0
   repeat' first
   | (with_reducible exact ih0 _ _ _)
   | (with_reducible exact spec_l19Good.mono _ _)
   | (with_reducible exact LeO.refl _)
   | (with_reducible exact LeO.none _)
   | (with_reducible refine LeO.ite ?_ ?_)
   | (with_reducible refine LeO.bind ?_ (fun _ => ?_))
   | exact ih0 _ _ _
   | exact spec_l19Good.mono _ _
   | exact LeO.none _
   | refine LeO.ite ?_ ?_
   | refine LeO.bind ?_ (fun _ => ?_)
theorem spec_TakeReceipt.mono : ∀ a0 a1 k, LeO (spec_TakeReceipt.f k a0 a1) (spec_TakeReceipt.f (k + 1) a0 a1) := by
 intro a0 a1 k
 have ih0 := spec_TakeReceipt.mono_l k
 unfold spec_TakeReceipt.f
 repeat' first
  | (with_reducible exact ih0 _ _ _)
  | (with_reducible exact spec_l19Good.mono _ _)
  | (with_reducible exact LeO.refl _)
  | (with_reducible exact LeO.none _)
  | (with_reducible refine LeO.ite ?_ ?_)
  | (with_reducible refine LeO.bind ?_ (fun _ => ?_))
  | exact ih0 _ _ _
  | exact spec_l19Good.mono _ _
  | exact LeO.none _
  | refine LeO.ite ?_ ?_
  | refine LeO.bind ?_ (fun _ => ?_)
set_option maxHeartbeats 8000000 in
set_option maxRecDepth 100000 in
theorem spec_TakeReceipt.calls (k : Nat) (A0 : Option Addr) (c0 : Nat) (l0 : List (S59)) (a1 : Int) (r1 : List (S59)) (r2 : Bool) (w : World) (hr0 : Kd.C k59 w A0 l0.length l0) (hc0 : l0.length ≤ c0) (h : spec_TakeReceipt.f k l0 a1 = some (r1, r2)) :
 Calls Try.prog 56 #[.slice A0 l0.length c0, .int .i64 a1] w fun e w' => ∃ v0_ : Value, e = .returned (.tuple #[v0_, .bool r2]) ∧ Kd.R k59 59 w' w.heap.size (fun _ => True) v0_ r1 ∧ Below w.heap.size w w' := by
 have hu59 := Try.underlying59
 have HR0 := Aside0.mk hr0
 have HC0 := Aside0.mk hc0
 clear hr0 hc0
 have HB := Aside0.mk (Below.refl w.heap.size w)
 have H : ((spec_l19Good.f k l0).bind fun t403 => (if t403 = true then ((spec_l19Own.f l0).bind fun t407 => (spec_TakeReceipt.l0 k a1 t407 0)) else (some ((([] : List (S59))), false)))) = some (r1, r2) := h
 clear h
 replace H := Option.bind_eq_some_iff.mp H
 obtain ⟨t403, A30, H⟩ := H
 replace H : (if t403 = true then ((spec_l19Own.f l0).bind fun t407 => (spec_TakeReceipt.l0 k a1 t407 0)) else (some ((([] : List (S59))), false))) = some (r1, r2) := H
 have A3 := Aside0.mk A30
 clear A30
 by_cases c4 : t403 = true
 ·subst c4
  have H1 : ((spec_l19Own.f l0).bind fun t407 => (spec_TakeReceipt.l0 k a1 t407 0)) = some (r1, r2) := by rw [if_pos rfl] at H; exact H
  clear H
  have H := H1
  clear H1
  replace H := Option.bind_eq_some_iff.mp H
  obtain ⟨t407, A50, H⟩ := H
  replace H : (spec_TakeReceipt.l0 k a1 t407 0) = some (r1, r2) := H
  have A5 := Aside0.mk A50
  clear A50
  have H' := Aside0.mk H
  clear H
  go_enter Try.func56, Try.ntmps56
  go_wp2_with (first | ((with_reducible refine gate_callee (f := 79) rfl ?_); refine goesL_ (some 10) rfl rfl Try.func79 (by kernel_rfl) rfl #[.slice A0 l0.length c0] rfl zlx ?_; (with_reducible refine (spec_l19Good.calls k _ _ l0 true _ ?side1 ?side2 A3.out).mono ?_); (case side1 => exact zCx HR0.out); (case side2 => exact HC0.out); rintro e w6 ⟨rfl, hb⟩; refine ⟨_, rfl, ?_⟩; have n0_ := Aside0.mk (below_step (zBx HB.out) hb); clear HB; have HB := n0_; clear n0_; (try clear hb); (try clear hb2); (try clear hk); (try clear hi)) | ((with_reducible refine gate_callee (f := 81) rfl ?_); refine goesL_ (some 14) rfl rfl Try.func81 (by kernel_rfl) rfl #[.slice A0 l0.length c0] rfl zlx ?_; (with_reducible refine (spec_l19Own.calls _ _ l0 t407 _ ?side1 ?side2 A5.out).mono ?_); (case side1 => repeat (first | exact (Kd.C_below HR0.out HB.out) | (with_reducible refine Kd.C_alloc ?_ _) | (with_reducible refine Kd.C_drewN ?_ _) | (with_reducible refine Kd.C_drew ?_))); (case side2 => exact HC0.out); rintro e w7 ⟨v408, rfl, ho0, hb⟩; refine ⟨_, rfl, ?_⟩; have n0_ := Aside0.mk (Kd.R_lower ho0 (below_size (zBx HB.out))); have n1_ := Aside0.mk (below_step (zBx HB.out) hb); clear HB; have HO409 := n0_; have HB := n1_; clear n0_ n1_; (try clear hb); (try clear hb2); (try clear hk); (try clear hi); (try clear ho0)))
  go_loopg [7] k (fun kq v7 w' => ∃ (x6_1 : List (S59)) (x7_1 : Int), v7 = .int .i64 x7_1 ∧ Aside0 (spec_TakeReceipt.l0 kq a1 x6_1 x7_1 = some (r1, r2)) ∧ Aside0 (kq ≤ k) ∧ Aside0 (Kd.R k59 59 w' w.heap.size (fun _ => True) v408 x6_1) ∧ Aside0 (Below w.heap.size w w'))
  case atStart => exact ⟨(t407), (0), zrx, H', ⟨Nat.le_refl _⟩, ⟨by (with_reducible repeat (first | apply Kd.R_alloc | apply Kd.R_drewN | apply Kd.R_drew)); exact HO409.out⟩, ⟨by exact zBx HB.out⟩⟩
  case round =>
   clear H'
   try clear p2
   try clear c4
   try clear c5
   try clear c7
   obtain ⟨x6_1, x7_1, rfl, HA, HK1, HO_6, HB⟩ := hrel
   cases gk with
   | zero => exact absurd HA.out (by simp [spec_TakeReceipt.l0])
   | succ k1 =>
    have H := HA.out
    clear HA
    simp only [spec_TakeReceipt.l0] at H
    by_cases c8 : x7_1 < (x6_1.length : Int)
    ·rw [if_pos c8] at H
     have c8b0 : decide (x7_1 < (x6_1.length : Int)) = true := decide_eq_true c8
     clear c8
     by_cases c9 : 0 ≤ x7_1
     ·rw [if_pos c9] at H
      have c9b0 : decide (0 ≤ x7_1) = true := decide_eq_true c9
      clear c9
      by_cases c10 : ((rd_T59 x6_1 x7_1).f0) = a1
      ·rw [if_pos c10] at H
       have c10b0 : (((rd_T59 x6_1 x7_1).f0) == a1) = true := beq_iff_eq.mpr c10
       have c10b1 : (((rd_T59 x6_1 x7_1).f0) != a1) = false := bne_eq_false_iff_eq.mpr c10
       clear c10
       by_cases c11 : ((rd_T59 x6_1 x7_1).f1) = 2
       ·rw [if_pos c11] at H
        have c11b0 : (((rd_T59 x6_1 x7_1).f1) == 2) = true := beq_iff_eq.mpr c11
        have c11b1 : (((rd_T59 x6_1 x7_1).f1) != 2) = false := bne_eq_false_iff_eq.mpr c11
        clear c11
        obtain ⟨y412, hy412⟩ : ∃ y_ : List (S59), y_ = (x6_1.set (x7_1 : Int).toNat (⟨a1, 3, (rd_T59 x6_1 x7_1).f2, 0⟩ : S59)) := ⟨_, rfl⟩
        replace H : (some (y412, true)) = some (r1, r2) := by first | (rw [hy412]; with_reducible exact H) | (have H2_ := (Option.bind_some _ _).symm.trans H; rw [hy412]; with_reducible exact H2_) | (have H2_ := (Option.bind_some _ _).symm.trans H; with_reducible exact H2_) | with_reducible exact H | (rw [hy412]; exact H) | exact H
        have Ny412 := Aside0.mk hy412
        clear hy412
        focus
         simp only [Option.some.injEq, Prod.mk.injEq] at H
         obtain ⟨rfl, rfl⟩ := H
         obtain ⟨Ao13, co13, eo13⟩ := Kd.R_slice HO_6.out
         subst eo13
         have p410 : 0 ≤ (x7_1 : Int) := of_decide_eq_true zax
         have q410 : x7_1 < (x6_1.length : Int) := of_decide_eq_true zax
         obtain ⟨ad410, e410, hx410_0, hx410_1, hx410_2, hx410_3⟩ := at_T59 (Kd.R_reads' HO_6.out).2.2 x7_1 p410 q410
         cases e410
         replace p410 := eq_true p410
         replace q410 := eq_true q410
         go_wp2_with (first | ((with_reducible refine gate_dst (N := 8) rfl ?_); refine box_event ?hg (N := 8) ?hd (cs := #[.int .i64 0, .int .i64 0, .int .i64 0, .int .i64 0]) (t := 59) ?hr ?_; (case hd => rfl); (case hg => rfl); (case hr => exact zsx); intro gb411 hg w14 hbox hb; have n0_ := Aside0.mk (Kd.R_below (Kd.R_elderB (zRx HO_6.out) gb411 (Nat.le_of_eq hg.symm)) hb); have n1_ := Aside0.mk (below_step (zBx HB.out) hb); have n2_ := Aside0.mk (hbox); have n3_ := Aside0.mk ((by rw [hg]; exact (below_size (zBx HB.out)) : w.heap.size ≤ gb411)); have n4_ := Aside0.mk ((by rw [hg]; exact (below_size (zBx HB.out)) : w.heap.size ≤ gb411)); clear HO_6; clear HB; have HO_6 := n0_; have HB := n1_; have BK411 := n2_; have GW411 := n3_; have GE411 := n4_; clear n0_ n1_ n2_ n3_ n4_; clear hb hbox hg; have hcz15_0 : w14.cell? ⟨gb411, 0, none⟩ = some (.int .i64 0) := (blk_cell BK411.out 0).trans rfl; have hcz15_1 : w14.cell? ⟨gb411, 1, none⟩ = some (.int .i64 0) := (blk_cell BK411.out 1).trans rfl; have hcz15_2 : w14.cell? ⟨gb411, 2, none⟩ = some (.int .i64 0) := (blk_cell BK411.out 2).trans rfl; have hcz15_3 : w14.cell? ⟨gb411, 3, none⟩ = some (.int .i64 0) := (blk_cell BK411.out 3).trans rfl; have hfz15_0 := blk_frozen BK411.out 0; have hfz15_1 := blk_frozen BK411.out 1; have hfz15_2 := blk_frozen BK411.out 2; have hfz15_3 := blk_frozen BK411.out 3) | ((with_reducible refine gate_store (t := 59) (p := 8) rfl ?_); refine store_event (t := 59) (p := 8) (v := ?vo_w16) (w1 := ((((w14.setCell ⟨gb411, 0, none⟩ (.int .i64 ((rd_T59 x6_1 x7_1).f0))).setCell ⟨gb411, 1, none⟩ (.int .i64 ((rd_T59 x6_1 x7_1).f1))).setCell ⟨gb411, 2, none⟩ (.int .i64 ((rd_T59 x6_1 x7_1).f2))).setCell ⟨gb411, 3, none⟩ (.int .i64 ((rd_T59 x6_1 x7_1).f3)))) ?hg ?ho ?hn ?hr ?_; (case ho => rfl); (case hg => rfl); (case hn => rfl); (case hr => exact zsx); intro w16 hw; have n0_ : Aside0 (Kd.R k59 59 w16 w.heap.size (fun k_ => k_ ≠ gb411) (.slice (some ad410) x6_1.length co13) x6_1) := ⟨(by rw [hw]; exact (by (with_reducible repeat (first | apply Kd.R_alloc | apply Kd.R_drewN | apply Kd.R_drew)); exact Kd.R_mono (Kd.R_far (p := ⟨gb411, 3, none⟩) (Kd.R_far (p := ⟨gb411, 2, none⟩) (Kd.R_far (p := ⟨gb411, 1, none⟩) (Kd.R_far (p := ⟨gb411, 0, none⟩) (Kd.R_mono HO_6.out (fun k_ hk => (⟨hk, hk.2⟩ : _ ∧ k_ ≠ gb411))) (fun _ hk => hk.2) (.int .i64 ((rd_T59 x6_1 x7_1).f0))) (fun _ hk => hk.2) (.int .i64 ((rd_T59 x6_1 x7_1).f1))) (fun _ hk => hk.2) (.int .i64 ((rd_T59 x6_1 x7_1).f2))) (fun _ hk => hk.2) (.int .i64 ((rd_T59 x6_1 x7_1).f3))) (fun _ hk => hk.1.2)))⟩; have n1_ : Aside0 (w16.heap[gb411]? = some (.cells #[.int .i64 ((rd_T59 x6_1 x7_1).f0), .int .i64 ((rd_T59 x6_1 x7_1).f1), .int .i64 ((rd_T59 x6_1 x7_1).f2), .int .i64 ((rd_T59 x6_1 x7_1).f3)] 59 (0, 0))) := ⟨(by rw [hw]; exact (by (with_reducible repeat (first | refine blk_drewN ?_ _ | refine blk_drew ?_ | refine blk_alloc ?_ _)); refine blk_put (cs := #[.int .i64 ((rd_T59 x6_1 x7_1).f0), .int .i64 ((rd_T59 x6_1 x7_1).f1), .int .i64 ((rd_T59 x6_1 x7_1).f2), .int .i64 0]) ?_ 3 _ rfl; (with_reducible repeat (first | refine blk_drewN ?_ _ | refine blk_drew ?_ | refine blk_alloc ?_ _)); refine blk_put (cs := #[.int .i64 ((rd_T59 x6_1 x7_1).f0), .int .i64 ((rd_T59 x6_1 x7_1).f1), .int .i64 0, .int .i64 0]) ?_ 2 _ rfl; (with_reducible repeat (first | refine blk_drewN ?_ _ | refine blk_drew ?_ | refine blk_alloc ?_ _)); refine blk_put (cs := #[.int .i64 ((rd_T59 x6_1 x7_1).f0), .int .i64 0, .int .i64 0, .int .i64 0]) ?_ 1 _ rfl; (with_reducible repeat (first | refine blk_drewN ?_ _ | refine blk_drew ?_ | refine blk_alloc ?_ _)); refine blk_put (cs := #[.int .i64 0, .int .i64 0, .int .i64 0, .int .i64 0]) ?_ 0 _ rfl; (with_reducible repeat (first | refine blk_drewN ?_ _ | refine blk_drew ?_ | refine blk_alloc ?_ _)); exact BK411.out))⟩; have n2_ : Aside0 (Below w.heap.size w w16) := ⟨(by rw [hw]; exact (zBy HB.out GE411.out))⟩; clear hw; clear HO_6; clear BK411; clear HB; have HO_6 := n0_; have BK411 := n1_; have HB := n2_; clear n0_ n1_ n2_; have hcz17_0 : w16.cell? ⟨gb411, 0, none⟩ = some (.int .i64 ((rd_T59 x6_1 x7_1).f0)) := (blk_cell BK411.out 0).trans rfl; have hcz17_1 : w16.cell? ⟨gb411, 1, none⟩ = some (.int .i64 ((rd_T59 x6_1 x7_1).f1)) := (blk_cell BK411.out 1).trans rfl; have hcz17_2 : w16.cell? ⟨gb411, 2, none⟩ = some (.int .i64 ((rd_T59 x6_1 x7_1).f2)) := (blk_cell BK411.out 2).trans rfl; have hcz17_3 : w16.cell? ⟨gb411, 3, none⟩ = some (.int .i64 ((rd_T59 x6_1 x7_1).f3)) := (blk_cell BK411.out 3).trans rfl; have hfz17_0 := blk_frozen BK411.out 0; have hfz17_1 := blk_frozen BK411.out 1; have hfz17_2 := blk_frozen BK411.out 2; have hfz17_3 := blk_frozen BK411.out 3; have p12 : 0 ≤ (x7_1 : Int) := of_decide_eq_true zax; have q12 : (x7_1 : Int) < ((x6_1.length : Int) : Int) := of_decide_eq_true zax; obtain ⟨go12, co12, eo12, gb12, gl12, cl12, HG12⟩ := Kd.R_form HO_6.out (by omega); (first | cases eo12 | (injection eo12 with ea_ en_ ec_; (first | subst ea_ | (injection ea_ with ea_; subst ea_)); subst ec_; clear en_)); have GB12 := Aside0.mk gb12; have GG12 := Aside0.mk HG12; clear gb12 gl12 HG12; (first | simp only [add_plain] at hx410_0 | skip); (first | simp only [add_plain] at hx410_1 | skip); (first | simp only [add_plain] at hx410_2 | skip); (first | simp only [add_plain] at hx410_3 | skip); obtain ⟨ce12, hcl12, hM12, hcc12, hfr12⟩ := Kd.R_elem HO_6.out z59 (x7_1 : Int) p12 q12; obtain rfl := k59_openM hM12; have hx12_0 : w16.cell? ⟨go12, (x7_1 : Int).toNat * 4, none⟩ = some (.int .i64 ((rd_T59 x6_1 x7_1).f0)) := hcc12 0 _ rfl; have hx12_1 : w16.cell? ⟨go12, (x7_1 : Int).toNat * 4 + 1, none⟩ = some (.int .i64 ((rd_T59 x6_1 x7_1).f1)) := hcc12 1 _ rfl; have hx12_2 : w16.cell? ⟨go12, (x7_1 : Int).toNat * 4 + 2, none⟩ = some (.int .i64 ((rd_T59 x6_1 x7_1).f2)) := hcc12 2 _ rfl; have hx12_3 : w16.cell? ⟨go12, (x7_1 : Int).toNat * 4 + 3, none⟩ = some (.int .i64 ((rd_T59 x6_1 x7_1).f3)) := hcc12 3 _ rfl; have hf12_0 : w16.frozen? ⟨go12, (x7_1 : Int).toNat * 4, none⟩ = false := hfr12 0; have hf12_1 : w16.frozen? ⟨go12, (x7_1 : Int).toNat * 4 + 1, none⟩ = false := hfr12 1; have hf12_2 : w16.frozen? ⟨go12, (x7_1 : Int).toNat * 4 + 2, none⟩ = false := hfr12 2; have hf12_3 : w16.frozen? ⟨go12, (x7_1 : Int).toNat * 4 + 3, none⟩ = false := hfr12 3; clear hcl12 hcc12 hfr12 hM12; replace p12 := eq_true p12; replace q12 := eq_true q12; have HX18 := Aside0.mk (show Kd.R k59 59 w16 w.heap.size (fun k_ => k_ ≠ gb411) (.slice (some ⟨go12, 0, none⟩) x6_1.length co13) x6_1 from (zRx HO_6.out)); obtain ⟨ce18, hcl18, hM18, hcc18, hfr18⟩ := Kd.R_elem HX18.out z59 (x7_1 : Int) (of_decide_eq_true zax) (by have h_ : (x7_1 : Int) < ((x6_1.length : Int) : Int) := of_decide_eq_true zax; first | exact h_ | (have e_ := (Kd.R_reads' HO_6.out).1; omega) | simpa using h_); obtain rfl := k59_openM hM18; have HP18 := Kd.R_seg HX18.out (x7_1 : Int) (of_decide_eq_true zax) (by have h_ : (x7_1 : Int) < ((x6_1.length : Int) : Int) := of_decide_eq_true zax; first | exact h_ | (have e_ := (Kd.R_reads' HO_6.out).1; omega) | simpa using h_) (seg := [.int .i64 a1, .int .i64 3, .int .i64 ((rd_T59 x6_1 x7_1).f2), .int .i64 0]) (j := 0) hcl18 hcc18 (show 4 ≤ 4 from by decide) (x' := (⟨a1, 3, (rd_T59 x6_1 x7_1).f2, 0⟩ : S59)) (k59_mkM _ _ _ (⟨a1, 3, (rd_T59 x6_1 x7_1).f2, 0⟩ : S59) ) (fun _ hk => hk); have hx18_0 := hcc18 0 _ rfl; (try simp only [show (k59).sz = 4 from rfl, Nat.mul_one, Nat.add_zero] at hx18_0); have hf18_0 := hfr18 0; (try simp only [show (k59).sz = 4 from rfl, Nat.mul_one, Nat.add_zero] at hf18_0); have hx18_1 := hcc18 1 _ rfl; (try simp only [show (k59).sz = 4 from rfl, Nat.mul_one, Nat.add_zero] at hx18_1); have hf18_1 := hfr18 1; (try simp only [show (k59).sz = 4 from rfl, Nat.mul_one, Nat.add_zero] at hf18_1); have hx18_2 := hcc18 2 _ rfl; (try simp only [show (k59).sz = 4 from rfl, Nat.mul_one, Nat.add_zero] at hx18_2); have hf18_2 := hfr18 2; (try simp only [show (k59).sz = 4 from rfl, Nat.mul_one, Nat.add_zero] at hf18_2); have hx18_3 := hcc18 3 _ rfl; (try simp only [show (k59).sz = 4 from rfl, Nat.mul_one, Nat.add_zero] at hx18_3); have hf18_3 := hfr18 3; (try simp only [show (k59).sz = 4 from rfl, Nat.mul_one, Nat.add_zero] at hf18_3); clear hcl18 hcc18 hfr18 hM18) | ((with_reducible refine gate_store (t := 59) (p := 45) rfl ?_); refine store_event (t := 59) (p := 45) (v := ?vo_w19) (w1 := ((((w16.setCell ⟨go12, (x7_1 : Int).toNat * 4, none⟩ (.int .i64 a1)).setCell ⟨go12, (x7_1 : Int).toNat * 4 + 1, none⟩ (.int .i64 3)).setCell ⟨go12, (x7_1 : Int).toNat * 4 + 2, none⟩ (.int .i64 ((rd_T59 x6_1 x7_1).f2))).setCell ⟨go12, (x7_1 : Int).toNat * 4 + 3, none⟩ (.int .i64 0))) ?hg ?ho ?hn ?hr ?_; (case ho => rfl); (case hg => rfl); (case hn => rfl); (case hr => exact zsx); intro w19 hw; have hg : w16.grownBy w19 (some go12) := (by rw [hw]; exact HP18.2); have hp_ : Kd.R k59 59 w19 w.heap.size (fun k_ => k_ ≠ gb411) (.slice (some ⟨go12, 0, none⟩) x6_1.length co13) y412 := (by rw [hw, Ny412.out]; exact HP18.1); clear HP18; have n0_ := Aside0.mk (hp_); have n1_ := Aside0.mk (blk_grown (g := gb411) (o := .cells #[.int .i64 ((rd_T59 x6_1 x7_1).f0), .int .i64 ((rd_T59 x6_1 x7_1).f1), .int .i64 ((rd_T59 x6_1 x7_1).f2), .int .i64 ((rd_T59 x6_1 x7_1).f3)] 59 (0, 0)) (zbx BK411.out) hg (Kd.R_away HO_6.out (fun _ hk => hk))); have n2_ := Aside0.mk ((by rw [hw]; exact below_set (below_set (below_set (below_set (HB.out) GB12.out) GB12.out) GB12.out) GB12.out : Below w.heap.size w w19)); clear HO_6; clear BK411; clear HB; have HO_6 := n0_; have BK411 := n1_; have HB := n2_; clear n0_ n1_ n2_; clear hg hw hp_))
         go_ret2
         exact ⟨_, by first | rfl | (simp [errW_none, errW_some] <;> rfl) | (simp [*, errW_none, errW_some] <;> rfl), by (with_reducible repeat (first | apply Kd.R_alloc | apply Kd.R_drewN | apply Kd.R_drew)); exact Kd.R_mono HO_6.out (fun _ hk => trivial), by exact zBy HB.out GE411.out⟩
       ·rw [if_neg c11] at H
        have c11b0 : (((rd_T59 x6_1 x7_1).f1) == 2) = false := beq_eq_false_iff_ne.mpr c11
        have c11b1 : (((rd_T59 x6_1 x7_1).f1) != 2) = true := bne_iff_ne.mpr c11
        by_cases c20 : ((rd_T59 x6_1 x7_1).f1) = 3
        ·rw [if_pos c20] at H
         have c20b0 : (((rd_T59 x6_1 x7_1).f1) == 3) = true := beq_iff_eq.mpr c20
         have c20b1 : (((rd_T59 x6_1 x7_1).f1) != 3) = false := bne_eq_false_iff_eq.mpr c20
         clear c20
         obtain ⟨y413, hy413⟩ : ∃ y_ : List (S59), y_ = (x6_1.set (x7_1 : Int).toNat (⟨a1, 3, (rd_T59 x6_1 x7_1).f2, 0⟩ : S59)) := ⟨_, rfl⟩
         replace H : (some (y413, true)) = some (r1, r2) := by first | (rw [hy413]; with_reducible exact H) | (have H2_ := (Option.bind_some _ _).symm.trans H; rw [hy413]; with_reducible exact H2_) | (have H2_ := (Option.bind_some _ _).symm.trans H; with_reducible exact H2_) | with_reducible exact H | (rw [hy413]; exact H) | exact H
         have Ny413 := Aside0.mk hy413
         clear hy413
         focus
          simp only [Option.some.injEq, Prod.mk.injEq] at H
          obtain ⟨rfl, rfl⟩ := H
          obtain ⟨Ao22, co22, eo22⟩ := Kd.R_slice HO_6.out
          subst eo22
          have p410 : 0 ≤ (x7_1 : Int) := of_decide_eq_true zax
          have q410 : x7_1 < (x6_1.length : Int) := of_decide_eq_true zax
          obtain ⟨ad410, e410, hx410_0, hx410_1, hx410_2, hx410_3⟩ := at_T59 (Kd.R_reads' HO_6.out).2.2 x7_1 p410 q410
          cases e410
          replace p410 := eq_true p410
          replace q410 := eq_true q410
          go_wp2_with (first | ((with_reducible refine gate_dst (N := 8) rfl ?_); refine box_event ?hg (N := 8) ?hd (cs := #[.int .i64 0, .int .i64 0, .int .i64 0, .int .i64 0]) (t := 59) ?hr ?_; (case hd => rfl); (case hg => rfl); (case hr => exact zsx); intro gb411 hg w23 hbox hb; have n0_ := Aside0.mk (Kd.R_below (Kd.R_elderB (zRx HO_6.out) gb411 (Nat.le_of_eq hg.symm)) hb); have n1_ := Aside0.mk (below_step (zBx HB.out) hb); have n2_ := Aside0.mk (hbox); have n3_ := Aside0.mk ((by rw [hg]; exact (below_size (zBx HB.out)) : w.heap.size ≤ gb411)); have n4_ := Aside0.mk ((by rw [hg]; exact (below_size (zBx HB.out)) : w.heap.size ≤ gb411)); clear HO_6; clear HB; have HO_6 := n0_; have HB := n1_; have BK411 := n2_; have GW411 := n3_; have GE411 := n4_; clear n0_ n1_ n2_ n3_ n4_; clear hb hbox hg; have hcz24_0 : w23.cell? ⟨gb411, 0, none⟩ = some (.int .i64 0) := (blk_cell BK411.out 0).trans rfl; have hcz24_1 : w23.cell? ⟨gb411, 1, none⟩ = some (.int .i64 0) := (blk_cell BK411.out 1).trans rfl; have hcz24_2 : w23.cell? ⟨gb411, 2, none⟩ = some (.int .i64 0) := (blk_cell BK411.out 2).trans rfl; have hcz24_3 : w23.cell? ⟨gb411, 3, none⟩ = some (.int .i64 0) := (blk_cell BK411.out 3).trans rfl; have hfz24_0 := blk_frozen BK411.out 0; have hfz24_1 := blk_frozen BK411.out 1; have hfz24_2 := blk_frozen BK411.out 2; have hfz24_3 := blk_frozen BK411.out 3) | ((with_reducible refine gate_store (t := 59) (p := 8) rfl ?_); refine store_event (t := 59) (p := 8) (v := ?vo_w25) (w1 := ((((w23.setCell ⟨gb411, 0, none⟩ (.int .i64 ((rd_T59 x6_1 x7_1).f0))).setCell ⟨gb411, 1, none⟩ (.int .i64 ((rd_T59 x6_1 x7_1).f1))).setCell ⟨gb411, 2, none⟩ (.int .i64 ((rd_T59 x6_1 x7_1).f2))).setCell ⟨gb411, 3, none⟩ (.int .i64 ((rd_T59 x6_1 x7_1).f3)))) ?hg ?ho ?hn ?hr ?_; (case ho => rfl); (case hg => rfl); (case hn => rfl); (case hr => exact zsx); intro w25 hw; have n0_ : Aside0 (Kd.R k59 59 w25 w.heap.size (fun k_ => k_ ≠ gb411) (.slice (some ad410) x6_1.length co22) x6_1) := ⟨(by rw [hw]; exact (by (with_reducible repeat (first | apply Kd.R_alloc | apply Kd.R_drewN | apply Kd.R_drew)); exact Kd.R_mono (Kd.R_far (p := ⟨gb411, 3, none⟩) (Kd.R_far (p := ⟨gb411, 2, none⟩) (Kd.R_far (p := ⟨gb411, 1, none⟩) (Kd.R_far (p := ⟨gb411, 0, none⟩) (Kd.R_mono HO_6.out (fun k_ hk => (⟨hk, hk.2⟩ : _ ∧ k_ ≠ gb411))) (fun _ hk => hk.2) (.int .i64 ((rd_T59 x6_1 x7_1).f0))) (fun _ hk => hk.2) (.int .i64 ((rd_T59 x6_1 x7_1).f1))) (fun _ hk => hk.2) (.int .i64 ((rd_T59 x6_1 x7_1).f2))) (fun _ hk => hk.2) (.int .i64 ((rd_T59 x6_1 x7_1).f3))) (fun _ hk => hk.1.2)))⟩; have n1_ : Aside0 (w25.heap[gb411]? = some (.cells #[.int .i64 ((rd_T59 x6_1 x7_1).f0), .int .i64 ((rd_T59 x6_1 x7_1).f1), .int .i64 ((rd_T59 x6_1 x7_1).f2), .int .i64 ((rd_T59 x6_1 x7_1).f3)] 59 (0, 0))) := ⟨(by rw [hw]; exact (by (with_reducible repeat (first | refine blk_drewN ?_ _ | refine blk_drew ?_ | refine blk_alloc ?_ _)); refine blk_put (cs := #[.int .i64 ((rd_T59 x6_1 x7_1).f0), .int .i64 ((rd_T59 x6_1 x7_1).f1), .int .i64 ((rd_T59 x6_1 x7_1).f2), .int .i64 0]) ?_ 3 _ rfl; (with_reducible repeat (first | refine blk_drewN ?_ _ | refine blk_drew ?_ | refine blk_alloc ?_ _)); refine blk_put (cs := #[.int .i64 ((rd_T59 x6_1 x7_1).f0), .int .i64 ((rd_T59 x6_1 x7_1).f1), .int .i64 0, .int .i64 0]) ?_ 2 _ rfl; (with_reducible repeat (first | refine blk_drewN ?_ _ | refine blk_drew ?_ | refine blk_alloc ?_ _)); refine blk_put (cs := #[.int .i64 ((rd_T59 x6_1 x7_1).f0), .int .i64 0, .int .i64 0, .int .i64 0]) ?_ 1 _ rfl; (with_reducible repeat (first | refine blk_drewN ?_ _ | refine blk_drew ?_ | refine blk_alloc ?_ _)); refine blk_put (cs := #[.int .i64 0, .int .i64 0, .int .i64 0, .int .i64 0]) ?_ 0 _ rfl; (with_reducible repeat (first | refine blk_drewN ?_ _ | refine blk_drew ?_ | refine blk_alloc ?_ _)); exact BK411.out))⟩; have n2_ : Aside0 (Below w.heap.size w w25) := ⟨(by rw [hw]; exact (zBy HB.out GE411.out))⟩; clear hw; clear HO_6; clear BK411; clear HB; have HO_6 := n0_; have BK411 := n1_; have HB := n2_; clear n0_ n1_ n2_; have hcz26_0 : w25.cell? ⟨gb411, 0, none⟩ = some (.int .i64 ((rd_T59 x6_1 x7_1).f0)) := (blk_cell BK411.out 0).trans rfl; have hcz26_1 : w25.cell? ⟨gb411, 1, none⟩ = some (.int .i64 ((rd_T59 x6_1 x7_1).f1)) := (blk_cell BK411.out 1).trans rfl; have hcz26_2 : w25.cell? ⟨gb411, 2, none⟩ = some (.int .i64 ((rd_T59 x6_1 x7_1).f2)) := (blk_cell BK411.out 2).trans rfl; have hcz26_3 : w25.cell? ⟨gb411, 3, none⟩ = some (.int .i64 ((rd_T59 x6_1 x7_1).f3)) := (blk_cell BK411.out 3).trans rfl; have hfz26_0 := blk_frozen BK411.out 0; have hfz26_1 := blk_frozen BK411.out 1; have hfz26_2 := blk_frozen BK411.out 2; have hfz26_3 := blk_frozen BK411.out 3; have p21 : 0 ≤ (x7_1 : Int) := of_decide_eq_true zax; have q21 : (x7_1 : Int) < ((x6_1.length : Int) : Int) := of_decide_eq_true zax; obtain ⟨go21, co21, eo21, gb21, gl21, cl21, HG21⟩ := Kd.R_form HO_6.out (by omega); (first | cases eo21 | (injection eo21 with ea_ en_ ec_; (first | subst ea_ | (injection ea_ with ea_; subst ea_)); subst ec_; clear en_)); have GB21 := Aside0.mk gb21; have GG21 := Aside0.mk HG21; clear gb21 gl21 HG21; (first | simp only [add_plain] at hx410_0 | skip); (first | simp only [add_plain] at hx410_1 | skip); (first | simp only [add_plain] at hx410_2 | skip); (first | simp only [add_plain] at hx410_3 | skip); obtain ⟨ce21, hcl21, hM21, hcc21, hfr21⟩ := Kd.R_elem HO_6.out z59 (x7_1 : Int) p21 q21; obtain rfl := k59_openM hM21; have hx21_0 : w25.cell? ⟨go21, (x7_1 : Int).toNat * 4, none⟩ = some (.int .i64 ((rd_T59 x6_1 x7_1).f0)) := hcc21 0 _ rfl; have hx21_1 : w25.cell? ⟨go21, (x7_1 : Int).toNat * 4 + 1, none⟩ = some (.int .i64 ((rd_T59 x6_1 x7_1).f1)) := hcc21 1 _ rfl; have hx21_2 : w25.cell? ⟨go21, (x7_1 : Int).toNat * 4 + 2, none⟩ = some (.int .i64 ((rd_T59 x6_1 x7_1).f2)) := hcc21 2 _ rfl; have hx21_3 : w25.cell? ⟨go21, (x7_1 : Int).toNat * 4 + 3, none⟩ = some (.int .i64 ((rd_T59 x6_1 x7_1).f3)) := hcc21 3 _ rfl; have hf21_0 : w25.frozen? ⟨go21, (x7_1 : Int).toNat * 4, none⟩ = false := hfr21 0; have hf21_1 : w25.frozen? ⟨go21, (x7_1 : Int).toNat * 4 + 1, none⟩ = false := hfr21 1; have hf21_2 : w25.frozen? ⟨go21, (x7_1 : Int).toNat * 4 + 2, none⟩ = false := hfr21 2; have hf21_3 : w25.frozen? ⟨go21, (x7_1 : Int).toNat * 4 + 3, none⟩ = false := hfr21 3; clear hcl21 hcc21 hfr21 hM21; replace p21 := eq_true p21; replace q21 := eq_true q21; have HX27 := Aside0.mk (show Kd.R k59 59 w25 w.heap.size (fun k_ => k_ ≠ gb411) (.slice (some ⟨go21, 0, none⟩) x6_1.length co22) x6_1 from (zRx HO_6.out)); obtain ⟨ce27, hcl27, hM27, hcc27, hfr27⟩ := Kd.R_elem HX27.out z59 (x7_1 : Int) (of_decide_eq_true zax) (by have h_ : (x7_1 : Int) < ((x6_1.length : Int) : Int) := of_decide_eq_true zax; first | exact h_ | (have e_ := (Kd.R_reads' HO_6.out).1; omega) | simpa using h_); obtain rfl := k59_openM hM27; have HP27 := Kd.R_seg HX27.out (x7_1 : Int) (of_decide_eq_true zax) (by have h_ : (x7_1 : Int) < ((x6_1.length : Int) : Int) := of_decide_eq_true zax; first | exact h_ | (have e_ := (Kd.R_reads' HO_6.out).1; omega) | simpa using h_) (seg := [.int .i64 a1, .int .i64 3, .int .i64 ((rd_T59 x6_1 x7_1).f2), .int .i64 0]) (j := 0) hcl27 hcc27 (show 4 ≤ 4 from by decide) (x' := (⟨a1, 3, (rd_T59 x6_1 x7_1).f2, 0⟩ : S59)) (k59_mkM _ _ _ (⟨a1, 3, (rd_T59 x6_1 x7_1).f2, 0⟩ : S59) ) (fun _ hk => hk); have hx27_0 := hcc27 0 _ rfl; (try simp only [show (k59).sz = 4 from rfl, Nat.mul_one, Nat.add_zero] at hx27_0); have hf27_0 := hfr27 0; (try simp only [show (k59).sz = 4 from rfl, Nat.mul_one, Nat.add_zero] at hf27_0); have hx27_1 := hcc27 1 _ rfl; (try simp only [show (k59).sz = 4 from rfl, Nat.mul_one, Nat.add_zero] at hx27_1); have hf27_1 := hfr27 1; (try simp only [show (k59).sz = 4 from rfl, Nat.mul_one, Nat.add_zero] at hf27_1); have hx27_2 := hcc27 2 _ rfl; (try simp only [show (k59).sz = 4 from rfl, Nat.mul_one, Nat.add_zero] at hx27_2); have hf27_2 := hfr27 2; (try simp only [show (k59).sz = 4 from rfl, Nat.mul_one, Nat.add_zero] at hf27_2); have hx27_3 := hcc27 3 _ rfl; (try simp only [show (k59).sz = 4 from rfl, Nat.mul_one, Nat.add_zero] at hx27_3); have hf27_3 := hfr27 3; (try simp only [show (k59).sz = 4 from rfl, Nat.mul_one, Nat.add_zero] at hf27_3); clear hcl27 hcc27 hfr27 hM27) | ((with_reducible refine gate_store (t := 59) (p := 45) rfl ?_); refine store_event (t := 59) (p := 45) (v := ?vo_w28) (w1 := ((((w25.setCell ⟨go21, (x7_1 : Int).toNat * 4, none⟩ (.int .i64 a1)).setCell ⟨go21, (x7_1 : Int).toNat * 4 + 1, none⟩ (.int .i64 3)).setCell ⟨go21, (x7_1 : Int).toNat * 4 + 2, none⟩ (.int .i64 ((rd_T59 x6_1 x7_1).f2))).setCell ⟨go21, (x7_1 : Int).toNat * 4 + 3, none⟩ (.int .i64 0))) ?hg ?ho ?hn ?hr ?_; (case ho => rfl); (case hg => rfl); (case hn => rfl); (case hr => exact zsx); intro w28 hw; have hg : w25.grownBy w28 (some go21) := (by rw [hw]; exact HP27.2); have hp_ : Kd.R k59 59 w28 w.heap.size (fun k_ => k_ ≠ gb411) (.slice (some ⟨go21, 0, none⟩) x6_1.length co22) y413 := (by rw [hw, Ny413.out]; exact HP27.1); clear HP27; have n0_ := Aside0.mk (hp_); have n1_ := Aside0.mk (blk_grown (g := gb411) (o := .cells #[.int .i64 ((rd_T59 x6_1 x7_1).f0), .int .i64 ((rd_T59 x6_1 x7_1).f1), .int .i64 ((rd_T59 x6_1 x7_1).f2), .int .i64 ((rd_T59 x6_1 x7_1).f3)] 59 (0, 0)) (zbx BK411.out) hg (Kd.R_away HO_6.out (fun _ hk => hk))); have n2_ := Aside0.mk ((by rw [hw]; exact below_set (below_set (below_set (below_set (HB.out) GB21.out) GB21.out) GB21.out) GB21.out : Below w.heap.size w w28)); clear HO_6; clear BK411; clear HB; have HO_6 := n0_; have BK411 := n1_; have HB := n2_; clear n0_ n1_ n2_; clear hg hw hp_))
          go_ret2
          exact ⟨_, by first | rfl | (simp [errW_none, errW_some] <;> rfl) | (simp [*, errW_none, errW_some] <;> rfl), by (with_reducible repeat (first | apply Kd.R_alloc | apply Kd.R_drewN | apply Kd.R_drew)); exact Kd.R_mono HO_6.out (fun _ hk => trivial), by exact zBy HB.out GE411.out⟩
        ·rw [if_neg c20] at H
         have c20b0 : (((rd_T59 x6_1 x7_1).f1) == 3) = false := beq_eq_false_iff_ne.mpr c20
         have c20b1 : (((rd_T59 x6_1 x7_1).f1) != 3) = true := bne_iff_ne.mpr c20
         focus
          have H' := Aside0.mk H
          clear H
          obtain ⟨Ao29, co29, eo29⟩ := Kd.R_slice HO_6.out
          subst eo29
          have p410 : 0 ≤ (x7_1 : Int) := of_decide_eq_true zax
          have q410 : x7_1 < (x6_1.length : Int) := of_decide_eq_true zax
          obtain ⟨ad410, e410, hx410_0, hx410_1, hx410_2, hx410_3⟩ := at_T59 (Kd.R_reads' HO_6.out).2.2 x7_1 p410 q410
          cases e410
          replace p410 := eq_true p410
          replace q410 := eq_true q410
          go_wp2_with (first | ((with_reducible refine gate_dst (N := 8) rfl ?_); refine box_event ?hg (N := 8) ?hd (cs := #[.int .i64 0, .int .i64 0, .int .i64 0, .int .i64 0]) (t := 59) ?hr ?_; (case hd => rfl); (case hg => rfl); (case hr => exact zsx); intro gb411 hg w30 hbox hb; have n0_ := Aside0.mk (Kd.R_below (Kd.R_elderB (zRx HO_6.out) gb411 (Nat.le_of_eq hg.symm)) hb); have n1_ := Aside0.mk (below_step (zBx HB.out) hb); have n2_ := Aside0.mk (hbox); have n3_ := Aside0.mk ((by rw [hg]; exact (below_size (zBx HB.out)) : w.heap.size ≤ gb411)); have n4_ := Aside0.mk ((by rw [hg]; exact (below_size (zBx HB.out)) : w.heap.size ≤ gb411)); clear HO_6; clear HB; have HO_6 := n0_; have HB := n1_; have BK411 := n2_; have GW411 := n3_; have GE411 := n4_; clear n0_ n1_ n2_ n3_ n4_; clear hb hbox hg; have hcz31_0 : w30.cell? ⟨gb411, 0, none⟩ = some (.int .i64 0) := (blk_cell BK411.out 0).trans rfl; have hcz31_1 : w30.cell? ⟨gb411, 1, none⟩ = some (.int .i64 0) := (blk_cell BK411.out 1).trans rfl; have hcz31_2 : w30.cell? ⟨gb411, 2, none⟩ = some (.int .i64 0) := (blk_cell BK411.out 2).trans rfl; have hcz31_3 : w30.cell? ⟨gb411, 3, none⟩ = some (.int .i64 0) := (blk_cell BK411.out 3).trans rfl; have hfz31_0 := blk_frozen BK411.out 0; have hfz31_1 := blk_frozen BK411.out 1; have hfz31_2 := blk_frozen BK411.out 2; have hfz31_3 := blk_frozen BK411.out 3))
          go_roundg k1
          case measure => have := HK1.out; omega
          case rel => exact ⟨(x6_1), (wrap64 (x7_1 + 1)), zrx, H', ⟨by have := HK1.out; omega⟩, ⟨by (with_reducible repeat (first | apply Kd.R_alloc | apply Kd.R_drewN | apply Kd.R_drew)); exact Kd.R_mono (Kd.R_far (p := ⟨gb411, 3, none⟩) (Kd.R_far (p := ⟨gb411, 2, none⟩) (Kd.R_far (p := ⟨gb411, 1, none⟩) (Kd.R_far (p := ⟨gb411, 0, none⟩) (Kd.R_mono HO_6.out (fun k_ hk => (⟨hk, hk.2⟩ : _ ∧ k_ ≠ gb411))) (fun _ hk => hk.2) (.int .i64 ((rd_T59 x6_1 x7_1).f0))) (fun _ hk => hk.2) (.int .i64 ((rd_T59 x6_1 x7_1).f1))) (fun _ hk => hk.2) (.int .i64 ((rd_T59 x6_1 x7_1).f2))) (fun _ hk => hk.2) (.int .i64 ((rd_T59 x6_1 x7_1).f3))) (fun _ hk => trivial)⟩, ⟨by exact zBy HB.out GE411.out⟩⟩
      ·rw [if_neg c10] at H
       have c10b0 : (((rd_T59 x6_1 x7_1).f0) == a1) = false := beq_eq_false_iff_ne.mpr c10
       have c10b1 : (((rd_T59 x6_1 x7_1).f0) != a1) = true := bne_iff_ne.mpr c10
       focus
        have H' := Aside0.mk H
        clear H
        obtain ⟨Ao32, co32, eo32⟩ := Kd.R_slice HO_6.out
        subst eo32
        have p410 : 0 ≤ (x7_1 : Int) := of_decide_eq_true zax
        have q410 : x7_1 < (x6_1.length : Int) := of_decide_eq_true zax
        obtain ⟨ad410, e410, hx410_0, hx410_1, hx410_2, hx410_3⟩ := at_T59 (Kd.R_reads' HO_6.out).2.2 x7_1 p410 q410
        cases e410
        replace p410 := eq_true p410
        replace q410 := eq_true q410
        go_wp2_with (first | ((with_reducible refine gate_dst (N := 8) rfl ?_); refine box_event ?hg (N := 8) ?hd (cs := #[.int .i64 0, .int .i64 0, .int .i64 0, .int .i64 0]) (t := 59) ?hr ?_; (case hd => rfl); (case hg => rfl); (case hr => exact zsx); intro gb411 hg w33 hbox hb; have n0_ := Aside0.mk (Kd.R_below (Kd.R_elderB (zRx HO_6.out) gb411 (Nat.le_of_eq hg.symm)) hb); have n1_ := Aside0.mk (below_step (zBx HB.out) hb); have n2_ := Aside0.mk (hbox); have n3_ := Aside0.mk ((by rw [hg]; exact (below_size (zBx HB.out)) : w.heap.size ≤ gb411)); have n4_ := Aside0.mk ((by rw [hg]; exact (below_size (zBx HB.out)) : w.heap.size ≤ gb411)); clear HO_6; clear HB; have HO_6 := n0_; have HB := n1_; have BK411 := n2_; have GW411 := n3_; have GE411 := n4_; clear n0_ n1_ n2_ n3_ n4_; clear hb hbox hg; have hcz34_0 : w33.cell? ⟨gb411, 0, none⟩ = some (.int .i64 0) := (blk_cell BK411.out 0).trans rfl; have hcz34_1 : w33.cell? ⟨gb411, 1, none⟩ = some (.int .i64 0) := (blk_cell BK411.out 1).trans rfl; have hcz34_2 : w33.cell? ⟨gb411, 2, none⟩ = some (.int .i64 0) := (blk_cell BK411.out 2).trans rfl; have hcz34_3 : w33.cell? ⟨gb411, 3, none⟩ = some (.int .i64 0) := (blk_cell BK411.out 3).trans rfl; have hfz34_0 := blk_frozen BK411.out 0; have hfz34_1 := blk_frozen BK411.out 1; have hfz34_2 := blk_frozen BK411.out 2; have hfz34_3 := blk_frozen BK411.out 3))
        go_roundg k1
        case measure => have := HK1.out; omega
        case rel => exact ⟨(x6_1), (wrap64 (x7_1 + 1)), zrx, H', ⟨by have := HK1.out; omega⟩, ⟨by (with_reducible repeat (first | apply Kd.R_alloc | apply Kd.R_drewN | apply Kd.R_drew)); exact Kd.R_mono (Kd.R_far (p := ⟨gb411, 3, none⟩) (Kd.R_far (p := ⟨gb411, 2, none⟩) (Kd.R_far (p := ⟨gb411, 1, none⟩) (Kd.R_far (p := ⟨gb411, 0, none⟩) (Kd.R_mono HO_6.out (fun k_ hk => (⟨hk, hk.2⟩ : _ ∧ k_ ≠ gb411))) (fun _ hk => hk.2) (.int .i64 ((rd_T59 x6_1 x7_1).f0))) (fun _ hk => hk.2) (.int .i64 ((rd_T59 x6_1 x7_1).f1))) (fun _ hk => hk.2) (.int .i64 ((rd_T59 x6_1 x7_1).f2))) (fun _ hk => hk.2) (.int .i64 ((rd_T59 x6_1 x7_1).f3))) (fun _ hk => trivial)⟩, ⟨by exact zBy HB.out GE411.out⟩⟩
     ·rw [if_neg c9] at H
      exact absurd H (by simp)
    ·rw [if_neg c8] at H
     have c8b0 : decide (x7_1 < (x6_1.length : Int)) = false := decide_eq_false c8
     clear c8
     obtain ⟨y414, hy414⟩ : ∃ y_ : List (S59), y_ = (([] : List (S59))) := ⟨_, rfl⟩
     replace H : (some (y414, false)) = some (r1, r2) := by first | (rw [hy414]; with_reducible exact H) | (have H2_ := (Option.bind_some _ _).symm.trans H; rw [hy414]; with_reducible exact H2_) | (have H2_ := (Option.bind_some _ _).symm.trans H; with_reducible exact H2_) | with_reducible exact H | (rw [hy414]; exact H) | exact H
     have Ny414 := Aside0.mk hy414
     clear hy414
     focus
      simp only [Option.some.injEq, Prod.mk.injEq] at H
      obtain ⟨rfl, rfl⟩ := H
      obtain ⟨Ao35, co35, eo35⟩ := Kd.R_slice HO_6.out
      subst eo35
      go_wp2_with (first | ((with_reducible refine gate_dst (N := 47) rfl ?_); refine Kd.R_lit k59 _ 59 ?hg (N := 47) ?hd (xs := ([] : List (S59))) (inner := []) (ok := fun _ => True) (okp := fun _ => True) ?hr ?hp (fun _ hk => hk) trivial (Below.refl _ _) (Nat.le_refl _) (by simp) ?_; (case hd => rfl); (case hg => rfl); (case hr => exact zsx); (case hp => exact (Reps.none _ _)); intro v415 w36 ho37 hb hg_ hnew_; clear hg_ hnew_; (first | rw [← Ny414.out] at ho37 | (simp only [Int.reduceToNat] at ho37; rw [← Ny414.out] at ho37)); have n0_ := Aside0.mk (Kd.R_elder' (zRx HO_6.out) (Kd.R_base ho37) hb); have n1_ := Aside0.mk (Kd.R_lower (Kd.R_new' ho37 (Kd.R_lt (zRx HO_6.out))) (below_size (zBx HB.out))); have n2_ := Aside0.mk (below_step (zBx HB.out) hb); clear HO_6; clear HB; have HO_6 := n0_; have HO416 := n1_; have HB := n2_; clear n0_ n1_ n2_; clear hb ho37))
      go_ret2
      exact ⟨_, by first | rfl | (simp [errW_none, errW_some] <;> rfl) | (simp [*, errW_none, errW_some] <;> rfl), by (with_reducible repeat (first | apply Kd.R_alloc | apply Kd.R_drewN | apply Kd.R_drew)); exact Kd.R_mono HO416.out (fun _ hk => trivial), by exact zBx HB.out⟩
 ·replace c4 := Bool.eq_false_iff.mpr c4
  subst c4
  have H1 : (some ((([] : List (S59))), false)) = some (r1, r2) := by rw [if_neg (show ¬ (false = true) by decide)] at H; exact H
  clear H
  have H := H1
  clear H1
  obtain ⟨y404, hy404⟩ : ∃ y_ : List (S59), y_ = (([] : List (S59))) := ⟨_, rfl⟩
  replace H : (some (y404, false)) = some (r1, r2) := by first | (rw [hy404]; with_reducible exact H) | (have H2_ := (Option.bind_some _ _).symm.trans H; rw [hy404]; with_reducible exact H2_) | (have H2_ := (Option.bind_some _ _).symm.trans H; with_reducible exact H2_) | with_reducible exact H | (rw [hy404]; exact H) | exact H
  have Ny404 := Aside0.mk hy404
  clear hy404
  focus
   simp only [Option.some.injEq, Prod.mk.injEq] at H
   obtain ⟨rfl, rfl⟩ := H
   go_enter Try.func56, Try.ntmps56
   go_wp2_with (first | ((with_reducible refine gate_callee (f := 79) rfl ?_); refine goesL_ (some 10) rfl rfl Try.func79 (by kernel_rfl) rfl #[.slice A0 l0.length c0] rfl zlx ?_; (with_reducible refine (spec_l19Good.calls k _ _ l0 false _ ?side1 ?side2 A3.out).mono ?_); (case side1 => exact zCx HR0.out); (case side2 => exact HC0.out); rintro e w38 ⟨rfl, hb⟩; refine ⟨_, rfl, ?_⟩; have n0_ := Aside0.mk (below_step (zBx HB.out) hb); clear HB; have HB := n0_; clear n0_; (try clear hb); (try clear hb2); (try clear hk); (try clear hi)) | ((with_reducible refine gate_dst (N := 12) rfl ?_); refine Kd.R_lit k59 _ 59 ?hg (N := 12) ?hd (xs := ([] : List (S59))) (inner := []) (ok := fun _ => True) (okp := fun _ => True) ?hr ?hp (fun _ hk => hk) trivial (Below.refl _ _) (Nat.le_refl _) (by simp) ?_; (case hd => rfl); (case hg => rfl); (case hr => exact zsx); (case hp => exact (Reps.none _ _)); intro v405 w39 ho40 hb hg_ hnew_; clear hg_ hnew_; (first | rw [← Ny404.out] at ho40 | (simp only [Int.reduceToNat] at ho40; rw [← Ny404.out] at ho40)); have n0_ := Aside0.mk (Kd.R_lower ho40 (below_size (zBx HB.out))); have n1_ := Aside0.mk (below_step (zBx HB.out) hb); clear HB; have HO406 := n0_; have HB := n1_; clear n0_ n1_; clear hb ho40))
   go_ret2
   exact ⟨_, by first | rfl | (simp [errW_none, errW_some] <;> rfl) | (simp [*, errW_none, errW_some] <;> rfl), by (with_reducible repeat (first | apply Kd.R_alloc | apply Kd.R_drewN | apply Kd.R_drew)); exact HO406.out, by exact zBx HB.out⟩

end Go.Proofs.Ytkegkbpadhddkaa.XFnDeliveries
