-- written by wip/tools/xprint.py (a program of this project) out of the translation
import Derived.Test.YtkegkbpadhddkaaXFnRetriesx0
import Derived.Test.YtkegkbpadhddkaaXFnRetriesx2
import Derived.Test.YtkegkbpadhddkaaXFnRetriesx4
import Derived.Test.YtkegkbpadhddkaaXFnRetriesx6
import Derived.Test.YtkegkbpadhddkaaXFnRetriesx8
namespace Go.Proofs.Ytkegkbpadhddkaa.XFnRetries
open Go.RowKit Go.Proofs.YtkegkbpadhddkaaW.PrintWords Go.Proofs.YtkegkbpadhddkaaW.PrintLast Go.Proofs.YtkegkbpadhddkaaW.PrintMore
attribute [local go_sem] max2_int min2_int max_two min_two max_three min_three max_four min_four   -- for this text's walks alone
set_option linter.unusedVariables false
set_option linter.unusedSimpArgs false

/-! ### spec_NextMinute: function 44 -/
def spec_NextMinute.l0 : Nat → List (S59) → Int → Bool → Int → Option (Int × Bool)
 | 0, _, _, _, _ => none
 | k + 1, x0, x4, x5, x6 => if x6 < (x0.length : Int) then (if 0 ≤ x6 then (if ((rd_T59 x0 x6).f1) ≤ 2 then (if x5 = true then (if ((rd_T59 x0 x6).f3) < x4 then (spec_NextMinute.l0 k x0 ((rd_T59 x0 x6).f3) true (wrap64 (x6 + 1))) else (spec_NextMinute.l0 k x0 x4 x5 (wrap64 (x6 + 1)))) else (spec_NextMinute.l0 k x0 ((rd_T59 x0 x6).f3) true (wrap64 (x6 + 1)))) else (spec_NextMinute.l0 k x0 x4 x5 (wrap64 (x6 + 1)))) else (none)) else (some (x4, x5))
def spec_NextMinute.f (k : Nat) (l0 : List (S59)) : Option (Int × Bool) := (spec_l19Good.f k l0).bind fun t338 => (if t338 = true then (spec_NextMinute.l0 k l0 0 false 0) else (some (0, false)))
theorem spec_NextMinute.mono_l : ∀ k, (∀ y0 y1 y2 y3, LeO (spec_NextMinute.l0 k y0 y1 y2 y3) (spec_NextMinute.l0 (k + 1) y0 y1 y2 y3))
 | 0 => fun _ _ _ _ r h => by simp [spec_NextMinute.l0] at h
 | k + 1 => by
  have ih0 := spec_NextMinute.mono_l k
  ·intro y0 y1 y2 y3
   unfold spec_NextMinute.l0
   repeat' first
   | (with_reducible exact ih0 _ _ _ _)
   | (with_reducible exact spec_l19Good.mono _ _)
   | (with_reducible exact LeO.refl _)
   | (with_reducible exact LeO.none _)
   | (with_reducible refine LeO.ite ?_ ?_)
   | (with_reducible refine LeO.bind ?_ (fun _ => ?_))
   | exact ih0 _ _ _ _
   | exact spec_l19Good.mono _ _
   | exact LeO.none _
   | refine LeO.ite ?_ ?_
   | refine LeO.bind ?_ (fun _ => ?_)
theorem spec_NextMinute.mono : ∀ a0 k, LeO (spec_NextMinute.f k a0) (spec_NextMinute.f (k + 1) a0) := by
 intro a0 k
 have ih0 := spec_NextMinute.mono_l k
 unfold spec_NextMinute.f
 repeat' first
  | (with_reducible exact ih0 _ _ _ _)
  | (with_reducible exact spec_l19Good.mono _ _)
  | (with_reducible exact LeO.refl _)
  | (with_reducible exact LeO.none _)
  | (with_reducible refine LeO.ite ?_ ?_)
  | (with_reducible refine LeO.bind ?_ (fun _ => ?_))
  | exact ih0 _ _ _ _
  | exact spec_l19Good.mono _ _
  | exact LeO.none _
  | refine LeO.ite ?_ ?_
  | refine LeO.bind ?_ (fun _ => ?_)
set_option maxHeartbeats 8000000 in
set_option maxRecDepth 100000 in
theorem spec_NextMinute.calls (k : Nat) (A0 : Option Addr) (c0 : Nat) (l0 : List (S59)) (r1 : Int) (r2 : Bool) (w : World) (hr0 : Kd.C k59 w A0 l0.length l0) (hc0 : l0.length ≤ c0) (h : spec_NextMinute.f k l0 = some (r1, r2)) :
 Calls Try.prog 44 #[.slice A0 l0.length c0] w fun e w' => e = .returned (.tuple #[.int .i64 r1, .bool r2]) ∧ Below w.heap.size w w' := by
 have HR0 := Aside0.mk hr0
 have HC0 := Aside0.mk hc0
 clear hr0 hc0
 have HB := Aside0.mk (Below.refl w.heap.size w)
 have H : ((spec_l19Good.f k l0).bind fun t338 => (if t338 = true then (spec_NextMinute.l0 k l0 0 false 0) else (some (0, false)))) = some (r1, r2) := h
 clear h
 replace H := Option.bind_eq_some_iff.mp H
 obtain ⟨t338, A20, H⟩ := H
 replace H : (if t338 = true then (spec_NextMinute.l0 k l0 0 false 0) else (some (0, false))) = some (r1, r2) := H
 have A2 := Aside0.mk A20
 clear A20
 by_cases c3 : t338 = true
 ·subst c3
  have H1 : (spec_NextMinute.l0 k l0 0 false 0) = some (r1, r2) := by rw [if_pos rfl] at H; exact H
  clear H
  have H := H1
  clear H1
  have H' := Aside0.mk H
  clear H
  go_enter Try.func44, Try.ntmps44
  go_wp2_with (first | ((with_reducible refine gate_callee (f := 79) rfl ?_); refine goesL_ (some 8) rfl rfl Try.func79 (by kernel_rfl) rfl #[.slice A0 l0.length c0] rfl zlx ?_; (with_reducible refine (spec_l19Good.calls k _ _ l0 true _ ?side1 ?side2 A2.out).mono ?_); (case side1 => exact zCx HR0.out); (case side2 => exact HC0.out); rintro e w4 ⟨rfl, hb⟩; refine ⟨_, rfl, ?_⟩; have n0_ := Aside0.mk (below_step (zBx HB.out) hb); clear HB; have HB := n0_; clear n0_; (try clear hb); (try clear hb2); (try clear hk); (try clear hi)))
  go_loopg [4, 5, 6] k (fun kq v4 v5 v6 w' => ∃ (x4_1 : Int) (x5_1 : Bool) (x6_1 : Int), v4 = .int .i64 x4_1 ∧ v5 = .bool x5_1 ∧ v6 = .int .i64 x6_1 ∧ Aside0 (spec_NextMinute.l0 kq l0 x4_1 x5_1 x6_1 = some (r1, r2)) ∧ Aside0 (kq ≤ k) ∧ Aside0 (Below w.heap.size w w'))
  case atStart => exact ⟨(0), (false), (0), zrx, zrx, zrx, H', ⟨Nat.le_refl _⟩, ⟨by exact zBx HB.out⟩⟩
  case round =>
   clear H'
   try clear p2
   try clear c3
   try clear c4
   obtain ⟨x4_1, x5_1, x6_1, rfl, rfl, rfl, HA, HK1, HB⟩ := hrel
   cases gk with
   | zero => exact absurd HA.out (by simp [spec_NextMinute.l0])
   | succ k1 =>
    have H := HA.out
    clear HA
    simp only [spec_NextMinute.l0] at H
    by_cases c5 : x6_1 < (l0.length : Int)
    ·rw [if_pos c5] at H
     have c5b0 : decide (x6_1 < (l0.length : Int)) = true := decide_eq_true c5
     clear c5
     by_cases c6 : 0 ≤ x6_1
     ·rw [if_pos c6] at H
      have c6b0 : decide (0 ≤ x6_1) = true := decide_eq_true c6
      clear c6
      by_cases c7 : ((rd_T59 l0 x6_1).f1) ≤ 2
      ·rw [if_pos c7] at H
       have c7b0 : decide (((rd_T59 l0 x6_1).f1) ≤ 2) = true := decide_eq_true c7
       clear c7
       by_cases c8 : x5_1 = true
       ·subst c8
        have H1 : (if ((rd_T59 l0 x6_1).f3) < x4_1 then (spec_NextMinute.l0 k1 l0 ((rd_T59 l0 x6_1).f3) true (wrap64 (x6_1 + 1))) else (spec_NextMinute.l0 k1 l0 x4_1 true (wrap64 (x6_1 + 1)))) = some (r1, r2) := by rw [if_pos rfl] at H; exact H
        clear H
        have H := H1
        clear H1
        by_cases c9 : ((rd_T59 l0 x6_1).f3) < x4_1
        ·rw [if_pos c9] at H
         have c9b0 : decide (((rd_T59 l0 x6_1).f3) < x4_1) = true := decide_eq_true c9
         clear c9
         focus
          have H' := Aside0.mk H
          clear H
          have p339 : 0 ≤ (x6_1 : Int) := of_decide_eq_true zax
          have q339 : x6_1 < (l0.length : Int) := of_decide_eq_true zax
          obtain ⟨ad339, e339, hx339_0, hx339_1, hx339_2, hx339_3⟩ := at_T59 HR0.out x6_1 p339 q339
          cases e339
          replace hx339_0 := (HB.out.cell (World.block_lt_of_cell? w _ hx339_0)).trans hx339_0
          replace hx339_1 := (HB.out.cell (World.block_lt_of_cell? w _ hx339_1)).trans hx339_1
          replace hx339_2 := (HB.out.cell (World.block_lt_of_cell? w _ hx339_2)).trans hx339_2
          replace hx339_3 := (HB.out.cell (World.block_lt_of_cell? w _ hx339_3)).trans hx339_3
          replace p339 := eq_true p339
          replace q339 := eq_true q339
          have p340 : 0 ≤ (x6_1 : Int) := of_decide_eq_true zax
          have q340 : x6_1 < (l0.length : Int) := of_decide_eq_true zax
          obtain ⟨ad340, e340, hx340_0, hx340_1, hx340_2, hx340_3⟩ := at_T59 HR0.out x6_1 p340 q340
          obtain rfl : ad339 = ad340 := (by injection e340)
          replace hx340_0 := (HB.out.cell (World.block_lt_of_cell? w _ hx340_0)).trans hx340_0
          replace hx340_1 := (HB.out.cell (World.block_lt_of_cell? w _ hx340_1)).trans hx340_1
          replace hx340_2 := (HB.out.cell (World.block_lt_of_cell? w _ hx340_2)).trans hx340_2
          replace hx340_3 := (HB.out.cell (World.block_lt_of_cell? w _ hx340_3)).trans hx340_3
          replace p340 := eq_true p340
          replace q340 := eq_true q340
          have p341 : 0 ≤ (x6_1 : Int) := of_decide_eq_true zax
          have q341 : x6_1 < (l0.length : Int) := of_decide_eq_true zax
          obtain ⟨ad341, e341, hx341_0, hx341_1, hx341_2, hx341_3⟩ := at_T59 HR0.out x6_1 p341 q341
          obtain rfl : ad339 = ad341 := (by injection e341)
          replace hx341_0 := (HB.out.cell (World.block_lt_of_cell? w _ hx341_0)).trans hx341_0
          replace hx341_1 := (HB.out.cell (World.block_lt_of_cell? w _ hx341_1)).trans hx341_1
          replace hx341_2 := (HB.out.cell (World.block_lt_of_cell? w _ hx341_2)).trans hx341_2
          replace hx341_3 := (HB.out.cell (World.block_lt_of_cell? w _ hx341_3)).trans hx341_3
          replace p341 := eq_true p341
          replace q341 := eq_true q341
          go_wp2
          go_roundg k1
          case measure => have := HK1.out; omega
          case rel => exact ⟨((rd_T59 l0 x6_1).f3), (true), (wrap64 (x6_1 + 1)), zrx, zrx, zrx, H', ⟨by have := HK1.out; omega⟩, ⟨by exact zBx HB.out⟩⟩
        ·rw [if_neg c9] at H
         have c9b0 : decide (((rd_T59 l0 x6_1).f3) < x4_1) = false := decide_eq_false c9
         clear c9
         focus
          have H' := Aside0.mk H
          clear H
          have p339 : 0 ≤ (x6_1 : Int) := of_decide_eq_true zax
          have q339 : x6_1 < (l0.length : Int) := of_decide_eq_true zax
          obtain ⟨ad339, e339, hx339_0, hx339_1, hx339_2, hx339_3⟩ := at_T59 HR0.out x6_1 p339 q339
          cases e339
          replace hx339_0 := (HB.out.cell (World.block_lt_of_cell? w _ hx339_0)).trans hx339_0
          replace hx339_1 := (HB.out.cell (World.block_lt_of_cell? w _ hx339_1)).trans hx339_1
          replace hx339_2 := (HB.out.cell (World.block_lt_of_cell? w _ hx339_2)).trans hx339_2
          replace hx339_3 := (HB.out.cell (World.block_lt_of_cell? w _ hx339_3)).trans hx339_3
          replace p339 := eq_true p339
          replace q339 := eq_true q339
          have p340 : 0 ≤ (x6_1 : Int) := of_decide_eq_true zax
          have q340 : x6_1 < (l0.length : Int) := of_decide_eq_true zax
          obtain ⟨ad340, e340, hx340_0, hx340_1, hx340_2, hx340_3⟩ := at_T59 HR0.out x6_1 p340 q340
          obtain rfl : ad339 = ad340 := (by injection e340)
          replace hx340_0 := (HB.out.cell (World.block_lt_of_cell? w _ hx340_0)).trans hx340_0
          replace hx340_1 := (HB.out.cell (World.block_lt_of_cell? w _ hx340_1)).trans hx340_1
          replace hx340_2 := (HB.out.cell (World.block_lt_of_cell? w _ hx340_2)).trans hx340_2
          replace hx340_3 := (HB.out.cell (World.block_lt_of_cell? w _ hx340_3)).trans hx340_3
          replace p340 := eq_true p340
          replace q340 := eq_true q340
          go_wp2
          go_roundg k1
          case measure => have := HK1.out; omega
          case rel => exact ⟨(x4_1), (true), (wrap64 (x6_1 + 1)), zrx, zrx, zrx, H', ⟨by have := HK1.out; omega⟩, ⟨by exact zBx HB.out⟩⟩
       ·replace c8 := Bool.eq_false_iff.mpr c8
        subst c8
        have H1 : (spec_NextMinute.l0 k1 l0 ((rd_T59 l0 x6_1).f3) true (wrap64 (x6_1 + 1))) = some (r1, r2) := by rw [if_neg (show ¬ (false = true) by decide)] at H; exact H
        clear H
        have H := H1
        clear H1
        focus
         have H' := Aside0.mk H
         clear H
         have p339 : 0 ≤ (x6_1 : Int) := of_decide_eq_true zax
         have q339 : x6_1 < (l0.length : Int) := of_decide_eq_true zax
         obtain ⟨ad339, e339, hx339_0, hx339_1, hx339_2, hx339_3⟩ := at_T59 HR0.out x6_1 p339 q339
         cases e339
         replace hx339_0 := (HB.out.cell (World.block_lt_of_cell? w _ hx339_0)).trans hx339_0
         replace hx339_1 := (HB.out.cell (World.block_lt_of_cell? w _ hx339_1)).trans hx339_1
         replace hx339_2 := (HB.out.cell (World.block_lt_of_cell? w _ hx339_2)).trans hx339_2
         replace hx339_3 := (HB.out.cell (World.block_lt_of_cell? w _ hx339_3)).trans hx339_3
         replace p339 := eq_true p339
         replace q339 := eq_true q339
         have p342 : 0 ≤ (x6_1 : Int) := of_decide_eq_true zax
         have q342 : x6_1 < (l0.length : Int) := of_decide_eq_true zax
         obtain ⟨ad342, e342, hx342_0, hx342_1, hx342_2, hx342_3⟩ := at_T59 HR0.out x6_1 p342 q342
         obtain rfl : ad339 = ad342 := (by injection e342)
         replace hx342_0 := (HB.out.cell (World.block_lt_of_cell? w _ hx342_0)).trans hx342_0
         replace hx342_1 := (HB.out.cell (World.block_lt_of_cell? w _ hx342_1)).trans hx342_1
         replace hx342_2 := (HB.out.cell (World.block_lt_of_cell? w _ hx342_2)).trans hx342_2
         replace hx342_3 := (HB.out.cell (World.block_lt_of_cell? w _ hx342_3)).trans hx342_3
         replace p342 := eq_true p342
         replace q342 := eq_true q342
         go_wp2
         go_roundg k1
         case measure => have := HK1.out; omega
         case rel => exact ⟨((rd_T59 l0 x6_1).f3), (true), (wrap64 (x6_1 + 1)), zrx, zrx, zrx, H', ⟨by have := HK1.out; omega⟩, ⟨by exact zBx HB.out⟩⟩
      ·rw [if_neg c7] at H
       have c7b0 : decide (((rd_T59 l0 x6_1).f1) ≤ 2) = false := decide_eq_false c7
       clear c7
       focus
        have H' := Aside0.mk H
        clear H
        have p339 : 0 ≤ (x6_1 : Int) := of_decide_eq_true zax
        have q339 : x6_1 < (l0.length : Int) := of_decide_eq_true zax
        obtain ⟨ad339, e339, hx339_0, hx339_1, hx339_2, hx339_3⟩ := at_T59 HR0.out x6_1 p339 q339
        cases e339
        replace hx339_0 := (HB.out.cell (World.block_lt_of_cell? w _ hx339_0)).trans hx339_0
        replace hx339_1 := (HB.out.cell (World.block_lt_of_cell? w _ hx339_1)).trans hx339_1
        replace hx339_2 := (HB.out.cell (World.block_lt_of_cell? w _ hx339_2)).trans hx339_2
        replace hx339_3 := (HB.out.cell (World.block_lt_of_cell? w _ hx339_3)).trans hx339_3
        replace p339 := eq_true p339
        replace q339 := eq_true q339
        go_wp2
        go_roundg k1
        case measure => have := HK1.out; omega
        case rel => exact ⟨(x4_1), (x5_1), (wrap64 (x6_1 + 1)), zrx, zrx, zrx, H', ⟨by have := HK1.out; omega⟩, ⟨by exact zBx HB.out⟩⟩
     ·rw [if_neg c6] at H
      exact absurd H (by simp)
    ·rw [if_neg c5] at H
     have c5b0 : decide (x6_1 < (l0.length : Int)) = false := decide_eq_false c5
     clear c5
     focus
      simp only [Option.some.injEq, Prod.mk.injEq] at H
      obtain ⟨rfl, rfl⟩ := H
      go_wp2
      go_ret2
      exact ⟨by first | rfl | (simp [errW_none, errW_some] <;> rfl) | (simp [*, errW_none, errW_some] <;> rfl), by exact zBx HB.out⟩
 ·replace c3 := Bool.eq_false_iff.mpr c3
  subst c3
  have H1 : (some (0, false)) = some (r1, r2) := by rw [if_neg (show ¬ (false = true) by decide)] at H; exact H
  clear H
  have H := H1
  clear H1
  focus
   simp only [Option.some.injEq, Prod.mk.injEq] at H
   obtain ⟨rfl, rfl⟩ := H
   go_enter Try.func44, Try.ntmps44
   go_wp2_with (first | ((with_reducible refine gate_callee (f := 79) rfl ?_); refine goesL_ (some 8) rfl rfl Try.func79 (by kernel_rfl) rfl #[.slice A0 l0.length c0] rfl zlx ?_; (with_reducible refine (spec_l19Good.calls k _ _ l0 false _ ?side1 ?side2 A2.out).mono ?_); (case side1 => exact zCx HR0.out); (case side2 => exact HC0.out); rintro e w10 ⟨rfl, hb⟩; refine ⟨_, rfl, ?_⟩; have n0_ := Aside0.mk (below_step (zBx HB.out) hb); clear HB; have HB := n0_; clear n0_; (try clear hb); (try clear hb2); (try clear hk); (try clear hi)))
   go_ret2
   exact ⟨by first | rfl | (simp [errW_none, errW_some] <;> rfl) | (simp [*, errW_none, errW_some] <;> rfl), by exact zBx HB.out⟩

/-! ### spec_DrawWorstWait: function 45 -/
def spec_DrawWorstWait.f (l0 : List Int) : Option (Int) := (spec_l1Cur_pick.f l0 0 0 9).bind fun bt344 => (some (wrap64 (bt344.1 - 1)))
set_option maxHeartbeats 8000000 in
set_option maxRecDepth 100000 in
theorem spec_DrawWorstWait.calls (A0 : Option Addr) (c0 : Nat) (l0 : List Int) (r : Int) (w : World) (hr0 : Kd.C (Kd.int .u8) w A0 l0.length l0) (hc0 : l0.length ≤ c0) (h : spec_DrawWorstWait.f l0 = some r) :
 Calls Try.prog 45 #[.slice A0 l0.length c0] w fun e w' => e = .returned (.int .i64 r) ∧ Below w.heap.size w w' := by
 have hu78 := Try.underlying78
 have HR0 := Aside0.mk hr0
 have HC0 := Aside0.mk hc0
 clear hr0 hc0
 have HB := Aside0.mk (Below.refl w.heap.size w)
 have H : ((spec_l1Cur_pick.f l0 0 0 9).bind fun bt344 => (some (wrap64 (bt344.1 - 1)))) = some r := h
 clear h
 replace H := Option.bind_eq_some_iff.mp H
 obtain ⟨⟨t344, t345, t346⟩, A20, H⟩ := H
 replace H : (some (wrap64 (t344 - 1))) = some r := H
 have A2 := Aside0.mk A20
 clear A20
 focus
  obtain rfl := Option.some.inj H
  go_enter Try.func45, Try.ntmps45
  go_wp2_with (first | ((with_reducible refine gate_dst (N := 6) rfl ?_); refine box_event ?hg (N := 6) ?hd (cs := #[.slice A0 l0.length c0, .int .i64 0, .int .u64 0]) (t := 78) ?hr ?_; (case hd => rfl); (case hg => rfl); (case hr => exact zsx); intro gb343 hg w3 hbox hb; have n0_ := Aside0.mk (below_step (zBx HB.out) hb); have n1_ := Aside0.mk (hbox); have n2_ := Aside0.mk ((by rw [hg]; exact (below_size (zBx HB.out)) : w.heap.size ≤ gb343)); have n3_ := Aside0.mk ((by rw [hg]; exact (below_size (zBx HB.out)) : w.heap.size ≤ gb343)); clear HB; have HB := n0_; have BK343 := n1_; have GW343 := n2_; have GE343 := n3_; clear n0_ n1_ n2_ n3_; clear hb hbox hg) | ((with_reducible refine gate_callee (f := 72) rfl ?_); refine goesL_ (some 8) rfl rfl Try.func72 (by kernel_rfl) rfl #[.pointer (some ⟨gb343, 0, none⟩), .int .i64 9] rfl zlx ?_; (with_reducible refine (spec_l1Cur_pick.calls gb343 l0 0 0 9 t344 t345 t346 w _ ?side1 ?side2 A2.out).mono ?_); (case side1 => first | exact ⟨_, _, (zbx BK343.out), GE343.out, HR0.out⟩); (case side2 => first | exact zBy HB.out (IsS78.ge HI343.out) | exact zBx HB.out); rintro e w4 ⟨rfl, hi, hb, hk⟩; refine ⟨_, rfl, ?_⟩; have n0_ := Aside0.mk (hb); have n1_ := Aside0.mk (hi); clear HB; have HB := n0_; have HI343 := n1_; clear n0_ n1_; (try clear hb); (try clear hb2); (try clear hk); (try clear hi)))
  go_ret
  exact ⟨by first | rfl | (simp [errW_none, errW_some] <;> rfl) | (simp [*, errW_none, errW_some] <;> rfl), by first | exact zBy HB.out (IsS78.ge HI343.out) | exact zBx HB.out⟩

/-! ### impl_WorstWait: function 46 -/
def impl_WorstWait.l0 : Nat → Int → Int → Int → Option (Int × Bool)
 | 0, _, _, _ => none
 | k + 1, x0, x4, x5 => if x5 < x0 then (if x5 < 5 then (if 0 ≤ x5 then (impl_WorstWait.l0 k x0 (wrap64 ((wrap64 (x4 + 10)) + (shl .i64 1 x5))) (wrap64 (x5 + 1))) else (none)) else (impl_WorstWait.l0 k x0 (wrap64 (x4 + 10)) (wrap64 (x5 + 1)))) else (some (x4, true))
def impl_WorstWait.f (k : Nat) (a0 : Int) : Option (Int × Bool) := (impl_within.f a0 1 6).bind fun t347 => (if t347 = true then (impl_WorstWait.l0 k a0 0 1) else (some (0, false)))
theorem impl_WorstWait.mono_l : ∀ k, (∀ y0 y1 y2, LeO (impl_WorstWait.l0 k y0 y1 y2) (impl_WorstWait.l0 (k + 1) y0 y1 y2))
 | 0 => fun _ _ _ r h => by simp [impl_WorstWait.l0] at h
 | k + 1 => by
  have ih0 := impl_WorstWait.mono_l k
  ·intro y0 y1 y2
   unfold impl_WorstWait.l0
   repeat' first
   | (with_reducible exact ih0 _ _ _)
   | (with_reducible exact LeO.refl _)
   | (with_reducible exact LeO.none _)
   | (with_reducible refine LeO.ite ?_ ?_)
   | (with_reducible refine LeO.bind ?_ (fun _ => ?_))
   | exact ih0 _ _ _
   | exact LeO.none _
   | refine LeO.ite ?_ ?_
   | refine LeO.bind ?_ (fun _ => ?_)
theorem impl_WorstWait.mono : ∀ a0 k, LeO (impl_WorstWait.f k a0) (impl_WorstWait.f (k + 1) a0) := by
 intro a0 k
 have ih0 := impl_WorstWait.mono_l k
 unfold impl_WorstWait.f
 repeat' first
  | (with_reducible exact ih0 _ _ _)
  | (with_reducible exact LeO.refl _)
  | (with_reducible exact LeO.none _)
  | (with_reducible refine LeO.ite ?_ ?_)
  | (with_reducible refine LeO.bind ?_ (fun _ => ?_))
  | exact ih0 _ _ _
  | exact LeO.none _
  | refine LeO.ite ?_ ?_
  | refine LeO.bind ?_ (fun _ => ?_)
set_option maxHeartbeats 8000000 in
set_option maxRecDepth 100000 in
theorem impl_WorstWait.calls (k : Nat) (a0 : Int) (r1 : Int) (r2 : Bool) (w : World) (h : impl_WorstWait.f k a0 = some (r1, r2)) :
 Calls Try.prog 46 #[.int .i64 a0] w fun e w' => e = .returned (.tuple #[.int .i64 r1, .bool r2]) ∧ Drawn0 w w' := by
 have H : ((impl_within.f a0 1 6).bind fun t347 => (if t347 = true then (impl_WorstWait.l0 k a0 0 1) else (some (0, false)))) = some (r1, r2) := h
 clear h
 replace H := Option.bind_eq_some_iff.mp H
 obtain ⟨t347, A20, H⟩ := H
 replace H : (if t347 = true then (impl_WorstWait.l0 k a0 0 1) else (some (0, false))) = some (r1, r2) := H
 have A2 := Aside0.mk A20
 clear A20
 by_cases c3 : t347 = true
 ·subst c3
  have H1 : (impl_WorstWait.l0 k a0 0 1) = some (r1, r2) := by rw [if_pos rfl] at H; exact H
  clear H
  have H := H1
  clear H1
  have H' := Aside0.mk H
  clear H
  go_enter Try.func46, Try.ntmps46
  go_wp2_with (first | ((with_reducible refine gate_callee (f := 65) rfl ?_); refine goesL_ (some 7) rfl rfl Try.func65 (by kernel_rfl) rfl #[.int .i64 a0, .int .i64 1, .int .i64 6] rfl zlx ?_; (with_reducible refine (impl_within.calls a0 1 6 true _ A2.out).mono ?_); rintro e w' ⟨rfl, ⟨nd, rfl⟩⟩; refine ⟨_, rfl, ?_⟩))
  go_loopg [4, 5] k (fun kq v4 v5 w' => ∃ (x4_1 : Int) (x5_1 : Int), v4 = .int .i64 x4_1 ∧ v5 = .int .i64 x5_1 ∧ Aside0 (impl_WorstWait.l0 kq a0 x4_1 x5_1 = some (r1, r2)) ∧ Aside0 (kq ≤ k) ∧ Drawn0 w w')
  case atStart => exact ⟨(0), (1), zrx, zrx, H', ⟨Nat.le_refl _⟩, by repeat (first | exact Drawn0.refl _ | apply Drawn0.step)⟩
  case round =>
   clear H'
   try clear p2
   try clear c3
   obtain ⟨x4_1, x5_1, rfl, rfl, HA, HK1, ⟨m1, rfl⟩⟩ := hrel
   cases gk with
   | zero => exact absurd HA.out (by simp [impl_WorstWait.l0])
   | succ k1 =>
    have H := HA.out
    clear HA
    simp only [impl_WorstWait.l0] at H
    by_cases c4 : x5_1 < a0
    ·rw [if_pos c4] at H
     have c4b0 : decide (x5_1 < a0) = true := decide_eq_true c4
     clear c4
     by_cases c5 : x5_1 < 5
     ·rw [if_pos c5] at H
      have c5b0 : decide (x5_1 < 5) = true := decide_eq_true c5
      clear c5
      by_cases c6 : 0 ≤ x5_1
      ·rw [if_pos c6] at H
       have c6b0 := eq_true c6
       have c6b1 : decide (0 ≤ x5_1) = true := decide_eq_true c6
       clear c6
       obtain ⟨ji7, hji7⟩ : ∃ j_ : Int, (shl .i64 1 x5_1) = j_ := ⟨_, rfl⟩
       replace H : (impl_WorstWait.l0 k1 a0 (wrap64 ((wrap64 (x4_1 + 10)) + (ji7))) (wrap64 (x5_1 + 1))) = some (r1, r2) := by first | (rw [hji7] at H; exact H) | (simp only [hji7] at H ⊢; exact H)
       have hji7_ : (IntKind.i64.wrap (1 * 2 ^ min x5_1.toNat 64)) = ji7 := hji7
       have hji7z : x5_1 ≤ 64 → (IntKind.i64.wrap (1 * 2 ^ x5_1.toNat)) = ji7 := shl_small hji7
       have hji7u : (IntKind.i64.wrap (2 ^ min x5_1.toNat 64)) = ji7 := by have h_ := hji7_; rw [Int.one_mul] at h_; exact h_
       have hji7v : x5_1 ≤ 64 → (IntKind.i64.wrap (2 ^ x5_1.toNat)) = ji7 := fun hle_ => by have h_ := hji7z hle_; rw [Int.one_mul] at h_; exact h_
       have hji7y : (wrap64 (1 * 2 ^ min x5_1.toNat 64)) = ji7 := (i64_w _).symm.trans hji7_
       have hji7x : x5_1 ≤ 64 → (wrap64 (1 * 2 ^ x5_1.toNat)) = ji7 := fun h_ => (i64_w _).symm.trans (hji7z h_)
       focus
        have H' := Aside0.mk H
        clear H
        go_wp2
        go_roundg k1
        case measure => have := HK1.out; omega
        case rel => exact ⟨(wrap64 ((wrap64 (x4_1 + 10)) + (ji7))), (wrap64 (x5_1 + 1)), (by first | rfl | (simp; done) | (simp only [← hji7] <;> (first | rfl | simp)) | (simp [*]; done)), zrx, H', ⟨by have := HK1.out; omega⟩, by repeat (first | exact Drawn0.refl _ | apply Drawn0.step)⟩
      ·rw [if_neg c6] at H
       exact absurd H (by simp)
     ·rw [if_neg c5] at H
      have c5b0 : decide (x5_1 < 5) = false := decide_eq_false c5
      clear c5
      focus
       have H' := Aside0.mk H
       clear H
       go_wp2
       go_roundg k1
       case measure => have := HK1.out; omega
       case rel => exact ⟨(wrap64 (x4_1 + 10)), (wrap64 (x5_1 + 1)), zrx, zrx, H', ⟨by have := HK1.out; omega⟩, by repeat (first | exact Drawn0.refl _ | apply Drawn0.step)⟩
    ·rw [if_neg c4] at H
     have c4b0 : decide (x5_1 < a0) = false := decide_eq_false c4
     clear c4
     focus
      simp only [Option.some.injEq, Prod.mk.injEq] at H
      obtain ⟨rfl, rfl⟩ := H
      go_wp2
      go_ret2
      exact ⟨by first | rfl | (simp; done) | (simp [*]; done), by repeat (first | exact Drawn0.refl _ | apply Drawn0.step)⟩
 ·replace c3 := Bool.eq_false_iff.mpr c3
  subst c3
  have H1 : (some (0, false)) = some (r1, r2) := by rw [if_neg (show ¬ (false = true) by decide)] at H; exact H
  clear H
  have H := H1
  clear H1
  focus
   simp only [Option.some.injEq, Prod.mk.injEq] at H
   obtain ⟨rfl, rfl⟩ := H
   go_enter Try.func46, Try.ntmps46
   go_wp2_with (first | ((with_reducible refine gate_callee (f := 65) rfl ?_); refine goesL_ (some 7) rfl rfl Try.func65 (by kernel_rfl) rfl #[.int .i64 a0, .int .i64 1, .int .i64 6] rfl zlx ?_; (with_reducible refine (impl_within.calls a0 1 6 false _ A2.out).mono ?_); rintro e w' ⟨rfl, ⟨nd, rfl⟩⟩; refine ⟨_, rfl, ?_⟩))
   go_ret2
   exact ⟨by first | rfl | (simp; done) | (simp [*]; done), by repeat (first | exact Drawn0.refl _ | apply Drawn0.step)⟩

/-! ### spec_WorstWait: function 47 -/
def spec_WorstWait.l0 : Nat → Int → Int → Int → Option (Int × Bool)
 | 0, _, _, _ => none
 | k + 1, x0, x4, x5 => if x5 < x0 then (if x5 < 5 then (if 0 ≤ (IntKind.u64.wrap (x5)) then (spec_WorstWait.l0 k x0 (wrap64 ((wrap64 (x4 + 10)) + (shl .i64 1 (IntKind.u64.wrap (x5))))) (wrap64 (x5 + 1))) else (none)) else (spec_WorstWait.l0 k x0 (wrap64 (x4 + 10)) (wrap64 (x5 + 1)))) else (some (x4, true))
def spec_WorstWait.f (k : Nat) (a0 : Int) : Option (Int × Bool) := (spec_l1In.f a0 1 6).bind fun t348 => (if t348 = true then (spec_WorstWait.l0 k a0 0 1) else (some (0, false)))
theorem spec_WorstWait.mono_l : ∀ k, (∀ y0 y1 y2, LeO (spec_WorstWait.l0 k y0 y1 y2) (spec_WorstWait.l0 (k + 1) y0 y1 y2))
 | 0 => fun _ _ _ r h => by simp [spec_WorstWait.l0] at h
 | k + 1 => by
  have ih0 := spec_WorstWait.mono_l k
  ·intro y0 y1 y2
   unfold spec_WorstWait.l0
   repeat' first
   | (with_reducible exact ih0 _ _ _)
   | (with_reducible exact LeO.refl _)
   | (with_reducible exact LeO.none _)
   | (with_reducible refine LeO.ite ?_ ?_)
   | (with_reducible refine LeO.bind ?_ (fun _ => ?_))
   | exact ih0 _ _ _
   | exact LeO.none _
   | refine LeO.ite ?_ ?_
   | refine LeO.bind ?_ (fun _ => ?_)
theorem spec_WorstWait.mono : ∀ a0 k, LeO (spec_WorstWait.f k a0) (spec_WorstWait.f (k + 1) a0) := by
 intro a0 k
 have ih0 := spec_WorstWait.mono_l k
 unfold spec_WorstWait.f
 repeat' first
  | (with_reducible exact ih0 _ _ _)
  | (with_reducible exact LeO.refl _)
  | (with_reducible exact LeO.none _)
  | (with_reducible refine LeO.ite ?_ ?_)
  | (with_reducible refine LeO.bind ?_ (fun _ => ?_))
  | exact ih0 _ _ _
  | exact LeO.none _
  | refine LeO.ite ?_ ?_
  | refine LeO.bind ?_ (fun _ => ?_)
set_option maxHeartbeats 8000000 in
set_option maxRecDepth 100000 in
theorem spec_WorstWait.calls (k : Nat) (a0 : Int) (r1 : Int) (r2 : Bool) (w : World) (h : spec_WorstWait.f k a0 = some (r1, r2)) :
 Calls Try.prog 47 #[.int .i64 a0] w fun e w' => e = .returned (.tuple #[.int .i64 r1, .bool r2]) ∧ Drawn0 w w' := by
 have H : ((spec_l1In.f a0 1 6).bind fun t348 => (if t348 = true then (spec_WorstWait.l0 k a0 0 1) else (some (0, false)))) = some (r1, r2) := h
 clear h
 replace H := Option.bind_eq_some_iff.mp H
 obtain ⟨t348, A20, H⟩ := H
 replace H : (if t348 = true then (spec_WorstWait.l0 k a0 0 1) else (some (0, false))) = some (r1, r2) := H
 have A2 := Aside0.mk A20
 clear A20
 by_cases c3 : t348 = true
 ·subst c3
  have H1 : (spec_WorstWait.l0 k a0 0 1) = some (r1, r2) := by rw [if_pos rfl] at H; exact H
  clear H
  have H := H1
  clear H1
  have H' := Aside0.mk H
  clear H
  go_enter Try.func47, Try.ntmps47
  go_wp2_with (first | ((with_reducible refine gate_callee (f := 69) rfl ?_); refine goesL_ (some 7) rfl rfl Try.func69 (by kernel_rfl) rfl #[.int .i64 a0, .int .i64 1, .int .i64 6] rfl zlx ?_; (with_reducible refine (spec_l1In.calls a0 1 6 true _ A2.out).mono ?_); rintro e w' ⟨rfl, ⟨nd, rfl⟩⟩; refine ⟨_, rfl, ?_⟩))
  go_loopg [4, 5] k (fun kq v4 v5 w' => ∃ (x4_1 : Int) (x5_1 : Int), v4 = .int .i64 x4_1 ∧ v5 = .int .i64 x5_1 ∧ Aside0 (spec_WorstWait.l0 kq a0 x4_1 x5_1 = some (r1, r2)) ∧ Aside0 (kq ≤ k) ∧ Drawn0 w w')
  case atStart => exact ⟨(0), (1), zrx, zrx, H', ⟨Nat.le_refl _⟩, by repeat (first | exact Drawn0.refl _ | apply Drawn0.step)⟩
  case round =>
   clear H'
   try clear p2
   try clear c3
   obtain ⟨x4_1, x5_1, rfl, rfl, HA, HK1, ⟨m1, rfl⟩⟩ := hrel
   cases gk with
   | zero => exact absurd HA.out (by simp [spec_WorstWait.l0])
   | succ k1 =>
    have H := HA.out
    clear HA
    simp only [spec_WorstWait.l0] at H
    by_cases c4 : x5_1 < a0
    ·rw [if_pos c4] at H
     have c4b0 : decide (x5_1 < a0) = true := decide_eq_true c4
     clear c4
     by_cases c5 : x5_1 < 5
     ·rw [if_pos c5] at H
      have c5b0 : decide (x5_1 < 5) = true := decide_eq_true c5
      clear c5
      obtain ⟨ji6, hji6⟩ : ∃ j_ : Int, (IntKind.u64.wrap (x5_1)) = j_ := ⟨_, rfl⟩
      replace H : (if 0 ≤ (ji6) then (spec_WorstWait.l0 k1 a0 (wrap64 ((wrap64 (x4_1 + 10)) + (shl .i64 1 (ji6)))) (wrap64 (x5_1 + 1))) else (none)) = some (r1, r2) := by first | (rw [hji6] at H; exact H) | (simp only [hji6] at H ⊢; exact H)
      by_cases c7 : 0 ≤ (ji6)
      ·rw [if_pos c7] at H
       have c7b0 := eq_true c7
       have c7b1 : decide (0 ≤ (ji6)) = true := decide_eq_true c7
       clear c7
       obtain ⟨ji8, hji8⟩ : ∃ j_ : Int, (shl .i64 1 (ji6)) = j_ := ⟨_, rfl⟩
       replace H : (spec_WorstWait.l0 k1 a0 (wrap64 ((wrap64 (x4_1 + 10)) + (ji8))) (wrap64 (x5_1 + 1))) = some (r1, r2) := by first | (rw [hji8] at H; exact H) | (simp only [hji8] at H ⊢; exact H)
       have hji8_ : (IntKind.i64.wrap (1 * 2 ^ min (ji6).toNat 64)) = ji8 := hji8
       have hji8z : (ji6) ≤ 64 → (IntKind.i64.wrap (1 * 2 ^ (ji6).toNat)) = ji8 := shl_small hji8
       have hji8u : (IntKind.i64.wrap (2 ^ min (ji6).toNat 64)) = ji8 := by have h_ := hji8_; rw [Int.one_mul] at h_; exact h_
       have hji8v : (ji6) ≤ 64 → (IntKind.i64.wrap (2 ^ (ji6).toNat)) = ji8 := fun hle_ => by have h_ := hji8z hle_; rw [Int.one_mul] at h_; exact h_
       have hji8y : (wrap64 (1 * 2 ^ min (ji6).toNat 64)) = ji8 := (i64_w _).symm.trans hji8_
       have hji8x : (ji6) ≤ 64 → (wrap64 (1 * 2 ^ (ji6).toNat)) = ji8 := fun h_ => (i64_w _).symm.trans (hji8z h_)
       focus
        have H' := Aside0.mk H
        clear H
        go_wp2
        go_roundg k1
        case measure => have := HK1.out; omega
        case rel => exact ⟨(wrap64 ((wrap64 (x4_1 + 10)) + (ji8))), (wrap64 (x5_1 + 1)), (by first | rfl | (simp; done) | (simp only [← hji8] <;> (first | rfl | simp)) | (simp [*]; done)), zrx, H', ⟨by have := HK1.out; omega⟩, by repeat (first | exact Drawn0.refl _ | apply Drawn0.step)⟩
      ·rw [if_neg c7] at H
       exact absurd H (by simp)
     ·rw [if_neg c5] at H
      have c5b0 : decide (x5_1 < 5) = false := decide_eq_false c5
      clear c5
      focus
       have H' := Aside0.mk H
       clear H
       go_wp2
       go_roundg k1
       case measure => have := HK1.out; omega
       case rel => exact ⟨(wrap64 (x4_1 + 10)), (wrap64 (x5_1 + 1)), zrx, zrx, H', ⟨by have := HK1.out; omega⟩, by repeat (first | exact Drawn0.refl _ | apply Drawn0.step)⟩
    ·rw [if_neg c4] at H
     have c4b0 : decide (x5_1 < a0) = false := decide_eq_false c4
     clear c4
     focus
      simp only [Option.some.injEq, Prod.mk.injEq] at H
      obtain ⟨rfl, rfl⟩ := H
      go_wp2
      go_ret2
      exact ⟨by first | rfl | (simp; done) | (simp [*]; done), by repeat (first | exact Drawn0.refl _ | apply Drawn0.step)⟩
 ·replace c3 := Bool.eq_false_iff.mpr c3
  subst c3
  have H1 : (some (0, false)) = some (r1, r2) := by rw [if_neg (show ¬ (false = true) by decide)] at H; exact H
  clear H
  have H := H1
  clear H1
  focus
   simp only [Option.some.injEq, Prod.mk.injEq] at H
   obtain ⟨rfl, rfl⟩ := H
   go_enter Try.func47, Try.ntmps47
   go_wp2_with (first | ((with_reducible refine gate_callee (f := 69) rfl ?_); refine goesL_ (some 7) rfl rfl Try.func69 (by kernel_rfl) rfl #[.int .i64 a0, .int .i64 1, .int .i64 6] rfl zlx ?_; (with_reducible refine (spec_l1In.calls a0 1 6 false _ A2.out).mono ?_); rintro e w' ⟨rfl, ⟨nd, rfl⟩⟩; refine ⟨_, rfl, ?_⟩))
   go_ret2
   exact ⟨by first | rfl | (simp; done) | (simp [*]; done), by repeat (first | exact Drawn0.refl _ | apply Drawn0.step)⟩

end Go.Proofs.Ytkegkbpadhddkaa.XFnRetries
