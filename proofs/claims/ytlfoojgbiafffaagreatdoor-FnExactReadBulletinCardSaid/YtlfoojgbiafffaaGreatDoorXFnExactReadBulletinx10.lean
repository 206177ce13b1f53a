-- written by wip/tools/xprint.py (a program of this project) out of the translation
import Derived.Test.YtlfoojgbiafffaaGreatDoorXFnExactReadBulletinx0
import Derived.Test.YtlfoojgbiafffaaGreatDoorStrsE
import Derived.Test.YtlfoojgbiafffaaGreatDoorXFnExactReadBulletinx9
namespace Go.Proofs.YtlfoojgbiafffaaGreatDoor.XFnExactReadBulletin
open Go.RowKit Go.Proofs.YtlfoojgbiafffaaGreatDoorW.PrintWords Go.Proofs.YtlfoojgbiafffaaGreatDoorW.PrintLast Go.Proofs.YtlfoojgbiafffaaGreatDoorW.PrintMore
open Go.Proofs.YtlfoojgbiafffaaGreatDoor.Strs
attribute [local go_sem] max2_int min2_int max_two min_two max_three min_three max_four min_four   -- for this text's walks alone
set_option linter.unusedVariables false
set_option linter.unusedSimpArgs false

/-! ### impl_doMeet: function 107 -/
def impl_doMeet.f (a0_0 : Int) (a0_1 : Int) (a0_2 : Int) (a0_3 : Int) (a0_4 : Int) (a0_5 : Int) (a1_0 : Int) (a1_1 : Int) (a1_2 : Int) (a1_3 : Int) (a1_4 : Int) (a1_5 : Int) : Option (Bool) := if a0_1 = a1_1 then (if a0_3 = a1_3 then (if a0_4 < a1_5 then (some (decide (a1_4 < a0_5))) else (some false)) else (some false)) else (some false)
theorem zenddBulletinx10_0 {P_ : Prop} (h_ : P_ := by
  obtain rfl := Option.some.inj H
  go_enter Tryz.func107, Tryz.ntmps107
  go_wp2_with (first | ((with_reducible refine gate_dst (N := 2) rfl ?_); refine box_event ?hg (N := 2) ?hd (cs := #[.int .i64 a0_0, .int .i64 a0_1, .int .i64 a0_2, .int .i64 a0_3, .int .i64 a0_4, .int .i64 a0_5]) (t := 25) ?hr ?_; (case hd => rfl); (case hg => rfl); (case hr => exact zsx); intro gb263 hg w6 hbox hb; have BK263 := Aside0.mk (hbox); have GW263 := zns hg HB.out; have GE263 := zns hg HB.out; replace HB := Aside0.mk (below_step (zBx HB.out) hb); clear hb hbox hg) | ((with_reducible refine gate_dst (N := 3) rfl ?_); refine box_event ?hg (N := 3) ?hd (cs := #[.int .i64 a1_0, .int .i64 a1_1, .int .i64 a1_2, .int .i64 a1_3, .int .i64 a1_4, .int .i64 a1_5]) (t := 25) ?hr ?_; (case hd => rfl); (case hg => rfl); (case hr => exact zsx); intro gb264 hg w7 hbox hb; have BK264 := Aside0.mk (hbox); have GW264 := zns hg HB.out; have GE264 := zns hg HB.out; replace HB := Aside0.mk (below_step (zBy HB.out GE263.out) hb); have NB263_264 := znl hg BK263.out; have NB264_263 := zng hg BK263.out; replace BK263 := zbl BK263.out hb; clear hb hbox hg; have hnb8 := NB263_264.out; have hnc8 := NB264_263.out; have hcz9_0 : w7.cell? ⟨gb263, 0, none⟩ = some (.int .i64 a0_0) := (blk_cell BK263.out 0).trans rfl; have hcz9_1 : w7.cell? ⟨gb263, 1, none⟩ = some (.int .i64 a0_1) := (blk_cell BK263.out 1).trans rfl; have hcz9_2 : w7.cell? ⟨gb263, 2, none⟩ = some (.int .i64 a0_2) := (blk_cell BK263.out 2).trans rfl; have hcz9_3 : w7.cell? ⟨gb263, 3, none⟩ = some (.int .i64 a0_3) := (blk_cell BK263.out 3).trans rfl; have hcz9_4 : w7.cell? ⟨gb263, 4, none⟩ = some (.int .i64 a0_4) := (blk_cell BK263.out 4).trans rfl; have hcz9_5 : w7.cell? ⟨gb263, 5, none⟩ = some (.int .i64 a0_5) := (blk_cell BK263.out 5).trans rfl; have hfz9_0 := blk_frozen BK263.out 0; have hfz9_1 := blk_frozen BK263.out 1; have hfz9_2 := blk_frozen BK263.out 2; have hfz9_3 := blk_frozen BK263.out 3; have hfz9_4 := blk_frozen BK263.out 4; have hfz9_5 := blk_frozen BK263.out 5; have hcz10_0 : w7.cell? ⟨gb264, 0, none⟩ = some (.int .i64 a1_0) := (blk_cell BK264.out 0).trans rfl; have hcz10_1 : w7.cell? ⟨gb264, 1, none⟩ = some (.int .i64 a1_1) := (blk_cell BK264.out 1).trans rfl; have hcz10_2 : w7.cell? ⟨gb264, 2, none⟩ = some (.int .i64 a1_2) := (blk_cell BK264.out 2).trans rfl; have hcz10_3 : w7.cell? ⟨gb264, 3, none⟩ = some (.int .i64 a1_3) := (blk_cell BK264.out 3).trans rfl; have hcz10_4 : w7.cell? ⟨gb264, 4, none⟩ = some (.int .i64 a1_4) := (blk_cell BK264.out 4).trans rfl; have hcz10_5 : w7.cell? ⟨gb264, 5, none⟩ = some (.int .i64 a1_5) := (blk_cell BK264.out 5).trans rfl; have hfz10_0 := blk_frozen BK264.out 0; have hfz10_1 := blk_frozen BK264.out 1; have hfz10_2 := blk_frozen BK264.out 2; have hfz10_3 := blk_frozen BK264.out 3; have hfz10_4 := blk_frozen BK264.out 4; have hfz10_5 := blk_frozen BK264.out 5))
  go_ret
  exact ⟨by first | rfl | (simp [errW_none, errW_some] <;> rfl) | (simp [*, errW_none, errW_some] <;> rfl), by exact zBz HB.out GE263.out GE264.out⟩) : P_ := h_
set_option maxHeartbeats 8000000 in
set_option maxRecDepth 100000 in
theorem impl_doMeet.calls (a0_0 : Int) (a0_1 : Int) (a0_2 : Int) (a0_3 : Int) (a0_4 : Int) (a0_5 : Int) (a1_0 : Int) (a1_1 : Int) (a1_2 : Int) (a1_3 : Int) (a1_4 : Int) (a1_5 : Int) (r : Bool) (w : World) (h : impl_doMeet.f a0_0 a0_1 a0_2 a0_3 a0_4 a0_5 a1_0 a1_1 a1_2 a1_3 a1_4 a1_5 = some r) :
 Calls Tryz.prog 107 #[.agg #[.int .i64 a0_0, .int .i64 a0_1, .int .i64 a0_2, .int .i64 a0_3, .int .i64 a0_4, .int .i64 a0_5], .agg #[.int .i64 a1_0, .int .i64 a1_1, .int .i64 a1_2, .int .i64 a1_3, .int .i64 a1_4, .int .i64 a1_5]] w fun e w' => e = .returned (.bool r) ∧ Below w.heap.size w w' := by
 have hu25 := Tryz.underlying25
 have HB := Aside0.mk (Below.refl w.heap.size w)
 have H : (if a0_1 = a1_1 then (if a0_3 = a1_3 then (if a0_4 < a1_5 then (some (decide (a1_4 < a0_5))) else (some false)) else (some false)) else (some false)) = some r := h
 clear h
 by_cases c3 : a0_1 = a1_1
 rotate_left
 ·rw [if_neg c3] at H
  have c3b0 : (a0_1 == a1_1) = false := beq_eq_false_iff_ne.mpr c3
  have c3b1 : (a0_1 != a1_1) = true := bne_iff_ne.mpr c3
  focus
   exact zenddBulletinx10_0

 rw [if_pos c3] at H
 have c3b0 : (a0_1 == a1_1) = true := beq_iff_eq.mpr c3
 have c3b1 : (a0_1 != a1_1) = false := bne_eq_false_iff_eq.mpr c3
 clear c3
 by_cases c4 : a0_3 = a1_3
 rotate_left
 ·rw [if_neg c4] at H
  have c4b0 : (a0_3 == a1_3) = false := beq_eq_false_iff_ne.mpr c4
  have c4b1 : (a0_3 != a1_3) = true := bne_iff_ne.mpr c4
  focus
   exact zenddBulletinx10_0
 rw [if_pos c4] at H
 have c4b0 : (a0_3 == a1_3) = true := beq_iff_eq.mpr c4
 have c4b1 : (a0_3 != a1_3) = false := bne_eq_false_iff_eq.mpr c4
 clear c4
 by_cases c5 : a0_4 < a1_5
 ·rw [if_pos c5] at H
  have c5b0 : decide (a0_4 < a1_5) = true := decide_eq_true c5
  clear c5
  focus
   exact zenddBulletinx10_0
 ·rw [if_neg c5] at H
  have c5b0 : decide (a0_4 < a1_5) = false := decide_eq_false c5
  clear c5
  focus
   exact zenddBulletinx10_0
def ixW.l0 (p : S25 → Bool) : Nat → List (S25) → Int → Option Int
 | 0, _, _ => none
 | k + 1, l, i => if i < (l.length : Int) then (if 0 ≤ i then (if p (rd_T25 l i) = true then some i else ixW.l0 p k l (wrap64 (i + 1))) else none) else some (-1)
set_option maxHeartbeats 8000000 in
set_option maxRecDepth 100000 in
theorem ixW.calls (k : Nat) (A0 : Option Addr) (c0 : Nat) (l0 : List (S25)) (p : S25 → Bool) (g : FuncId) (fn : Func) (caps : Array Value) (r : Int) (w : World) (hgf : Tryz.prog.funcs[g]? = some fn) (hgn : (fn.name == "runtime.NumGoroutine") = false) (hgb : fn.body.isSome = true)
  (hp : ∀ i : Int, 0 ≤ i → i < (l0.length : Int) → ∀ W, Below w.heap.size w W → Calls Tryz.prog g (#[.agg #[.int .i64 (rd_T25 l0 i).f0, .int .i64 (rd_T25 l0 i).f1, .int .i64 (rd_T25 l0 i).f2, .int .i64 (rd_T25 l0 i).f3, .int .i64 (rd_T25 l0 i).f4, .int .i64 (rd_T25 l0 i).f5]] ++ caps) W fun e W' => e = .returned (.bool (p (rd_T25 l0 i))) ∧ Below W.heap.size W W')
  (hr0 : Kd.C k25 w A0 l0.length l0) (hc0 : l0.length ≤ c0) (h : ixW.l0 p k l0 0 = some r) :
  Calls Tryz.prog 111 #[.slice A0 l0.length c0, .func (.func g) #[] caps] w fun e w' => e = .returned (.int .i64 r) ∧ Below w.heap.size w w' := by
 have HR0 := Aside0.mk hr0
 have HC0 := Aside0.mk hc0
 have HP := Aside0.mk hp
 clear hr0 hc0 hp
 have HB := Aside0.mk (Below.refl w.heap.size w)
 have H' := Aside0.mk h
 clear h
 go_enter Tryz.func111, Tryz.ntmps111
 go_wp2
 go_loopg [8] k (fun kq v8 w' => ∃ (x8_1 : Int), v8 = .int .i64 x8_1 ∧ Aside0 (ixW.l0 p kq l0 x8_1 = some r) ∧ Aside0 (kq ≤ k) ∧ Aside0 (Below w.heap.size w w'))
 case atStart => exact ⟨(0), zrx, H', ⟨Nat.le_refl _⟩, ⟨by exact zBx HB.out⟩⟩
 case round =>
  clear H'
  obtain ⟨x8_1, rfl, HA, HK1, HB⟩ := hrel
  cases gk with
  | zero => exact absurd HA.out (by simp [ixW.l0])
  | succ k1 =>
   have H := HA.out
   clear HA
   simp only [ixW.l0] at H
   by_cases c3 : x8_1 < (l0.length : Int)
   rotate_left
   · rw [if_neg c3] at H
     have c3b0 : decide (x8_1 < (l0.length : Int)) = false := decide_eq_false c3
     clear c3
     obtain rfl := Option.some.inj H
     clear H
     go_wp2
     go_ret
     exact ⟨rfl, by exact zBx HB.out⟩
   rw [if_pos c3] at H
   have c3b0 : decide (x8_1 < (l0.length : Int)) = true := decide_eq_true c3
   clear c3
   by_cases c4 : 0 ≤ x8_1
   rotate_left
   · rw [if_neg c4] at H
     exact absurd H (by simp)
   rw [if_pos c4] at H
   have c4b0 : decide (0 ≤ x8_1) = true := decide_eq_true c4
   clear c4
   by_cases c7 : p (rd_T25 l0 x8_1) = true
   · rw [if_pos c7] at H
     have HC7 := Aside0.mk c7
     clear c7
     obtain rfl := Option.some.inj H
     clear H
     have p174 : 0 ≤ (x8_1 : Int) := of_decide_eq_true zax
     have q174 : x8_1 < (l0.length : Int) := of_decide_eq_true zax
     obtain ⟨ad174, e174, hx174_0, hx174_1, hx174_2, hx174_3, hx174_4, hx174_5⟩ := at_T25 HR0.out x8_1 p174 q174
     cases e174
     replace hx174_0 := (HB.out.cell (World.block_lt_of_cell? w _ hx174_0)).trans hx174_0
     replace hx174_1 := (HB.out.cell (World.block_lt_of_cell? w _ hx174_1)).trans hx174_1
     replace hx174_2 := (HB.out.cell (World.block_lt_of_cell? w _ hx174_2)).trans hx174_2
     replace hx174_3 := (HB.out.cell (World.block_lt_of_cell? w _ hx174_3)).trans hx174_3
     replace hx174_4 := (HB.out.cell (World.block_lt_of_cell? w _ hx174_4)).trans hx174_4
     replace hx174_5 := (HB.out.cell (World.block_lt_of_cell? w _ hx174_5)).trans hx174_5
     replace p174 := eq_true p174
     replace q174 := eq_true q174
     go_wp2_with (first | ((with_reducible refine gate_calleeT (t := 11) rfl ?_); refine goesC_ (t := 11) (some 16) rfl rfl hgf hgn hgb #[.agg #[.int .i64 (rd_T25 l0 x8_1).f0, .int .i64 (rd_T25 l0 x8_1).f1, .int .i64 (rd_T25 l0 x8_1).f2, .int .i64 (rd_T25 l0 x8_1).f3, .int .i64 (rd_T25 l0 x8_1).f4, .int .i64 (rd_T25 l0 x8_1).f5]] caps (#[.agg #[.int .i64 (rd_T25 l0 x8_1).f0, .int .i64 (rd_T25 l0 x8_1).f1, .int .i64 (rd_T25 l0 x8_1).f2, .int .i64 (rd_T25 l0 x8_1).f3, .int .i64 (rd_T25 l0 x8_1).f4, .int .i64 (rd_T25 l0 x8_1).f5]] ++ caps) ⟨rfl, rfl⟩ zlx rfl ?_; (with_reducible refine (HP.out x8_1 (of_decide_eq_true zax) (of_decide_eq_true zax) _ ?sb).mono ?_); (case sb => exact zBx HB.out); rintro e w8 ⟨he_, hb⟩; rw [HC7.out] at he_; subst he_; refine ⟨_, rfl, ?_⟩; replace HB := Aside0.mk (below_step (zBx HB.out) hb); (try clear hb)))
     go_ret
     exact ⟨rfl, by exact zBx HB.out⟩
   rw [if_neg c7] at H
   have HC7 := Aside0.mk (Bool.eq_false_iff.mpr c7)
   clear c7
   have H' := Aside0.mk H
   clear H
   have p174 : 0 ≤ (x8_1 : Int) := of_decide_eq_true zax
   have q174 : x8_1 < (l0.length : Int) := of_decide_eq_true zax
   obtain ⟨ad174, e174, hx174_0, hx174_1, hx174_2, hx174_3, hx174_4, hx174_5⟩ := at_T25 HR0.out x8_1 p174 q174
   cases e174
   replace hx174_0 := (HB.out.cell (World.block_lt_of_cell? w _ hx174_0)).trans hx174_0
   replace hx174_1 := (HB.out.cell (World.block_lt_of_cell? w _ hx174_1)).trans hx174_1
   replace hx174_2 := (HB.out.cell (World.block_lt_of_cell? w _ hx174_2)).trans hx174_2
   replace hx174_3 := (HB.out.cell (World.block_lt_of_cell? w _ hx174_3)).trans hx174_3
   replace hx174_4 := (HB.out.cell (World.block_lt_of_cell? w _ hx174_4)).trans hx174_4
   replace hx174_5 := (HB.out.cell (World.block_lt_of_cell? w _ hx174_5)).trans hx174_5
   replace p174 := eq_true p174
   replace q174 := eq_true q174
   go_wp2_with (first | ((with_reducible refine gate_calleeT (t := 11) rfl ?_); refine goesC_ (t := 11) (some 16) rfl rfl hgf hgn hgb #[.agg #[.int .i64 (rd_T25 l0 x8_1).f0, .int .i64 (rd_T25 l0 x8_1).f1, .int .i64 (rd_T25 l0 x8_1).f2, .int .i64 (rd_T25 l0 x8_1).f3, .int .i64 (rd_T25 l0 x8_1).f4, .int .i64 (rd_T25 l0 x8_1).f5]] caps (#[.agg #[.int .i64 (rd_T25 l0 x8_1).f0, .int .i64 (rd_T25 l0 x8_1).f1, .int .i64 (rd_T25 l0 x8_1).f2, .int .i64 (rd_T25 l0 x8_1).f3, .int .i64 (rd_T25 l0 x8_1).f4, .int .i64 (rd_T25 l0 x8_1).f5]] ++ caps) ⟨rfl, rfl⟩ zlx rfl ?_; (with_reducible refine (HP.out x8_1 (of_decide_eq_true zax) (of_decide_eq_true zax) _ ?sb).mono ?_); (case sb => exact zBx HB.out); rintro e w8 ⟨he_, hb⟩; rw [HC7.out] at he_; subst he_; refine ⟨_, rfl, ?_⟩; replace HB := Aside0.mk (below_step (zBx HB.out) hb); (try clear hb)))
   go_roundg k1
   case measure => have := HK1.out; omega
   case rel => exact ⟨(wrap64 (x8_1 + 1)), zrx, H', ⟨by have := HK1.out; omega⟩, ⟨by exact zBx HB.out⟩⟩
/-! ### impl.IsConsistent$1: function 106 -/
def meets (a0 a1 a2 a3 a4 a5 : Int) (x : S25) : Bool := (impl_doMeet.f a0 a1 a2 a3 a4 a5 x.f0 x.f1 x.f2 x.f3 x.f4 x.f5).getD false
theorem meets_eq (a0 a1 a2 a3 a4 a5 : Int) (x : S25) : impl_doMeet.f a0 a1 a2 a3 a4 a5 x.f0 x.f1 x.f2 x.f3 x.f4 x.f5 = some (meets a0 a1 a2 a3 a4 a5 x) := by
 unfold meets impl_doMeet.f
 repeat' split
 all_goals rfl
set_option maxHeartbeats 8000000 in
set_option maxRecDepth 100000 in
theorem closure106 (x : S25) (a0 a1 a2 a3 a4 a5 : Int) (g : Nat) (w : World) (hq : w.cell? ⟨g, 0, none⟩ = some (.int .i64 a0) ∧ w.cell? ⟨g, 1, none⟩ = some (.int .i64 a1) ∧ w.cell? ⟨g, 2, none⟩ = some (.int .i64 a2) ∧ w.cell? ⟨g, 3, none⟩ = some (.int .i64 a3) ∧ w.cell? ⟨g, 4, none⟩ = some (.int .i64 a4) ∧ w.cell? ⟨g, 5, none⟩ = some (.int .i64 a5)) :
  Calls Tryz.prog 106 #[.agg #[.int .i64 x.f0, .int .i64 x.f1, .int .i64 x.f2, .int .i64 x.f3, .int .i64 x.f4, .int .i64 x.f5], .pointer (some ⟨g, 0, none⟩)] w fun e w' => e = .returned (.bool (meets a0 a1 a2 a3 a4 a5 x)) ∧ Below w.heap.size w w' := by
 have hu25 := Tryz.underlying25
 have HB := Aside0.mk (Below.refl w.heap.size w)
 obtain ⟨q0, q1, q2, q3, q4, q5⟩ := hq
 go_enter Tryz.func106, Tryz.ntmps106
 go_wp2_with (first | ((with_reducible refine gate_dst (N := 2) rfl ?_); refine box_event ?hg (N := 2) ?hd (cs := #[.int .i64 x.f0, .int .i64 x.f1, .int .i64 x.f2, .int .i64 x.f3, .int .i64 x.f4, .int .i64 x.f5]) (t := 25) ?hr ?_; (case hd => rfl); (case hg => rfl); (case hr => exact zsx); intro gb265 hg w12 hbox hb; have n0_ := Aside0.mk (below_step (zBx HB.out) hb); have n1_ := Aside0.mk (hbox); have n2_ := zns hg HB.out; replace q0 := pw_cell_below n0_.out q0; replace q1 := pw_cell_below n0_.out q1; replace q2 := pw_cell_below n0_.out q2; replace q3 := pw_cell_below n0_.out q3; replace q4 := pw_cell_below n0_.out q4; replace q5 := pw_cell_below n0_.out q5; clear HB; have HB := n0_; have BK265 := n1_; have GE265 := n2_; clear n0_ n1_ n2_; clear hb hbox hg; have hcz13_0 := (blk_cell BK265.out 0).trans rfl; have hcz13_1 := (blk_cell BK265.out 1).trans rfl; have hcz13_2 := (blk_cell BK265.out 2).trans rfl; have hcz13_3 := (blk_cell BK265.out 3).trans rfl; have hcz13_4 := (blk_cell BK265.out 4).trans rfl; have hcz13_5 := (blk_cell BK265.out 5).trans rfl) | (go_at_call 107; (with_reducible refine (impl_doMeet.calls a0 a1 a2 a3 a4 a5 x.f0 x.f1 x.f2 x.f3 x.f4 x.f5 _ _ (meets_eq a0 a1 a2 a3 a4 a5 x)).mono ?_); rintro e w9 ⟨rfl, hb⟩; have n1_ := Aside0.mk (below_step (zBy HB.out GE265.out) hb); clear HB; have HB := n1_; clear n1_; (try clear hb)))
 go_ret
 exact ⟨rfl, by exact zBy HB.out GE265.out⟩
/-! ### slices_ContainsFunc_Warning: function 105 -/
def slices_ContainsFunc_Warning.f (l0 : List (S25)) (a1_0 : Int) (a1_1 : Int) (a1_2 : Int) (a1_3 : Int) (a1_4 : Int) (a1_5 : Int) : Option (Bool) := (ixW.l0 (meets a1_0 a1_1 a1_2 a1_3 a1_4 a1_5) (l0.length + 1) l0 0).bind fun i => some (decide (i ≥ 0))
set_option maxHeartbeats 8000000 in
set_option maxRecDepth 100000 in
theorem slices_ContainsFunc_Warning.calls (g : Nat) (A0 : Option Addr) (c0 : Nat) (l0 : List (S25)) (a1_0 : Int) (a1_1 : Int) (a1_2 : Int) (a1_3 : Int) (a1_4 : Int) (a1_5 : Int) (r : Bool) (w : World) (hr0 : Kd.C k25 w A0 l0.length l0) (hc0 : l0.length ≤ c0) (hq : w.cell? ⟨g, 0, none⟩ = some (.int .i64 a1_0) ∧ w.cell? ⟨g, 1, none⟩ = some (.int .i64 a1_1) ∧ w.cell? ⟨g, 2, none⟩ = some (.int .i64 a1_2) ∧ w.cell? ⟨g, 3, none⟩ = some (.int .i64 a1_3) ∧ w.cell? ⟨g, 4, none⟩ = some (.int .i64 a1_4) ∧ w.cell? ⟨g, 5, none⟩ = some (.int .i64 a1_5)) (h : slices_ContainsFunc_Warning.f l0 a1_0 a1_1 a1_2 a1_3 a1_4 a1_5 = some r) :
 Calls Tryz.prog 105 #[.slice A0 l0.length c0, .func (.func 106) #[] #[.pointer (some ⟨g, 0, none⟩)]] w fun e w' => e = .returned (.bool r) ∧ Below w.heap.size w w' := by
 unfold slices_ContainsFunc_Warning.f at h
 obtain ⟨i, hi, h⟩ := Option.bind_eq_some_iff.mp h
 obtain rfl := Option.some.inj h
 clear h
 have key := ixW.calls (l0.length + 1) A0 c0 l0 (meets a1_0 a1_1 a1_2 a1_3 a1_4 a1_5) 106 Tryz.f106 #[.pointer (some ⟨g, 0, none⟩)] i
 have hlt : g < w.heap.size := World.block_lt_of_cell? w _ hq.1
 have clo : ∀ W, Below w.heap.size w W → ∀ i : Int, 0 ≤ i → i < (l0.length : Int) → ∀ W', Below W.heap.size W W' → Calls Tryz.prog 106 (#[.agg #[.int .i64 (rd_T25 l0 i).f0, .int .i64 (rd_T25 l0 i).f1, .int .i64 (rd_T25 l0 i).f2, .int .i64 (rd_T25 l0 i).f3, .int .i64 (rd_T25 l0 i).f4, .int .i64 (rd_T25 l0 i).f5]] ++ #[.pointer (some ⟨g, 0, none⟩)]) W' fun e W'' => e = .returned (.bool (meets a1_0 a1_1 a1_2 a1_3 a1_4 a1_5 (rd_T25 l0 i))) ∧ Below W'.heap.size W' W'' := by
  intro W hW i _ _ W' hW'
  have hb := below_step hW hW'
  exact closure106 (rd_T25 l0 i) a1_0 a1_1 a1_2 a1_3 a1_4 a1_5 g W' ⟨pw_cell_below hb hq.1, pw_cell_below hb hq.2.1, pw_cell_below hb hq.2.2.1, pw_cell_below hb hq.2.2.2.1, pw_cell_below hb hq.2.2.2.2.1, pw_cell_below hb hq.2.2.2.2.2⟩
 clear hq hlt
 have HR0 := Aside0.mk hr0
 have HC0 := Aside0.mk hc0
 have HK := Aside0.mk key
 have HI := Aside0.mk hi
 have CLO := Aside0.mk clo
 clear hr0 hc0 key clo hi
 have HB := Aside0.mk (Below.refl w.heap.size w)
 go_enter Tryz.func105, Tryz.ntmps105
 go_wp2_with (first | (go_at_call 111; refine (HK.out _ Tryz.func106 (by kernel_rfl) (by kernel_rfl) ?side0 ?side1 ?side2 HI.out).mono ?_; (case side0 => exact CLO.out _ (zBx HB.out)); (case side1 => exact zCx HR0.out); (case side2 => exact HC0.out); rintro e w4 ⟨rfl, hb⟩; replace HB := Aside0.mk (below_step (zBx HB.out) hb); (try clear hb)))
 go_ret
 exact ⟨rfl, by exact zBx HB.out⟩

/-! ### impl_IsConsistent: function 70 -/
def impl_IsConsistent.l0 : Nat → List (S25) → List (S25) → Int → Int → Option (Bool)
 | 0, _, _, _, _ => none
 | k + 1, x0, x8, x9, x10 => if x10 < x9 then (if 0 ≤ x10 then (if x10 < (x8.length : Int) then (if x10 ≤ (x0.length : Int) then ((slices_ContainsFunc_Warning.f (x0.take (x10 : Int).toNat) ((rd_T25 x8 x10).f0) ((rd_T25 x8 x10).f1) ((rd_T25 x8 x10).f2) ((rd_T25 x8 x10).f3) ((rd_T25 x8 x10).f4) ((rd_T25 x8 x10).f5)).bind fun t272 => (if t272 = true then (some false) else (impl_IsConsistent.l0 k x0 x8 x9 (wrap64 (x10 + 1))))) else (none)) else (none)) else (none)) else (some true)
def impl_IsConsistent.f (k : Nat) (l0 : List (S25)) : Option (Bool) := (impl_areWarnings.f k l0).bind fun t265 => (if t265 = true then (impl_IsConsistent.l0 k l0 l0 (l0.length : Int) 0) else (some false))
set_option maxHeartbeats 8000000 in
set_option maxRecDepth 100000 in
theorem impl_IsConsistent.calls (k : Nat) (A0 : Option Addr) (c0 : Nat) (l0 : List (S25)) (r : Bool) (w : World) (hr0 : Kd.C k25 w A0 l0.length l0) (hc0 : l0.length ≤ c0) (h : impl_IsConsistent.f k l0 = some r) :
 Calls Tryz.prog 70 #[.slice A0 l0.length c0] w fun e w' => e = .returned (.bool r) ∧ Below w.heap.size w w' := by
 have hu25 := Tryz.underlying25
 have HR0 := Aside0.mk hr0
 have HC0 := Aside0.mk hc0
 clear hr0 hc0
 have HB := Aside0.mk (Below.refl w.heap.size w)
 have H : ((impl_areWarnings.f k l0).bind fun t265 => (if t265 = true then (impl_IsConsistent.l0 k l0 l0 (l0.length : Int) 0) else (some false))) = some r := h
 clear h
 replace H := Option.bind_eq_some_iff.mp H
 obtain ⟨t265, A20, H⟩ := H
 replace H : (if t265 = true then (impl_IsConsistent.l0 k l0 l0 (l0.length : Int) 0) else (some false)) = some r := H
 have A2 := Aside0.mk A20
 clear A20
 by_cases c3 : t265 = true
 rotate_left
 ·replace c3 := Bool.eq_false_iff.mpr c3
  subst c3
  rw [if_neg (show ¬ (false = true) by decide)] at H
  focus
   obtain rfl := Option.some.inj H
   go_enter Tryz.func70, Tryz.ntmps70
   go_wp2_with (first | ((with_reducible refine gate_callee (f := 104) rfl ?_); refine goesL_ (some 6) rfl rfl Tryz.func104 (by kernel_rfl) rfl #[.slice A0 l0.length c0] rfl zlx ?_; (with_reducible refine (impl_areWarnings.calls k _ _ l0 false _ ?side1 ?side2 A2.out).mono ?_); (case side1 => exact zCx HR0.out); (case side2 => exact HC0.out); rintro e w24 ⟨rfl, hb⟩; refine ⟨_, rfl, ?_⟩; replace HB := Aside0.mk (below_step (zBx HB.out) hb); (try clear hb)))
   go_ret
   exact ⟨by first | rfl | (simp [errW_none, errW_some] <;> rfl) | (simp [*, errW_none, errW_some] <;> rfl), by exact zBx HB.out⟩

 subst c3
 rw [if_pos rfl] at H
 have H' := Aside0.mk H
 clear H
 go_enter Tryz.func70, Tryz.ntmps70
 go_wp2_with (first | ((with_reducible refine gate_callee (f := 104) rfl ?_); refine goesL_ (some 6) rfl rfl Tryz.func104 (by kernel_rfl) rfl #[.slice A0 l0.length c0] rfl zlx ?_; (with_reducible refine (impl_areWarnings.calls k _ _ l0 true _ ?side1 ?side2 A2.out).mono ?_); (case side1 => exact zCx HR0.out); (case side2 => exact HC0.out); rintro e w4 ⟨rfl, hb⟩; refine ⟨_, rfl, ?_⟩; replace HB := Aside0.mk (below_step (zBx HB.out) hb); (try clear hb)))
 go_loopg [10] k (fun kq v10 w' => ∃ (x10_1 : Int), v10 = .int .i64 x10_1 ∧ Aside0 (impl_IsConsistent.l0 kq l0 l0 (l0.length : Int) x10_1 = some r) ∧ Aside0 (kq ≤ k) ∧ Aside0 (Below w.heap.size w w'))
 case atStart => exact ⟨(0), zrx, H', ⟨Nat.le_refl _⟩, ⟨by exact zBx HB.out⟩⟩
 case round =>
  clear H'
  try clear c1
  try clear p2
  try clear c3
  obtain ⟨x10_1, rfl, HA, HK1, HB⟩ := hrel
  cases gk with
  | zero => exact absurd HA.out (by simp [impl_IsConsistent.l0])
  | succ k1 =>
   have H := HA.out
   clear HA
   simp only [impl_IsConsistent.l0] at H
   by_cases c5 : x10_1 < (l0.length : Int)
   rotate_left
   ·rw [if_neg c5] at H
    have c5b0 : decide (x10_1 < (l0.length : Int)) = false := decide_eq_false c5
    clear c5
    focus
     obtain rfl := Option.some.inj H
     go_wp2
     go_ret
     exact ⟨by first | rfl | (simp [errW_none, errW_some] <;> rfl) | (simp [*, errW_none, errW_some] <;> rfl), by exact zBx HB.out⟩
   rw [if_pos c5] at H
   have c5b0 : decide (x10_1 < (l0.length : Int)) = true := decide_eq_true c5
   clear c5
   obtain ⟨c6, H⟩ := zin H
   have c6b0 : decide (0 ≤ x10_1) = true := decide_eq_true c6
   clear c6
   obtain ⟨c7, H⟩ := zin H
   have c7b0 : decide (x10_1 < (l0.length : Int)) = true := decide_eq_true c7
   clear c7
   have c8b0 := eq_true (of_decide_eq_true zax : 0 ≤ x10_1)
   obtain ⟨c9, H⟩ := zin H
   have c9b0 := eq_true c9
   have c9b1 : decide (x10_1 ≤ (l0.length : Int)) = true := decide_eq_true c9
   clear c9
   obtain ⟨y268, hy268⟩ : ∃ y_ : List (S25), y_ = (l0.take (x10_1 : Int).toNat) := ⟨_, rfl⟩
   replace H : ((slices_ContainsFunc_Warning.f y268 ((rd_T25 l0 x10_1).f0) ((rd_T25 l0 x10_1).f1) ((rd_T25 l0 x10_1).f2) ((rd_T25 l0 x10_1).f3) ((rd_T25 l0 x10_1).f4) ((rd_T25 l0 x10_1).f5)).bind fun t272 => (if t272 = true then (some false) else (impl_IsConsistent.l0 k1 l0 l0 (l0.length : Int) (wrap64 (x10_1 + 1))))) = some r := by first | (rw [hy268]; with_reducible exact H) | (have H2_ := (Option.bind_some _ _).symm.trans H; rw [hy268]; with_reducible exact H2_) | (have H2_ := (Option.bind_some _ _).symm.trans H; with_reducible exact H2_) | with_reducible exact H | (rw [hy268]; exact H) | exact H
   have Ny268 := Aside0.mk hy268
   clear hy268
   replace H := Option.bind_eq_some_iff.mp H
   obtain ⟨t272, A100, H⟩ := H
   replace H : (if t272 = true then (some false) else (impl_IsConsistent.l0 k1 l0 l0 (l0.length : Int) (wrap64 (x10_1 + 1)))) = some r := H
   have A10 := Aside0.mk A100
   clear A100
   by_cases c11 : t272 = true
   ·subst c11
    rw [if_pos rfl] at H
    focus
     obtain rfl := Option.some.inj H
     have p266 : 0 ≤ (x10_1 : Int) := of_decide_eq_true zax
     have q266 : x10_1 < (l0.length : Int) := of_decide_eq_true zax
     obtain ⟨ad266, e266, hx266_0, hx266_1, hx266_2, hx266_3, hx266_4, hx266_5⟩ := at_T25 HR0.out x10_1 p266 q266
     cases e266
     replace hx266_0 := (HB.out.cell (World.block_lt_of_cell? w _ hx266_0)).trans hx266_0
     replace hx266_1 := (HB.out.cell (World.block_lt_of_cell? w _ hx266_1)).trans hx266_1
     replace hx266_2 := (HB.out.cell (World.block_lt_of_cell? w _ hx266_2)).trans hx266_2
     replace hx266_3 := (HB.out.cell (World.block_lt_of_cell? w _ hx266_3)).trans hx266_3
     replace hx266_4 := (HB.out.cell (World.block_lt_of_cell? w _ hx266_4)).trans hx266_4
     replace hx266_5 := (HB.out.cell (World.block_lt_of_cell? w _ hx266_5)).trans hx266_5
     replace p266 := eq_true p266
     replace q266 := eq_true q266
     go_wp2_with (first | ((with_reducible refine gate_dst (N := 4) rfl ?_); refine box_event ?hg (N := 4) ?hd (cs := #[.int .i64 0, .int .i64 0, .int .i64 0, .int .i64 0, .int .i64 0, .int .i64 0]) (t := 25) ?hr ?_; (case hd => rfl); (case hg => rfl); (case hr => exact zsx); intro gb267 hg w12 hbox hb; have BK267 := Aside0.mk (hbox); have GW267 := zns hg HB.out; have GE267 := zns hg HB.out; replace HB := Aside0.mk (below_step (zBx HB.out) hb); clear hb hbox hg; have hcz13_0 : w12.cell? ⟨gb267, 0, none⟩ = some (.int .i64 0) := (blk_cell BK267.out 0).trans rfl; have hcz13_1 : w12.cell? ⟨gb267, 1, none⟩ = some (.int .i64 0) := (blk_cell BK267.out 1).trans rfl; have hcz13_2 : w12.cell? ⟨gb267, 2, none⟩ = some (.int .i64 0) := (blk_cell BK267.out 2).trans rfl; have hcz13_3 : w12.cell? ⟨gb267, 3, none⟩ = some (.int .i64 0) := (blk_cell BK267.out 3).trans rfl; have hcz13_4 : w12.cell? ⟨gb267, 4, none⟩ = some (.int .i64 0) := (blk_cell BK267.out 4).trans rfl; have hcz13_5 : w12.cell? ⟨gb267, 5, none⟩ = some (.int .i64 0) := (blk_cell BK267.out 5).trans rfl; have hfz13_0 := blk_frozen BK267.out 0; have hfz13_1 := blk_frozen BK267.out 1; have hfz13_2 := blk_frozen BK267.out 2; have hfz13_3 := blk_frozen BK267.out 3; have hfz13_4 := blk_frozen BK267.out 4; have hfz13_5 := blk_frozen BK267.out 5) | ((with_reducible refine gate_store (t := 25) (p := 4) rfl ?_); refine store_event (t := 25) (p := 4) (v := ?vo_w14) (w1 := ((((((w12.setCell ⟨gb267, 0, none⟩ (.int .i64 ((rd_T25 l0 x10_1).f0))).setCell ⟨gb267, 1, none⟩ (.int .i64 ((rd_T25 l0 x10_1).f1))).setCell ⟨gb267, 2, none⟩ (.int .i64 ((rd_T25 l0 x10_1).f2))).setCell ⟨gb267, 3, none⟩ (.int .i64 ((rd_T25 l0 x10_1).f3))).setCell ⟨gb267, 4, none⟩ (.int .i64 ((rd_T25 l0 x10_1).f4))).setCell ⟨gb267, 5, none⟩ (.int .i64 ((rd_T25 l0 x10_1).f5)))) ?hg ?ho ?hn ?hr ?_; (case ho => rfl); (case hg => rfl); (case hn => rfl); (case hr => exact zsx); intro w14 hw; replace BK267 : Aside0 (w14.heap[gb267]? = some (.cells #[.int .i64 ((rd_T25 l0 x10_1).f0), .int .i64 ((rd_T25 l0 x10_1).f1), .int .i64 ((rd_T25 l0 x10_1).f2), .int .i64 ((rd_T25 l0 x10_1).f3), .int .i64 ((rd_T25 l0 x10_1).f4), .int .i64 ((rd_T25 l0 x10_1).f5)] 25 (0, 0))) := ⟨(by rw [hw]; exact (zbp BK267.out))⟩; replace HB : Aside0 (Below w.heap.size w w14) := ⟨(by rw [hw]; exact (zBy HB.out GE267.out))⟩; clear hw; have q15 : (x10_1 : Int) ≤ ((l0.length : Int) : Int) := of_decide_eq_true zax; obtain ⟨i015, hi015, _, hsz15, _⟩ := info_parts info25; have hroom15 : l0.length ≤ c0 := HC0.out; have hC15 : Kd.C k25 _ (some ad266) l0.length l0 := HR0.out; have hcut15 := cut_to (P := Tryz.prog) 32 25 .i64 Tryz.underlying32 hi015 (some ad266) l0.length c0 x10_1 (of_decide_eq_true zax) q15 hroom15; have hr15 := Kd.C_take (m := (x10_1 : Int).toNat) hC15 (by omega); have hy15 : y268.length = (x10_1 : Int).toNat := (by rw [Ny268.out, List.length_take]; omega); rw [← Ny268.out] at hr15; rw [← hy15] at hcut15; have HR271 := Aside0.mk hr15; have HC271 := Aside0.mk (show y268.length ≤ c0 from by omega); clear hr15 hC15 hroom15 hi015 hsz15; have KY15 := Aside0.mk hy15; clear hy15; replace q15 := eq_true q15; have hcz16_0 : w14.cell? ⟨gb267, 0, none⟩ = some (.int .i64 ((rd_T25 l0 x10_1).f0)) := (blk_cell BK267.out 0).trans rfl; have hcz16_1 : w14.cell? ⟨gb267, 1, none⟩ = some (.int .i64 ((rd_T25 l0 x10_1).f1)) := (blk_cell BK267.out 1).trans rfl; have hcz16_2 : w14.cell? ⟨gb267, 2, none⟩ = some (.int .i64 ((rd_T25 l0 x10_1).f2)) := (blk_cell BK267.out 2).trans rfl; have hcz16_3 : w14.cell? ⟨gb267, 3, none⟩ = some (.int .i64 ((rd_T25 l0 x10_1).f3)) := (blk_cell BK267.out 3).trans rfl; have hcz16_4 : w14.cell? ⟨gb267, 4, none⟩ = some (.int .i64 ((rd_T25 l0 x10_1).f4)) := (blk_cell BK267.out 4).trans rfl; have hcz16_5 : w14.cell? ⟨gb267, 5, none⟩ = some (.int .i64 ((rd_T25 l0 x10_1).f5)) := (blk_cell BK267.out 5).trans rfl; have hfz16_0 := blk_frozen BK267.out 0; have hfz16_1 := blk_frozen BK267.out 1; have hfz16_2 := blk_frozen BK267.out 2; have hfz16_3 := blk_frozen BK267.out 3; have hfz16_4 := blk_frozen BK267.out 4; have hfz16_5 := blk_frozen BK267.out 5) | ((with_reducible refine gate_callee (f := 105) rfl ?_); refine goesL_ (some 19) rfl rfl Tryz.func105 (by kernel_rfl) rfl #[.slice (some ad266) y268.length c0, .func (.func 106) #[] #[.pointer (some ⟨gb267, 0, none⟩)]] rfl zlx ?_; (with_reducible refine (slices_ContainsFunc_Warning.calls gb267 _ _ y268 ((rd_T25 l0 x10_1).f0) ((rd_T25 l0 x10_1).f1) ((rd_T25 l0 x10_1).f2) ((rd_T25 l0 x10_1).f3) ((rd_T25 l0 x10_1).f4) ((rd_T25 l0 x10_1).f5) true _ ?side1 ?side2 ?sq A10.out).mono ?_); (case sq => exact ⟨(blk_cell (t := 25) (cs := #[.int .i64 ((rd_T25 l0 x10_1).f0), .int .i64 ((rd_T25 l0 x10_1).f1), .int .i64 ((rd_T25 l0 x10_1).f2), .int .i64 ((rd_T25 l0 x10_1).f3), .int .i64 ((rd_T25 l0 x10_1).f4), .int .i64 ((rd_T25 l0 x10_1).f5)]) (zbx BK267.out) 0).trans rfl, (blk_cell (t := 25) (cs := #[.int .i64 ((rd_T25 l0 x10_1).f0), .int .i64 ((rd_T25 l0 x10_1).f1), .int .i64 ((rd_T25 l0 x10_1).f2), .int .i64 ((rd_T25 l0 x10_1).f3), .int .i64 ((rd_T25 l0 x10_1).f4), .int .i64 ((rd_T25 l0 x10_1).f5)]) (zbx BK267.out) 1).trans rfl, (blk_cell (t := 25) (cs := #[.int .i64 ((rd_T25 l0 x10_1).f0), .int .i64 ((rd_T25 l0 x10_1).f1), .int .i64 ((rd_T25 l0 x10_1).f2), .int .i64 ((rd_T25 l0 x10_1).f3), .int .i64 ((rd_T25 l0 x10_1).f4), .int .i64 ((rd_T25 l0 x10_1).f5)]) (zbx BK267.out) 2).trans rfl, (blk_cell (t := 25) (cs := #[.int .i64 ((rd_T25 l0 x10_1).f0), .int .i64 ((rd_T25 l0 x10_1).f1), .int .i64 ((rd_T25 l0 x10_1).f2), .int .i64 ((rd_T25 l0 x10_1).f3), .int .i64 ((rd_T25 l0 x10_1).f4), .int .i64 ((rd_T25 l0 x10_1).f5)]) (zbx BK267.out) 3).trans rfl, (blk_cell (t := 25) (cs := #[.int .i64 ((rd_T25 l0 x10_1).f0), .int .i64 ((rd_T25 l0 x10_1).f1), .int .i64 ((rd_T25 l0 x10_1).f2), .int .i64 ((rd_T25 l0 x10_1).f3), .int .i64 ((rd_T25 l0 x10_1).f4), .int .i64 ((rd_T25 l0 x10_1).f5)]) (zbx BK267.out) 4).trans rfl, (blk_cell (t := 25) (cs := #[.int .i64 ((rd_T25 l0 x10_1).f0), .int .i64 ((rd_T25 l0 x10_1).f1), .int .i64 ((rd_T25 l0 x10_1).f2), .int .i64 ((rd_T25 l0 x10_1).f3), .int .i64 ((rd_T25 l0 x10_1).f4), .int .i64 ((rd_T25 l0 x10_1).f5)]) (zbx BK267.out) 5).trans rfl⟩); (case side1 => exact zCx (Kd.C_below HR271.out HB.out)); (case side2 => exact HC271.out); rintro e w17 ⟨rfl, hb⟩; refine ⟨_, rfl, ?_⟩; replace BK267 := zbl BK267.out hb; replace HB := Aside0.mk (below_step (zBy HB.out GE267.out) hb); (try clear hb)))
     go_ret
     exact ⟨by first | rfl | (simp [errW_none, errW_some] <;> rfl) | (simp [*, errW_none, errW_some] <;> rfl), by exact zBy HB.out GE267.out⟩
   replace c11 := Bool.eq_false_iff.mpr c11
   subst c11
   rw [if_neg (show ¬ (false = true) by decide)] at H
   focus
    have H' := Aside0.mk H
    clear H
    have p266 : 0 ≤ (x10_1 : Int) := of_decide_eq_true zax
    have q266 : x10_1 < (l0.length : Int) := of_decide_eq_true zax
    obtain ⟨ad266, e266, hx266_0, hx266_1, hx266_2, hx266_3, hx266_4, hx266_5⟩ := at_T25 HR0.out x10_1 p266 q266
    cases e266
    replace hx266_0 := (HB.out.cell (World.block_lt_of_cell? w _ hx266_0)).trans hx266_0
    replace hx266_1 := (HB.out.cell (World.block_lt_of_cell? w _ hx266_1)).trans hx266_1
    replace hx266_2 := (HB.out.cell (World.block_lt_of_cell? w _ hx266_2)).trans hx266_2
    replace hx266_3 := (HB.out.cell (World.block_lt_of_cell? w _ hx266_3)).trans hx266_3
    replace hx266_4 := (HB.out.cell (World.block_lt_of_cell? w _ hx266_4)).trans hx266_4
    replace hx266_5 := (HB.out.cell (World.block_lt_of_cell? w _ hx266_5)).trans hx266_5
    replace p266 := eq_true p266
    replace q266 := eq_true q266
    go_wp2_with (first | ((with_reducible refine gate_dst (N := 4) rfl ?_); refine box_event ?hg (N := 4) ?hd (cs := #[.int .i64 0, .int .i64 0, .int .i64 0, .int .i64 0, .int .i64 0, .int .i64 0]) (t := 25) ?hr ?_; (case hd => rfl); (case hg => rfl); (case hr => exact zsx); intro gb267 hg w18 hbox hb; have BK267 := Aside0.mk (hbox); have GW267 := zns hg HB.out; have GE267 := zns hg HB.out; replace HB := Aside0.mk (below_step (zBx HB.out) hb); clear hb hbox hg; have hcz19_0 : w18.cell? ⟨gb267, 0, none⟩ = some (.int .i64 0) := (blk_cell BK267.out 0).trans rfl; have hcz19_1 : w18.cell? ⟨gb267, 1, none⟩ = some (.int .i64 0) := (blk_cell BK267.out 1).trans rfl; have hcz19_2 : w18.cell? ⟨gb267, 2, none⟩ = some (.int .i64 0) := (blk_cell BK267.out 2).trans rfl; have hcz19_3 : w18.cell? ⟨gb267, 3, none⟩ = some (.int .i64 0) := (blk_cell BK267.out 3).trans rfl; have hcz19_4 : w18.cell? ⟨gb267, 4, none⟩ = some (.int .i64 0) := (blk_cell BK267.out 4).trans rfl; have hcz19_5 : w18.cell? ⟨gb267, 5, none⟩ = some (.int .i64 0) := (blk_cell BK267.out 5).trans rfl; have hfz19_0 := blk_frozen BK267.out 0; have hfz19_1 := blk_frozen BK267.out 1; have hfz19_2 := blk_frozen BK267.out 2; have hfz19_3 := blk_frozen BK267.out 3; have hfz19_4 := blk_frozen BK267.out 4; have hfz19_5 := blk_frozen BK267.out 5) | ((with_reducible refine gate_store (t := 25) (p := 4) rfl ?_); refine store_event (t := 25) (p := 4) (v := ?vo_w20) (w1 := ((((((w18.setCell ⟨gb267, 0, none⟩ (.int .i64 ((rd_T25 l0 x10_1).f0))).setCell ⟨gb267, 1, none⟩ (.int .i64 ((rd_T25 l0 x10_1).f1))).setCell ⟨gb267, 2, none⟩ (.int .i64 ((rd_T25 l0 x10_1).f2))).setCell ⟨gb267, 3, none⟩ (.int .i64 ((rd_T25 l0 x10_1).f3))).setCell ⟨gb267, 4, none⟩ (.int .i64 ((rd_T25 l0 x10_1).f4))).setCell ⟨gb267, 5, none⟩ (.int .i64 ((rd_T25 l0 x10_1).f5)))) ?hg ?ho ?hn ?hr ?_; (case ho => rfl); (case hg => rfl); (case hn => rfl); (case hr => exact zsx); intro w20 hw; replace BK267 : Aside0 (w20.heap[gb267]? = some (.cells #[.int .i64 ((rd_T25 l0 x10_1).f0), .int .i64 ((rd_T25 l0 x10_1).f1), .int .i64 ((rd_T25 l0 x10_1).f2), .int .i64 ((rd_T25 l0 x10_1).f3), .int .i64 ((rd_T25 l0 x10_1).f4), .int .i64 ((rd_T25 l0 x10_1).f5)] 25 (0, 0))) := ⟨(by rw [hw]; exact (zbp BK267.out))⟩; replace HB : Aside0 (Below w.heap.size w w20) := ⟨(by rw [hw]; exact (zBy HB.out GE267.out))⟩; clear hw; have q21 : (x10_1 : Int) ≤ ((l0.length : Int) : Int) := of_decide_eq_true zax; obtain ⟨i021, hi021, _, hsz21, _⟩ := info_parts info25; have hroom21 : l0.length ≤ c0 := HC0.out; have hC21 : Kd.C k25 _ (some ad266) l0.length l0 := HR0.out; have hcut21 := cut_to (P := Tryz.prog) 32 25 .i64 Tryz.underlying32 hi021 (some ad266) l0.length c0 x10_1 (of_decide_eq_true zax) q21 hroom21; have hr21 := Kd.C_take (m := (x10_1 : Int).toNat) hC21 (by omega); have hy21 : y268.length = (x10_1 : Int).toNat := (by rw [Ny268.out, List.length_take]; omega); rw [← Ny268.out] at hr21; rw [← hy21] at hcut21; have HR271 := Aside0.mk hr21; have HC271 := Aside0.mk (show y268.length ≤ c0 from by omega); clear hr21 hC21 hroom21 hi021 hsz21; have KY21 := Aside0.mk hy21; clear hy21; replace q21 := eq_true q21; have hcz22_0 : w20.cell? ⟨gb267, 0, none⟩ = some (.int .i64 ((rd_T25 l0 x10_1).f0)) := (blk_cell BK267.out 0).trans rfl; have hcz22_1 : w20.cell? ⟨gb267, 1, none⟩ = some (.int .i64 ((rd_T25 l0 x10_1).f1)) := (blk_cell BK267.out 1).trans rfl; have hcz22_2 : w20.cell? ⟨gb267, 2, none⟩ = some (.int .i64 ((rd_T25 l0 x10_1).f2)) := (blk_cell BK267.out 2).trans rfl; have hcz22_3 : w20.cell? ⟨gb267, 3, none⟩ = some (.int .i64 ((rd_T25 l0 x10_1).f3)) := (blk_cell BK267.out 3).trans rfl; have hcz22_4 : w20.cell? ⟨gb267, 4, none⟩ = some (.int .i64 ((rd_T25 l0 x10_1).f4)) := (blk_cell BK267.out 4).trans rfl; have hcz22_5 : w20.cell? ⟨gb267, 5, none⟩ = some (.int .i64 ((rd_T25 l0 x10_1).f5)) := (blk_cell BK267.out 5).trans rfl; have hfz22_0 := blk_frozen BK267.out 0; have hfz22_1 := blk_frozen BK267.out 1; have hfz22_2 := blk_frozen BK267.out 2; have hfz22_3 := blk_frozen BK267.out 3; have hfz22_4 := blk_frozen BK267.out 4; have hfz22_5 := blk_frozen BK267.out 5) | ((with_reducible refine gate_callee (f := 105) rfl ?_); refine goesL_ (some 19) rfl rfl Tryz.func105 (by kernel_rfl) rfl #[.slice (some ad266) y268.length c0, .func (.func 106) #[] #[.pointer (some ⟨gb267, 0, none⟩)]] rfl zlx ?_; (with_reducible refine (slices_ContainsFunc_Warning.calls gb267 _ _ y268 ((rd_T25 l0 x10_1).f0) ((rd_T25 l0 x10_1).f1) ((rd_T25 l0 x10_1).f2) ((rd_T25 l0 x10_1).f3) ((rd_T25 l0 x10_1).f4) ((rd_T25 l0 x10_1).f5) false _ ?side1 ?side2 ?sq A10.out).mono ?_); (case sq => exact ⟨(blk_cell (t := 25) (cs := #[.int .i64 ((rd_T25 l0 x10_1).f0), .int .i64 ((rd_T25 l0 x10_1).f1), .int .i64 ((rd_T25 l0 x10_1).f2), .int .i64 ((rd_T25 l0 x10_1).f3), .int .i64 ((rd_T25 l0 x10_1).f4), .int .i64 ((rd_T25 l0 x10_1).f5)]) (zbx BK267.out) 0).trans rfl, (blk_cell (t := 25) (cs := #[.int .i64 ((rd_T25 l0 x10_1).f0), .int .i64 ((rd_T25 l0 x10_1).f1), .int .i64 ((rd_T25 l0 x10_1).f2), .int .i64 ((rd_T25 l0 x10_1).f3), .int .i64 ((rd_T25 l0 x10_1).f4), .int .i64 ((rd_T25 l0 x10_1).f5)]) (zbx BK267.out) 1).trans rfl, (blk_cell (t := 25) (cs := #[.int .i64 ((rd_T25 l0 x10_1).f0), .int .i64 ((rd_T25 l0 x10_1).f1), .int .i64 ((rd_T25 l0 x10_1).f2), .int .i64 ((rd_T25 l0 x10_1).f3), .int .i64 ((rd_T25 l0 x10_1).f4), .int .i64 ((rd_T25 l0 x10_1).f5)]) (zbx BK267.out) 2).trans rfl, (blk_cell (t := 25) (cs := #[.int .i64 ((rd_T25 l0 x10_1).f0), .int .i64 ((rd_T25 l0 x10_1).f1), .int .i64 ((rd_T25 l0 x10_1).f2), .int .i64 ((rd_T25 l0 x10_1).f3), .int .i64 ((rd_T25 l0 x10_1).f4), .int .i64 ((rd_T25 l0 x10_1).f5)]) (zbx BK267.out) 3).trans rfl, (blk_cell (t := 25) (cs := #[.int .i64 ((rd_T25 l0 x10_1).f0), .int .i64 ((rd_T25 l0 x10_1).f1), .int .i64 ((rd_T25 l0 x10_1).f2), .int .i64 ((rd_T25 l0 x10_1).f3), .int .i64 ((rd_T25 l0 x10_1).f4), .int .i64 ((rd_T25 l0 x10_1).f5)]) (zbx BK267.out) 4).trans rfl, (blk_cell (t := 25) (cs := #[.int .i64 ((rd_T25 l0 x10_1).f0), .int .i64 ((rd_T25 l0 x10_1).f1), .int .i64 ((rd_T25 l0 x10_1).f2), .int .i64 ((rd_T25 l0 x10_1).f3), .int .i64 ((rd_T25 l0 x10_1).f4), .int .i64 ((rd_T25 l0 x10_1).f5)]) (zbx BK267.out) 5).trans rfl⟩); (case side1 => exact zCx (Kd.C_below HR271.out HB.out)); (case side2 => exact HC271.out); rintro e w23 ⟨rfl, hb⟩; refine ⟨_, rfl, ?_⟩; replace BK267 := zbl BK267.out hb; replace HB := Aside0.mk (below_step (zBy HB.out GE267.out) hb); (try clear hb)))
    go_roundg k1
    case measure => have := HK1.out; omega
    case rel => exact ⟨(wrap64 (x10_1 + 1)), zrx, H', ⟨by have := HK1.out; omega⟩, ⟨by exact zBy HB.out GE267.out⟩⟩
/-! ### impl_IsValidBulletin: function 24 -/
def impl_IsValidBulletin.f (k : Nat) (a0_0 : Int) (a0_1 : Int) (l0_2 : List (S25)) : Option (Bool) := (impl_within.f a0_0 1 999).bind fun t274 => (if t274 = true then ((impl_within.f a0_1 0 240).bind fun t275 => (if t275 = true then ((impl_IsConsistent.f k l0_2).bind fun t276 => (some t276)) else (some false))) else (some false))
theorem zenddBulletinx10_1 {P_ : Prop} (h_ : P_ := by
  obtain rfl := Option.some.inj H
  go_enter Tryz.func24, Tryz.ntmps24
  go_wp2_with (first | ((with_reducible refine gate_dst (N := 1) rfl ?_); refine box_event ?hg (N := 1) ?hd (cs := #[.int .i64 a0_0, .int .i64 a0_1, .slice A0_2 l0_2.length c0_2]) (t := 34) ?hr ?_; (case hd => rfl); (case hg => rfl); (case hr => exact zsx); intro gb273 hg w7 hbox hb; have BK273 := Aside0.mk (hbox); have GW273 := zns hg HB.out; have GE273 := zns hg HB.out; replace HB := Aside0.mk (below_step (zBx HB.out) hb); clear hb hbox hg; have hcz8_0 : w7.cell? ⟨gb273, 0, none⟩ = some (.int .i64 a0_0) := (blk_cell BK273.out 0).trans rfl; have hcz8_1 : w7.cell? ⟨gb273, 1, none⟩ = some (.int .i64 a0_1) := (blk_cell BK273.out 1).trans rfl; have hcz8_2 : w7.cell? ⟨gb273, 2, none⟩ = some (.slice A0_2 l0_2.length c0_2) := (blk_cell BK273.out 2).trans rfl; have hfz8_0 := blk_frozen BK273.out 0; have hfz8_1 := blk_frozen BK273.out 1; have hfz8_2 := blk_frozen BK273.out 2) | ((with_reducible refine gate_callee (f := 69) rfl ?_); refine goesL_ (some 5) rfl rfl Tryz.func69 (by kernel_rfl) rfl #[.int .i64 a0_0, .int .i64 1, .int .i64 999] rfl zlx ?_; (with_reducible refine (impl_within.calls a0_0 1 999 _ _ A2.out).mono ?_); rintro e w' ⟨rfl, ⟨nd, rfl⟩⟩; refine ⟨_, rfl, ?_⟩) | (go_at_call 69; (with_reducible refine (impl_within.calls a0_1 0 240 _ _ A4.out).mono ?_); rintro e w' ⟨rfl, ⟨nd, rfl⟩⟩) | (go_at_call 70; (with_reducible refine (impl_IsConsistent.calls k _ _ l0_2 t276 _ ?side1 ?side2 A6.out).mono ?_); (case side1 => repeat (first | exact (Kd.C_below HR0_2.out (zBy HB.out GE273.out)) | (with_reducible refine Kd.C_alloc ?_ _) | (with_reducible refine Kd.C_drewN ?_ _) | (with_reducible refine Kd.C_drew ?_))); (case side2 => exact HC0_2.out); rintro e w9 ⟨rfl, hb⟩; replace BK273 := zbl BK273.out hb; replace HB := Aside0.mk (below_step (zBy HB.out GE273.out) hb); (try clear hb)))
  go_ret
  exact ⟨by first | rfl | (simp [errW_none, errW_some] <;> rfl) | (simp [*, errW_none, errW_some] <;> rfl), by exact zBy HB.out GE273.out⟩) : P_ := h_
set_option maxHeartbeats 8000000 in
set_option maxRecDepth 100000 in
theorem impl_IsValidBulletin.calls (k : Nat) (a0_0 : Int) (a0_1 : Int) (A0_2 : Option Addr) (c0_2 : Nat) (l0_2 : List (S25)) (r : Bool) (w : World) (hr0_2 : Kd.C k25 w A0_2 l0_2.length l0_2) (hc0_2 : l0_2.length ≤ c0_2) (h : impl_IsValidBulletin.f k a0_0 a0_1 l0_2 = some r) :
 Calls Tryz.prog 24 #[.agg #[.int .i64 a0_0, .int .i64 a0_1, .slice A0_2 l0_2.length c0_2]] w fun e w' => e = .returned (.bool r) ∧ Below w.heap.size w w' := by
 have hu34 := Tryz.underlying34
 have HR0_2 := Aside0.mk hr0_2
 have HC0_2 := Aside0.mk hc0_2
 clear hr0_2 hc0_2
 have HB := Aside0.mk (Below.refl w.heap.size w)
 have H : ((impl_within.f a0_0 1 999).bind fun t274 => (if t274 = true then ((impl_within.f a0_1 0 240).bind fun t275 => (if t275 = true then ((impl_IsConsistent.f k l0_2).bind fun t276 => (some t276)) else (some false))) else (some false))) = some r := h
 clear h
 replace H := Option.bind_eq_some_iff.mp H
 obtain ⟨t274, A20, H⟩ := H
 replace H : (if t274 = true then ((impl_within.f a0_1 0 240).bind fun t275 => (if t275 = true then ((impl_IsConsistent.f k l0_2).bind fun t276 => (some t276)) else (some false))) else (some false)) = some r := H
 have A2 := Aside0.mk A20
 clear A20
 by_cases c3 : t274 = true
 rotate_left
 ·replace c3 := Bool.eq_false_iff.mpr c3
  subst c3
  rw [if_neg (show ¬ (false = true) by decide)] at H
  focus
   exact zenddBulletinx10_1

 subst c3
 rw [if_pos rfl] at H
 replace H := Option.bind_eq_some_iff.mp H
 obtain ⟨t275, A40, H⟩ := H
 replace H : (if t275 = true then ((impl_IsConsistent.f k l0_2).bind fun t276 => (some t276)) else (some false)) = some r := H
 have A4 := Aside0.mk A40
 clear A40
 by_cases c5 : t275 = true
 ·subst c5
  rw [if_pos rfl] at H
  replace H := Option.bind_eq_some_iff.mp H
  obtain ⟨t276, A60, H⟩ := H
  replace H : (some t276) = some r := H
  have A6 := Aside0.mk A60
  clear A60
  focus
   exact zenddBulletinx10_1
 ·replace c5 := Bool.eq_false_iff.mpr c5
  subst c5
  rw [if_neg (show ¬ (false = true) by decide)] at H
  focus
   exact zenddBulletinx10_1
/-! ### impl_checksum: function 131 -/
def impl_checksum.l0 : Nat → ByteArray → Int → Int → Option (Int)
 | 0, _, _, _ => none
 | k + 1, x0, x3, x4 => if x4 < (x0.size : Int) then (if 0 ≤ x4 then (impl_checksum.l0 k x0 (Int.tmod (wrap64 ((wrap64 ((wrap64 (41 * x3)) + (wrap64 (bt x0 x4)))) + 1)) 999979) (wrap64 (x4 + 1))) else (none)) else (some x3)
def impl_checksum.f (k : Nat) (a0 : ByteArray) : Option (Int) := impl_checksum.l0 k a0 7 0
set_option maxHeartbeats 8000000 in
set_option maxRecDepth 100000 in
theorem impl_checksum.calls (k : Nat) (a0 : ByteArray) (r : Int) (w : World) (h : impl_checksum.f k a0 = some r) :
 Calls Tryz.prog 131 #[.string a0] w fun e w' => e = .returned (.int .i64 r) ∧ Drawn0 w w' := by
 have H : (impl_checksum.l0 k a0 7 0) = some r := h
 clear h
 have H' := Aside0.mk H
 clear H
 go_enter Tryz.func131, Tryz.ntmps131
 go_wp2
 go_loopg [3, 4] k (fun kq v3 v4 w' => ∃ (x3_1 : Int) (x4_1 : Int), v3 = .int .i64 x3_1 ∧ v4 = .int .i64 x4_1 ∧ Aside0 (impl_checksum.l0 kq a0 x3_1 x4_1 = some r) ∧ Aside0 (kq ≤ k) ∧ Drawn0 w w')
 case atStart => exact ⟨(7), (0), zrx, zrx, H', ⟨Nat.le_refl _⟩, by repeat (first | exact Drawn0.refl _ | apply Drawn0.step)⟩
 case round =>
  clear H'
  try clear c1
  obtain ⟨x3_1, x4_1, rfl, rfl, HA, HK1, ⟨m1, rfl⟩⟩ := hrel
  cases gk with
  | zero => exact absurd HA.out (by simp [impl_checksum.l0])
  | succ k1 =>
   have H := HA.out
   clear HA
   simp only [impl_checksum.l0] at H
   by_cases c2 : x4_1 < (a0.size : Int)
   rotate_left
   ·rw [if_neg c2] at H
    have c2b0 : decide (x4_1 < (a0.size : Int)) = false := decide_eq_false c2
    clear c2
    focus
     obtain rfl := Option.some.inj H
     go_wp2
     go_ret
     exact ⟨by first | rfl | (simp; done) | (simp [*]; done), by repeat (first | exact Drawn0.refl _ | apply Drawn0.step)⟩

   rw [if_pos c2] at H
   have c2b0 : decide (x4_1 < (a0.size : Int)) = true := decide_eq_true c2
   clear c2
   obtain ⟨c3, H⟩ := zin H
   have c3b0 : decide (0 ≤ x4_1) = true := decide_eq_true c3
   clear c3
   focus
    have H' := Aside0.mk H
    clear H
    have p4 : 0 ≤ (x4_1 : Int) := of_decide_eq_true zax
    have q4 : x4_1 < (a0.size : Int) := of_decide_eq_true zax
    have hx4 := bt_at a0 x4_1
    replace p4 := eq_true p4
    replace q4 := eq_true q4
    go_wp2
    go_roundg k1
    case measure => have := HK1.out; omega
    case rel => exact ⟨(Int.tmod (wrap64 ((wrap64 ((wrap64 (41 * x3_1)) + (wrap64 (bt a0 x4_1)))) + 1)) 999979), (wrap64 (x4_1 + 1)), zrx, zrx, H', ⟨by have := HK1.out; omega⟩, by repeat (first | exact Drawn0.refl _ | apply Drawn0.step)⟩
/-! ### impl_AppendChecksum: function 98 -/
def impl_AppendChecksum.j0 : Nat → ByteArray → Bool → Option (ByteArray × Bool)
 | 0, _, _ => none
 | k + 1, x0, x11 => if x11 = true then (some ((⟨#[]⟩ : ByteArray), false)) else (if x0.size + 1 ≤ 9223372036854775807 then ((impl_checksum.f k x0).bind fun t297 => ((strconv_Itoa.f t297).bind fun t298 => (if (x0 ++ (⟨#[35]⟩ : ByteArray)).size + t298.size ≤ 9223372036854775807 then (if (((x0 ++ (⟨#[35]⟩ : ByteArray)) ++ t298).size : Int) > 4000 then (some ((⟨#[]⟩ : ByteArray), false)) else (some ((x0 ++ (⟨#[35]⟩ : ByteArray)) ++ t298, true))) else (none)))) else (none))
def impl_AppendChecksum.f (k : Nat) (a0 : ByteArray) : Option (ByteArray × Bool) := if (a0.size : Int) > 4000 then (impl_AppendChecksum.j0 k a0 true) else ((strings_Contains.f a0 (⟨#[35]⟩ : ByteArray)).bind fun t296 => (impl_AppendChecksum.j0 k a0 t296))
theorem zenddBulletinx10_2 {P_ : Prop} (h_ : P_ := by
  simp only [Option.some.injEq, Prod.mk.injEq] at H
  obtain ⟨rfl, rfl⟩ := H
  go_wp2_with (first | ((with_reducible refine gate_callee (f := 131) rfl ?_); refine goesL_ (some 15) rfl rfl Tryz.func131 (by kernel_rfl) rfl #[.string a0] rfl zlx ?_; (with_reducible refine (impl_checksum.calls kj1 a0 t297 _ A7.out).mono ?_); rintro e w' ⟨rfl, ⟨nd, rfl⟩⟩; refine ⟨_, rfl, ?_⟩) | ((with_reducible refine gate_callee (f := 81) rfl ?_); refine goesL_ (some 16) rfl rfl Tryz.func81 (by kernel_rfl) rfl #[.int .i64 t297] rfl zlx ?_; (with_reducible refine (strconv_Itoa.calls t297 t298 _ ?sideL A8.out).mono ?_); (case sideL => exact Laid.below HL.out (zBx HB.out)); rintro e w11 ⟨rfl, hb⟩; refine ⟨_, rfl, ?_⟩; replace HB := Aside0.mk (below_step (zBx HB.out) hb); (try clear hb)))
  go_ret2
  exact ⟨by first | rfl | (simp [errW_none, errW_some] <;> rfl) | (simp [*, errW_none, errW_some] <;> rfl), by exact zBx HB.out⟩) : P_ := h_
set_option maxHeartbeats 8000000 in
set_option maxRecDepth 100000 in
theorem impl_AppendChecksum.calls (k : Nat) (a0 : ByteArray) (r1 : ByteArray) (r2 : Bool) (w : World) (hL : Laid w) (h : impl_AppendChecksum.f k a0 = some (r1, r2)) :
 Calls Tryz.prog 98 #[.string a0] w fun e w' => e = .returned (.tuple #[.string r1, .bool r2]) ∧ Below w.heap.size w w' := by
 have HL := Aside0.mk hL
 clear hL
 have HB := Aside0.mk (Below.refl w.heap.size w)
 have H : (if (a0.size : Int) > 4000 then (impl_AppendChecksum.j0 k a0 true) else ((strings_Contains.f a0 (⟨#[35]⟩ : ByteArray)).bind fun t296 => (impl_AppendChecksum.j0 k a0 t296))) = some (r1, r2) := h
 clear h
 have HC2 := Aside0.mk H
 clear H
 go_enter Tryz.func98, Tryz.ntmps98
 go_upto_region 1 with (fail)
 go_cut [11] (fun v11 wc => ∃ (kq : Nat) (x11_1 : Bool), v11 = .bool x11_1 ∧ Aside0 (impl_AppendChecksum.j0 kq a0 x11_1 = some (r1, r2)) ∧ Aside0 (kq ≤ k) ∧ Aside0 (Below w.heap.size w wc))
 case first =>
  have H := HC2.out
  clear HC2
  by_cases c3 : (a0.size : Int) > 4000
  ·rw [if_pos c3] at H
   have c3b0 : decide (4000 < (a0.size : Int)) = true := decide_eq_true c3
   have c3b1 : decide (4000 < a0.size) = true := decide_eq_true (by omega)
   clear c3
   (first | rw [c3b0] | (simp only [i64_w, i32_w]; rw [c3b0]) | skip)
   focus
    have H' := Aside0.mk H
    clear H
    go_wp2
    go_meet
    case rel => exact ⟨_, (true), zrx, H', ⟨by first | omega | exact Nat.le_refl _⟩, ⟨by exact zBx HB.out⟩⟩
  rw [if_neg c3] at H
  have c3b0 : decide (4000 < (a0.size : Int)) = false := decide_eq_false c3
  have c3b1 : decide (4000 < a0.size) = false := decide_eq_false (by omega)
  clear c3
  (first | rw [c3b0] | (simp only [i64_w, i32_w]; rw [c3b0]) | skip)
  replace H := Option.bind_eq_some_iff.mp H
  obtain ⟨t296, A40, H⟩ := H
  replace H : (impl_AppendChecksum.j0 k a0 t296) = some (r1, r2) := H
  have A4 := Aside0.mk A40
  clear A40
  focus
   have H' := Aside0.mk H
   clear H
   go_wp2_with (first | (go_at_call 130; (with_reducible refine (strings_Contains.calls a0 (⟨#[35]⟩ : ByteArray) t296 _ A4.out).mono ?_); rintro e w' ⟨rfl, ⟨nd, rfl⟩⟩))
   go_meet
   case rel => exact ⟨_, (t296), zrx, H', ⟨by first | omega | exact Nat.le_refl _⟩, ⟨by exact zBx HB.out⟩⟩
 case rest =>
  clear HC2
  try clear p2
  try clear c3
  try clear c3b0
  try clear c3b1
  obtain ⟨kq, x11_1, rfl, HA, HJ1, HB⟩ := hcut
  cases kq with
  | zero => exact absurd HA.out (by simp [impl_AppendChecksum.j0])
  | succ kj1 =>
   have H := HA.out
   clear HA
   simp only [impl_AppendChecksum.j0] at H
   by_cases c5 : x11_1 = true
   ·subst c5
    rw [if_pos rfl] at H
    focus
     simp only [Option.some.injEq, Prod.mk.injEq] at H
     obtain ⟨rfl, rfl⟩ := H
     go_wp2
     go_ret2
     exact ⟨by first | rfl | (simp [errW_none, errW_some] <;> rfl) | (simp [*, errW_none, errW_some] <;> rfl), by exact zBx HB.out⟩
   replace c5 := Bool.eq_false_iff.mpr c5
   subst c5
   rw [if_neg (show ¬ (false = true) by decide)] at H
   by_cases c6 : a0.size + 1 ≤ 9223372036854775807
   rotate_left
   ·rw [if_neg c6] at H
    exact absurd H (by simp)

   rw [if_pos c6] at H
   have c6b0 := eq_true c6
   have c6b1 : decide (a0.size + 1 ≤ 9223372036854775807) = true := decide_eq_true c6
   try have c6b2 : (9223372036854775807 < a0.size + 1) = False := eq_false (Nat.not_lt.2 c6)
   replace H := Option.bind_eq_some_iff.mp H
   obtain ⟨t297, A70, H⟩ := H
   replace H : ((strconv_Itoa.f t297).bind fun t298 => (if (a0 ++ (⟨#[35]⟩ : ByteArray)).size + t298.size ≤ 9223372036854775807 then (if (((a0 ++ (⟨#[35]⟩ : ByteArray)) ++ t298).size : Int) > 4000 then (some ((⟨#[]⟩ : ByteArray), false)) else (some ((a0 ++ (⟨#[35]⟩ : ByteArray)) ++ t298, true))) else (none))) = some (r1, r2) := H
   have A7 := Aside0.mk A70
   clear A70
   replace H := Option.bind_eq_some_iff.mp H
   obtain ⟨t298, A80, H⟩ := H
   replace H : (if (a0 ++ (⟨#[35]⟩ : ByteArray)).size + t298.size ≤ 9223372036854775807 then (if (((a0 ++ (⟨#[35]⟩ : ByteArray)) ++ t298).size : Int) > 4000 then (some ((⟨#[]⟩ : ByteArray), false)) else (some ((a0 ++ (⟨#[35]⟩ : ByteArray)) ++ t298, true))) else (none)) = some (r1, r2) := H
   have A8 := Aside0.mk A80
   clear A80
   obtain ⟨c9, H⟩ := zin H
   have c9b0 := eq_true c9
   have c9b1 : decide ((a0 ++ (⟨#[35]⟩ : ByteArray)).size + t298.size ≤ 9223372036854775807) = true := decide_eq_true c9
   try have c9b2 : (9223372036854775807 < (a0 ++ (⟨#[35]⟩ : ByteArray)).size + t298.size) = False := eq_false (Nat.not_lt.2 c9)
   have c9b3 : (9223372036854775807 < a0.size + 1 + t298.size) = False := eq_false (Nat.not_lt.2 (by have h_ := c9; simp only [ByteArray.size_append] at h_; exact h_))
   by_cases c10 : (((a0 ++ (⟨#[35]⟩ : ByteArray)) ++ t298).size : Int) > 4000
   ·rw [if_pos c10] at H
    have c10b0 : decide (4000 < (((a0 ++ (⟨#[35]⟩ : ByteArray)) ++ t298).size : Int)) = true := decide_eq_true c10
    have c10b3 : decide (4000 < ((a0.size : Int) + 1 + (t298.size : Int))) = true := decide_eq_true (by have h_ := of_decide_eq_true c10b0; simp only [ByteArray.size_append, Int.natCast_add] at h_; have e0_ : (⟨#[35]⟩ : ByteArray).size = 1 := rfl; omega)
    have c10b1 : decide (4000 < ((a0 ++ (⟨#[35]⟩ : ByteArray)) ++ t298).size) = true := decide_eq_true (by omega)
    clear c10
    focus
     exact zenddBulletinx10_2
   ·rw [if_neg c10] at H
    have c10b0 : decide (4000 < (((a0 ++ (⟨#[35]⟩ : ByteArray)) ++ t298).size : Int)) = false := decide_eq_false c10
    have c10b3 : decide (4000 < ((a0.size : Int) + 1 + (t298.size : Int))) = false := decide_eq_false (by have h_ := of_decide_eq_false c10b0; simp only [ByteArray.size_append, Int.natCast_add] at h_; have e0_ : (⟨#[35]⟩ : ByteArray).size = 1 := rfl; omega)
    have c10b1 : decide (4000 < ((a0 ++ (⟨#[35]⟩ : ByteArray)) ++ t298).size) = false := decide_eq_false (by omega)
    clear c10
    focus
     exact zenddBulletinx10_2
end Go.Proofs.YtlfoojgbiafffaaGreatDoor.XFnExactReadBulletin
