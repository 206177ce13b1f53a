-- written by wip/tools/xprint.py (a program of this project) out of the translation
import Derived.Test.YtlfoojgbiafffaaGreatDoorXFnExactReadBulletinx0
import Derived.Test.YtlfoojgbiafffaaGreatDoorStrsE
import Derived.Test.YtlfoojgbiafffaaGreatDoorXFnExactReadBulletinx8
namespace Go.Proofs.YtlfoojgbiafffaaGreatDoor.XFnExactReadBulletin
open Go.RowKit Go.Proofs.YtlfoojgbiafffaaGreatDoorW.PrintWords Go.Proofs.YtlfoojgbiafffaaGreatDoorW.PrintLast Go.Proofs.YtlfoojgbiafffaaGreatDoorW.PrintMore
open Go.Proofs.YtlfoojgbiafffaaGreatDoor.Strs
attribute [local go_sem] max2_int min2_int max_two min_two max_three min_three max_four min_four   -- for this text's walks alone
set_option linter.unusedVariables false
set_option linter.unusedSimpArgs false

/-! ### impl_areWarnings: function 104 -/
def impl_areWarnings.l0 : Nat → List (S25) → List (S25) → Int → Int → Option (Bool)
 | 0, _, _, _, _ => none
 | k + 1, x0, x5, x6, x7 => if x7 < x6 then (if 0 ≤ x7 then (if x7 < (x5.length : Int) then ((impl_IsValidWarning.f ((rd_T25 x5 x7).f0) ((rd_T25 x5 x7).f1) ((rd_T25 x5 x7).f2) ((rd_T25 x5 x7).f3) ((rd_T25 x5 x7).f4) ((rd_T25 x5 x7).f5)).bind fun t261 => (if t261 = true then (if x7 > 0 then (if 0 ≤ (wrap64 (x7 - 1)) then (if (wrap64 (x7 - 1)) < (x0.length : Int) then (if ((rd_T25 x0 (wrap64 (x7 - 1))).f0) ≥ ((rd_T25 x5 x7).f0) then (some false) else (impl_areWarnings.l0 k x0 x5 x6 (wrap64 (x7 + 1)))) else (none)) else (none)) else (impl_areWarnings.l0 k x0 x5 x6 (wrap64 (x7 + 1)))) else (some false))) else (none)) else (none)) else (some (decide ((x0.length : Int) ≤ 12)))
def impl_areWarnings.f (k : Nat) (l0 : List (S25)) : Option (Bool) := impl_areWarnings.l0 k l0 l0 (l0.length : Int) 0
def impl_areWarnings.T4 : Bool × List (List Nat × List Nat) := (true, [([], []), ([0], [0]), ([1], [1]), ([2, 1], [2]), ([3], [3]), ([4, 3], [3, 4]), ([5, 3, 3], [3, 5]), ([6], [6]), ([6], [6]), ([8, 6], [6, 8]), ([7, 9, 6], [6, 7, 9]), ([10, 6], [6, 10]), ([11, 6], [6, 11]), ([6], [6]), ([13, 6], [6, 13]), ([12, 14, 6], [6, 12, 14]), ([6, 15, 3], [3, 6, 15]), ([3, 16], [3, 16])])
def impl_areWarnings.B4 : List Nat := [0, 1, 3, 7, 15, 31, 63, 127, 127, 383, 1023, 2047, 4095, 127, 8319, 32767, 65535, 131071]
theorem impl_areWarnings.tab4 : rtab .any (opsOf Tryz.f104 4) = impl_areWarnings.T4 := by kernel_rfl
theorem impl_areWarnings.bits4 : waitsOk impl_areWarnings.T4.2 impl_areWarnings.B4 = true := by kernel_rfl
set_option maxHeartbeats 8000000 in
set_option maxRecDepth 100000 in
theorem impl_areWarnings.calls (k : Nat) (A0 : Option Addr) (c0 : Nat) (l0 : List (S25)) (r : Bool) (w : World) (hr0 : Kd.C k25 w A0 l0.length l0) (hc0 : l0.length ≤ c0) (h : impl_areWarnings.f k l0 = some r) :
 Calls Tryz.prog 104 #[.slice A0 l0.length c0] w fun e w' => e = .returned (.bool r) ∧ Below w.heap.size w w' := by
 have hu25 := Tryz.underlying25
 have HR0 := Aside0.mk hr0
 have HC0 := Aside0.mk hc0
 clear hr0 hc0
 have HB := Aside0.mk (Below.refl w.heap.size w)
 have H : (impl_areWarnings.l0 k l0 l0 (l0.length : Int) 0) = some r := h
 clear h
 have H' := Aside0.mk H
 clear H
 go_enter Tryz.func104, Tryz.ntmps104
 go_wp2
 go_loopg [7] k (fun kq v7 w' => ∃ (x7_1 : Int), v7 = .int .i64 x7_1 ∧ Aside0 (impl_areWarnings.l0 kq l0 l0 (l0.length : Int) x7_1 = some r) ∧ Aside0 (kq ≤ k) ∧ Aside0 (Below w.heap.size w w'))
 case atStart => exact ⟨(0), zrx, H', ⟨Nat.le_refl _⟩, ⟨by exact zBx HB.out⟩⟩
 case round =>
  clear H'
  try clear c1
  obtain ⟨x7_1, rfl, HA, HK1, HB⟩ := hrel
  cases gk with
  | zero => exact absurd HA.out (by simp [impl_areWarnings.l0])
  | succ k1 =>
   have H := HA.out
   clear HA
   simp only [impl_areWarnings.l0] at H
   by_cases c2 : x7_1 < (l0.length : Int)
   rotate_left
   ·rw [if_neg c2] at H
    have c2b0 : decide (x7_1 < (l0.length : Int)) = false := decide_eq_false c2
    clear c2
    focus
     obtain rfl := Option.some.inj H
     go_wp2
     go_ret
     exact ⟨by first | rfl | (simp [errW_none, errW_some] <;> rfl) | (simp [*, errW_none, errW_some] <;> rfl), by exact zBx HB.out⟩

   rw [if_pos c2] at H
   have c2b0 : decide (x7_1 < (l0.length : Int)) = true := decide_eq_true c2
   clear c2
   obtain ⟨c3, H⟩ := zin H
   have c3b0 : decide (0 ≤ x7_1) = true := decide_eq_true c3
   clear c3
   obtain ⟨c4, H⟩ := zin H
   have c4b0 : decide (x7_1 < (l0.length : Int)) = true := decide_eq_true c4
   clear c4
   replace H := Option.bind_eq_some_iff.mp H
   obtain ⟨t261, A50, H⟩ := H
   replace H : (if t261 = true then (if x7_1 > 0 then (if 0 ≤ (wrap64 (x7_1 - 1)) then (if (wrap64 (x7_1 - 1)) < (l0.length : Int) then (if ((rd_T25 l0 (wrap64 (x7_1 - 1))).f0) ≥ ((rd_T25 l0 x7_1).f0) then (some false) else (impl_areWarnings.l0 k1 l0 l0 (l0.length : Int) (wrap64 (x7_1 + 1)))) else (none)) else (none)) else (impl_areWarnings.l0 k1 l0 l0 (l0.length : Int) (wrap64 (x7_1 + 1)))) else (some false)) = some r := H
   have A5 := Aside0.mk A50
   clear A50
   by_cases c6 : t261 = true
   rotate_left
   ·replace c6 := Bool.eq_false_iff.mpr c6
    subst c6
    rw [if_neg (show ¬ (false = true) by decide)] at H
    focus
     obtain rfl := Option.some.inj H
     have p259 : 0 ≤ (x7_1 : Int) := of_decide_eq_true zax
     have q259 : x7_1 < (l0.length : Int) := of_decide_eq_true zax
     obtain ⟨ad259, e259, hx259_0, hx259_1, hx259_2, hx259_3, hx259_4, hx259_5⟩ := at_T25 HR0.out x7_1 p259 q259
     cases e259
     replace hx259_0 := (HB.out.cell (World.block_lt_of_cell? w _ hx259_0)).trans hx259_0
     replace hx259_1 := (HB.out.cell (World.block_lt_of_cell? w _ hx259_1)).trans hx259_1
     replace hx259_2 := (HB.out.cell (World.block_lt_of_cell? w _ hx259_2)).trans hx259_2
     replace hx259_3 := (HB.out.cell (World.block_lt_of_cell? w _ hx259_3)).trans hx259_3
     replace hx259_4 := (HB.out.cell (World.block_lt_of_cell? w _ hx259_4)).trans hx259_4
     replace hx259_5 := (HB.out.cell (World.block_lt_of_cell? w _ hx259_5)).trans hx259_5
     replace p259 := eq_true p259
     replace q259 := eq_true q259
     try go_wp2_with (first | ((with_reducible refine gate_dst (N := 4) rfl ?_); refine box_event ?hg (N := 4) ?hd (cs := #[.int .i64 0, .int .i64 0, .int .i64 0, .int .i64 0, .int .i64 0, .int .i64 0]) (t := 25) ?hr ?_; (case hd => rfl); (case hg => rfl); (case hr => exact zsx); intro gb260 hg w27 hbox hb; have BK260 := Aside0.mk (hbox); have GW260 := zns hg HB.out; have GE260 := zns hg HB.out; replace HB := Aside0.mk (below_step (zBx HB.out) hb); clear hb hbox hg; have hcz28_0 : w27.cell? ⟨gb260, 0, none⟩ = some (.int .i64 0) := (blk_cell BK260.out 0).trans rfl; have hcz28_1 : w27.cell? ⟨gb260, 1, none⟩ = some (.int .i64 0) := (blk_cell BK260.out 1).trans rfl; have hcz28_2 : w27.cell? ⟨gb260, 2, none⟩ = some (.int .i64 0) := (blk_cell BK260.out 2).trans rfl; have hcz28_3 : w27.cell? ⟨gb260, 3, none⟩ = some (.int .i64 0) := (blk_cell BK260.out 3).trans rfl; have hcz28_4 : w27.cell? ⟨gb260, 4, none⟩ = some (.int .i64 0) := (blk_cell BK260.out 4).trans rfl; have hcz28_5 : w27.cell? ⟨gb260, 5, none⟩ = some (.int .i64 0) := (blk_cell BK260.out 5).trans rfl; have hfz28_0 := blk_frozen BK260.out 0; have hfz28_1 := blk_frozen BK260.out 1; have hfz28_2 := blk_frozen BK260.out 2; have hfz28_3 := blk_frozen BK260.out 3; have hfz28_4 := blk_frozen BK260.out 4; have hfz28_5 := blk_frozen BK260.out 5))
     have n0_ : Aside0 (((((((w27.setCell ⟨gb260, 0, none⟩ (.int .i64 ((rd_T25 l0 x7_1).f0))).setCell ⟨gb260, 1, none⟩ (.int .i64 ((rd_T25 l0 x7_1).f1))).setCell ⟨gb260, 2, none⟩ (.int .i64 ((rd_T25 l0 x7_1).f2))).setCell ⟨gb260, 3, none⟩ (.int .i64 ((rd_T25 l0 x7_1).f3))).setCell ⟨gb260, 4, none⟩ (.int .i64 ((rd_T25 l0 x7_1).f4))).setCell ⟨gb260, 5, none⟩ (.int .i64 ((rd_T25 l0 x7_1).f5))).heap[gb260]? = some (.cells #[.int .i64 ((rd_T25 l0 x7_1).f0), .int .i64 ((rd_T25 l0 x7_1).f1), .int .i64 ((rd_T25 l0 x7_1).f2), .int .i64 ((rd_T25 l0 x7_1).f3), .int .i64 ((rd_T25 l0 x7_1).f4), .int .i64 ((rd_T25 l0 x7_1).f5)] 25 (0, 0))) := ⟨zbp BK260.out⟩
     have n1_ : Aside0 (Below w.heap.size w ((((((w27.setCell ⟨gb260, 0, none⟩ (.int .i64 ((rd_T25 l0 x7_1).f0))).setCell ⟨gb260, 1, none⟩ (.int .i64 ((rd_T25 l0 x7_1).f1))).setCell ⟨gb260, 2, none⟩ (.int .i64 ((rd_T25 l0 x7_1).f2))).setCell ⟨gb260, 3, none⟩ (.int .i64 ((rd_T25 l0 x7_1).f3))).setCell ⟨gb260, 4, none⟩ (.int .i64 ((rd_T25 l0 x7_1).f4))).setCell ⟨gb260, 5, none⟩ (.int .i64 ((rd_T25 l0 x7_1).f5)))) := ⟨by exact zBy HB.out GE260.out⟩
     (try clear BK260)
     (try clear HB)
     generalize ((((((w27.setCell ⟨gb260, 0, none⟩ (.int .i64 ((rd_T25 l0 x7_1).f0))).setCell ⟨gb260, 1, none⟩ (.int .i64 ((rd_T25 l0 x7_1).f1))).setCell ⟨gb260, 2, none⟩ (.int .i64 ((rd_T25 l0 x7_1).f2))).setCell ⟨gb260, 3, none⟩ (.int .i64 ((rd_T25 l0 x7_1).f3))).setCell ⟨gb260, 4, none⟩ (.int .i64 ((rd_T25 l0 x7_1).f4))).setCell ⟨gb260, 5, none⟩ (.int .i64 ((rd_T25 l0 x7_1).f5))) = w29 at n0_ n1_ ⊢
     have BK260 := n0_
     have HB := n1_
     clear n0_ n1_
     replace BK260 := Aside0.mk (blk_drew BK260.out)
     replace HB := Aside0.mk (below_drew1 HB.out)
     refine start_ (n := 18) (S := fun w' => w'.cell? ⟨gb260, 0, none⟩ = some (.int .i64 ((rd_T25 l0 x7_1).f0)) ∧ w'.cell? ⟨gb260, 1, none⟩ = some (.int .i64 ((rd_T25 l0 x7_1).f1)) ∧ w'.cell? ⟨gb260, 2, none⟩ = some (.int .i64 ((rd_T25 l0 x7_1).f2)) ∧ w'.cell? ⟨gb260, 3, none⟩ = some (.int .i64 ((rd_T25 l0 x7_1).f3)) ∧ w'.cell? ⟨gb260, 4, none⟩ = some (.int .i64 ((rd_T25 l0 x7_1).f4)) ∧ w'.cell? ⟨gb260, 5, none⟩ = some (.int .i64 ((rd_T25 l0 x7_1).f5))) (ds := []) #[F,F,F,F,F,F,F,F,F,F,F,F,F,F,F,F,F,F] (by kernel_rfl) rfl rfl ⟨(blk_cell BK260.out 0).trans rfl, (blk_cell BK260.out 1).trans rfl, (blk_cell BK260.out 2).trans rfl, (blk_cell BK260.out 3).trans rfl, (blk_cell BK260.out 4).trans rfl, (blk_cell BK260.out 5).trans rfl⟩ (fun hHeld => ?_); refine with_tabW impl_areWarnings.tab4 impl_areWarnings.bits4 (fun HT_ HW_ => ?_)
     generalize w29.drew = w30 at BK260 HB hHeld ⊢
     refine take_ (i := 0) (N := some 12) (v := ?_) (a' := ?_) #[T,F,F,F,F,F,F,F,F,F,F,F,F,F,F,F,F,F] rfl rfl (take_ofW HT_.out HW_.out (by kernel_rfl)) (fun _ _ _ h => h) (Or.inl ⟨by rfl, ?_⟩) hHeld ?_ ?_
     rotate_left
     ·rintro w' ⟨s0, s1, s2, s3, s4, s5⟩
      go_simp
      with_reducible rfl
     rotate_left
     ·exact zpx
     refine one_ (i := 1) (N := some 13) #[T,T,F,F,F,F,F,F,F,F,F,F,F,F,F,F,F,F] rfl rfl (one_of HT_.out (by kernel_rfl)) (by decide) (fun K hK => ?_)
     refine goes_ Tryz.func36 (by kernel_rfl) rfl #[.agg #[.int .i64 ((rd_T25 l0 x7_1).f0), .int .i64 ((rd_T25 l0 x7_1).f1), .int .i64 ((rd_T25 l0 x7_1).f2), .int .i64 ((rd_T25 l0 x7_1).f3), .int .i64 ((rd_T25 l0 x7_1).f4), .int .i64 ((rd_T25 l0 x7_1).f5)]] (by rfl) rfl rfl zlx ?_
     with_reducible refine (impl_IsValidWarning.calls ((rd_T25 l0 x7_1).f0) ((rd_T25 l0 x7_1).f1) ((rd_T25 l0 x7_1).f2) ((rd_T25 l0 x7_1).f3) ((rd_T25 l0 x7_1).f4) ((rd_T25 l0 x7_1).f5) false _ A5.out).mono ?_
     rintro e w31 ⟨rfl, hb⟩
     refine ⟨_, rfl, ?_⟩
     replace BK260 := zbl BK260.out hb
     replace HB := Aside0.mk (below_step (zBy HB.out GE260.out) hb)
     (try clear hb)
     (try clear hb2)
     (try clear hk)
     (try clear hi)
     refine hK.out _ _ ⟨(blk_cell BK260.out 0).trans rfl, (blk_cell BK260.out 1).trans rfl, (blk_cell BK260.out 2).trans rfl, (blk_cell BK260.out 3).trans rfl, (blk_cell BK260.out 4).trans rfl, (blk_cell BK260.out 5).trans rfl⟩ (fun hHeld => ?_)
     clear hK K
     refine norm_ (a' := ?_) ?_ ?_
     rotate_left
     ·show Act.put _ (some 13) _ = _
      simp only [Act.put, List.setIfInBounds_toArray, List.set_cons_zero, List.set_cons_succ, i64_w, i32_w]
      rfl
     refine zpu 2 14 #[T,T,T,F,F,F,F,F,F,F,F,F,F,F,F,F,F,F] HT_.out ?_
     refine zpu 3 15 #[T,T,T,T,F,F,F,F,F,F,F,F,F,F,F,F,F,F] HT_.out ?_
     refine zpn 4 16 #[T,T,T,T,T,F,F,F,F,F,F,F,F,F,F,F,F,F] HT_.out ?_
     refine zpn 5 17 #[T,T,T,T,T,T,F,F,F,F,F,F,F,F,F,F,F,F] HT_.out ?_
     refine zpn 6 18 #[T,T,T,T,T,T,T,F,F,F,F,F,F,F,F,F,F,F] HT_.out ?_
     refine zpn 7 19 #[T,T,T,T,T,T,T,T,F,F,F,F,F,F,F,F,F,F] HT_.out ?_
     refine zpn 8 20 #[T,T,T,T,T,T,T,T,T,F,F,F,F,F,F,F,F,F] HT_.out ?_
     refine zpn 9 21 #[T,T,T,T,T,T,T,T,T,T,F,F,F,F,F,F,F,F] HT_.out ?_
     refine zpn 10 22 #[T,T,T,T,T,T,T,T,T,T,T,F,F,F,F,F,F,F] HT_.out ?_
     refine zpn 11 23 #[T,T,T,T,T,T,T,T,T,T,T,T,F,F,F,F,F,F] HT_.out ?_
     refine zpn 12 24 #[T,T,T,T,T,T,T,T,T,T,T,T,T,F,F,F,F,F] HT_.out ?_
     refine zpn 13 25 #[T,T,T,T,T,T,T,T,T,T,T,T,T,T,F,F,F,F] HT_.out ?_
     refine zpn 14 26 #[T,T,T,T,T,T,T,T,T,T,T,T,T,T,T,F,F,F] HT_.out ?_
     refine zpn 15 27 #[T,T,T,T,T,T,T,T,T,T,T,T,T,T,T,T,F,F] HT_.out ?_
     refine zpn 16 28 #[T,T,T,T,T,T,T,T,T,T,T,T,T,T,T,T,T,F] HT_.out ?_
     refine zpu 17 29 #[T,T,T,T,T,T,T,T,T,T,T,T,T,T,T,T,T,T] HT_.out ?_
     refine done_ (done_of HT_.out (by kernel_rfl)) ?_
     try go_wp2
     go_ret
     exact ⟨by first | rfl | (simp [errW_none, errW_some] <;> rfl) | (simp [*, errW_none, errW_some] <;> rfl), by exact zBy HB.out GE260.out⟩
   subst c6
   rw [if_pos rfl] at H
   by_cases c7 : x7_1 > 0
   rotate_left
   ·rw [if_neg c7] at H
    have c7b0 : decide (0 < x7_1) = false := decide_eq_false c7
    clear c7
    focus
     have H' := Aside0.mk H
     clear H
     have p259 : 0 ≤ (x7_1 : Int) := of_decide_eq_true zax
     have q259 : x7_1 < (l0.length : Int) := of_decide_eq_true zax
     obtain ⟨ad259, e259, hx259_0, hx259_1, hx259_2, hx259_3, hx259_4, hx259_5⟩ := at_T25 HR0.out x7_1 p259 q259
     cases e259
     replace hx259_0 := (HB.out.cell (World.block_lt_of_cell? w _ hx259_0)).trans hx259_0
     replace hx259_1 := (HB.out.cell (World.block_lt_of_cell? w _ hx259_1)).trans hx259_1
     replace hx259_2 := (HB.out.cell (World.block_lt_of_cell? w _ hx259_2)).trans hx259_2
     replace hx259_3 := (HB.out.cell (World.block_lt_of_cell? w _ hx259_3)).trans hx259_3
     replace hx259_4 := (HB.out.cell (World.block_lt_of_cell? w _ hx259_4)).trans hx259_4
     replace hx259_5 := (HB.out.cell (World.block_lt_of_cell? w _ hx259_5)).trans hx259_5
     replace p259 := eq_true p259
     replace q259 := eq_true q259
     try go_wp2_with (first | ((with_reducible refine gate_dst (N := 4) rfl ?_); refine box_event ?hg (N := 4) ?hd (cs := #[.int .i64 0, .int .i64 0, .int .i64 0, .int .i64 0, .int .i64 0, .int .i64 0]) (t := 25) ?hr ?_; (case hd => rfl); (case hg => rfl); (case hr => exact zsx); intro gb260 hg w22 hbox hb; have BK260 := Aside0.mk (hbox); have GW260 := zns hg HB.out; have GE260 := zns hg HB.out; replace HB := Aside0.mk (below_step (zBx HB.out) hb); clear hb hbox hg; have hcz23_0 : w22.cell? ⟨gb260, 0, none⟩ = some (.int .i64 0) := (blk_cell BK260.out 0).trans rfl; have hcz23_1 : w22.cell? ⟨gb260, 1, none⟩ = some (.int .i64 0) := (blk_cell BK260.out 1).trans rfl; have hcz23_2 : w22.cell? ⟨gb260, 2, none⟩ = some (.int .i64 0) := (blk_cell BK260.out 2).trans rfl; have hcz23_3 : w22.cell? ⟨gb260, 3, none⟩ = some (.int .i64 0) := (blk_cell BK260.out 3).trans rfl; have hcz23_4 : w22.cell? ⟨gb260, 4, none⟩ = some (.int .i64 0) := (blk_cell BK260.out 4).trans rfl; have hcz23_5 : w22.cell? ⟨gb260, 5, none⟩ = some (.int .i64 0) := (blk_cell BK260.out 5).trans rfl; have hfz23_0 := blk_frozen BK260.out 0; have hfz23_1 := blk_frozen BK260.out 1; have hfz23_2 := blk_frozen BK260.out 2; have hfz23_3 := blk_frozen BK260.out 3; have hfz23_4 := blk_frozen BK260.out 4; have hfz23_5 := blk_frozen BK260.out 5))
     have n0_ : Aside0 (((((((w22.setCell ⟨gb260, 0, none⟩ (.int .i64 ((rd_T25 l0 x7_1).f0))).setCell ⟨gb260, 1, none⟩ (.int .i64 ((rd_T25 l0 x7_1).f1))).setCell ⟨gb260, 2, none⟩ (.int .i64 ((rd_T25 l0 x7_1).f2))).setCell ⟨gb260, 3, none⟩ (.int .i64 ((rd_T25 l0 x7_1).f3))).setCell ⟨gb260, 4, none⟩ (.int .i64 ((rd_T25 l0 x7_1).f4))).setCell ⟨gb260, 5, none⟩ (.int .i64 ((rd_T25 l0 x7_1).f5))).heap[gb260]? = some (.cells #[.int .i64 ((rd_T25 l0 x7_1).f0), .int .i64 ((rd_T25 l0 x7_1).f1), .int .i64 ((rd_T25 l0 x7_1).f2), .int .i64 ((rd_T25 l0 x7_1).f3), .int .i64 ((rd_T25 l0 x7_1).f4), .int .i64 ((rd_T25 l0 x7_1).f5)] 25 (0, 0))) := ⟨zbp BK260.out⟩
     have n1_ : Aside0 (Below w.heap.size w ((((((w22.setCell ⟨gb260, 0, none⟩ (.int .i64 ((rd_T25 l0 x7_1).f0))).setCell ⟨gb260, 1, none⟩ (.int .i64 ((rd_T25 l0 x7_1).f1))).setCell ⟨gb260, 2, none⟩ (.int .i64 ((rd_T25 l0 x7_1).f2))).setCell ⟨gb260, 3, none⟩ (.int .i64 ((rd_T25 l0 x7_1).f3))).setCell ⟨gb260, 4, none⟩ (.int .i64 ((rd_T25 l0 x7_1).f4))).setCell ⟨gb260, 5, none⟩ (.int .i64 ((rd_T25 l0 x7_1).f5)))) := ⟨by exact zBy HB.out GE260.out⟩
     (try clear BK260)
     (try clear HB)
     generalize ((((((w22.setCell ⟨gb260, 0, none⟩ (.int .i64 ((rd_T25 l0 x7_1).f0))).setCell ⟨gb260, 1, none⟩ (.int .i64 ((rd_T25 l0 x7_1).f1))).setCell ⟨gb260, 2, none⟩ (.int .i64 ((rd_T25 l0 x7_1).f2))).setCell ⟨gb260, 3, none⟩ (.int .i64 ((rd_T25 l0 x7_1).f3))).setCell ⟨gb260, 4, none⟩ (.int .i64 ((rd_T25 l0 x7_1).f4))).setCell ⟨gb260, 5, none⟩ (.int .i64 ((rd_T25 l0 x7_1).f5))) = w24 at n0_ n1_ ⊢
     have BK260 := n0_
     have HB := n1_
     clear n0_ n1_
     replace BK260 := Aside0.mk (blk_drew BK260.out)
     replace HB := Aside0.mk (below_drew1 HB.out)
     refine start_ (n := 18) (S := fun w' => w'.cell? ⟨gb260, 0, none⟩ = some (.int .i64 ((rd_T25 l0 x7_1).f0)) ∧ w'.cell? ⟨gb260, 1, none⟩ = some (.int .i64 ((rd_T25 l0 x7_1).f1)) ∧ w'.cell? ⟨gb260, 2, none⟩ = some (.int .i64 ((rd_T25 l0 x7_1).f2)) ∧ w'.cell? ⟨gb260, 3, none⟩ = some (.int .i64 ((rd_T25 l0 x7_1).f3)) ∧ w'.cell? ⟨gb260, 4, none⟩ = some (.int .i64 ((rd_T25 l0 x7_1).f4)) ∧ w'.cell? ⟨gb260, 5, none⟩ = some (.int .i64 ((rd_T25 l0 x7_1).f5))) (ds := []) #[F,F,F,F,F,F,F,F,F,F,F,F,F,F,F,F,F,F] (by kernel_rfl) rfl rfl ⟨(blk_cell BK260.out 0).trans rfl, (blk_cell BK260.out 1).trans rfl, (blk_cell BK260.out 2).trans rfl, (blk_cell BK260.out 3).trans rfl, (blk_cell BK260.out 4).trans rfl, (blk_cell BK260.out 5).trans rfl⟩ (fun hHeld => ?_); refine with_tabW impl_areWarnings.tab4 impl_areWarnings.bits4 (fun HT_ HW_ => ?_)
     generalize w24.drew = w25 at BK260 HB hHeld ⊢
     refine take_ (i := 0) (N := some 12) (v := ?_) (a' := ?_) #[T,F,F,F,F,F,F,F,F,F,F,F,F,F,F,F,F,F] rfl rfl (take_ofW HT_.out HW_.out (by kernel_rfl)) (fun _ _ _ h => h) (Or.inl ⟨by rfl, ?_⟩) hHeld ?_ ?_
     rotate_left
     ·rintro w' ⟨s0, s1, s2, s3, s4, s5⟩
      go_simp
      with_reducible rfl
     rotate_left
     ·exact zpx
     refine one_ (i := 1) (N := some 13) #[T,T,F,F,F,F,F,F,F,F,F,F,F,F,F,F,F,F] rfl rfl (one_of HT_.out (by kernel_rfl)) (by decide) (fun K hK => ?_)
     refine goes_ Tryz.func36 (by kernel_rfl) rfl #[.agg #[.int .i64 ((rd_T25 l0 x7_1).f0), .int .i64 ((rd_T25 l0 x7_1).f1), .int .i64 ((rd_T25 l0 x7_1).f2), .int .i64 ((rd_T25 l0 x7_1).f3), .int .i64 ((rd_T25 l0 x7_1).f4), .int .i64 ((rd_T25 l0 x7_1).f5)]] (by rfl) rfl rfl zlx ?_
     with_reducible refine (impl_IsValidWarning.calls ((rd_T25 l0 x7_1).f0) ((rd_T25 l0 x7_1).f1) ((rd_T25 l0 x7_1).f2) ((rd_T25 l0 x7_1).f3) ((rd_T25 l0 x7_1).f4) ((rd_T25 l0 x7_1).f5) true _ A5.out).mono ?_
     rintro e w26 ⟨rfl, hb⟩
     refine ⟨_, rfl, ?_⟩
     replace BK260 := zbl BK260.out hb
     replace HB := Aside0.mk (below_step (zBy HB.out GE260.out) hb)
     (try clear hb)
     (try clear hb2)
     (try clear hk)
     (try clear hi)
     refine hK.out _ _ ⟨(blk_cell BK260.out 0).trans rfl, (blk_cell BK260.out 1).trans rfl, (blk_cell BK260.out 2).trans rfl, (blk_cell BK260.out 3).trans rfl, (blk_cell BK260.out 4).trans rfl, (blk_cell BK260.out 5).trans rfl⟩ (fun hHeld => ?_)
     clear hK K
     refine norm_ (a' := ?_) ?_ ?_
     rotate_left
     ·show Act.put _ (some 13) _ = _
      simp only [Act.put, List.setIfInBounds_toArray, List.set_cons_zero, List.set_cons_succ, i64_w, i32_w]
      rfl
     refine zpu 2 14 #[T,T,T,F,F,F,F,F,F,F,F,F,F,F,F,F,F,F] HT_.out ?_
     refine zpu 3 15 #[T,T,T,T,F,F,F,F,F,F,F,F,F,F,F,F,F,F] HT_.out ?_
     refine zpu 4 16 #[T,T,T,T,T,F,F,F,F,F,F,F,F,F,F,F,F,F] HT_.out ?_
     refine zpu 5 17 #[T,T,T,T,T,T,F,F,F,F,F,F,F,F,F,F,F,F] HT_.out ?_
     refine zpu 6 18 #[T,T,T,T,T,T,T,F,F,F,F,F,F,F,F,F,F,F] HT_.out ?_
     refine zpn 7 19 #[T,T,T,T,T,T,T,T,F,F,F,F,F,F,F,F,F,F] HT_.out ?_
     refine zpn 8 20 #[T,T,T,T,T,T,T,T,T,F,F,F,F,F,F,F,F,F] HT_.out ?_
     refine zpn 9 21 #[T,T,T,T,T,T,T,T,T,T,F,F,F,F,F,F,F,F] HT_.out ?_
     refine zpn 10 22 #[T,T,T,T,T,T,T,T,T,T,T,F,F,F,F,F,F,F] HT_.out ?_
     refine zpn 11 23 #[T,T,T,T,T,T,T,T,T,T,T,T,F,F,F,F,F,F] HT_.out ?_
     refine zpn 12 24 #[T,T,T,T,T,T,T,T,T,T,T,T,T,F,F,F,F,F] HT_.out ?_
     refine zpn 13 25 #[T,T,T,T,T,T,T,T,T,T,T,T,T,T,F,F,F,F] HT_.out ?_
     refine zpn 14 26 #[T,T,T,T,T,T,T,T,T,T,T,T,T,T,T,F,F,F] HT_.out ?_
     refine zpn 15 27 #[T,T,T,T,T,T,T,T,T,T,T,T,T,T,T,T,F,F] HT_.out ?_
     refine zpu 16 28 #[T,T,T,T,T,T,T,T,T,T,T,T,T,T,T,T,T,F] HT_.out ?_
     refine zpu 17 29 #[T,T,T,T,T,T,T,T,T,T,T,T,T,T,T,T,T,T] HT_.out ?_
     refine done_ (done_of HT_.out (by kernel_rfl)) ?_
     try go_wp2
     go_roundg k1
     case measure => have := HK1.out; omega
     case rel => exact ⟨(wrap64 (x7_1 + 1)), zrx, H', ⟨by have := HK1.out; omega⟩, ⟨by exact zBy HB.out GE260.out⟩⟩
   rw [if_pos c7] at H
   have c7b0 : decide (0 < x7_1) = true := decide_eq_true c7
   clear c7
   obtain ⟨ji8, hji8⟩ : ∃ j_ : Int, (wrap64 (x7_1 - 1)) = j_ := ⟨_, rfl⟩
   replace H : (if 0 ≤ (ji8) then (if (ji8) < (l0.length : Int) then (if ((rd_T25 l0 (ji8)).f0) ≥ ((rd_T25 l0 x7_1).f0) then (some false) else (impl_areWarnings.l0 k1 l0 l0 (l0.length : Int) (wrap64 (x7_1 + 1)))) else (none)) else (none)) = some r := by first | (rw [hji8] at H; exact H) | (simp only [hji8] at H ⊢; exact H)
   (try rw [hji8] at A5)
   have hji8w : (IntKind.i64.wrap (x7_1 - 1)) = ji8 := (i64_w _).trans hji8
   obtain ⟨c9, H⟩ := zin H
   have c9b0 : decide (0 ≤ (ji8)) = true := decide_eq_true c9
   clear c9
   obtain ⟨c10, H⟩ := zin H
   have c10b0 : decide ((ji8) < (l0.length : Int)) = true := decide_eq_true c10
   clear c10
   by_cases c11 : ((rd_T25 l0 (ji8)).f0) ≥ ((rd_T25 l0 x7_1).f0)
   ·rw [if_pos c11] at H
    have c11b0 : decide (((rd_T25 l0 x7_1).f0) ≤ ((rd_T25 l0 (ji8)).f0)) = true := decide_eq_true c11
    clear c11
    focus
     obtain rfl := Option.some.inj H
     have p259 : 0 ≤ (x7_1 : Int) := of_decide_eq_true zax
     have q259 : x7_1 < (l0.length : Int) := of_decide_eq_true zax
     obtain ⟨ad259, e259, hx259_0, hx259_1, hx259_2, hx259_3, hx259_4, hx259_5⟩ := at_T25 HR0.out x7_1 p259 q259
     cases e259
     replace hx259_0 := (HB.out.cell (World.block_lt_of_cell? w _ hx259_0)).trans hx259_0
     replace hx259_1 := (HB.out.cell (World.block_lt_of_cell? w _ hx259_1)).trans hx259_1
     replace hx259_2 := (HB.out.cell (World.block_lt_of_cell? w _ hx259_2)).trans hx259_2
     replace hx259_3 := (HB.out.cell (World.block_lt_of_cell? w _ hx259_3)).trans hx259_3
     replace hx259_4 := (HB.out.cell (World.block_lt_of_cell? w _ hx259_4)).trans hx259_4
     replace hx259_5 := (HB.out.cell (World.block_lt_of_cell? w _ hx259_5)).trans hx259_5
     replace p259 := eq_true p259
     replace q259 := eq_true q259
     try go_wp2_with (first | ((with_reducible refine gate_dst (N := 4) rfl ?_); refine box_event ?hg (N := 4) ?hd (cs := #[.int .i64 0, .int .i64 0, .int .i64 0, .int .i64 0, .int .i64 0, .int .i64 0]) (t := 25) ?hr ?_; (case hd => rfl); (case hg => rfl); (case hr => exact zsx); intro gb260 hg w12 hbox hb; have BK260 := Aside0.mk (hbox); have GW260 := zns hg HB.out; have GE260 := zns hg HB.out; replace HB := Aside0.mk (below_step (zBx HB.out) hb); clear hb hbox hg; have hcz13_0 : w12.cell? ⟨gb260, 0, none⟩ = some (.int .i64 0) := (blk_cell BK260.out 0).trans rfl; have hcz13_1 : w12.cell? ⟨gb260, 1, none⟩ = some (.int .i64 0) := (blk_cell BK260.out 1).trans rfl; have hcz13_2 : w12.cell? ⟨gb260, 2, none⟩ = some (.int .i64 0) := (blk_cell BK260.out 2).trans rfl; have hcz13_3 : w12.cell? ⟨gb260, 3, none⟩ = some (.int .i64 0) := (blk_cell BK260.out 3).trans rfl; have hcz13_4 : w12.cell? ⟨gb260, 4, none⟩ = some (.int .i64 0) := (blk_cell BK260.out 4).trans rfl; have hcz13_5 : w12.cell? ⟨gb260, 5, none⟩ = some (.int .i64 0) := (blk_cell BK260.out 5).trans rfl; have hfz13_0 := blk_frozen BK260.out 0; have hfz13_1 := blk_frozen BK260.out 1; have hfz13_2 := blk_frozen BK260.out 2; have hfz13_3 := blk_frozen BK260.out 3; have hfz13_4 := blk_frozen BK260.out 4; have hfz13_5 := blk_frozen BK260.out 5))
     have n0_ : Aside0 (((((((w12.setCell ⟨gb260, 0, none⟩ (.int .i64 ((rd_T25 l0 x7_1).f0))).setCell ⟨gb260, 1, none⟩ (.int .i64 ((rd_T25 l0 x7_1).f1))).setCell ⟨gb260, 2, none⟩ (.int .i64 ((rd_T25 l0 x7_1).f2))).setCell ⟨gb260, 3, none⟩ (.int .i64 ((rd_T25 l0 x7_1).f3))).setCell ⟨gb260, 4, none⟩ (.int .i64 ((rd_T25 l0 x7_1).f4))).setCell ⟨gb260, 5, none⟩ (.int .i64 ((rd_T25 l0 x7_1).f5))).heap[gb260]? = some (.cells #[.int .i64 ((rd_T25 l0 x7_1).f0), .int .i64 ((rd_T25 l0 x7_1).f1), .int .i64 ((rd_T25 l0 x7_1).f2), .int .i64 ((rd_T25 l0 x7_1).f3), .int .i64 ((rd_T25 l0 x7_1).f4), .int .i64 ((rd_T25 l0 x7_1).f5)] 25 (0, 0))) := ⟨zbp BK260.out⟩
     have n1_ : Aside0 (Below w.heap.size w ((((((w12.setCell ⟨gb260, 0, none⟩ (.int .i64 ((rd_T25 l0 x7_1).f0))).setCell ⟨gb260, 1, none⟩ (.int .i64 ((rd_T25 l0 x7_1).f1))).setCell ⟨gb260, 2, none⟩ (.int .i64 ((rd_T25 l0 x7_1).f2))).setCell ⟨gb260, 3, none⟩ (.int .i64 ((rd_T25 l0 x7_1).f3))).setCell ⟨gb260, 4, none⟩ (.int .i64 ((rd_T25 l0 x7_1).f4))).setCell ⟨gb260, 5, none⟩ (.int .i64 ((rd_T25 l0 x7_1).f5)))) := ⟨by exact zBy HB.out GE260.out⟩
     (try clear BK260)
     (try clear HB)
     generalize ((((((w12.setCell ⟨gb260, 0, none⟩ (.int .i64 ((rd_T25 l0 x7_1).f0))).setCell ⟨gb260, 1, none⟩ (.int .i64 ((rd_T25 l0 x7_1).f1))).setCell ⟨gb260, 2, none⟩ (.int .i64 ((rd_T25 l0 x7_1).f2))).setCell ⟨gb260, 3, none⟩ (.int .i64 ((rd_T25 l0 x7_1).f3))).setCell ⟨gb260, 4, none⟩ (.int .i64 ((rd_T25 l0 x7_1).f4))).setCell ⟨gb260, 5, none⟩ (.int .i64 ((rd_T25 l0 x7_1).f5))) = w14 at n0_ n1_ ⊢
     have BK260 := n0_
     have HB := n1_
     clear n0_ n1_
     replace BK260 := Aside0.mk (blk_drew BK260.out)
     replace HB := Aside0.mk (below_drew1 HB.out)
     have p262 : 0 ≤ ((ji8) : Int) := of_decide_eq_true zax
     have q262 : (ji8) < (l0.length : Int) := of_decide_eq_true zax
     obtain ⟨ad262, e262, hx262_0, hx262_1, hx262_2, hx262_3, hx262_4, hx262_5⟩ := at_T25 HR0.out (ji8) p262 q262
     have hw262_5 := hx262_5
     have hw262_4 := hx262_4
     have hw262_3 := hx262_3
     have hw262_2 := hx262_2
     have hw262_1 := hx262_1
     have hw262_0 := hx262_0
     obtain rfl : ad259 = ad262 := (by injection e262)
     replace hx262_0 := (HB.out.cell (World.block_lt_of_cell? w _ hx262_0)).trans hx262_0
     replace hx262_1 := (HB.out.cell (World.block_lt_of_cell? w _ hx262_1)).trans hx262_1
     replace hx262_2 := (HB.out.cell (World.block_lt_of_cell? w _ hx262_2)).trans hx262_2
     replace hx262_3 := (HB.out.cell (World.block_lt_of_cell? w _ hx262_3)).trans hx262_3
     replace hx262_4 := (HB.out.cell (World.block_lt_of_cell? w _ hx262_4)).trans hx262_4
     replace hx262_5 := (HB.out.cell (World.block_lt_of_cell? w _ hx262_5)).trans hx262_5
     replace p262 := eq_true p262
     replace q262 := eq_true q262
     refine start_ (n := 18) (S := fun w' => w'.cell? ⟨gb260, 0, none⟩ = some (.int .i64 ((rd_T25 l0 x7_1).f0)) ∧ w'.cell? ⟨gb260, 1, none⟩ = some (.int .i64 ((rd_T25 l0 x7_1).f1)) ∧ w'.cell? ⟨gb260, 2, none⟩ = some (.int .i64 ((rd_T25 l0 x7_1).f2)) ∧ w'.cell? ⟨gb260, 3, none⟩ = some (.int .i64 ((rd_T25 l0 x7_1).f3)) ∧ w'.cell? ⟨gb260, 4, none⟩ = some (.int .i64 ((rd_T25 l0 x7_1).f4)) ∧ w'.cell? ⟨gb260, 5, none⟩ = some (.int .i64 ((rd_T25 l0 x7_1).f5)) ∧ w'.cell? (ad259.add (((ji8)).toNat * 6)) = some (.int .i64 ((rd_T25 l0 (ji8)).f0)) ∧ w'.cell? ⟨(ad259.add (((ji8)).toNat * 6)).block, (ad259.add (((ji8)).toNat * 6)).off + 1, none⟩ = some (.int .i64 ((rd_T25 l0 (ji8)).f1)) ∧ w'.cell? ⟨(ad259.add (((ji8)).toNat * 6)).block, (ad259.add (((ji8)).toNat * 6)).off + 2, none⟩ = some (.int .i64 ((rd_T25 l0 (ji8)).f2)) ∧ w'.cell? ⟨(ad259.add (((ji8)).toNat * 6)).block, (ad259.add (((ji8)).toNat * 6)).off + 3, none⟩ = some (.int .i64 ((rd_T25 l0 (ji8)).f3)) ∧ w'.cell? ⟨(ad259.add (((ji8)).toNat * 6)).block, (ad259.add (((ji8)).toNat * 6)).off + 4, none⟩ = some (.int .i64 ((rd_T25 l0 (ji8)).f4)) ∧ w'.cell? ⟨(ad259.add (((ji8)).toNat * 6)).block, (ad259.add (((ji8)).toNat * 6)).off + 5, none⟩ = some (.int .i64 ((rd_T25 l0 (ji8)).f5))) (ds := []) #[F,F,F,F,F,F,F,F,F,F,F,F,F,F,F,F,F,F] (by kernel_rfl) rfl rfl ⟨(blk_cell BK260.out 0).trans rfl, (blk_cell BK260.out 1).trans rfl, (blk_cell BK260.out 2).trans rfl, (blk_cell BK260.out 3).trans rfl, (blk_cell BK260.out 4).trans rfl, (blk_cell BK260.out 5).trans rfl, ((HB.out.cell (World.block_lt_of_cell? w _ hw262_0)).trans hw262_0), ((HB.out.cell (World.block_lt_of_cell? w _ hw262_1)).trans hw262_1), ((HB.out.cell (World.block_lt_of_cell? w _ hw262_2)).trans hw262_2), ((HB.out.cell (World.block_lt_of_cell? w _ hw262_3)).trans hw262_3), ((HB.out.cell (World.block_lt_of_cell? w _ hw262_4)).trans hw262_4), ((HB.out.cell (World.block_lt_of_cell? w _ hw262_5)).trans hw262_5)⟩ (fun hHeld => ?_); refine with_tabW impl_areWarnings.tab4 impl_areWarnings.bits4 (fun HT_ HW_ => ?_)
     generalize w14.drew = w15 at BK260 HB hx262_0 hx262_1 hx262_2 hx262_3 hx262_4 hx262_5 hHeld ⊢
     refine take_ (i := 0) (N := some 12) (v := ?_) (a' := ?_) #[T,F,F,F,F,F,F,F,F,F,F,F,F,F,F,F,F,F] rfl rfl (take_ofW HT_.out HW_.out (by kernel_rfl)) (fun _ _ _ h => h) (Or.inl ⟨by rfl, ?_⟩) hHeld ?_ ?_
     rotate_left
     ·rintro w' ⟨s0, s1, s2, s3, s4, s5, s6, s7, s8, s9, s10, s11⟩
      go_simp
      with_reducible rfl
     rotate_left
     ·exact zpx
     refine one_ (i := 1) (N := some 13) #[T,T,F,F,F,F,F,F,F,F,F,F,F,F,F,F,F,F] rfl rfl (one_of HT_.out (by kernel_rfl)) (by decide) (fun K hK => ?_)
     refine goes_ Tryz.func36 (by kernel_rfl) rfl #[.agg #[.int .i64 ((rd_T25 l0 x7_1).f0), .int .i64 ((rd_T25 l0 x7_1).f1), .int .i64 ((rd_T25 l0 x7_1).f2), .int .i64 ((rd_T25 l0 x7_1).f3), .int .i64 ((rd_T25 l0 x7_1).f4), .int .i64 ((rd_T25 l0 x7_1).f5)]] (by rfl) rfl rfl zlx ?_
     with_reducible refine (impl_IsValidWarning.calls ((rd_T25 l0 x7_1).f0) ((rd_T25 l0 x7_1).f1) ((rd_T25 l0 x7_1).f2) ((rd_T25 l0 x7_1).f3) ((rd_T25 l0 x7_1).f4) ((rd_T25 l0 x7_1).f5) true _ A5.out).mono ?_
     rintro e w16 ⟨rfl, hb⟩
     refine ⟨_, rfl, ?_⟩
     replace BK260 := zbl BK260.out hb
     replace HB := Aside0.mk (below_step (zBy HB.out GE260.out) hb)
     (try clear hb)
     (try clear hb2)
     (try clear hk)
     (try clear hi)
     refine hK.out _ _ ⟨(blk_cell BK260.out 0).trans rfl, (blk_cell BK260.out 1).trans rfl, (blk_cell BK260.out 2).trans rfl, (blk_cell BK260.out 3).trans rfl, (blk_cell BK260.out 4).trans rfl, (blk_cell BK260.out 5).trans rfl, ((HB.out.cell (World.block_lt_of_cell? w _ hw262_0)).trans hw262_0), ((HB.out.cell (World.block_lt_of_cell? w _ hw262_1)).trans hw262_1), ((HB.out.cell (World.block_lt_of_cell? w _ hw262_2)).trans hw262_2), ((HB.out.cell (World.block_lt_of_cell? w _ hw262_3)).trans hw262_3), ((HB.out.cell (World.block_lt_of_cell? w _ hw262_4)).trans hw262_4), ((HB.out.cell (World.block_lt_of_cell? w _ hw262_5)).trans hw262_5)⟩ (fun hHeld => ?_)
     clear hK K
     refine norm_ (a' := ?_) ?_ ?_
     rotate_left
     ·show Act.put _ (some 13) _ = _
      simp only [Act.put, List.setIfInBounds_toArray, List.set_cons_zero, List.set_cons_succ, i64_w, i32_w]
      rfl
     refine zpu 2 14 #[T,T,T,F,F,F,F,F,F,F,F,F,F,F,F,F,F,F] HT_.out ?_
     refine zpu 3 15 #[T,T,T,T,F,F,F,F,F,F,F,F,F,F,F,F,F,F] HT_.out ?_
     refine zpu 4 16 #[T,T,T,T,T,F,F,F,F,F,F,F,F,F,F,F,F,F] HT_.out ?_
     refine zpu 5 17 #[T,T,T,T,T,T,F,F,F,F,F,F,F,F,F,F,F,F] HT_.out ?_
     refine zpu 6 18 #[T,T,T,T,T,T,T,F,F,F,F,F,F,F,F,F,F,F] HT_.out ?_
     refine zpu 7 19 #[T,T,T,T,T,T,T,T,F,F,F,F,F,F,F,F,F,F] HT_.out ?_
     refine zpu 8 20 #[T,T,T,T,T,T,T,T,T,F,F,F,F,F,F,F,F,F] HT_.out ?_
     refine zpu 9 21 #[T,T,T,T,T,T,T,T,T,T,F,F,F,F,F,F,F,F] HT_.out ?_
     refine zpu 10 22 #[T,T,T,T,T,T,T,T,T,T,T,F,F,F,F,F,F,F] HT_.out ?_
     refine zpu 11 23 #[T,T,T,T,T,T,T,T,T,T,T,T,F,F,F,F,F,F] HT_.out ?_
     refine zpu 13 25 #[T,T,T,T,T,T,T,T,T,T,T,T,F,T,F,F,F,F] HT_.out ?_
     refine take_ (i := 12) (N := some 24) (v := ?_) (a' := ?_) #[T,T,T,T,T,T,T,T,T,T,T,T,T,T,F,F,F,F] rfl rfl (take_ofW HT_.out HW_.out (by kernel_rfl)) (fun _ _ _ h => h) (Or.inl ⟨by rfl, ?_⟩) hHeld ?_ ?_
     rotate_left
     ·rintro w' ⟨s0, s1, s2, s3, s4, s5, s6, s7, s8, s9, s10, s11⟩
      go_simp
      with_reducible rfl
     rotate_left
     ·exact zpx
     refine take_ (i := 14) (N := some 26) (v := ?_) (a' := ?_) #[T,T,T,T,T,T,T,T,T,T,T,T,T,T,T,F,F,F] rfl rfl (take_ofW HT_.out HW_.out (by kernel_rfl)) (fun _ _ _ h => h) (Or.inl ⟨by rfl, ?_⟩) hHeld ?_ ?_
     rotate_left
     ·rintro w' ⟨s0, s1, s2, s3, s4, s5, s6, s7, s8, s9, s10, s11⟩
      go_simp
      with_reducible rfl
     rotate_left
     ·exact zpx
     refine zpu 15 27 #[T,T,T,T,T,T,T,T,T,T,T,T,T,T,T,T,F,F] HT_.out ?_
     refine zpu 16 28 #[T,T,T,T,T,T,T,T,T,T,T,T,T,T,T,T,T,F] HT_.out ?_
     refine zpu 17 29 #[T,T,T,T,T,T,T,T,T,T,T,T,T,T,T,T,T,T] HT_.out ?_
     refine done_ (done_of HT_.out (by kernel_rfl)) ?_
     try go_wp2
     go_ret
     exact ⟨by first | rfl | (simp [errW_none, errW_some] <;> rfl) | (simp only [← hji8]; first | rfl | (simp [errW_none, errW_some] <;> rfl)) | (simp [*, errW_none, errW_some] <;> rfl), by exact zBy HB.out GE260.out⟩
   rw [if_neg c11] at H
   have c11b0 : decide (((rd_T25 l0 x7_1).f0) ≤ ((rd_T25 l0 (ji8)).f0)) = false := decide_eq_false c11
   clear c11
   focus
    have H' := Aside0.mk H
    clear H
    have p259 : 0 ≤ (x7_1 : Int) := of_decide_eq_true zax
    have q259 : x7_1 < (l0.length : Int) := of_decide_eq_true zax
    obtain ⟨ad259, e259, hx259_0, hx259_1, hx259_2, hx259_3, hx259_4, hx259_5⟩ := at_T25 HR0.out x7_1 p259 q259
    cases e259
    replace hx259_0 := (HB.out.cell (World.block_lt_of_cell? w _ hx259_0)).trans hx259_0
    replace hx259_1 := (HB.out.cell (World.block_lt_of_cell? w _ hx259_1)).trans hx259_1
    replace hx259_2 := (HB.out.cell (World.block_lt_of_cell? w _ hx259_2)).trans hx259_2
    replace hx259_3 := (HB.out.cell (World.block_lt_of_cell? w _ hx259_3)).trans hx259_3
    replace hx259_4 := (HB.out.cell (World.block_lt_of_cell? w _ hx259_4)).trans hx259_4
    replace hx259_5 := (HB.out.cell (World.block_lt_of_cell? w _ hx259_5)).trans hx259_5
    replace p259 := eq_true p259
    replace q259 := eq_true q259
    try go_wp2_with (first | ((with_reducible refine gate_dst (N := 4) rfl ?_); refine box_event ?hg (N := 4) ?hd (cs := #[.int .i64 0, .int .i64 0, .int .i64 0, .int .i64 0, .int .i64 0, .int .i64 0]) (t := 25) ?hr ?_; (case hd => rfl); (case hg => rfl); (case hr => exact zsx); intro gb260 hg w17 hbox hb; have BK260 := Aside0.mk (hbox); have GW260 := zns hg HB.out; have GE260 := zns hg HB.out; replace HB := Aside0.mk (below_step (zBx HB.out) hb); clear hb hbox hg; have hcz18_0 : w17.cell? ⟨gb260, 0, none⟩ = some (.int .i64 0) := (blk_cell BK260.out 0).trans rfl; have hcz18_1 : w17.cell? ⟨gb260, 1, none⟩ = some (.int .i64 0) := (blk_cell BK260.out 1).trans rfl; have hcz18_2 : w17.cell? ⟨gb260, 2, none⟩ = some (.int .i64 0) := (blk_cell BK260.out 2).trans rfl; have hcz18_3 : w17.cell? ⟨gb260, 3, none⟩ = some (.int .i64 0) := (blk_cell BK260.out 3).trans rfl; have hcz18_4 : w17.cell? ⟨gb260, 4, none⟩ = some (.int .i64 0) := (blk_cell BK260.out 4).trans rfl; have hcz18_5 : w17.cell? ⟨gb260, 5, none⟩ = some (.int .i64 0) := (blk_cell BK260.out 5).trans rfl; have hfz18_0 := blk_frozen BK260.out 0; have hfz18_1 := blk_frozen BK260.out 1; have hfz18_2 := blk_frozen BK260.out 2; have hfz18_3 := blk_frozen BK260.out 3; have hfz18_4 := blk_frozen BK260.out 4; have hfz18_5 := blk_frozen BK260.out 5))
    have n0_ : Aside0 (((((((w17.setCell ⟨gb260, 0, none⟩ (.int .i64 ((rd_T25 l0 x7_1).f0))).setCell ⟨gb260, 1, none⟩ (.int .i64 ((rd_T25 l0 x7_1).f1))).setCell ⟨gb260, 2, none⟩ (.int .i64 ((rd_T25 l0 x7_1).f2))).setCell ⟨gb260, 3, none⟩ (.int .i64 ((rd_T25 l0 x7_1).f3))).setCell ⟨gb260, 4, none⟩ (.int .i64 ((rd_T25 l0 x7_1).f4))).setCell ⟨gb260, 5, none⟩ (.int .i64 ((rd_T25 l0 x7_1).f5))).heap[gb260]? = some (.cells #[.int .i64 ((rd_T25 l0 x7_1).f0), .int .i64 ((rd_T25 l0 x7_1).f1), .int .i64 ((rd_T25 l0 x7_1).f2), .int .i64 ((rd_T25 l0 x7_1).f3), .int .i64 ((rd_T25 l0 x7_1).f4), .int .i64 ((rd_T25 l0 x7_1).f5)] 25 (0, 0))) := ⟨zbp BK260.out⟩
    have n1_ : Aside0 (Below w.heap.size w ((((((w17.setCell ⟨gb260, 0, none⟩ (.int .i64 ((rd_T25 l0 x7_1).f0))).setCell ⟨gb260, 1, none⟩ (.int .i64 ((rd_T25 l0 x7_1).f1))).setCell ⟨gb260, 2, none⟩ (.int .i64 ((rd_T25 l0 x7_1).f2))).setCell ⟨gb260, 3, none⟩ (.int .i64 ((rd_T25 l0 x7_1).f3))).setCell ⟨gb260, 4, none⟩ (.int .i64 ((rd_T25 l0 x7_1).f4))).setCell ⟨gb260, 5, none⟩ (.int .i64 ((rd_T25 l0 x7_1).f5)))) := ⟨by exact zBy HB.out GE260.out⟩
    (try clear BK260)
    (try clear HB)
    generalize ((((((w17.setCell ⟨gb260, 0, none⟩ (.int .i64 ((rd_T25 l0 x7_1).f0))).setCell ⟨gb260, 1, none⟩ (.int .i64 ((rd_T25 l0 x7_1).f1))).setCell ⟨gb260, 2, none⟩ (.int .i64 ((rd_T25 l0 x7_1).f2))).setCell ⟨gb260, 3, none⟩ (.int .i64 ((rd_T25 l0 x7_1).f3))).setCell ⟨gb260, 4, none⟩ (.int .i64 ((rd_T25 l0 x7_1).f4))).setCell ⟨gb260, 5, none⟩ (.int .i64 ((rd_T25 l0 x7_1).f5))) = w19 at n0_ n1_ ⊢
    have BK260 := n0_
    have HB := n1_
    clear n0_ n1_
    replace BK260 := Aside0.mk (blk_drew BK260.out)
    replace HB := Aside0.mk (below_drew1 HB.out)
    have p262 : 0 ≤ ((ji8) : Int) := of_decide_eq_true zax
    have q262 : (ji8) < (l0.length : Int) := of_decide_eq_true zax
    obtain ⟨ad262, e262, hx262_0, hx262_1, hx262_2, hx262_3, hx262_4, hx262_5⟩ := at_T25 HR0.out (ji8) p262 q262
    have hw262_5 := hx262_5
    have hw262_4 := hx262_4
    have hw262_3 := hx262_3
    have hw262_2 := hx262_2
    have hw262_1 := hx262_1
    have hw262_0 := hx262_0
    obtain rfl : ad259 = ad262 := (by injection e262)
    replace hx262_0 := (HB.out.cell (World.block_lt_of_cell? w _ hx262_0)).trans hx262_0
    replace hx262_1 := (HB.out.cell (World.block_lt_of_cell? w _ hx262_1)).trans hx262_1
    replace hx262_2 := (HB.out.cell (World.block_lt_of_cell? w _ hx262_2)).trans hx262_2
    replace hx262_3 := (HB.out.cell (World.block_lt_of_cell? w _ hx262_3)).trans hx262_3
    replace hx262_4 := (HB.out.cell (World.block_lt_of_cell? w _ hx262_4)).trans hx262_4
    replace hx262_5 := (HB.out.cell (World.block_lt_of_cell? w _ hx262_5)).trans hx262_5
    replace p262 := eq_true p262
    replace q262 := eq_true q262
    refine start_ (n := 18) (S := fun w' => w'.cell? ⟨gb260, 0, none⟩ = some (.int .i64 ((rd_T25 l0 x7_1).f0)) ∧ w'.cell? ⟨gb260, 1, none⟩ = some (.int .i64 ((rd_T25 l0 x7_1).f1)) ∧ w'.cell? ⟨gb260, 2, none⟩ = some (.int .i64 ((rd_T25 l0 x7_1).f2)) ∧ w'.cell? ⟨gb260, 3, none⟩ = some (.int .i64 ((rd_T25 l0 x7_1).f3)) ∧ w'.cell? ⟨gb260, 4, none⟩ = some (.int .i64 ((rd_T25 l0 x7_1).f4)) ∧ w'.cell? ⟨gb260, 5, none⟩ = some (.int .i64 ((rd_T25 l0 x7_1).f5)) ∧ w'.cell? (ad259.add (((ji8)).toNat * 6)) = some (.int .i64 ((rd_T25 l0 (ji8)).f0)) ∧ w'.cell? ⟨(ad259.add (((ji8)).toNat * 6)).block, (ad259.add (((ji8)).toNat * 6)).off + 1, none⟩ = some (.int .i64 ((rd_T25 l0 (ji8)).f1)) ∧ w'.cell? ⟨(ad259.add (((ji8)).toNat * 6)).block, (ad259.add (((ji8)).toNat * 6)).off + 2, none⟩ = some (.int .i64 ((rd_T25 l0 (ji8)).f2)) ∧ w'.cell? ⟨(ad259.add (((ji8)).toNat * 6)).block, (ad259.add (((ji8)).toNat * 6)).off + 3, none⟩ = some (.int .i64 ((rd_T25 l0 (ji8)).f3)) ∧ w'.cell? ⟨(ad259.add (((ji8)).toNat * 6)).block, (ad259.add (((ji8)).toNat * 6)).off + 4, none⟩ = some (.int .i64 ((rd_T25 l0 (ji8)).f4)) ∧ w'.cell? ⟨(ad259.add (((ji8)).toNat * 6)).block, (ad259.add (((ji8)).toNat * 6)).off + 5, none⟩ = some (.int .i64 ((rd_T25 l0 (ji8)).f5))) (ds := []) #[F,F,F,F,F,F,F,F,F,F,F,F,F,F,F,F,F,F] (by kernel_rfl) rfl rfl ⟨(blk_cell BK260.out 0).trans rfl, (blk_cell BK260.out 1).trans rfl, (blk_cell BK260.out 2).trans rfl, (blk_cell BK260.out 3).trans rfl, (blk_cell BK260.out 4).trans rfl, (blk_cell BK260.out 5).trans rfl, ((HB.out.cell (World.block_lt_of_cell? w _ hw262_0)).trans hw262_0), ((HB.out.cell (World.block_lt_of_cell? w _ hw262_1)).trans hw262_1), ((HB.out.cell (World.block_lt_of_cell? w _ hw262_2)).trans hw262_2), ((HB.out.cell (World.block_lt_of_cell? w _ hw262_3)).trans hw262_3), ((HB.out.cell (World.block_lt_of_cell? w _ hw262_4)).trans hw262_4), ((HB.out.cell (World.block_lt_of_cell? w _ hw262_5)).trans hw262_5)⟩ (fun hHeld => ?_); refine with_tabW impl_areWarnings.tab4 impl_areWarnings.bits4 (fun HT_ HW_ => ?_)
    generalize w19.drew = w20 at BK260 HB hx262_0 hx262_1 hx262_2 hx262_3 hx262_4 hx262_5 hHeld ⊢
    refine take_ (i := 0) (N := some 12) (v := ?_) (a' := ?_) #[T,F,F,F,F,F,F,F,F,F,F,F,F,F,F,F,F,F] rfl rfl (take_ofW HT_.out HW_.out (by kernel_rfl)) (fun _ _ _ h => h) (Or.inl ⟨by rfl, ?_⟩) hHeld ?_ ?_
    rotate_left
    ·rintro w' ⟨s0, s1, s2, s3, s4, s5, s6, s7, s8, s9, s10, s11⟩
     go_simp
     with_reducible rfl
    rotate_left
    ·exact zpx
    refine one_ (i := 1) (N := some 13) #[T,T,F,F,F,F,F,F,F,F,F,F,F,F,F,F,F,F] rfl rfl (one_of HT_.out (by kernel_rfl)) (by decide) (fun K hK => ?_)
    refine goes_ Tryz.func36 (by kernel_rfl) rfl #[.agg #[.int .i64 ((rd_T25 l0 x7_1).f0), .int .i64 ((rd_T25 l0 x7_1).f1), .int .i64 ((rd_T25 l0 x7_1).f2), .int .i64 ((rd_T25 l0 x7_1).f3), .int .i64 ((rd_T25 l0 x7_1).f4), .int .i64 ((rd_T25 l0 x7_1).f5)]] (by rfl) rfl rfl zlx ?_
    with_reducible refine (impl_IsValidWarning.calls ((rd_T25 l0 x7_1).f0) ((rd_T25 l0 x7_1).f1) ((rd_T25 l0 x7_1).f2) ((rd_T25 l0 x7_1).f3) ((rd_T25 l0 x7_1).f4) ((rd_T25 l0 x7_1).f5) true _ A5.out).mono ?_
    rintro e w21 ⟨rfl, hb⟩
    refine ⟨_, rfl, ?_⟩
    replace BK260 := zbl BK260.out hb
    replace HB := Aside0.mk (below_step (zBy HB.out GE260.out) hb)
    (try clear hb)
    (try clear hb2)
    (try clear hk)
    (try clear hi)
    refine hK.out _ _ ⟨(blk_cell BK260.out 0).trans rfl, (blk_cell BK260.out 1).trans rfl, (blk_cell BK260.out 2).trans rfl, (blk_cell BK260.out 3).trans rfl, (blk_cell BK260.out 4).trans rfl, (blk_cell BK260.out 5).trans rfl, ((HB.out.cell (World.block_lt_of_cell? w _ hw262_0)).trans hw262_0), ((HB.out.cell (World.block_lt_of_cell? w _ hw262_1)).trans hw262_1), ((HB.out.cell (World.block_lt_of_cell? w _ hw262_2)).trans hw262_2), ((HB.out.cell (World.block_lt_of_cell? w _ hw262_3)).trans hw262_3), ((HB.out.cell (World.block_lt_of_cell? w _ hw262_4)).trans hw262_4), ((HB.out.cell (World.block_lt_of_cell? w _ hw262_5)).trans hw262_5)⟩ (fun hHeld => ?_)
    clear hK K
    refine norm_ (a' := ?_) ?_ ?_
    rotate_left
    ·show Act.put _ (some 13) _ = _
     simp only [Act.put, List.setIfInBounds_toArray, List.set_cons_zero, List.set_cons_succ, i64_w, i32_w]
     rfl
    refine zpu 2 14 #[T,T,T,F,F,F,F,F,F,F,F,F,F,F,F,F,F,F] HT_.out ?_
    refine zpu 3 15 #[T,T,T,T,F,F,F,F,F,F,F,F,F,F,F,F,F,F] HT_.out ?_
    refine zpu 4 16 #[T,T,T,T,T,F,F,F,F,F,F,F,F,F,F,F,F,F] HT_.out ?_
    refine zpu 5 17 #[T,T,T,T,T,T,F,F,F,F,F,F,F,F,F,F,F,F] HT_.out ?_
    refine zpu 6 18 #[T,T,T,T,T,T,T,F,F,F,F,F,F,F,F,F,F,F] HT_.out ?_
    refine zpu 7 19 #[T,T,T,T,T,T,T,T,F,F,F,F,F,F,F,F,F,F] HT_.out ?_
    refine zpu 8 20 #[T,T,T,T,T,T,T,T,T,F,F,F,F,F,F,F,F,F] HT_.out ?_
    refine zpu 9 21 #[T,T,T,T,T,T,T,T,T,T,F,F,F,F,F,F,F,F] HT_.out ?_
    refine zpu 10 22 #[T,T,T,T,T,T,T,T,T,T,T,F,F,F,F,F,F,F] HT_.out ?_
    refine zpu 11 23 #[T,T,T,T,T,T,T,T,T,T,T,T,F,F,F,F,F,F] HT_.out ?_
    refine zpu 13 25 #[T,T,T,T,T,T,T,T,T,T,T,T,F,T,F,F,F,F] HT_.out ?_
    refine take_ (i := 12) (N := some 24) (v := ?_) (a' := ?_) #[T,T,T,T,T,T,T,T,T,T,T,T,T,T,F,F,F,F] rfl rfl (take_ofW HT_.out HW_.out (by kernel_rfl)) (fun _ _ _ h => h) (Or.inl ⟨by rfl, ?_⟩) hHeld ?_ ?_
    rotate_left
    ·rintro w' ⟨s0, s1, s2, s3, s4, s5, s6, s7, s8, s9, s10, s11⟩
     go_simp
     with_reducible rfl
    rotate_left
    ·exact zpx
    refine take_ (i := 14) (N := some 26) (v := ?_) (a' := ?_) #[T,T,T,T,T,T,T,T,T,T,T,T,T,T,T,F,F,F] rfl rfl (take_ofW HT_.out HW_.out (by kernel_rfl)) (fun _ _ _ h => h) (Or.inl ⟨by rfl, ?_⟩) hHeld ?_ ?_
    rotate_left
    ·rintro w' ⟨s0, s1, s2, s3, s4, s5, s6, s7, s8, s9, s10, s11⟩
     go_simp
     with_reducible rfl
    rotate_left
    ·exact zpx
    refine zpu 15 27 #[T,T,T,T,T,T,T,T,T,T,T,T,T,T,T,T,F,F] HT_.out ?_
    refine zpu 16 28 #[T,T,T,T,T,T,T,T,T,T,T,T,T,T,T,T,T,F] HT_.out ?_
    refine zpu 17 29 #[T,T,T,T,T,T,T,T,T,T,T,T,T,T,T,T,T,T] HT_.out ?_
    refine done_ (done_of HT_.out (by kernel_rfl)) ?_
    try go_wp2
    go_roundg k1
    case measure => have := HK1.out; omega
    case rel => exact ⟨(wrap64 (x7_1 + 1)), zrx, H', ⟨by have := HK1.out; omega⟩, ⟨by exact zBy HB.out GE260.out⟩⟩
end Go.Proofs.YtlfoojgbiafffaaGreatDoor.XFnExactReadBulletin
