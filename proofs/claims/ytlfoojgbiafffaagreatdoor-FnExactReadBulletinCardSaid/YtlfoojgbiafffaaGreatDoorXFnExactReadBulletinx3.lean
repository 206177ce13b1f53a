-- written by wip/tools/xprint.py (a program of this project) out of the translation
import Derived.Test.YtlfoojgbiafffaaGreatDoorXFnExactReadBulletinx0
import Derived.Test.YtlfoojgbiafffaaGreatDoorStrsE
import Derived.Test.YtlfoojgbiafffaaGreatDoorXFnExactReadBulletinx2
namespace Go.Proofs.YtlfoojgbiafffaaGreatDoor.XFnExactReadBulletin
open Go.RowKit Go.Proofs.YtlfoojgbiafffaaGreatDoorW.PrintWords Go.Proofs.YtlfoojgbiafffaaGreatDoorW.PrintLast Go.Proofs.YtlfoojgbiafffaaGreatDoorW.PrintMore
open Go.Proofs.YtlfoojgbiafffaaGreatDoor.Strs
attribute [local go_sem] max2_int min2_int max_two min_two max_three min_three max_four min_four   -- for this text's walks alone
set_option linter.unusedVariables false
set_option linter.unusedSimpArgs false

/-! ### spec_l14List: function 103 -/
mutual
def spec_l14List.l0 : Nat → List (S25) → Int → Option (Bool)
 | 0, _, _ => none
 | k + 1, x0, x3 => if x3 < (x0.length : Int) then (if 0 ≤ x3 then ((spec_l14Good.f ((rd_T25 x0 x3).f0) ((rd_T25 x0 x3).f1) ((rd_T25 x0 x3).f2) ((rd_T25 x0 x3).f3) ((rd_T25 x0 x3).f4) ((rd_T25 x0 x3).f5)).bind fun t125 => (if t125 = true then (if x3 > 0 then (if 0 ≤ (wrap64 (x3 - 1)) then (if (wrap64 (x3 - 1)) < (x0.length : Int) then (spec_l14List.j1 k x0 x3 (decide (((rd_T25 x0 (wrap64 (x3 - 1))).f0) ≥ ((rd_T25 x0 x3).f0)))) else (none)) else (none)) else (spec_l14List.j1 k x0 x3 false)) else (spec_l14List.j1 k x0 x3 true))) else (none)) else (some true)
def spec_l14List.j1 : Nat → List (S25) → Int → Bool → Option (Bool)
 | 0, _, _, _ => none
 | k + 1, x0, x3, x37 => if x37 = true then (some false) else (spec_l14List.l1 k x0 x3 0)
def spec_l14List.l1 : Nat → List (S25) → Int → Int → Option (Bool)
 | 0, _, _, _ => none
 | k + 1, x0, x3, x4 => if x4 < x3 then (if 0 ≤ x4 then (if x4 < (x0.length : Int) then (if 0 ≤ x3 then (if x3 < (x0.length : Int) then ((spec_l14Meet.f ((rd_T25 x0 x4).f0) ((rd_T25 x0 x4).f1) ((rd_T25 x0 x4).f2) ((rd_T25 x0 x4).f3) ((rd_T25 x0 x4).f4) ((rd_T25 x0 x4).f5) ((rd_T25 x0 x3).f0) ((rd_T25 x0 x3).f1) ((rd_T25 x0 x3).f2) ((rd_T25 x0 x3).f3) ((rd_T25 x0 x3).f4) ((rd_T25 x0 x3).f5)).bind fun t130 => (if t130 = true then (some false) else (spec_l14List.l1 k x0 x3 (wrap64 (x4 + 1))))) else (none)) else (none)) else (none)) else (none)) else (spec_l14List.l0 k x0 (wrap64 (x3 + 1)))
end
def spec_l14List.f (k : Nat) (l0 : List (S25)) : Option (Bool) := if (l0.length : Int) > 12 then (some false) else (spec_l14List.l0 k l0 0)
def spec_l14List.T6 : Bool × List (List Nat × List Nat) := (true, [([], []), ([], []), ([0, 1], [0, 1]), ([2], [2]), ([3], [3]), ([4], [4]), ([5, 4], [5]), ([6], [6]), ([7, 6], [6, 7]), ([8, 6, 6], [6, 8]), ([9], [9]), ([9], [9]), ([11, 9], [9, 11]), ([10, 12, 9], [9, 10, 12]), ([13, 9], [9, 13]), ([14, 9], [9, 14]), ([9], [9]), ([9], [9]), ([16, 17, 9], [9, 16, 17]), ([18, 9], [9, 18]), ([19, 9], [9, 19]), ([15, 20, 9], [9, 15, 20]), ([9, 21, 6], [6, 9, 21]), ([6, 22], [6, 22])])
def spec_l14List.B6 : List Nat := [0, 0, 3, 7, 15, 31, 63, 127, 255, 511, 1023, 1023, 3071, 8191, 16383, 32767, 1023, 1023, 197631, 459775, 984063, 2097151, 4194303, 8388607]
theorem spec_l14List.tab6 : rtab .any (opsOf Tryz.f103 6) = spec_l14List.T6 := by kernel_rfl
theorem spec_l14List.bits6 : waitsOk spec_l14List.T6.2 spec_l14List.B6 = true := by kernel_rfl
def spec_l14List.T11 : Bool × List (List Nat × List Nat) := (true, [([], []), ([], []), ([0, 1], [0, 1]), ([2], [2]), ([], []), ([], []), ([4, 5], [4, 5]), ([6], [6]), ([3, 7], [3, 7])])
def spec_l14List.B11 : List Nat := [0, 0, 3, 7, 0, 0, 48, 112, 255]
theorem spec_l14List.tab11 : rtab .any (opsOf Tryz.f103 11) = spec_l14List.T11 := by kernel_rfl
theorem spec_l14List.bits11 : waitsOk spec_l14List.T11.2 spec_l14List.B11 = true := by kernel_rfl
set_option maxHeartbeats 8000000 in
set_option maxRecDepth 100000 in
theorem spec_l14List.calls (k : Nat) (A0 : Option Addr) (c0 : Nat) (l0 : List (S25)) (r : Bool) (w : World) (hr0 : Kd.C k25 w A0 l0.length l0) (hc0 : l0.length ≤ c0) (h : spec_l14List.f k l0 = some r) :
 Calls Tryz.prog 103 #[.slice A0 l0.length c0] w fun e w' => e = .returned (.bool r) ∧ Below w.heap.size w w' := by
 have hu25 := Tryz.underlying25
 have HR0 := Aside0.mk hr0
 have HC0 := Aside0.mk hc0
 clear hr0 hc0
 have HB := Aside0.mk (Below.refl w.heap.size w)
 have H : (if (l0.length : Int) > 12 then (some false) else (spec_l14List.l0 k l0 0)) = some r := h
 clear h
 by_cases c2 : (l0.length : Int) > 12
 ·rw [if_pos c2] at H
  have c2b0 : decide (12 < (l0.length : Int)) = true := decide_eq_true c2
  have c2b1 : decide (12 < l0.length) = true := decide_eq_true (by omega)
  clear c2
  focus
   obtain rfl := Option.some.inj H
   go_enter Tryz.func103, Tryz.ntmps103
   go_wp2
   go_ret
   exact ⟨by first | rfl | (simp [errW_none, errW_some] <;> rfl) | (simp [*, errW_none, errW_some] <;> rfl), by exact zBx HB.out⟩
 rw [if_neg c2] at H
 have c2b0 : decide (12 < (l0.length : Int)) = false := decide_eq_false c2
 have c2b1 : decide (12 < l0.length) = false := decide_eq_false (by omega)
 clear c2
 have H' := Aside0.mk H
 clear H
 go_enter Tryz.func103, Tryz.ntmps103
 go_wp2
 go_loopg [3] k (fun kq v3 w' => ∃ (x3_1 : Int), v3 = .int .i64 x3_1 ∧ Aside0 (spec_l14List.l0 kq l0 x3_1 = some r) ∧ Aside0 (kq ≤ k) ∧ Aside0 (Below w.heap.size w w'))
 case atStart => exact ⟨(0), zrx, H', ⟨Nat.le_refl _⟩, ⟨by exact zBx HB.out⟩⟩
 case round =>
  clear H'
  try clear c1
  try clear c2
  try clear c2b0
  try clear c2b1
  try clear p2
  obtain ⟨x3_1, rfl, HA, HK1, HB⟩ := hrel
  cases gk with
  | zero => exact absurd HA.out (by simp [spec_l14List.l0])
  | succ k1 =>
   have H := HA.out
   clear HA
   simp only [spec_l14List.l0] at H
   by_cases c3 : x3_1 < (l0.length : Int)
   rotate_left
   ·rw [if_neg c3] at H
    have c3b0 : decide (x3_1 < (l0.length : Int)) = false := decide_eq_false c3
    clear c3
    focus
     obtain rfl := Option.some.inj H
     go_wp2
     go_ret
     exact ⟨by first | rfl | (simp [errW_none, errW_some] <;> rfl) | (simp [*, errW_none, errW_some] <;> rfl), by exact zBx HB.out⟩

   rw [if_pos c3] at H
   have c3b0 : decide (x3_1 < (l0.length : Int)) = true := decide_eq_true c3
   clear c3
   have HC4 := Aside0.mk H
   clear H
   go_upto_region 6 with (fail)
   go_cut [37] (fun v37 wc => ∃ (kq : Nat) (x37_3 : Bool), v37 = .bool x37_3 ∧ Aside0 (spec_l14List.j1 kq l0 x3_1 x37_3 = some r) ∧ Aside0 (kq ≤ k1) ∧ Aside0 (Below w.heap.size w wc))
   case first =>
    have H := HC4.out
    clear HC4
    obtain ⟨c5, H⟩ := zin H
    have c5b0 : decide (0 ≤ x3_1) = true := decide_eq_true c5
    clear c5
    (first | rw [c5b0] | (simp only [i64_w, i32_w]; rw [c5b0]) | skip)
    replace H := Option.bind_eq_some_iff.mp H
    obtain ⟨t125, A60, H⟩ := H
    replace H : (if t125 = true then (if x3_1 > 0 then (if 0 ≤ (wrap64 (x3_1 - 1)) then (if (wrap64 (x3_1 - 1)) < (l0.length : Int) then (spec_l14List.j1 k1 l0 x3_1 (decide (((rd_T25 l0 (wrap64 (x3_1 - 1))).f0) ≥ ((rd_T25 l0 x3_1).f0)))) else (none)) else (none)) else (spec_l14List.j1 k1 l0 x3_1 false)) else (spec_l14List.j1 k1 l0 x3_1 true)) = some r := H
    have A6 := Aside0.mk A60
    clear A60
    by_cases c7 : t125 = true
    rotate_left
    ·replace c7 := Bool.eq_false_iff.mpr c7
     subst c7
     rw [if_neg (show ¬ (false = true) by decide)] at H
     focus
      have H' := Aside0.mk H
      clear H
      try go_wp2
      replace HB := Aside0.mk (below_drew1 HB.out)
      have p124 : 0 ≤ (x3_1 : Int) := of_decide_eq_true zax
      have q124 : x3_1 < (l0.length : Int) := of_decide_eq_true zax
      obtain ⟨ad124, e124, hx124_0, hx124_1, hx124_2, hx124_3, hx124_4, hx124_5⟩ := at_T25 HR0.out x3_1 p124 q124
      have hw124_5 := hx124_5
      have hw124_4 := hx124_4
      have hw124_3 := hx124_3
      have hw124_2 := hx124_2
      have hw124_1 := hx124_1
      have hw124_0 := hx124_0
      cases e124
      replace hx124_0 := (HB.out.cell (World.block_lt_of_cell? w _ hx124_0)).trans hx124_0
      replace hx124_1 := (HB.out.cell (World.block_lt_of_cell? w _ hx124_1)).trans hx124_1
      replace hx124_2 := (HB.out.cell (World.block_lt_of_cell? w _ hx124_2)).trans hx124_2
      replace hx124_3 := (HB.out.cell (World.block_lt_of_cell? w _ hx124_3)).trans hx124_3
      replace hx124_4 := (HB.out.cell (World.block_lt_of_cell? w _ hx124_4)).trans hx124_4
      replace hx124_5 := (HB.out.cell (World.block_lt_of_cell? w _ hx124_5)).trans hx124_5
      replace p124 := eq_true p124
      replace q124 := eq_true q124
      refine start_ (n := 24) (S := fun w' => w'.cell? (ad124.add ((x3_1).toNat * 6)) = some (.int .i64 ((rd_T25 l0 x3_1).f0)) ∧ w'.cell? ⟨(ad124.add ((x3_1).toNat * 6)).block, (ad124.add ((x3_1).toNat * 6)).off + 1, none⟩ = some (.int .i64 ((rd_T25 l0 x3_1).f1)) ∧ w'.cell? ⟨(ad124.add ((x3_1).toNat * 6)).block, (ad124.add ((x3_1).toNat * 6)).off + 2, none⟩ = some (.int .i64 ((rd_T25 l0 x3_1).f2)) ∧ w'.cell? ⟨(ad124.add ((x3_1).toNat * 6)).block, (ad124.add ((x3_1).toNat * 6)).off + 3, none⟩ = some (.int .i64 ((rd_T25 l0 x3_1).f3)) ∧ w'.cell? ⟨(ad124.add ((x3_1).toNat * 6)).block, (ad124.add ((x3_1).toNat * 6)).off + 4, none⟩ = some (.int .i64 ((rd_T25 l0 x3_1).f4)) ∧ w'.cell? ⟨(ad124.add ((x3_1).toNat * 6)).block, (ad124.add ((x3_1).toNat * 6)).off + 5, none⟩ = some (.int .i64 ((rd_T25 l0 x3_1).f5))) (ds := []) #[F,F,F,F,F,F,F,F,F,F,F,F,F,F,F,F,F,F,F,F,F,F,F,F] (by kernel_rfl) rfl rfl ⟨((HB.out.cell (World.block_lt_of_cell? w _ hw124_0)).trans hw124_0), ((HB.out.cell (World.block_lt_of_cell? w _ hw124_1)).trans hw124_1), ((HB.out.cell (World.block_lt_of_cell? w _ hw124_2)).trans hw124_2), ((HB.out.cell (World.block_lt_of_cell? w _ hw124_3)).trans hw124_3), ((HB.out.cell (World.block_lt_of_cell? w _ hw124_4)).trans hw124_4), ((HB.out.cell (World.block_lt_of_cell? w _ hw124_5)).trans hw124_5)⟩ (fun hHeld => ?_); refine with_tabW spec_l14List.tab6 spec_l14List.bits6 (fun HT_ HW_ => ?_)
      generalize wr.drew = w16 at HB hx124_0 hx124_1 hx124_2 hx124_3 hx124_4 hx124_5 hHeld ⊢
      refine zpu 0 14 #[T,F,F,F,F,F,F,F,F,F,F,F,F,F,F,F,F,F,F,F,F,F,F,F] HT_.out ?_
      refine zpu 1 15 #[T,T,F,F,F,F,F,F,F,F,F,F,F,F,F,F,F,F,F,F,F,F,F,F] HT_.out ?_
      refine zpu 2 16 #[T,T,T,F,F,F,F,F,F,F,F,F,F,F,F,F,F,F,F,F,F,F,F,F] HT_.out ?_
      refine take_ (i := 3) (N := some 17) (v := ?_) (a' := ?_) #[T,T,T,T,F,F,F,F,F,F,F,F,F,F,F,F,F,F,F,F,F,F,F,F] rfl rfl (take_ofW HT_.out HW_.out (by kernel_rfl)) (fun _ _ _ h => h) (Or.inl ⟨by rfl, ?_⟩) hHeld ?_ ?_
      rotate_left
      ·rintro w' ⟨s0, s1, s2, s3, s4, s5⟩
       go_simp
       with_reducible rfl
      rotate_left
      ·exact zpx
      refine one_ (i := 4) (N := some 18) #[T,T,T,T,T,F,F,F,F,F,F,F,F,F,F,F,F,F,F,F,F,F,F,F] rfl rfl (one_of HT_.out (by kernel_rfl)) (by decide) (fun K hK => ?_)
      refine goes_ Tryz.func47 (by kernel_rfl) rfl #[.agg #[.int .i64 ((rd_T25 l0 x3_1).f0), .int .i64 ((rd_T25 l0 x3_1).f1), .int .i64 ((rd_T25 l0 x3_1).f2), .int .i64 ((rd_T25 l0 x3_1).f3), .int .i64 ((rd_T25 l0 x3_1).f4), .int .i64 ((rd_T25 l0 x3_1).f5)]] (by rfl) rfl rfl zlx ?_
      with_reducible refine (spec_l14Good.calls ((rd_T25 l0 x3_1).f0) ((rd_T25 l0 x3_1).f1) ((rd_T25 l0 x3_1).f2) ((rd_T25 l0 x3_1).f3) ((rd_T25 l0 x3_1).f4) ((rd_T25 l0 x3_1).f5) false _ A6.out).mono ?_
      rintro e w17 ⟨rfl, hb⟩
      refine ⟨_, rfl, ?_⟩
      replace HB := Aside0.mk (below_step (zBx HB.out) hb)
      (try clear hb)
      (try clear hb2)
      (try clear hk)
      (try clear hi)
      refine hK.out _ _ ⟨((HB.out.cell (World.block_lt_of_cell? w _ hw124_0)).trans hw124_0), ((HB.out.cell (World.block_lt_of_cell? w _ hw124_1)).trans hw124_1), ((HB.out.cell (World.block_lt_of_cell? w _ hw124_2)).trans hw124_2), ((HB.out.cell (World.block_lt_of_cell? w _ hw124_3)).trans hw124_3), ((HB.out.cell (World.block_lt_of_cell? w _ hw124_4)).trans hw124_4), ((HB.out.cell (World.block_lt_of_cell? w _ hw124_5)).trans hw124_5)⟩ (fun hHeld => ?_)
      clear hK K
      refine norm_ (a' := ?_) ?_ ?_
      rotate_left
      ·show Act.put _ (some 18) _ = _
       simp only [Act.put, List.setIfInBounds_toArray, List.set_cons_zero, List.set_cons_succ, i64_w, i32_w]
       rfl
      refine zpu 5 19 #[T,T,T,T,T,T,F,F,F,F,F,F,F,F,F,F,F,F,F,F,F,F,F,F] HT_.out ?_
      refine zpu 6 20 #[T,T,T,T,T,T,T,F,F,F,F,F,F,F,F,F,F,F,F,F,F,F,F,F] HT_.out ?_
      refine zpn 7 21 #[T,T,T,T,T,T,T,T,F,F,F,F,F,F,F,F,F,F,F,F,F,F,F,F] HT_.out ?_
      refine zpn 8 22 #[T,T,T,T,T,T,T,T,T,F,F,F,F,F,F,F,F,F,F,F,F,F,F,F] HT_.out ?_
      refine zpn 9 23 #[T,T,T,T,T,T,T,T,T,T,F,F,F,F,F,F,F,F,F,F,F,F,F,F] HT_.out ?_
      refine zpn 10 24 #[T,T,T,T,T,T,T,T,T,T,T,F,F,F,F,F,F,F,F,F,F,F,F,F] HT_.out ?_
      refine zpn 11 25 #[T,T,T,T,T,T,T,T,T,T,T,T,F,F,F,F,F,F,F,F,F,F,F,F] HT_.out ?_
      refine zpn 12 26 #[T,T,T,T,T,T,T,T,T,T,T,T,T,F,F,F,F,F,F,F,F,F,F,F] HT_.out ?_
      refine zpn 13 27 #[T,T,T,T,T,T,T,T,T,T,T,T,T,T,F,F,F,F,F,F,F,F,F,F] HT_.out ?_
      refine zpn 14 28 #[T,T,T,T,T,T,T,T,T,T,T,T,T,T,T,F,F,F,F,F,F,F,F,F] HT_.out ?_
      refine zpn 15 29 #[T,T,T,T,T,T,T,T,T,T,T,T,T,T,T,T,F,F,F,F,F,F,F,F] HT_.out ?_
      refine zpn 16 30 #[T,T,T,T,T,T,T,T,T,T,T,T,T,T,T,T,T,F,F,F,F,F,F,F] HT_.out ?_
      refine zpn 17 31 #[T,T,T,T,T,T,T,T,T,T,T,T,T,T,T,T,T,T,F,F,F,F,F,F] HT_.out ?_
      refine zpn 18 32 #[T,T,T,T,T,T,T,T,T,T,T,T,T,T,T,T,T,T,T,F,F,F,F,F] HT_.out ?_
      refine zpn 19 33 #[T,T,T,T,T,T,T,T,T,T,T,T,T,T,T,T,T,T,T,T,F,F,F,F] HT_.out ?_
      refine zpn 20 34 #[T,T,T,T,T,T,T,T,T,T,T,T,T,T,T,T,T,T,T,T,T,F,F,F] HT_.out ?_
      refine zpn 21 35 #[T,T,T,T,T,T,T,T,T,T,T,T,T,T,T,T,T,T,T,T,T,T,F,F] HT_.out ?_
      refine zpn 22 36 #[T,T,T,T,T,T,T,T,T,T,T,T,T,T,T,T,T,T,T,T,T,T,T,F] HT_.out ?_
      refine zpu 23 37 #[T,T,T,T,T,T,T,T,T,T,T,T,T,T,T,T,T,T,T,T,T,T,T,T] HT_.out ?_
      refine done_ (done_of HT_.out (by kernel_rfl)) ?_
      try go_wp2
      go_meet
      case rel => exact ⟨_, (true), zrx, H', ⟨by have := HK1.out; first | omega | exact Nat.le_refl _⟩, ⟨by exact zBx HB.out⟩⟩
    subst c7
    rw [if_pos rfl] at H
    by_cases c8 : x3_1 > 0
    rotate_left
    ·rw [if_neg c8] at H
     have c8b0 : decide (0 < x3_1) = false := decide_eq_false c8
     clear c8
     focus
      have H' := Aside0.mk H
      clear H
      try go_wp2
      replace HB := Aside0.mk (below_drew1 HB.out)
      have p124 : 0 ≤ (x3_1 : Int) := of_decide_eq_true zax
      have q124 : x3_1 < (l0.length : Int) := of_decide_eq_true zax
      obtain ⟨ad124, e124, hx124_0, hx124_1, hx124_2, hx124_3, hx124_4, hx124_5⟩ := at_T25 HR0.out x3_1 p124 q124
      have hw124_5 := hx124_5
      have hw124_4 := hx124_4
      have hw124_3 := hx124_3
      have hw124_2 := hx124_2
      have hw124_1 := hx124_1
      have hw124_0 := hx124_0
      cases e124
      replace hx124_0 := (HB.out.cell (World.block_lt_of_cell? w _ hx124_0)).trans hx124_0
      replace hx124_1 := (HB.out.cell (World.block_lt_of_cell? w _ hx124_1)).trans hx124_1
      replace hx124_2 := (HB.out.cell (World.block_lt_of_cell? w _ hx124_2)).trans hx124_2
      replace hx124_3 := (HB.out.cell (World.block_lt_of_cell? w _ hx124_3)).trans hx124_3
      replace hx124_4 := (HB.out.cell (World.block_lt_of_cell? w _ hx124_4)).trans hx124_4
      replace hx124_5 := (HB.out.cell (World.block_lt_of_cell? w _ hx124_5)).trans hx124_5
      replace p124 := eq_true p124
      replace q124 := eq_true q124
      refine start_ (n := 24) (S := fun w' => w'.cell? (ad124.add ((x3_1).toNat * 6)) = some (.int .i64 ((rd_T25 l0 x3_1).f0)) ∧ w'.cell? ⟨(ad124.add ((x3_1).toNat * 6)).block, (ad124.add ((x3_1).toNat * 6)).off + 1, none⟩ = some (.int .i64 ((rd_T25 l0 x3_1).f1)) ∧ w'.cell? ⟨(ad124.add ((x3_1).toNat * 6)).block, (ad124.add ((x3_1).toNat * 6)).off + 2, none⟩ = some (.int .i64 ((rd_T25 l0 x3_1).f2)) ∧ w'.cell? ⟨(ad124.add ((x3_1).toNat * 6)).block, (ad124.add ((x3_1).toNat * 6)).off + 3, none⟩ = some (.int .i64 ((rd_T25 l0 x3_1).f3)) ∧ w'.cell? ⟨(ad124.add ((x3_1).toNat * 6)).block, (ad124.add ((x3_1).toNat * 6)).off + 4, none⟩ = some (.int .i64 ((rd_T25 l0 x3_1).f4)) ∧ w'.cell? ⟨(ad124.add ((x3_1).toNat * 6)).block, (ad124.add ((x3_1).toNat * 6)).off + 5, none⟩ = some (.int .i64 ((rd_T25 l0 x3_1).f5))) (ds := []) #[F,F,F,F,F,F,F,F,F,F,F,F,F,F,F,F,F,F,F,F,F,F,F,F] (by kernel_rfl) rfl rfl ⟨((HB.out.cell (World.block_lt_of_cell? w _ hw124_0)).trans hw124_0), ((HB.out.cell (World.block_lt_of_cell? w _ hw124_1)).trans hw124_1), ((HB.out.cell (World.block_lt_of_cell? w _ hw124_2)).trans hw124_2), ((HB.out.cell (World.block_lt_of_cell? w _ hw124_3)).trans hw124_3), ((HB.out.cell (World.block_lt_of_cell? w _ hw124_4)).trans hw124_4), ((HB.out.cell (World.block_lt_of_cell? w _ hw124_5)).trans hw124_5)⟩ (fun hHeld => ?_); refine with_tabW spec_l14List.tab6 spec_l14List.bits6 (fun HT_ HW_ => ?_)
      generalize wr.drew = w14 at HB hx124_0 hx124_1 hx124_2 hx124_3 hx124_4 hx124_5 hHeld ⊢
      refine zpu 0 14 #[T,F,F,F,F,F,F,F,F,F,F,F,F,F,F,F,F,F,F,F,F,F,F,F] HT_.out ?_
      refine zpu 1 15 #[T,T,F,F,F,F,F,F,F,F,F,F,F,F,F,F,F,F,F,F,F,F,F,F] HT_.out ?_
      refine zpu 2 16 #[T,T,T,F,F,F,F,F,F,F,F,F,F,F,F,F,F,F,F,F,F,F,F,F] HT_.out ?_
      refine take_ (i := 3) (N := some 17) (v := ?_) (a' := ?_) #[T,T,T,T,F,F,F,F,F,F,F,F,F,F,F,F,F,F,F,F,F,F,F,F] rfl rfl (take_ofW HT_.out HW_.out (by kernel_rfl)) (fun _ _ _ h => h) (Or.inl ⟨by rfl, ?_⟩) hHeld ?_ ?_
      rotate_left
      ·rintro w' ⟨s0, s1, s2, s3, s4, s5⟩
       go_simp
       with_reducible rfl
      rotate_left
      ·exact zpx
      refine one_ (i := 4) (N := some 18) #[T,T,T,T,T,F,F,F,F,F,F,F,F,F,F,F,F,F,F,F,F,F,F,F] rfl rfl (one_of HT_.out (by kernel_rfl)) (by decide) (fun K hK => ?_)
      refine goes_ Tryz.func47 (by kernel_rfl) rfl #[.agg #[.int .i64 ((rd_T25 l0 x3_1).f0), .int .i64 ((rd_T25 l0 x3_1).f1), .int .i64 ((rd_T25 l0 x3_1).f2), .int .i64 ((rd_T25 l0 x3_1).f3), .int .i64 ((rd_T25 l0 x3_1).f4), .int .i64 ((rd_T25 l0 x3_1).f5)]] (by rfl) rfl rfl zlx ?_
      with_reducible refine (spec_l14Good.calls ((rd_T25 l0 x3_1).f0) ((rd_T25 l0 x3_1).f1) ((rd_T25 l0 x3_1).f2) ((rd_T25 l0 x3_1).f3) ((rd_T25 l0 x3_1).f4) ((rd_T25 l0 x3_1).f5) true _ A6.out).mono ?_
      rintro e w15 ⟨rfl, hb⟩
      refine ⟨_, rfl, ?_⟩
      replace HB := Aside0.mk (below_step (zBx HB.out) hb)
      (try clear hb)
      (try clear hb2)
      (try clear hk)
      (try clear hi)
      refine hK.out _ _ ⟨((HB.out.cell (World.block_lt_of_cell? w _ hw124_0)).trans hw124_0), ((HB.out.cell (World.block_lt_of_cell? w _ hw124_1)).trans hw124_1), ((HB.out.cell (World.block_lt_of_cell? w _ hw124_2)).trans hw124_2), ((HB.out.cell (World.block_lt_of_cell? w _ hw124_3)).trans hw124_3), ((HB.out.cell (World.block_lt_of_cell? w _ hw124_4)).trans hw124_4), ((HB.out.cell (World.block_lt_of_cell? w _ hw124_5)).trans hw124_5)⟩ (fun hHeld => ?_)
      clear hK K
      refine norm_ (a' := ?_) ?_ ?_
      rotate_left
      ·show Act.put _ (some 18) _ = _
       simp only [Act.put, List.setIfInBounds_toArray, List.set_cons_zero, List.set_cons_succ, i64_w, i32_w]
       rfl
      refine zpu 5 19 #[T,T,T,T,T,T,F,F,F,F,F,F,F,F,F,F,F,F,F,F,F,F,F,F] HT_.out ?_
      refine zpu 6 20 #[T,T,T,T,T,T,T,F,F,F,F,F,F,F,F,F,F,F,F,F,F,F,F,F] HT_.out ?_
      refine zpu 7 21 #[T,T,T,T,T,T,T,T,F,F,F,F,F,F,F,F,F,F,F,F,F,F,F,F] HT_.out ?_
      refine zpu 8 22 #[T,T,T,T,T,T,T,T,T,F,F,F,F,F,F,F,F,F,F,F,F,F,F,F] HT_.out ?_
      refine zpu 9 23 #[T,T,T,T,T,T,T,T,T,T,F,F,F,F,F,F,F,F,F,F,F,F,F,F] HT_.out ?_
      refine zpn 10 24 #[T,T,T,T,T,T,T,T,T,T,T,F,F,F,F,F,F,F,F,F,F,F,F,F] HT_.out ?_
      refine zpn 11 25 #[T,T,T,T,T,T,T,T,T,T,T,T,F,F,F,F,F,F,F,F,F,F,F,F] HT_.out ?_
      refine zpn 12 26 #[T,T,T,T,T,T,T,T,T,T,T,T,T,F,F,F,F,F,F,F,F,F,F,F] HT_.out ?_
      refine zpn 13 27 #[T,T,T,T,T,T,T,T,T,T,T,T,T,T,F,F,F,F,F,F,F,F,F,F] HT_.out ?_
      refine zpn 14 28 #[T,T,T,T,T,T,T,T,T,T,T,T,T,T,T,F,F,F,F,F,F,F,F,F] HT_.out ?_
      refine zpn 15 29 #[T,T,T,T,T,T,T,T,T,T,T,T,T,T,T,T,F,F,F,F,F,F,F,F] HT_.out ?_
      refine zpn 16 30 #[T,T,T,T,T,T,T,T,T,T,T,T,T,T,T,T,T,F,F,F,F,F,F,F] HT_.out ?_
      refine zpn 17 31 #[T,T,T,T,T,T,T,T,T,T,T,T,T,T,T,T,T,T,F,F,F,F,F,F] HT_.out ?_
      refine zpn 18 32 #[T,T,T,T,T,T,T,T,T,T,T,T,T,T,T,T,T,T,T,F,F,F,F,F] HT_.out ?_
      refine zpn 19 33 #[T,T,T,T,T,T,T,T,T,T,T,T,T,T,T,T,T,T,T,T,F,F,F,F] HT_.out ?_
      refine zpn 20 34 #[T,T,T,T,T,T,T,T,T,T,T,T,T,T,T,T,T,T,T,T,T,F,F,F] HT_.out ?_
      refine zpn 21 35 #[T,T,T,T,T,T,T,T,T,T,T,T,T,T,T,T,T,T,T,T,T,T,F,F] HT_.out ?_
      refine zpu 22 36 #[T,T,T,T,T,T,T,T,T,T,T,T,T,T,T,T,T,T,T,T,T,T,T,F] HT_.out ?_
      refine zpu 23 37 #[T,T,T,T,T,T,T,T,T,T,T,T,T,T,T,T,T,T,T,T,T,T,T,T] HT_.out ?_
      refine done_ (done_of HT_.out (by kernel_rfl)) ?_
      try go_wp2
      go_meet
      case rel => exact ⟨_, (false), zrx, H', ⟨by have := HK1.out; first | omega | exact Nat.le_refl _⟩, ⟨by exact zBx HB.out⟩⟩
    rw [if_pos c8] at H
    have c8b0 : decide (0 < x3_1) = true := decide_eq_true c8
    clear c8
    obtain ⟨ji9, hji9⟩ : ∃ j_ : Int, (wrap64 (x3_1 - 1)) = j_ := ⟨_, rfl⟩
    replace H : (if 0 ≤ (ji9) then (if (ji9) < (l0.length : Int) then (spec_l14List.j1 k1 l0 x3_1 (decide (((rd_T25 l0 (ji9)).f0) ≥ ((rd_T25 l0 x3_1).f0)))) else (none)) else (none)) = some r := by first | (rw [hji9] at H; exact H) | (simp only [hji9] at H ⊢; exact H)
    (try rw [hji9] at A6)
    have hji9w : (IntKind.i64.wrap (x3_1 - 1)) = ji9 := (i64_w _).trans hji9
    obtain ⟨c10, H⟩ := zin H
    have c10b0 : decide (0 ≤ (ji9)) = true := decide_eq_true c10
    clear c10
    obtain ⟨c11, H⟩ := zin H
    have c11b0 : decide ((ji9) < (l0.length : Int)) = true := decide_eq_true c11
    clear c11
    focus
     have H' := Aside0.mk H
     clear H
     try go_wp2
     replace HB := Aside0.mk (below_drew1 HB.out)
     have p124 : 0 ≤ (x3_1 : Int) := of_decide_eq_true zax
     have q124 : x3_1 < (l0.length : Int) := of_decide_eq_true zax
     obtain ⟨ad124, e124, hx124_0, hx124_1, hx124_2, hx124_3, hx124_4, hx124_5⟩ := at_T25 HR0.out x3_1 p124 q124
     have hw124_5 := hx124_5
     have hw124_4 := hx124_4
     have hw124_3 := hx124_3
     have hw124_2 := hx124_2
     have hw124_1 := hx124_1
     have hw124_0 := hx124_0
     cases e124
     replace hx124_0 := (HB.out.cell (World.block_lt_of_cell? w _ hx124_0)).trans hx124_0
     replace hx124_1 := (HB.out.cell (World.block_lt_of_cell? w _ hx124_1)).trans hx124_1
     replace hx124_2 := (HB.out.cell (World.block_lt_of_cell? w _ hx124_2)).trans hx124_2
     replace hx124_3 := (HB.out.cell (World.block_lt_of_cell? w _ hx124_3)).trans hx124_3
     replace hx124_4 := (HB.out.cell (World.block_lt_of_cell? w _ hx124_4)).trans hx124_4
     replace hx124_5 := (HB.out.cell (World.block_lt_of_cell? w _ hx124_5)).trans hx124_5
     replace p124 := eq_true p124
     replace q124 := eq_true q124
     have p126 : 0 ≤ ((ji9) : Int) := of_decide_eq_true zax
     have q126 : (ji9) < (l0.length : Int) := of_decide_eq_true zax
     obtain ⟨ad126, e126, hx126_0, hx126_1, hx126_2, hx126_3, hx126_4, hx126_5⟩ := at_T25 HR0.out (ji9) p126 q126
     have hw126_5 := hx126_5
     have hw126_4 := hx126_4
     have hw126_3 := hx126_3
     have hw126_2 := hx126_2
     have hw126_1 := hx126_1
     have hw126_0 := hx126_0
     obtain rfl : ad124 = ad126 := (by injection e126)
     replace hx126_0 := (HB.out.cell (World.block_lt_of_cell? w _ hx126_0)).trans hx126_0
     replace hx126_1 := (HB.out.cell (World.block_lt_of_cell? w _ hx126_1)).trans hx126_1
     replace hx126_2 := (HB.out.cell (World.block_lt_of_cell? w _ hx126_2)).trans hx126_2
     replace hx126_3 := (HB.out.cell (World.block_lt_of_cell? w _ hx126_3)).trans hx126_3
     replace hx126_4 := (HB.out.cell (World.block_lt_of_cell? w _ hx126_4)).trans hx126_4
     replace hx126_5 := (HB.out.cell (World.block_lt_of_cell? w _ hx126_5)).trans hx126_5
     replace p126 := eq_true p126
     replace q126 := eq_true q126
     have p127 : 0 ≤ (x3_1 : Int) := of_decide_eq_true zax
     have q127 : x3_1 < (l0.length : Int) := of_decide_eq_true zax
     obtain ⟨ad127, e127, hx127_0, hx127_1, hx127_2, hx127_3, hx127_4, hx127_5⟩ := at_T25 HR0.out x3_1 p127 q127
     have hw127_5 := hx127_5
     have hw127_4 := hx127_4
     have hw127_3 := hx127_3
     have hw127_2 := hx127_2
     have hw127_1 := hx127_1
     have hw127_0 := hx127_0
     obtain rfl : ad124 = ad127 := (by injection e127)
     replace hx127_0 := (HB.out.cell (World.block_lt_of_cell? w _ hx127_0)).trans hx127_0
     replace hx127_1 := (HB.out.cell (World.block_lt_of_cell? w _ hx127_1)).trans hx127_1
     replace hx127_2 := (HB.out.cell (World.block_lt_of_cell? w _ hx127_2)).trans hx127_2
     replace hx127_3 := (HB.out.cell (World.block_lt_of_cell? w _ hx127_3)).trans hx127_3
     replace hx127_4 := (HB.out.cell (World.block_lt_of_cell? w _ hx127_4)).trans hx127_4
     replace hx127_5 := (HB.out.cell (World.block_lt_of_cell? w _ hx127_5)).trans hx127_5
     replace p127 := eq_true p127
     replace q127 := eq_true q127
     refine start_ (n := 24) (S := fun w' => w'.cell? (ad124.add ((x3_1).toNat * 6)) = some (.int .i64 ((rd_T25 l0 x3_1).f0)) ∧ w'.cell? ⟨(ad124.add ((x3_1).toNat * 6)).block, (ad124.add ((x3_1).toNat * 6)).off + 1, none⟩ = some (.int .i64 ((rd_T25 l0 x3_1).f1)) ∧ w'.cell? ⟨(ad124.add ((x3_1).toNat * 6)).block, (ad124.add ((x3_1).toNat * 6)).off + 2, none⟩ = some (.int .i64 ((rd_T25 l0 x3_1).f2)) ∧ w'.cell? ⟨(ad124.add ((x3_1).toNat * 6)).block, (ad124.add ((x3_1).toNat * 6)).off + 3, none⟩ = some (.int .i64 ((rd_T25 l0 x3_1).f3)) ∧ w'.cell? ⟨(ad124.add ((x3_1).toNat * 6)).block, (ad124.add ((x3_1).toNat * 6)).off + 4, none⟩ = some (.int .i64 ((rd_T25 l0 x3_1).f4)) ∧ w'.cell? ⟨(ad124.add ((x3_1).toNat * 6)).block, (ad124.add ((x3_1).toNat * 6)).off + 5, none⟩ = some (.int .i64 ((rd_T25 l0 x3_1).f5)) ∧ w'.cell? (ad124.add (((ji9)).toNat * 6)) = some (.int .i64 ((rd_T25 l0 (ji9)).f0)) ∧ w'.cell? ⟨(ad124.add (((ji9)).toNat * 6)).block, (ad124.add (((ji9)).toNat * 6)).off + 1, none⟩ = some (.int .i64 ((rd_T25 l0 (ji9)).f1)) ∧ w'.cell? ⟨(ad124.add (((ji9)).toNat * 6)).block, (ad124.add (((ji9)).toNat * 6)).off + 2, none⟩ = some (.int .i64 ((rd_T25 l0 (ji9)).f2)) ∧ w'.cell? ⟨(ad124.add (((ji9)).toNat * 6)).block, (ad124.add (((ji9)).toNat * 6)).off + 3, none⟩ = some (.int .i64 ((rd_T25 l0 (ji9)).f3)) ∧ w'.cell? ⟨(ad124.add (((ji9)).toNat * 6)).block, (ad124.add (((ji9)).toNat * 6)).off + 4, none⟩ = some (.int .i64 ((rd_T25 l0 (ji9)).f4)) ∧ w'.cell? ⟨(ad124.add (((ji9)).toNat * 6)).block, (ad124.add (((ji9)).toNat * 6)).off + 5, none⟩ = some (.int .i64 ((rd_T25 l0 (ji9)).f5)) ∧ w'.cell? (ad124.add ((x3_1).toNat * 6)) = some (.int .i64 ((rd_T25 l0 x3_1).f0)) ∧ w'.cell? ⟨(ad124.add ((x3_1).toNat * 6)).block, (ad124.add ((x3_1).toNat * 6)).off + 1, none⟩ = some (.int .i64 ((rd_T25 l0 x3_1).f1)) ∧ w'.cell? ⟨(ad124.add ((x3_1).toNat * 6)).block, (ad124.add ((x3_1).toNat * 6)).off + 2, none⟩ = some (.int .i64 ((rd_T25 l0 x3_1).f2)) ∧ w'.cell? ⟨(ad124.add ((x3_1).toNat * 6)).block, (ad124.add ((x3_1).toNat * 6)).off + 3, none⟩ = some (.int .i64 ((rd_T25 l0 x3_1).f3)) ∧ w'.cell? ⟨(ad124.add ((x3_1).toNat * 6)).block, (ad124.add ((x3_1).toNat * 6)).off + 4, none⟩ = some (.int .i64 ((rd_T25 l0 x3_1).f4)) ∧ w'.cell? ⟨(ad124.add ((x3_1).toNat * 6)).block, (ad124.add ((x3_1).toNat * 6)).off + 5, none⟩ = some (.int .i64 ((rd_T25 l0 x3_1).f5))) (ds := []) #[F,F,F,F,F,F,F,F,F,F,F,F,F,F,F,F,F,F,F,F,F,F,F,F] (by kernel_rfl) rfl rfl ⟨((HB.out.cell (World.block_lt_of_cell? w _ hw124_0)).trans hw124_0), ((HB.out.cell (World.block_lt_of_cell? w _ hw124_1)).trans hw124_1), ((HB.out.cell (World.block_lt_of_cell? w _ hw124_2)).trans hw124_2), ((HB.out.cell (World.block_lt_of_cell? w _ hw124_3)).trans hw124_3), ((HB.out.cell (World.block_lt_of_cell? w _ hw124_4)).trans hw124_4), ((HB.out.cell (World.block_lt_of_cell? w _ hw124_5)).trans hw124_5), ((HB.out.cell (World.block_lt_of_cell? w _ hw126_0)).trans hw126_0), ((HB.out.cell (World.block_lt_of_cell? w _ hw126_1)).trans hw126_1), ((HB.out.cell (World.block_lt_of_cell? w _ hw126_2)).trans hw126_2), ((HB.out.cell (World.block_lt_of_cell? w _ hw126_3)).trans hw126_3), ((HB.out.cell (World.block_lt_of_cell? w _ hw126_4)).trans hw126_4), ((HB.out.cell (World.block_lt_of_cell? w _ hw126_5)).trans hw126_5), ((HB.out.cell (World.block_lt_of_cell? w _ hw127_0)).trans hw127_0), ((HB.out.cell (World.block_lt_of_cell? w _ hw127_1)).trans hw127_1), ((HB.out.cell (World.block_lt_of_cell? w _ hw127_2)).trans hw127_2), ((HB.out.cell (World.block_lt_of_cell? w _ hw127_3)).trans hw127_3), ((HB.out.cell (World.block_lt_of_cell? w _ hw127_4)).trans hw127_4), ((HB.out.cell (World.block_lt_of_cell? w _ hw127_5)).trans hw127_5)⟩ (fun hHeld => ?_); refine with_tabW spec_l14List.tab6 spec_l14List.bits6 (fun HT_ HW_ => ?_)
     generalize wr.drew = w12 at HB hx124_0 hx124_1 hx124_2 hx124_3 hx124_4 hx124_5 hx126_0 hx126_1 hx126_2 hx126_3 hx126_4 hx126_5 hx127_0 hx127_1 hx127_2 hx127_3 hx127_4 hx127_5 hHeld ⊢
     refine zpu 0 14 #[T,F,F,F,F,F,F,F,F,F,F,F,F,F,F,F,F,F,F,F,F,F,F,F] HT_.out ?_
     refine zpu 1 15 #[T,T,F,F,F,F,F,F,F,F,F,F,F,F,F,F,F,F,F,F,F,F,F,F] HT_.out ?_
     refine zpu 2 16 #[T,T,T,F,F,F,F,F,F,F,F,F,F,F,F,F,F,F,F,F,F,F,F,F] HT_.out ?_
     refine take_ (i := 3) (N := some 17) (v := ?_) (a' := ?_) #[T,T,T,T,F,F,F,F,F,F,F,F,F,F,F,F,F,F,F,F,F,F,F,F] rfl rfl (take_ofW HT_.out HW_.out (by kernel_rfl)) (fun _ _ _ h => h) (Or.inl ⟨by rfl, ?_⟩) hHeld ?_ ?_
     rotate_left
     ·rintro w' ⟨s0, s1, s2, s3, s4, s5, s6, s7, s8, s9, s10, s11, s12, s13, s14, s15, s16, s17⟩
      go_simp
      with_reducible rfl
     rotate_left
     ·exact zpx
     refine one_ (i := 4) (N := some 18) #[T,T,T,T,T,F,F,F,F,F,F,F,F,F,F,F,F,F,F,F,F,F,F,F] rfl rfl (one_of HT_.out (by kernel_rfl)) (by decide) (fun K hK => ?_)
     refine goes_ Tryz.func47 (by kernel_rfl) rfl #[.agg #[.int .i64 ((rd_T25 l0 x3_1).f0), .int .i64 ((rd_T25 l0 x3_1).f1), .int .i64 ((rd_T25 l0 x3_1).f2), .int .i64 ((rd_T25 l0 x3_1).f3), .int .i64 ((rd_T25 l0 x3_1).f4), .int .i64 ((rd_T25 l0 x3_1).f5)]] (by rfl) rfl rfl zlx ?_
     with_reducible refine (spec_l14Good.calls ((rd_T25 l0 x3_1).f0) ((rd_T25 l0 x3_1).f1) ((rd_T25 l0 x3_1).f2) ((rd_T25 l0 x3_1).f3) ((rd_T25 l0 x3_1).f4) ((rd_T25 l0 x3_1).f5) true _ A6.out).mono ?_
     rintro e w13 ⟨rfl, hb⟩
     refine ⟨_, rfl, ?_⟩
     replace HB := Aside0.mk (below_step (zBx HB.out) hb)
     (try clear hb)
     (try clear hb2)
     (try clear hk)
     (try clear hi)
     refine hK.out _ _ ⟨((HB.out.cell (World.block_lt_of_cell? w _ hw124_0)).trans hw124_0), ((HB.out.cell (World.block_lt_of_cell? w _ hw124_1)).trans hw124_1), ((HB.out.cell (World.block_lt_of_cell? w _ hw124_2)).trans hw124_2), ((HB.out.cell (World.block_lt_of_cell? w _ hw124_3)).trans hw124_3), ((HB.out.cell (World.block_lt_of_cell? w _ hw124_4)).trans hw124_4), ((HB.out.cell (World.block_lt_of_cell? w _ hw124_5)).trans hw124_5), ((HB.out.cell (World.block_lt_of_cell? w _ hw126_0)).trans hw126_0), ((HB.out.cell (World.block_lt_of_cell? w _ hw126_1)).trans hw126_1), ((HB.out.cell (World.block_lt_of_cell? w _ hw126_2)).trans hw126_2), ((HB.out.cell (World.block_lt_of_cell? w _ hw126_3)).trans hw126_3), ((HB.out.cell (World.block_lt_of_cell? w _ hw126_4)).trans hw126_4), ((HB.out.cell (World.block_lt_of_cell? w _ hw126_5)).trans hw126_5), ((HB.out.cell (World.block_lt_of_cell? w _ hw127_0)).trans hw127_0), ((HB.out.cell (World.block_lt_of_cell? w _ hw127_1)).trans hw127_1), ((HB.out.cell (World.block_lt_of_cell? w _ hw127_2)).trans hw127_2), ((HB.out.cell (World.block_lt_of_cell? w _ hw127_3)).trans hw127_3), ((HB.out.cell (World.block_lt_of_cell? w _ hw127_4)).trans hw127_4), ((HB.out.cell (World.block_lt_of_cell? w _ hw127_5)).trans hw127_5)⟩ (fun hHeld => ?_)
     clear hK K
     refine norm_ (a' := ?_) ?_ ?_
     rotate_left
     ·show Act.put _ (some 18) _ = _
      simp only [Act.put, List.setIfInBounds_toArray, List.set_cons_zero, List.set_cons_succ, i64_w, i32_w]
      rfl
     refine zpu 5 19 #[T,T,T,T,T,T,F,F,F,F,F,F,F,F,F,F,F,F,F,F,F,F,F,F] HT_.out ?_
     refine zpu 6 20 #[T,T,T,T,T,T,T,F,F,F,F,F,F,F,F,F,F,F,F,F,F,F,F,F] HT_.out ?_
     refine zpu 7 21 #[T,T,T,T,T,T,T,T,F,F,F,F,F,F,F,F,F,F,F,F,F,F,F,F] HT_.out ?_
     refine zpu 8 22 #[T,T,T,T,T,T,T,T,T,F,F,F,F,F,F,F,F,F,F,F,F,F,F,F] HT_.out ?_
     refine zpu 9 23 #[T,T,T,T,T,T,T,T,T,T,F,F,F,F,F,F,F,F,F,F,F,F,F,F] HT_.out ?_
     refine zpu 10 24 #[T,T,T,T,T,T,T,T,T,T,T,F,F,F,F,F,F,F,F,F,F,F,F,F] HT_.out ?_
     refine zpu 11 25 #[T,T,T,T,T,T,T,T,T,T,T,T,F,F,F,F,F,F,F,F,F,F,F,F] HT_.out ?_
     refine zpu 12 26 #[T,T,T,T,T,T,T,T,T,T,T,T,T,F,F,F,F,F,F,F,F,F,F,F] HT_.out ?_
     refine zpu 13 27 #[T,T,T,T,T,T,T,T,T,T,T,T,T,T,F,F,F,F,F,F,F,F,F,F] HT_.out ?_
     refine zpu 14 28 #[T,T,T,T,T,T,T,T,T,T,T,T,T,T,T,F,F,F,F,F,F,F,F,F] HT_.out ?_
     refine zpu 16 30 #[T,T,T,T,T,T,T,T,T,T,T,T,T,T,T,F,T,F,F,F,F,F,F,F] HT_.out ?_
     refine zpu 17 31 #[T,T,T,T,T,T,T,T,T,T,T,T,T,T,T,F,T,T,F,F,F,F,F,F] HT_.out ?_
     refine zpu 18 32 #[T,T,T,T,T,T,T,T,T,T,T,T,T,T,T,F,T,T,T,F,F,F,F,F] HT_.out ?_
     refine zpu 19 33 #[T,T,T,T,T,T,T,T,T,T,T,T,T,T,T,F,T,T,T,T,F,F,F,F] HT_.out ?_
     refine take_ (i := 15) (N := some 29) (v := ?_) (a' := ?_) #[T,T,T,T,T,T,T,T,T,T,T,T,T,T,T,T,T,T,T,T,F,F,F,F] rfl rfl (take_ofW HT_.out HW_.out (by kernel_rfl)) (fun _ _ _ h => h) (Or.inl ⟨by rfl, ?_⟩) hHeld ?_ ?_
     rotate_left
     ·rintro w' ⟨s0, s1, s2, s3, s4, s5, s6, s7, s8, s9, s10, s11, s12, s13, s14, s15, s16, s17⟩
      go_simp
      with_reducible rfl
     rotate_left
     ·exact zpx
     refine take_ (i := 20) (N := some 34) (v := ?_) (a' := ?_) #[T,T,T,T,T,T,T,T,T,T,T,T,T,T,T,T,T,T,T,T,T,F,F,F] rfl rfl (take_ofW HT_.out HW_.out (by kernel_rfl)) (fun _ _ _ h => h) (Or.inl ⟨by rfl, ?_⟩) hHeld ?_ ?_
     rotate_left
     ·rintro w' ⟨s0, s1, s2, s3, s4, s5, s6, s7, s8, s9, s10, s11, s12, s13, s14, s15, s16, s17⟩
      go_simp
      with_reducible rfl
     rotate_left
     ·exact zpx
     refine zpu 21 35 #[T,T,T,T,T,T,T,T,T,T,T,T,T,T,T,T,T,T,T,T,T,T,F,F] HT_.out ?_
     refine zpu 22 36 #[T,T,T,T,T,T,T,T,T,T,T,T,T,T,T,T,T,T,T,T,T,T,T,F] HT_.out ?_
     refine zpu 23 37 #[T,T,T,T,T,T,T,T,T,T,T,T,T,T,T,T,T,T,T,T,T,T,T,T] HT_.out ?_
     refine done_ (done_of HT_.out (by kernel_rfl)) ?_
     try go_wp2
     go_meet
     case rel => exact ⟨_, (decide (((rd_T25 l0 (ji9)).f0) ≥ ((rd_T25 l0 x3_1).f0))), (by first | rfl | (simp; done) | (simp only [← hji9] <;> (first | rfl | simp)) | (simp [*]; done)), H', ⟨by have := HK1.out; first | omega | exact Nat.le_refl _⟩, ⟨by exact zBx HB.out⟩⟩
   case rest =>
    clear HC4
    try clear c1
    try clear p1
    try clear q1
    try clear hx1
    try clear p2
    try clear c4
    try clear c5
    try clear c7
    try clear c8
    try clear c8b0
    try clear c10
    try clear c11
    try clear p12
    try clear q12
    try clear hx12
    try clear hx124_0
    try clear hx124_1
    try clear hx124_2
    try clear hx124_3
    try clear hx124_4
    try clear hx124_5
    try clear hx126_0
    try clear hx126_1
    try clear hx126_2
    try clear hx126_3
    try clear hx126_4
    try clear hx126_5
    try clear hx127_0
    try clear hx127_1
    try clear hx127_2
    try clear hx127_3
    try clear hx127_4
    try clear hx127_5
    try clear p124
    try clear p127
    try clear q124
    try clear q127
    obtain ⟨kq, x37_3, rfl, HA, HJ3, HB⟩ := hcut
    cases kq with
    | zero => exact absurd HA.out (by simp [spec_l14List.j1])
    | succ kj3 =>
     have H := HA.out
     clear HA
     simp only [spec_l14List.j1] at H
     by_cases c18 : x37_3 = true
     ·subst c18
      rw [if_pos rfl] at H
      focus
       obtain rfl := Option.some.inj H
       go_wp2
       go_ret
       exact ⟨by first | rfl | (simp [errW_none, errW_some] <;> rfl) | (simp [*, errW_none, errW_some] <;> rfl), by exact zBx HB.out⟩
     replace c18 := Bool.eq_false_iff.mpr c18
     subst c18
     rw [if_neg (show ¬ (false = true) by decide)] at H
     have H' := Aside0.mk H
     clear H
     go_wp2
     go_loopg [4] kj3 (fun kq v4 w' => ∃ (x4_3 : Int), v4 = .int .i64 x4_3 ∧ Aside0 (spec_l14List.l1 kq l0 x3_1 x4_3 = some r) ∧ Aside0 (kq ≤ kj3) ∧ Aside0 (Below w.heap.size w w'))
     case atStart => exact ⟨(0), zrx, H', ⟨Nat.le_refl _⟩, ⟨by exact zBx HB.out⟩⟩
     case round =>
      clear H'
      try clear c1
      try clear p1
      try clear q1
      try clear hx1
      try clear p2
      try clear c4
      try clear c5
      try clear c7
      try clear c8
      try clear c8b0
      try clear c10
      try clear c11
      try clear p12
      try clear q12
      try clear hx12
      try clear c18
      try clear hx124_0
      try clear hx124_1
      try clear hx124_2
      try clear hx124_3
      try clear hx124_4
      try clear hx124_5
      try clear hx126_0
      try clear hx126_1
      try clear hx126_2
      try clear hx126_3
      try clear hx126_4
      try clear hx126_5
      try clear hx127_0
      try clear hx127_1
      try clear hx127_2
      try clear hx127_3
      try clear hx127_4
      try clear hx127_5
      try clear p1
      try clear p12
      try clear p124
      try clear p127
      try clear p2
      try clear q1
      try clear q12
      try clear q124
      try clear q127
      obtain ⟨x4_3, rfl, HA, HK3, HB⟩ := hrel
      cases gk with
      | zero => exact absurd HA.out (by simp [spec_l14List.l1])
      | succ k3 =>
       have H := HA.out
       clear HA
       simp only [spec_l14List.l1] at H
       by_cases c19 : x4_3 < x3_1
       rotate_left
       ·rw [if_neg c19] at H
        have c19b0 : decide (x4_3 < x3_1) = false := decide_eq_false c19
        clear c19
        focus
         have H' := Aside0.mk H
         clear H
         go_wp2
         go_roundg k3
         case measure => have := HK1.out; have := HJ3.out; have := HK3.out; omega
         case rel => exact ⟨(wrap64 (x3_1 + 1)), zrx, H', ⟨by have := HK1.out; have := HJ3.out; have := HK3.out; omega⟩, ⟨by exact zBx HB.out⟩⟩
       rw [if_pos c19] at H
       have c19b0 : decide (x4_3 < x3_1) = true := decide_eq_true c19
       clear c19
       obtain ⟨c20, H⟩ := zin H
       have c20b0 : decide (0 ≤ x4_3) = true := decide_eq_true c20
       clear c20
       obtain ⟨c21, H⟩ := zin H
       have c21b0 : decide (x4_3 < (l0.length : Int)) = true := decide_eq_true c21
       clear c21
       obtain ⟨c22, H⟩ := zin H
       have c22b0 : decide (0 ≤ x3_1) = true := decide_eq_true c22
       clear c22
       obtain ⟨c23, H⟩ := zin H
       have c23b0 : decide (x3_1 < (l0.length : Int)) = true := decide_eq_true c23
       clear c23
       replace H := Option.bind_eq_some_iff.mp H
       obtain ⟨t130, A240, H⟩ := H
       replace H : (if t130 = true then (some false) else (spec_l14List.l1 k3 l0 x3_1 (wrap64 (x4_3 + 1)))) = some r := H
       have A24 := Aside0.mk A240
       clear A240
       have HH_ := Aside0.mk H
       clear H
       try go_wp2
       replace HB := Aside0.mk (below_drew1 HB.out)
       have p128 : 0 ≤ (x4_3 : Int) := of_decide_eq_true zax
       have q128 : x4_3 < (l0.length : Int) := of_decide_eq_true zax
       obtain ⟨ad128, e128, hx128_0, hx128_1, hx128_2, hx128_3, hx128_4, hx128_5⟩ := at_T25 HR0.out x4_3 p128 q128
       have hw128_5 := hx128_5
       have hw128_4 := hx128_4
       have hw128_3 := hx128_3
       have hw128_2 := hx128_2
       have hw128_1 := hx128_1
       have hw128_0 := hx128_0
       cases e128
       replace hx128_0 := (HB.out.cell (World.block_lt_of_cell? w _ hx128_0)).trans hx128_0
       replace hx128_1 := (HB.out.cell (World.block_lt_of_cell? w _ hx128_1)).trans hx128_1
       replace hx128_2 := (HB.out.cell (World.block_lt_of_cell? w _ hx128_2)).trans hx128_2
       replace hx128_3 := (HB.out.cell (World.block_lt_of_cell? w _ hx128_3)).trans hx128_3
       replace hx128_4 := (HB.out.cell (World.block_lt_of_cell? w _ hx128_4)).trans hx128_4
       replace hx128_5 := (HB.out.cell (World.block_lt_of_cell? w _ hx128_5)).trans hx128_5
       replace p128 := eq_true p128
       replace q128 := eq_true q128
       have p129 : 0 ≤ (x3_1 : Int) := of_decide_eq_true zax
       have q129 : x3_1 < (l0.length : Int) := of_decide_eq_true zax
       obtain ⟨ad129, e129, hx129_0, hx129_1, hx129_2, hx129_3, hx129_4, hx129_5⟩ := at_T25 HR0.out x3_1 p129 q129
       have hw129_5 := hx129_5
       have hw129_4 := hx129_4
       have hw129_3 := hx129_3
       have hw129_2 := hx129_2
       have hw129_1 := hx129_1
       have hw129_0 := hx129_0
       obtain rfl : ad128 = ad129 := (by injection e129)
       replace hx129_0 := (HB.out.cell (World.block_lt_of_cell? w _ hx129_0)).trans hx129_0
       replace hx129_1 := (HB.out.cell (World.block_lt_of_cell? w _ hx129_1)).trans hx129_1
       replace hx129_2 := (HB.out.cell (World.block_lt_of_cell? w _ hx129_2)).trans hx129_2
       replace hx129_3 := (HB.out.cell (World.block_lt_of_cell? w _ hx129_3)).trans hx129_3
       replace hx129_4 := (HB.out.cell (World.block_lt_of_cell? w _ hx129_4)).trans hx129_4
       replace hx129_5 := (HB.out.cell (World.block_lt_of_cell? w _ hx129_5)).trans hx129_5
       replace p129 := eq_true p129
       replace q129 := eq_true q129
       refine start_ (n := 9) (S := fun w' => w'.cell? (ad128.add ((x4_3).toNat * 6)) = some (.int .i64 ((rd_T25 l0 x4_3).f0)) ∧ w'.cell? ⟨(ad128.add ((x4_3).toNat * 6)).block, (ad128.add ((x4_3).toNat * 6)).off + 1, none⟩ = some (.int .i64 ((rd_T25 l0 x4_3).f1)) ∧ w'.cell? ⟨(ad128.add ((x4_3).toNat * 6)).block, (ad128.add ((x4_3).toNat * 6)).off + 2, none⟩ = some (.int .i64 ((rd_T25 l0 x4_3).f2)) ∧ w'.cell? ⟨(ad128.add ((x4_3).toNat * 6)).block, (ad128.add ((x4_3).toNat * 6)).off + 3, none⟩ = some (.int .i64 ((rd_T25 l0 x4_3).f3)) ∧ w'.cell? ⟨(ad128.add ((x4_3).toNat * 6)).block, (ad128.add ((x4_3).toNat * 6)).off + 4, none⟩ = some (.int .i64 ((rd_T25 l0 x4_3).f4)) ∧ w'.cell? ⟨(ad128.add ((x4_3).toNat * 6)).block, (ad128.add ((x4_3).toNat * 6)).off + 5, none⟩ = some (.int .i64 ((rd_T25 l0 x4_3).f5)) ∧ w'.cell? (ad128.add ((x3_1).toNat * 6)) = some (.int .i64 ((rd_T25 l0 x3_1).f0)) ∧ w'.cell? ⟨(ad128.add ((x3_1).toNat * 6)).block, (ad128.add ((x3_1).toNat * 6)).off + 1, none⟩ = some (.int .i64 ((rd_T25 l0 x3_1).f1)) ∧ w'.cell? ⟨(ad128.add ((x3_1).toNat * 6)).block, (ad128.add ((x3_1).toNat * 6)).off + 2, none⟩ = some (.int .i64 ((rd_T25 l0 x3_1).f2)) ∧ w'.cell? ⟨(ad128.add ((x3_1).toNat * 6)).block, (ad128.add ((x3_1).toNat * 6)).off + 3, none⟩ = some (.int .i64 ((rd_T25 l0 x3_1).f3)) ∧ w'.cell? ⟨(ad128.add ((x3_1).toNat * 6)).block, (ad128.add ((x3_1).toNat * 6)).off + 4, none⟩ = some (.int .i64 ((rd_T25 l0 x3_1).f4)) ∧ w'.cell? ⟨(ad128.add ((x3_1).toNat * 6)).block, (ad128.add ((x3_1).toNat * 6)).off + 5, none⟩ = some (.int .i64 ((rd_T25 l0 x3_1).f5))) (ds := []) #[F,F,F,F,F,F,F,F,F] (by kernel_rfl) rfl rfl ⟨((HB.out.cell (World.block_lt_of_cell? w _ hw128_0)).trans hw128_0), ((HB.out.cell (World.block_lt_of_cell? w _ hw128_1)).trans hw128_1), ((HB.out.cell (World.block_lt_of_cell? w _ hw128_2)).trans hw128_2), ((HB.out.cell (World.block_lt_of_cell? w _ hw128_3)).trans hw128_3), ((HB.out.cell (World.block_lt_of_cell? w _ hw128_4)).trans hw128_4), ((HB.out.cell (World.block_lt_of_cell? w _ hw128_5)).trans hw128_5), ((HB.out.cell (World.block_lt_of_cell? w _ hw129_0)).trans hw129_0), ((HB.out.cell (World.block_lt_of_cell? w _ hw129_1)).trans hw129_1), ((HB.out.cell (World.block_lt_of_cell? w _ hw129_2)).trans hw129_2), ((HB.out.cell (World.block_lt_of_cell? w _ hw129_3)).trans hw129_3), ((HB.out.cell (World.block_lt_of_cell? w _ hw129_4)).trans hw129_4), ((HB.out.cell (World.block_lt_of_cell? w _ hw129_5)).trans hw129_5)⟩ (fun hHeld => ?_); refine with_tabW spec_l14List.tab11 spec_l14List.bits11 (fun HT_ HW_ => ?_)
       generalize wr.drew = w26 at HB hx128_0 hx128_1 hx128_2 hx128_3 hx128_4 hx128_5 hx129_0 hx129_1 hx129_2 hx129_3 hx129_4 hx129_5 hHeld ⊢
       refine zpu 0 43 #[T,F,F,F,F,F,F,F,F] HT_.out ?_
       refine zpu 1 44 #[T,T,F,F,F,F,F,F,F] HT_.out ?_
       refine zpu 2 45 #[T,T,T,F,F,F,F,F,F] HT_.out ?_
       refine zpu 4 47 #[T,T,T,F,T,F,F,F,F] HT_.out ?_
       refine zpu 5 48 #[T,T,T,F,T,T,F,F,F] HT_.out ?_
       refine zpu 6 49 #[T,T,T,F,T,T,T,F,F] HT_.out ?_
       refine take_ (i := 3) (N := some 46) (v := ?_) (a' := ?_) #[T,T,T,T,T,T,T,F,F] rfl rfl (take_ofW HT_.out HW_.out (by kernel_rfl)) (fun _ _ _ h => h) (Or.inl ⟨by rfl, ?_⟩) hHeld ?_ ?_
       rotate_left
       ·rintro w' ⟨s0, s1, s2, s3, s4, s5, s6, s7, s8, s9, s10, s11⟩
        go_simp
        with_reducible rfl
       rotate_left
       ·exact zpx
       refine take_ (i := 7) (N := some 50) (v := ?_) (a' := ?_) #[T,T,T,T,T,T,T,T,F] rfl rfl (take_ofW HT_.out HW_.out (by kernel_rfl)) (fun _ _ _ h => h) (Or.inl ⟨by rfl, ?_⟩) hHeld ?_ ?_
       rotate_left
       ·rintro w' ⟨s0, s1, s2, s3, s4, s5, s6, s7, s8, s9, s10, s11⟩
        go_simp
        with_reducible rfl
       rotate_left
       ·exact zpx
       refine one_ (i := 8) (N := some 51) #[T,T,T,T,T,T,T,T,T] rfl rfl (one_of HT_.out (by kernel_rfl)) (by decide) (fun K hK => ?_)
       refine goes_ Tryz.func133 (by kernel_rfl) rfl #[.agg #[.int .i64 ((rd_T25 l0 x4_3).f0), .int .i64 ((rd_T25 l0 x4_3).f1), .int .i64 ((rd_T25 l0 x4_3).f2), .int .i64 ((rd_T25 l0 x4_3).f3), .int .i64 ((rd_T25 l0 x4_3).f4), .int .i64 ((rd_T25 l0 x4_3).f5)], .agg #[.int .i64 ((rd_T25 l0 x3_1).f0), .int .i64 ((rd_T25 l0 x3_1).f1), .int .i64 ((rd_T25 l0 x3_1).f2), .int .i64 ((rd_T25 l0 x3_1).f3), .int .i64 ((rd_T25 l0 x3_1).f4), .int .i64 ((rd_T25 l0 x3_1).f5)]] (by rfl) rfl rfl zlx ?_
       with_reducible refine (spec_l14Meet.calls ((rd_T25 l0 x4_3).f0) ((rd_T25 l0 x4_3).f1) ((rd_T25 l0 x4_3).f2) ((rd_T25 l0 x4_3).f3) ((rd_T25 l0 x4_3).f4) ((rd_T25 l0 x4_3).f5) ((rd_T25 l0 x3_1).f0) ((rd_T25 l0 x3_1).f1) ((rd_T25 l0 x3_1).f2) ((rd_T25 l0 x3_1).f3) ((rd_T25 l0 x3_1).f4) ((rd_T25 l0 x3_1).f5) t130 _ A24.out).mono ?_
       rintro e w27 ⟨rfl, hb⟩
       refine ⟨_, rfl, ?_⟩
       replace HB := Aside0.mk (below_step (zBx HB.out) hb)
       (try clear hb)
       refine hK.out _ _ ⟨((HB.out.cell (World.block_lt_of_cell? w _ hw128_0)).trans hw128_0), ((HB.out.cell (World.block_lt_of_cell? w _ hw128_1)).trans hw128_1), ((HB.out.cell (World.block_lt_of_cell? w _ hw128_2)).trans hw128_2), ((HB.out.cell (World.block_lt_of_cell? w _ hw128_3)).trans hw128_3), ((HB.out.cell (World.block_lt_of_cell? w _ hw128_4)).trans hw128_4), ((HB.out.cell (World.block_lt_of_cell? w _ hw128_5)).trans hw128_5), ((HB.out.cell (World.block_lt_of_cell? w _ hw129_0)).trans hw129_0), ((HB.out.cell (World.block_lt_of_cell? w _ hw129_1)).trans hw129_1), ((HB.out.cell (World.block_lt_of_cell? w _ hw129_2)).trans hw129_2), ((HB.out.cell (World.block_lt_of_cell? w _ hw129_3)).trans hw129_3), ((HB.out.cell (World.block_lt_of_cell? w _ hw129_4)).trans hw129_4), ((HB.out.cell (World.block_lt_of_cell? w _ hw129_5)).trans hw129_5)⟩ (fun hHeld => ?_)
       clear hK K
       refine norm_ (a' := ?_) ?_ ?_
       rotate_left
       ·show Act.put _ (some 51) _ = _
        simp only [Act.put, List.setIfInBounds_toArray, List.set_cons_zero, List.set_cons_succ, i64_w, i32_w]
        rfl
       refine done_ (done_of HT_.out (by kernel_rfl)) ?_
       have H := HH_.out
       clear HH_
       by_cases c25 : t130 = true
       ·subst c25
        rw [if_pos rfl] at H
        focus
         obtain rfl := Option.some.inj H
         try go_wp2
         go_ret
         exact ⟨by first | rfl | (simp [errW_none, errW_some] <;> rfl) | (simp [*, errW_none, errW_some] <;> rfl), by exact zBx HB.out⟩
       ·replace c25 := Bool.eq_false_iff.mpr c25
        subst c25
        rw [if_neg (show ¬ (false = true) by decide)] at H
        focus
         have H' := Aside0.mk H
         clear H
         try go_wp2
         go_roundg k3
         case measure => have := HK1.out; have := HJ3.out; have := HK3.out; omega
         case rel => exact ⟨(wrap64 (x4_3 + 1)), zrx, H', ⟨by have := HK1.out; have := HJ3.out; have := HK3.out; omega⟩, ⟨by exact zBx HB.out⟩⟩
end Go.Proofs.YtlfoojgbiafffaaGreatDoor.XFnExactReadBulletin
