-- written by wip/tools/xprint.py (a program of this project) out of the translation
import Derived.Test.YtlfoojgbiafffaaGreatDoorXFnBulletinsA
import Derived.Test.YtlfoojgbiafffaaGreatDoorStrsE
import Derived.Test.YtlfoojgbiafffaaGreatDoorXFnBulletinsB
import Derived.Test.YtlfoojgbiafffaaGreatDoorXFnBulletinsC
namespace Go.Proofs.YtlfoojgbiafffaaGreatDoor.XFnBulletins
open Go.RowKit Go.Proofs.YtlfoojgbiafffaaGreatDoorW.PrintWords Go.Proofs.YtlfoojgbiafffaaGreatDoorW.PrintLast Go.Proofs.YtlfoojgbiafffaaGreatDoorW.PrintMore
open Go.Proofs.YtlfoojgbiafffaaGreatDoor.Strs
attribute [local go_sem] max2_int min2_int max_two min_two max_three min_three max_four min_four
set_option linter.unusedVariables false
set_option linter.unusedSimpArgs false
set_option maxHeartbeats 8000000
set_option maxRecDepth 100000
attribute [local go_sem high] eqA25
mutual
def qe.j0 : Nat → List Int → List Int → List Int → Bool → Int → Int → List (S25) → Int → Int → List (S25) → Option (List Int × List Int × List Int × Bool)
 | 0, _, _, _, _, _, _, _, _, _, _ => none
 | k + 1, x8, x9, x10, x25, x558000, x558001, x558002, x559000, x559001, x559002 => if x25 = true then (some (x8, x9, x10, false)) else (qe.l0 k x8 x9 x10 0 x558000 x558001 x558002 x559000 x559001 x559002)
def qe.l0 : Nat → List Int → List Int → List Int → Int → Int → Int → List (S25) → Int → Int → List (S25) → Option (List Int × List Int × List Int × Bool)
 | 0, _, _, _, _, _, _, _, _, _, _ => none
 | k + 1, x8, x9, x10, x11, x558000, x558001, x558002, x559000, x559001, x559002 => if x11 < (x559002.length : Int) then (if 0 ≤ x11 then ((qU.f x558002 ((qa x559002 x11).f0)).bind fun t572 => (if t572 < 0 then (if x8.length < 17592186044416 then (qe.l0 k (x8 ++ [(qa x559002 x11).f0]) x9 x10 (wrap64 (x11 + 1)) x558000 x558001 x558002 x559000 x559001 x559002) else (none)) else (if 0 ≤ t572 then (if t572 < (x558002.length : Int) then (if (!(((qa x558002 t572).f0) == ((qa x559002 x11).f0)) || (!(((qa x558002 t572).f1) == ((qa x559002 x11).f1)) || (!(((qa x558002 t572).f2) == ((qa x559002 x11).f2)) || (!(((qa x558002 t572).f3) == ((qa x559002 x11).f3)) || (!(((qa x558002 t572).f4) == ((qa x559002 x11).f4)) || (!(((qa x558002 t572).f5) == ((qa x559002 x11).f5)))))))) = true then (if x10.length < 17592186044416 then (qe.l0 k x8 x9 (x10 ++ [(qa x559002 x11).f0]) (wrap64 (x11 + 1)) x558000 x558001 x558002 x559000 x559001 x559002) else (none)) else (qe.l0 k x8 x9 x10 (wrap64 (x11 + 1)) x558000 x558001 x558002 x559000 x559001 x559002)) else (none)) else (none)))) else (none)) else (qe.l1 k x8 x9 x10 0 x558000 x558001 x558002 x559000 x559001 x559002)
def qe.l1 : Nat → List Int → List Int → List Int → Int → Int → Int → List (S25) → Int → Int → List (S25) → Option (List Int × List Int × List Int × Bool)
 | 0, _, _, _, _, _, _, _, _, _, _ => none
 | k + 1, x8, x9, x10, x14, x558000, x558001, x558002, x559000, x559001, x559002 => if x14 < (x558002.length : Int) then (if 0 ≤ x14 then ((qU.f x559002 ((qa x558002 x14).f0)).bind fun t581 => (if t581 < 0 then (if x9.length < 17592186044416 then (qe.l1 k x8 (x9 ++ [(qa x558002 x14).f0]) x10 (wrap64 (x14 + 1)) x558000 x558001 x558002 x559000 x559001 x559002) else (none)) else (qe.l1 k x8 x9 x10 (wrap64 (x14 + 1)) x558000 x558001 x558002 x559000 x559001 x559002))) else (none)) else (some (x8, x9, x10, true))
end
def qe.f (k : Nat) (a0_0 : Int) (a0_1 : Int) (l0_2 : List (S25)) (a1_0 : Int) (a1_1 : Int) (l1_2 : List (S25)) : Option (List Int × List Int × List Int × Bool) := (some (([] : List Int) : List Int)).bind fun y559 => ((some (([] : List Int) : List Int)).bind fun y562 => ((some (([] : List Int) : List Int)).bind fun y565 => ((qN.f k a0_0 a0_1 l0_2).bind fun t568 => (if t568 = true then ((qN.f k a1_0 a1_1 l1_2).bind fun t569 => (qe.j0 k y559 y562 y565 (!t569) a0_0 a0_1 l0_2 a1_0 a1_1 l1_2)) else (qe.j0 k y559 y562 y565 true a0_0 a0_1 l0_2 a1_0 a1_1 l1_2)))))
def qe.T16 : Bool × List (List Nat × List Nat) := (true, [([], []), ([0], [0]), ([], []), ([2], [2]), ([], []), ([3, 4], [3, 4]), ([5], [5]), ([6], [6]), ([1, 7], [1, 7]), ([8], [8])])
def qe.B16 : List Nat := [0, 1, 0, 4, 0, 28, 60, 124, 255, 511]
theorem qe.tab16 : rtab .any (opsOf Tryz.f29 16) = qe.T16 := by kernel_rfl
theorem qe.bits16 : waitsOk qe.T16.2 qe.B16 = true := by kernel_rfl
theorem qe.calls (k : Nat) (a0_0 : Int) (a0_1 : Int) (A0_2 : Option Addr) (c0_2 : Nat) (l0_2 : List (S25)) (a1_0 : Int) (a1_1 : Int) (A1_2 : Option Addr) (c1_2 : Nat) (l1_2 : List (S25)) (r1 : List Int) (r2 : List Int) (r3 : List Int) (r4 : Bool) (w : World) (hr0_2 : Kd.C k25 w A0_2 l0_2.length l0_2) (hc0_2 : l0_2.length ≤ c0_2) (hr1_2 : Kd.C k25 w A1_2 l1_2.length l1_2) (hc1_2 : l1_2.length ≤ c1_2) (h : qe.f k a0_0 a0_1 l0_2 a1_0 a1_1 l1_2 = some (r1, r2, r3, r4)) :
 Calls Tryz.prog 29 #[.agg #[.int .i64 a0_0, .int .i64 a0_1, .slice A0_2 l0_2.length c0_2], .agg #[.int .i64 a1_0, .int .i64 a1_1, .slice A1_2 l1_2.length c1_2]] w fun e w' => ∃ v0_ v1_ v2_ : Value, e = .returned (.tuple #[v0_, v1_, v2_, .bool r4]) ∧ Kd.R (Kd.int .i64) 3 w' w.heap.size (fun k_ => some k_ ≠ (v1_ : Value).ownBlock ∧ some k_ ≠ (v2_ : Value).ownBlock) v0_ r1 ∧ Kd.R (Kd.int .i64) 3 w' w.heap.size (fun k_ => some k_ ≠ (v0_ : Value).ownBlock ∧ some k_ ≠ (v2_ : Value).ownBlock) v1_ r2 ∧ Kd.R (Kd.int .i64) 3 w' w.heap.size (fun k_ => some k_ ≠ (v0_ : Value).ownBlock ∧ some k_ ≠ (v1_ : Value).ownBlock) v2_ r3 ∧ Below w.heap.size w w' := by
 have hu34 := Tryz.underlying34
 have hu25 := Tryz.underlying25
 have HR0_2 := am hr0_2
 have HC0_2 := am hc0_2
 clear hr0_2 hc0_2
 have HR1_2 := am hr1_2
 have HC1_2 := am hc1_2
 clear hr1_2 hc1_2
 have HB := am (Below.refl w.heap.size w)
 unfold qe.f at h
 have H := h
 clear h
 obtain ⟨y559, hy559⟩ : ∃ y_ : List Int, y_ = (([] : List Int)) := ⟨_, rfl⟩
 replace H := zyb hy559 H
 have Ny559 := am hy559
 clear hy559
 obtain ⟨y562, hy562⟩ : ∃ y_ : List Int, y_ = (([] : List Int)) := ⟨_, rfl⟩
 replace H := zyb hy562 H
 have Ny562 := am hy562
 clear hy562
 obtain ⟨y565, hy565⟩ : ∃ y_ : List Int, y_ = (([] : List Int)) := ⟨_, rfl⟩
 replace H := zyb hy565 H
 have Ny565 := am hy565
 clear hy565
 have HC3 := am H
 clear H
 go_enter Tryz.func29, Tryz.ntmps29
 go_upto_region 2 with (first | ((with_reducible refine zgd 2 rfl ?_); refine zbe 2 #[.int .i64 a0_0, .int .i64 a0_1, .slice A0_2 l0_2.length c0_2] 34 ?_; intro gb557 hg w4 hbox hb; have BK557 := am (hbox); have GW557 := zns hg HB.o; have GE557 := zns hg HB.o; replace HB := zhs HB hb; clear hb hbox hg) | ((with_reducible refine zgd 3 rfl ?_); refine zbe 3 #[.int .i64 a1_0, .int .i64 a1_1, .slice A1_2 l1_2.length c1_2] 34 ?_; intro gb558 hg w5 hbox hb; have BK558 := am (hbox); have GW558 := zns hg HB.o; have GE558 := zns hg HB.o; replace HB := zhs HB hb; have NB557_558 := znl hg BK557.o; have NB558_557 := zng hg BK557.o; replace BK557 := zbl BK557.o hb; clear hb hbox hg) | ((with_reducible refine zgd 15 rfl ?_); refine Kd.R_lit (Kd.int .i64) _ 3 ?hg (N := 15) ?hd (xs := ([] : List Int)) (inner := []) (ok := fun _ => True) (okp := fun _ => True) ?hr ?hp (fun _ hk => hk) trivial (Below.refl _ _) (Nat.le_refl _) (by simp) ?_; (case hd => rfl); (case hg => rfl); (case hr => exact zsx); (case hp => exact (Reps.none _ _)); intro v560 w6 ho7 hb hg_ hnew_; clear hg_ hnew_; (first | rw [← Ny559.o] at ho7 | (simp only [Int.reduceToNat] at ho7; rw [← Ny559.o] at ho7)); have HO561 := am (Kd.R_lower ho7 (below_size (zBz HB.o GE557.o GE558.o))); replace BK557 := zbl BK557.o hb; replace BK558 := zbl BK558.o hb; replace HB := zhs HB hb; clear hb ho7) | ((with_reducible refine zgd 16 rfl ?_); refine Kd.R_lit (Kd.int .i64) _ 3 ?hg (N := 16) ?hd (xs := ([] : List Int)) (inner := []) (ok := fun _ => True) (okp := fun _ => True) ?hr ?hp (fun _ hk => hk) trivial (Below.refl _ _) (Nat.le_refl _) (by simp) ?_; (case hd => rfl); (case hg => rfl); (case hr => exact zsx); (case hp => exact (Reps.none _ _)); intro v563 w8 ho9 hb hg_ hnew_; clear hg_ hnew_; (first | rw [← Ny562.o] at ho9 | (simp only [Int.reduceToNat] at ho9; rw [← Ny562.o] at ho9)); have HO564 := am (Kd.R_lower (Kd.R_new' ho9 (Kd.R_lt (zRx HO561.o))) (below_size (zBz HB.o GE557.o GE558.o))); replace HO561 := am (Kd.R_elder' (zRx HO561.o) (Kd.R_base ho9) hb); replace BK557 := zbl BK557.o hb; replace BK558 := zbl BK558.o hb; replace HB := zhs HB hb; clear hb ho9) | ((with_reducible refine zgd 17 rfl ?_); refine Kd.R_lit (Kd.int .i64) _ 3 ?hg (N := 17) ?hd (xs := ([] : List Int)) (inner := []) (ok := fun _ => True) (okp := fun _ => True) ?hr ?hp (fun _ hk => hk) trivial (Below.refl _ _) (Nat.le_refl _) (by simp) ?_; (case hd => rfl); (case hg => rfl); (case hr => exact zsx); (case hp => exact (Reps.none _ _)); intro v566 w10 ho11 hb hg_ hnew_; clear hg_ hnew_; (first | rw [← Ny565.o] at ho11 | (simp only [Int.reduceToNat] at ho11; rw [← Ny565.o] at ho11)); have HO567 := am (Kd.R_lower (Kd.R_new' (Kd.R_new' ho11 (Kd.R_lt (zRx HO561.o))) (Kd.R_lt (zRx HO564.o))) (below_size (zBz HB.o GE557.o GE558.o))); replace HO561 := am (Kd.R_elder' (zRx HO561.o) (Kd.R_base ho11) hb); replace HO564 := am (Kd.R_elder' (zRx HO564.o) (Kd.R_base ho11) hb); replace BK557 := zbl BK557.o hb; replace BK558 := zbl BK558.o hb; replace HB := zhs HB hb; clear hb ho11))
 (try simp only [Act.put, List.setIfInBounds_toArray, List.set_cons_zero, List.set_cons_succ])
 go_cut [25] (fun v25 wc => ∃ (kq : Nat) (x25_2 : Bool), v25 = .bool x25_2 ∧ Aq (qe.j0 kq y559 y562 y565 x25_2 a0_0 a0_1 l0_2 a1_0 a1_1 l1_2 = some (r1, r2, r3, r4)) ∧ Aq (kq ≤ k) ∧ Aq (Kd.R (Kd.int .i64) 3 wc w.heap.size (fun k_ => some k_ ≠ (v563 : Value).ownBlock ∧ some k_ ≠ (v566 : Value).ownBlock) v560 y559) ∧ Aq (Kd.R (Kd.int .i64) 3 wc w.heap.size (fun k_ => some k_ ≠ (v560 : Value).ownBlock ∧ some k_ ≠ (v566 : Value).ownBlock) v563 y562) ∧ Aq (Kd.R (Kd.int .i64) 3 wc w.heap.size (fun k_ => some k_ ≠ (v560 : Value).ownBlock ∧ some k_ ≠ (v563 : Value).ownBlock) v566 y565) ∧ Aq (wc.heap[gb557]? = some (.cells #[.int .i64 a0_0, .int .i64 a0_1, (.slice A0_2 l0_2.length c0_2)] 34 (0, 0))) ∧ Aq (wc.heap[gb558]? = some (.cells #[.int .i64 a1_0, .int .i64 a1_1, (.slice A1_2 l1_2.length c1_2)] 34 (0, 0))) ∧ Aq (Below w.heap.size w wc))
 case first =>
  have H := HC3.o
  clear HC3
  obtain ⟨t568, A12, H⟩ := zob H
  try dsimp only at H
  by_cases c13 : t568 = true
  rotate_left
  ·replace c13 := Bool.eq_false_iff.mpr c13
   subst c13
   rw [if_neg (show ¬ (false = true) by decide)] at H
   focus
    have H' := am H
    clear H
    have hnb20 := NB557_558.o
    have hnc20 := NB558_557.o
    have hcz21 := zc3 BK557.o
    go_wp2_with (first | ((with_reducible refine zgc 67 rfl ?_); refine zgl 19 Tryz.func67 #[.agg #[.int .i64 a0_0, .int .i64 a0_1, .slice A0_2 l0_2.length c0_2]] ?_; (with_reducible refine (qN.calls k a0_0 a0_1 _ _ l0_2 false _ ?side1 ?side2 A12.o).mono ?_); (case side1 => exact zCx (Kd.C_below HR0_2.o HB.o)); (case side2 => exact HC0_2.o); rintro e w22 ⟨rfl, hb⟩; refine ⟨_, rfl, ?_⟩; replace HO561 := zro HO561 hb; replace HO564 := zro HO564 hb; replace HO567 := zro HO567 hb; replace BK557 := zbl BK557.o hb; replace BK558 := zbl BK558.o hb; replace HB := zhs HB hb; clear hb))
    go_meet
    case rel => exact ⟨_, (true), zrx, H', ⟨by first | omega | exact Nat.le_refl _⟩, ⟨by refine zDR ?_; exact Kd.R_mono HO561.o (fun _ hk => by first | exact ⟨hk.1.2, hk.2⟩ | exact ⟨hk.2, hk.1.2⟩ | grind)⟩, ⟨by refine zDR ?_; exact Kd.R_mono HO564.o (fun _ hk => by first | exact ⟨hk.1.2, hk.2⟩ | exact ⟨hk.2, hk.1.2⟩ | grind)⟩, ⟨by refine zDR ?_; exact Kd.R_mono HO567.o (fun _ hk => by first | exact ⟨hk.1.2, hk.2⟩ | exact ⟨hk.2, hk.1.2⟩ | grind)⟩, ⟨zbx BK557.o⟩, ⟨zbx BK558.o⟩, ⟨zBz HB.o GE557.o GE558.o⟩⟩
  subst c13
  rw [if_pos rfl] at H
  obtain ⟨t569, A14, H⟩ := zob H
  try dsimp only at H
  focus
   have H' := am H
   clear H
   have hnb15 := NB557_558.o
   have hnc15 := NB558_557.o
   have hcz16 := zc3 BK557.o
   go_wp2_with (first | ((with_reducible refine zgc 67 rfl ?_); refine zgl 19 Tryz.func67 #[.agg #[.int .i64 a0_0, .int .i64 a0_1, .slice A0_2 l0_2.length c0_2]] ?_; (with_reducible refine (qN.calls k a0_0 a0_1 _ _ l0_2 true _ ?side1 ?side2 A12.o).mono ?_); (case side1 => exact zCx (Kd.C_below HR0_2.o HB.o)); (case side2 => exact HC0_2.o); rintro e w17 ⟨rfl, hb⟩; refine ⟨_, rfl, ?_⟩; replace HO561 := zro HO561 hb; replace HO564 := zro HO564 hb; replace HO567 := zro HO567 hb; replace BK557 := zbl BK557.o hb; replace BK558 := zbl BK558.o hb; replace HB := zhs HB hb; clear hb; have hcz18 := zc3 BK558.o) | (go_at_call 67; (with_reducible refine (qN.calls k a1_0 a1_1 _ _ l1_2 t569 _ ?side1 ?side2 A14.o).mono ?_); (case side1 => exact zCx (Kd.C_below HR1_2.o HB.o)); (case side2 => exact HC1_2.o); rintro e w19 ⟨rfl, hb⟩; replace HO561 := zro HO561 hb; replace HO564 := zro HO564 hb; replace HO567 := zro HO567 hb; replace BK557 := zbl BK557.o hb; replace BK558 := zbl BK558.o hb; replace HB := zhs HB hb; clear hb))
   go_meet
   case rel => exact ⟨_, (!t569), zrx, H', ⟨by first | omega | exact Nat.le_refl _⟩, ⟨by refine zDR ?_; exact Kd.R_mono HO561.o (fun _ hk => by first | exact ⟨hk.1.2, hk.2⟩ | exact ⟨hk.2, hk.1.2⟩ | grind)⟩, ⟨by refine zDR ?_; exact Kd.R_mono HO564.o (fun _ hk => by first | exact ⟨hk.1.2, hk.2⟩ | exact ⟨hk.2, hk.1.2⟩ | grind)⟩, ⟨by refine zDR ?_; exact Kd.R_mono HO567.o (fun _ hk => by first | exact ⟨hk.1.2, hk.2⟩ | exact ⟨hk.2, hk.1.2⟩ | grind)⟩, ⟨zbx BK557.o⟩, ⟨zbx BK558.o⟩, ⟨zBz HB.o GE557.o GE558.o⟩⟩
 case rest =>
  clear HC3
  obtain ⟨kq, x25_2, rfl, HA, HJ2, HO_8, HO_9, HO_10, BK557, BK558, HB⟩ := hcut
  cases kq with
  | zero => exact absurd HA.o (by simp [qe.j0])
  | succ kj2 =>
   have H := HA.o
   clear HA
   simp only [qe.j0] at H
   by_cases c23 : x25_2 = true
   ·subst c23
    rw [if_pos rfl] at H
    focus
     simp only [Option.some.injEq, Prod.mk.injEq] at H
     obtain ⟨rfl, rfl, rfl, rfl⟩ := H
     go_wp2
     refine bodyPost_ret (results_list (rs := [.tmp 4, .tmp 5, .tmp 6, .tmp 7]) rfl (by simp) (.tmp (.tmp (.tmp (.tmp .nil))))) rfl ?_
     exact ⟨_, _, _, zew, zDR HO_8.o, zDR HO_9.o, zDR HO_10.o, zBz HB.o GE557.o GE558.o⟩
   replace c23 := Bool.eq_false_iff.mpr c23
   subst c23
   rw [if_neg (show ¬ (false = true) by decide)] at H
   have H' := am H
   clear H
   go_wp2
   go_loopg [8, 10, 11] kj2 (fun kq v8 v10 v11 w' => ∃ (x8_2 : List Int) (x10_2 : List Int) (x11_2 : Int), v11 = .int .i64 x11_2 ∧ Aq (qe.l0 kq x8_2 y562 x10_2 x11_2 a0_0 a0_1 l0_2 a1_0 a1_1 l1_2 = some (r1, r2, r3, r4)) ∧ Aq (kq ≤ kj2) ∧ Aq (Kd.R (Kd.int .i64) 3 w' w.heap.size (fun k_ => some k_ ≠ (v563 : Value).ownBlock ∧ some k_ ≠ (v10 : Value).ownBlock) v8 x8_2) ∧ Aq (Kd.R (Kd.int .i64) 3 w' w.heap.size (fun k_ => some k_ ≠ (v8 : Value).ownBlock ∧ some k_ ≠ (v10 : Value).ownBlock) v563 y562) ∧ Aq (Kd.R (Kd.int .i64) 3 w' w.heap.size (fun k_ => some k_ ≠ (v8 : Value).ownBlock ∧ some k_ ≠ (v563 : Value).ownBlock) v10 x10_2) ∧ Aq (w'.heap[gb557]? = some (.cells #[.int .i64 a0_0, .int .i64 a0_1, (.slice A0_2 l0_2.length c0_2)] 34 (0, 0))) ∧ Aq (w'.heap[gb558]? = some (.cells #[.int .i64 a1_0, .int .i64 a1_1, (.slice A1_2 l1_2.length c1_2)] 34 (0, 0))) ∧ Aq (Below w.heap.size w w'))
   case atStart => exact ⟨(y559), (y565), (0), zrx, H', ⟨Nat.le_refl _⟩, ⟨zDR HO_8.o⟩, ⟨zDR HO_9.o⟩, ⟨zDR HO_10.o⟩, ⟨zbx BK557.o⟩, ⟨zbx BK558.o⟩, ⟨zBz HB.o GE557.o GE558.o⟩⟩
   case round =>
    clear H'
    try clear c23
    obtain ⟨x8_2, x10_2, x11_2, rfl, HA, HK2, HO_8, HO_9, HO_10, BK557, BK558, HB⟩ := hrel
    cases gk with
    | zero => exact absurd HA.o (by simp [qe.l0])
    | succ k2 =>
     have H := HA.o
     clear HA
     simp only [qe.l0] at H
     by_cases c24 : x11_2 < (l1_2.length : Int)
     ·rw [if_pos c24] at H
      have c24b0 := decide_eq_true c24
      clear c24
      obtain ⟨c25, H⟩ := zin H
      have c25b0 := decide_eq_true c25
      clear c25
      obtain ⟨t572, A26, H⟩ := zob H
      try dsimp only at H
      by_cases c27 : t572 < 0
      ·rw [if_pos c27] at H
       have c27b0 := decide_eq_true c27
       clear c27
       obtain ⟨c28, H⟩ := zin H
       have LMc28 := am c28
       clear c28
       obtain ⟨y573, hy573⟩ : ∃ y_ : List Int, y_ = (x8_2 ++ [(qa l1_2 x11_2).f0]) := ⟨_, rfl⟩
       replace H : (qe.l0 k2 y573 y562 x10_2 (wrap64 (x11_2 + 1)) a0_0 a0_1 l0_2 a1_0 a1_1 l1_2) = some (r1, r2, r3, r4) := by rw [hy573]; exact H
       have Ny573 := am hy573
       clear hy573
       focus
        have H' := am H
        clear H
        have hnb29 := NB558_557.o
        have hnc29 := NB557_558.o
        have hcz30 := zc3 BK558.o
        have p570 : 0 ≤ (x11_2 : Int) := zod
        have q570 : x11_2 < (l1_2.length : Int) := zod
        obtain ⟨ad570, e570, hx570_0, hx570_1, hx570_2, hx570_3, hx570_4, hx570_5⟩ := at_T25 HR1_2.o x11_2 p570 q570
        cases e570
        obtain ⟨hx570_0, hx570_1, hx570_2, hx570_3, hx570_4, hx570_5⟩ := zh6 HB hx570_0 hx570_1 hx570_2 hx570_3 hx570_4 hx570_5
        replace p570 := eq_true p570
        replace q570 := eq_true q570
        go_wp2_with (first | ((with_reducible refine zgd 12 rfl ?_); refine zbe 12 #[.int .i64 0, .int .i64 0, .int .i64 0, .int .i64 0, .int .i64 0, .int .i64 0] 25 ?_; intro gb571 hg w31 hbox hb; replace HO_8 := zro HO_8 hb; replace HO_9 := zro HO_9 hb; replace HO_10 := zro HO_10 hb; have BK571 := am (hbox); have GW571 := zns hg HB.o; have GE571 := zns hg HB.o; replace HB := zhs HB hb; have NB557_571 := znl hg BK557.o; have NB571_557 := zng hg BK557.o; replace BK557 := zbl BK557.o hb; have NB558_571 := znl hg BK558.o; have NB571_558 := zng hg BK558.o; replace BK558 := zbl BK558.o hb; clear hb hbox hg; have hnb32 := NB571_557.o; have hnc32 := NB557_571.o; have hnb33 := NB571_558.o; have hnc33 := NB558_571.o; have hcz34 := zc6 BK571.o; have hcz35 := zc3 BK557.o) | ((with_reducible refine zgc 77 rfl ?_); refine zgl 45 Tryz.func77 #[.slice A0_2 l0_2.length c0_2, .int .i64 ((qa l1_2 x11_2).f0)] ?_; (with_reducible refine (qU.calls _ _ l0_2 ((qa l1_2 x11_2).f0) t572 _ ?side1 ?side2 A26.o).mono ?_); (case side1 => exact Kd.C_below HR0_2.o (zhB HB.o)); (case side2 => exact HC0_2.o); rintro e w36 ⟨rfl, hb⟩; refine ⟨_, rfl, ?_⟩; replace HO_8 := am (Kd.R_below (by (with_reducible repeat (first | apply Kd.R_alloc | apply Kd.R_drewN | apply Kd.R_drew)); exact (Kd.R_mono (zRf (Kd.R_types HO_8.o BK571.o (by decide))) (fun _ h_ => h_.1))) hb); replace HO_9 := am (Kd.R_below (by (with_reducible repeat (first | apply Kd.R_alloc | apply Kd.R_drewN | apply Kd.R_drew)); exact (Kd.R_mono (zRf (Kd.R_types HO_9.o BK571.o (by decide))) (fun _ h_ => h_.1))) hb); replace HO_10 := am (Kd.R_below (by (with_reducible repeat (first | apply Kd.R_alloc | apply Kd.R_drewN | apply Kd.R_drew)); exact (Kd.R_mono (zRf (Kd.R_types HO_10.o BK571.o (by decide))) (fun _ h_ => h_.1))) hb); replace BK557 := zbl BK557.o hb; replace BK558 := zbl BK558.o hb; replace BK571 := am (blk_below (g := gb571) (o := .cells #[.int .i64 ((qa l1_2 x11_2).f0), .int .i64 ((qa l1_2 x11_2).f1), .int .i64 ((qa l1_2 x11_2).f2), .int .i64 ((qa l1_2 x11_2).f3), .int .i64 ((qa l1_2 x11_2).f4), .int .i64 ((qa l1_2 x11_2).f5)] 25 (0, 0)) (zbp BK571.o) hb); replace HB := zhs HB hb; clear hb; have hcz37 := zc6 BK571.o) | ((with_reducible refine gate_builtin (b := .append) (xs := #[.tmp 48, .tmp 51]) rfl ?_); at_builtin; refine Kd.R_append (Kd.int .i64) (w0 := w) w.heap.size rfl (.tmp 48) (.tmp 51) 45 3 (.int .i64 0) 8 rfl Tryz.underlying45 info3 rfl (by decide) (by omega) u8 x8_2 ((qa l1_2 x11_2).f0) [.int .i64 ((qa l1_2 x11_2).f0)] (fun k_ => some k_ ≠ (v563 : Value).ownBlock ∧ some k_ ≠ (u10 : Value).ownBlock) (fun _ => False) rfl rfl ?aP (fun _ hk => hk.elim) ?aF ?aO ?aB ?aS ?aL ?_; (case aP => exact rfl); (case aB => exact (zhB HB.o)); (case aF => exact (fun k_ hk => ⟨Kd.fresh' (Kd.R_lt (zRx HO_9.o)) k_ hk, Kd.fresh' (Kd.R_lt (zRx HO_10.o)) k_ hk⟩)); (case aO => exact (zRx HO_8.o)); (case aS => exact (below_size (zhB HB.o))); (case aL => have := LMc28.o; omega); intro v574 w38 ho hb hg hat; rw [← Ny573.o] at ho; replace HO_9 := am (Kd.R_after (ok := (fun k_ => some k_ ≠ (u10 : Value).ownBlock)) (by refine zDR ?_; exact Kd.R_mono HO_9.o (fun _ hk => by first | exact ⟨hk.2, hk.1⟩ | exact ⟨hk.1, hk.2⟩ | grind)) hg hat); replace HO_10 := am (Kd.R_after (ok := (fun k_ => some k_ ≠ (v563 : Value).ownBlock)) (by refine zDR ?_; exact Kd.R_mono HO_10.o (fun _ hk => by first | exact ⟨hk.2, hk.1⟩ | exact ⟨hk.1, hk.2⟩ | grind)) hg hat); replace BK557 := zgr BK557.o hg (Kd.R_ne HO_8.o BK557.o (by decide)); replace BK558 := zgr BK558.o hg (Kd.R_ne HO_8.o BK558.o (by decide)); replace BK571 := zgr BK571.o hg (Kd.R_ne HO_8.o BK571.o (by decide)); replace HB := am (hb); have HO575 := am (ho); clear HO_8; clear ho hb hg hat))
        go_roundg k2
        case measure => have := HJ2.o; have := HK2.o; omega
        case rel => exact ⟨(y573), (x10_2), (wrap64 (x11_2 + 1)), zrx, H', ⟨by have := HJ2.o; have := HK2.o; omega⟩, ⟨zDR HO575.o⟩, ⟨by refine zDR ?_; exact Kd.R_mono HO_9.o (fun _ hk => by first | exact ⟨hk.2, hk.1⟩ | exact ⟨hk.1, hk.2⟩ | grind)⟩, ⟨by refine zDR ?_; exact Kd.R_mono HO_10.o (fun _ hk => by first | exact ⟨hk.2, hk.1⟩ | exact ⟨hk.1, hk.2⟩ | grind)⟩, ⟨zbx BK557.o⟩, ⟨zbx BK558.o⟩, ⟨zhB HB.o⟩⟩
      rw [if_neg c27] at H
      have c27b0 := decide_eq_false c27
      clear c27
      obtain ⟨c39, H⟩ := zin H
      have c39b0 := decide_eq_true c39
      clear c39
      obtain ⟨c40, H⟩ := zin H
      have c40b0 := decide_eq_true c40
      clear c40
      by_cases c41 : (!(((qa l0_2 t572).f0) == ((qa l1_2 x11_2).f0)) || (!(((qa l0_2 t572).f1) == ((qa l1_2 x11_2).f1)) || (!(((qa l0_2 t572).f2) == ((qa l1_2 x11_2).f2)) || (!(((qa l0_2 t572).f3) == ((qa l1_2 x11_2).f3)) || (!(((qa l0_2 t572).f4) == ((qa l1_2 x11_2).f4)) || (!(((qa l0_2 t572).f5) == ((qa l1_2 x11_2).f5)))))))) = true
      rotate_left
      ·rw [if_neg c41] at H
       have c41b0 : (!(((qa l0_2 t572).f0) == ((qa l1_2 x11_2).f0)) || (!(((qa l0_2 t572).f1) == ((qa l1_2 x11_2).f1)) || (!(((qa l0_2 t572).f2) == ((qa l1_2 x11_2).f2)) || (!(((qa l0_2 t572).f3) == ((qa l1_2 x11_2).f3)) || (!(((qa l0_2 t572).f4) == ((qa l1_2 x11_2).f4)) || (!(((qa l0_2 t572).f5) == ((qa l1_2 x11_2).f5)))))))) = false := by simpa using c41
       clear c41
       focus
        have H' := am H
        clear H
        have hnb54 := NB558_557.o
        have hnc54 := NB557_558.o
        have hcz55 := zc3 BK558.o
        have p570 : 0 ≤ (x11_2 : Int) := zod
        have q570 : x11_2 < (l1_2.length : Int) := zod
        obtain ⟨ad570, e570, hx570_0, hx570_1, hx570_2, hx570_3, hx570_4, hx570_5⟩ := at_T25 HR1_2.o x11_2 p570 q570
        cases e570
        obtain ⟨hx570_0, hx570_1, hx570_2, hx570_3, hx570_4, hx570_5⟩ := zh6 HB hx570_0 hx570_1 hx570_2 hx570_3 hx570_4 hx570_5
        replace p570 := eq_true p570
        replace q570 := eq_true q570
        try go_wp2_with (first | ((with_reducible refine zgd 12 rfl ?_); refine zbe 12 #[.int .i64 0, .int .i64 0, .int .i64 0, .int .i64 0, .int .i64 0, .int .i64 0] 25 ?_; intro gb571 hg w56 hbox hb; replace HO_8 := zro HO_8 hb; replace HO_9 := zro HO_9 hb; replace HO_10 := zro HO_10 hb; have BK571 := am (hbox); have GW571 := zns hg HB.o; have GE571 := zns hg HB.o; replace HB := zhs HB hb; have NB557_571 := znl hg BK557.o; have NB571_557 := zng hg BK557.o; replace BK557 := zbl BK557.o hb; have NB558_571 := znl hg BK558.o; have NB571_558 := zng hg BK558.o; replace BK558 := zbl BK558.o hb; clear hb hbox hg; have hnb57 := NB571_557.o; have hnc57 := NB557_571.o; have hnb58 := NB571_558.o; have hnc58 := NB558_571.o; have hcz59 := zc6 BK571.o; have hcz60 := zc3 BK557.o) | ((with_reducible refine zgc 77 rfl ?_); refine zgl 45 Tryz.func77 #[.slice A0_2 l0_2.length c0_2, .int .i64 ((qa l1_2 x11_2).f0)] ?_; (with_reducible refine (qU.calls _ _ l0_2 ((qa l1_2 x11_2).f0) t572 _ ?side1 ?side2 A26.o).mono ?_); (case side1 => exact Kd.C_below HR0_2.o (zhB HB.o)); (case side2 => exact HC0_2.o); rintro e w61 ⟨rfl, hb⟩; refine ⟨_, rfl, ?_⟩; replace HO_8 := am (Kd.R_below (by (with_reducible repeat (first | apply Kd.R_alloc | apply Kd.R_drewN | apply Kd.R_drew)); exact (Kd.R_mono (zRf (Kd.R_types HO_8.o BK571.o (by decide))) (fun _ h_ => h_.1))) hb); replace HO_9 := am (Kd.R_below (by (with_reducible repeat (first | apply Kd.R_alloc | apply Kd.R_drewN | apply Kd.R_drew)); exact (Kd.R_mono (zRf (Kd.R_types HO_9.o BK571.o (by decide))) (fun _ h_ => h_.1))) hb); replace HO_10 := am (Kd.R_below (by (with_reducible repeat (first | apply Kd.R_alloc | apply Kd.R_drewN | apply Kd.R_drew)); exact (Kd.R_mono (zRf (Kd.R_types HO_10.o BK571.o (by decide))) (fun _ h_ => h_.1))) hb); replace BK557 := zbl BK557.o hb; replace BK558 := zbl BK558.o hb; replace BK571 := am (blk_below (g := gb571) (o := .cells #[.int .i64 ((qa l1_2 x11_2).f0), .int .i64 ((qa l1_2 x11_2).f1), .int .i64 ((qa l1_2 x11_2).f2), .int .i64 ((qa l1_2 x11_2).f3), .int .i64 ((qa l1_2 x11_2).f4), .int .i64 ((qa l1_2 x11_2).f5)] 25 (0, 0)) (zbp BK571.o) hb); replace HB := zhs HB hb; clear hb))
        replace HO_8 := am (Kd.R_drew HO_8.o)
        replace HO_9 := am (Kd.R_drew HO_9.o)
        replace HO_10 := am (Kd.R_drew HO_10.o)
        replace BK557 := am (blk_drew BK557.o)
        replace BK558 := am (blk_drew BK558.o)
        replace BK571 := am (blk_drew BK571.o)
        replace HB := am (below_drew1 HB.o)
        have p576 : 0 ≤ (t572 : Int) := zod
        have q576 : t572 < (l0_2.length : Int) := zod
        obtain ⟨ad576, e576, hx576_0, hx576_1, hx576_2, hx576_3, hx576_4, hx576_5⟩ := at_T25 HR0_2.o t572 p576 q576
        have hw576_5 := hx576_5
        have hw576_4 := hx576_4
        have hw576_3 := hx576_3
        have hw576_2 := hx576_2
        have hw576_1 := hx576_1
        have hw576_0 := hx576_0
        cases e576
        obtain ⟨hx576_0, hx576_1, hx576_2, hx576_3, hx576_4, hx576_5⟩ := zh6 HB hx576_0 hx576_1 hx576_2 hx576_3 hx576_4 hx576_5
        replace p576 := eq_true p576
        replace q576 := eq_true q576
        refine start_ (n := 7) (S := fun w' => zB3 w' gb557 (.int .i64 a0_0) (.int .i64 a0_1) (.slice (some ad576) l0_2.length c0_2) ∧ zB6 w' gb571 (.int .i64 ((qa l1_2 x11_2).f0)) (.int .i64 ((qa l1_2 x11_2).f1)) (.int .i64 ((qa l1_2 x11_2).f2)) (.int .i64 ((qa l1_2 x11_2).f3)) (.int .i64 ((qa l1_2 x11_2).f4)) (.int .i64 ((qa l1_2 x11_2).f5)) ∧ zS6 w' (ad576.add ((t572).toNat * 6)) (qa l0_2 t572)) (ds := []) (zm 7 0) (by kernel_rfl) rfl rfl ⟨zb3 BK557, zb6 BK571, zh6 HB hw576_0 hw576_1 hw576_2 hw576_3 hw576_4 hw576_5⟩ (fun hHd => ?_)
        generalize w61.drew = w62 at HO_8 HO_9 HO_10 BK557 BK558 BK571 HB hx576_0 hx576_1 hx576_2 hx576_3 hx576_4 hx576_5 hHd ⊢
        refine pure_ (i := 0) (N := some 53) (v := ?_) (a' := ?_) (zm 7 1) rfl rfl (by kernel_rfl) (fun _ _ _ h => h) (Or.inl ⟨by rfl, ?_⟩) ?_ ?_
        rotate_left
        ·exact zwx
        rotate_left
        ·exact zpx
        refine pure_ (i := 2) (N := some 55) (v := ?_) (a' := ?_) (zm 7 5) rfl rfl (by kernel_rfl) (fun _ _ _ h => h) (Or.inl ⟨by rfl, ?_⟩) ?_ ?_
        rotate_left
        ·exact zwx
        rotate_left
        ·exact zpx
        refine take_ (i := 1) (N := some 54) (v := ?_) (a' := ?_) (zm 7 7) rfl rfl (by kernel_rfl) (fun _ _ _ h => h) (Or.inl ⟨by rfl, ?_⟩) hHd ?_ ?_
        rotate_left
        ·rintro w' ⟨⟨s0, s1, s2⟩, ⟨s3, s4, s5, s6, s7, s8⟩, ⟨s9, s10, s11, s12, s13, s14⟩⟩
         go_simp
         with_reducible rfl
        rotate_left
        ·exact zpx
        refine pure_ (i := 3) (N := some 56) (v := ?_) (a' := ?_) (zm 7 15) rfl rfl (by kernel_rfl) (fun _ _ _ h => h) (Or.inl ⟨by rfl, ?_⟩) ?_ ?_
        rotate_left
        ·exact zwx
        rotate_left
        ·exact zpx
        refine take_ (i := 4) (N := some 57) (v := ?_) (a' := ?_) (zm 7 31) rfl rfl (by kernel_rfl) (fun _ _ _ h => h) (Or.inl ⟨by rfl, ?_⟩) hHd ?_ ?_
        rotate_left
        ·rintro w' ⟨⟨s0, s1, s2⟩, ⟨s3, s4, s5, s6, s7, s8⟩, ⟨s9, s10, s11, s12, s13, s14⟩⟩
         go_simp
         with_reducible rfl
        rotate_left
        ·exact zpx
        refine take_ (i := 5) (N := some 58) (v := ?_) (a' := ?_) (zm 7 63) rfl rfl (by kernel_rfl) (fun _ _ _ h => h) (Or.inl ⟨by rfl, ?_⟩) hHd ?_ ?_
        rotate_left
        ·rintro w' ⟨⟨s0, s1, s2⟩, ⟨s3, s4, s5, s6, s7, s8⟩, ⟨s9, s10, s11, s12, s13, s14⟩⟩
         go_simp
         with_reducible rfl
        rotate_left
        ·exact zpx
        refine pure_ (i := 6) (N := some 59) (v := ?_) (a' := ?_) (zm 7 127) rfl rfl (by kernel_rfl) (fun _ _ _ h => h) (Or.inl ⟨by rfl, ?_⟩) ?_ ?_
        rotate_left
        ·exact zwx
        rotate_left
        ·exact zpx
        refine done_ (by kernel_rfl) ?_
        try go_wp2
        go_roundg k2
        case measure => have := HJ2.o; have := HK2.o; omega
        case rel => exact ⟨(x8_2), (x10_2), (wrap64 (x11_2 + 1)), zrx, H', ⟨by have := HJ2.o; have := HK2.o; omega⟩, ⟨zDR HO_8.o⟩, ⟨zDR HO_9.o⟩, ⟨zDR HO_10.o⟩, ⟨zbx BK557.o⟩, ⟨zbx BK558.o⟩, ⟨zhB HB.o⟩⟩
      rw [if_pos c41] at H
      have c41b0 : (!(((qa l0_2 t572).f0) == ((qa l1_2 x11_2).f0)) || (!(((qa l0_2 t572).f1) == ((qa l1_2 x11_2).f1)) || (!(((qa l0_2 t572).f2) == ((qa l1_2 x11_2).f2)) || (!(((qa l0_2 t572).f3) == ((qa l1_2 x11_2).f3)) || (!(((qa l0_2 t572).f4) == ((qa l1_2 x11_2).f4)) || (!(((qa l0_2 t572).f5) == ((qa l1_2 x11_2).f5)))))))) = true := c41
      clear c41
      obtain ⟨c42, H⟩ := zin H
      have LMc42 := am c42
      clear c42
      obtain ⟨y577, hy577⟩ : ∃ y_ : List Int, y_ = (x10_2 ++ [(qa l1_2 x11_2).f0]) := ⟨_, rfl⟩
      replace H : (qe.l0 k2 x8_2 y562 y577 (wrap64 (x11_2 + 1)) a0_0 a0_1 l0_2 a1_0 a1_1 l1_2) = some (r1, r2, r3, r4) := by rw [hy577]; exact H
      have Ny577 := am hy577
      clear hy577
      focus
       have H' := am H
       clear H
       have hnb43 := NB558_557.o
       have hnc43 := NB557_558.o
       have hcz44 := zc3 BK558.o
       have p570 : 0 ≤ (x11_2 : Int) := zod
       have q570 : x11_2 < (l1_2.length : Int) := zod
       obtain ⟨ad570, e570, hx570_0, hx570_1, hx570_2, hx570_3, hx570_4, hx570_5⟩ := at_T25 HR1_2.o x11_2 p570 q570
       cases e570
       obtain ⟨hx570_0, hx570_1, hx570_2, hx570_3, hx570_4, hx570_5⟩ := zh6 HB hx570_0 hx570_1 hx570_2 hx570_3 hx570_4 hx570_5
       replace p570 := eq_true p570
       replace q570 := eq_true q570
       try go_wp2_with (first | ((with_reducible refine zgd 12 rfl ?_); refine zbe 12 #[.int .i64 0, .int .i64 0, .int .i64 0, .int .i64 0, .int .i64 0, .int .i64 0] 25 ?_; intro gb571 hg w45 hbox hb; replace HO_8 := zro HO_8 hb; replace HO_9 := zro HO_9 hb; replace HO_10 := zro HO_10 hb; have BK571 := am (hbox); have GW571 := zns hg HB.o; have GE571 := zns hg HB.o; replace HB := zhs HB hb; have NB557_571 := znl hg BK557.o; have NB571_557 := zng hg BK557.o; replace BK557 := zbl BK557.o hb; have NB558_571 := znl hg BK558.o; have NB571_558 := zng hg BK558.o; replace BK558 := zbl BK558.o hb; clear hb hbox hg; have hnb46 := NB571_557.o; have hnc46 := NB557_571.o; have hnb47 := NB571_558.o; have hnc47 := NB558_571.o; have hcz48 := zc6 BK571.o; have hcz49 := zc3 BK557.o) | ((with_reducible refine zgc 77 rfl ?_); refine zgl 45 Tryz.func77 #[.slice A0_2 l0_2.length c0_2, .int .i64 ((qa l1_2 x11_2).f0)] ?_; (with_reducible refine (qU.calls _ _ l0_2 ((qa l1_2 x11_2).f0) t572 _ ?side1 ?side2 A26.o).mono ?_); (case side1 => exact Kd.C_below HR0_2.o (zhB HB.o)); (case side2 => exact HC0_2.o); rintro e w50 ⟨rfl, hb⟩; refine ⟨_, rfl, ?_⟩; replace HO_8 := am (Kd.R_below (by (with_reducible repeat (first | apply Kd.R_alloc | apply Kd.R_drewN | apply Kd.R_drew)); exact (Kd.R_mono (zRf (Kd.R_types HO_8.o BK571.o (by decide))) (fun _ h_ => h_.1))) hb); replace HO_9 := am (Kd.R_below (by (with_reducible repeat (first | apply Kd.R_alloc | apply Kd.R_drewN | apply Kd.R_drew)); exact (Kd.R_mono (zRf (Kd.R_types HO_9.o BK571.o (by decide))) (fun _ h_ => h_.1))) hb); replace HO_10 := am (Kd.R_below (by (with_reducible repeat (first | apply Kd.R_alloc | apply Kd.R_drewN | apply Kd.R_drew)); exact (Kd.R_mono (zRf (Kd.R_types HO_10.o BK571.o (by decide))) (fun _ h_ => h_.1))) hb); replace BK557 := zbl BK557.o hb; replace BK558 := zbl BK558.o hb; replace BK571 := am (blk_below (g := gb571) (o := .cells #[.int .i64 ((qa l1_2 x11_2).f0), .int .i64 ((qa l1_2 x11_2).f1), .int .i64 ((qa l1_2 x11_2).f2), .int .i64 ((qa l1_2 x11_2).f3), .int .i64 ((qa l1_2 x11_2).f4), .int .i64 ((qa l1_2 x11_2).f5)] 25 (0, 0)) (zbp BK571.o) hb); replace HB := zhs HB hb; clear hb))
       replace HO_8 := am (Kd.R_drew HO_8.o)
       replace HO_9 := am (Kd.R_drew HO_9.o)
       replace HO_10 := am (Kd.R_drew HO_10.o)
       replace BK557 := am (blk_drew BK557.o)
       replace BK558 := am (blk_drew BK558.o)
       replace BK571 := am (blk_drew BK571.o)
       replace HB := am (below_drew1 HB.o)
       have p576 : 0 ≤ (t572 : Int) := zod
       have q576 : t572 < (l0_2.length : Int) := zod
       obtain ⟨ad576, e576, hx576_0, hx576_1, hx576_2, hx576_3, hx576_4, hx576_5⟩ := at_T25 HR0_2.o t572 p576 q576
       have hw576_5 := hx576_5
       have hw576_4 := hx576_4
       have hw576_3 := hx576_3
       have hw576_2 := hx576_2
       have hw576_1 := hx576_1
       have hw576_0 := hx576_0
       cases e576
       obtain ⟨hx576_0, hx576_1, hx576_2, hx576_3, hx576_4, hx576_5⟩ := zh6 HB hx576_0 hx576_1 hx576_2 hx576_3 hx576_4 hx576_5
       replace p576 := eq_true p576
       replace q576 := eq_true q576
       refine start_ (n := 7) (S := fun w' => zB3 w' gb557 (.int .i64 a0_0) (.int .i64 a0_1) (.slice (some ad576) l0_2.length c0_2) ∧ zB6 w' gb571 (.int .i64 ((qa l1_2 x11_2).f0)) (.int .i64 ((qa l1_2 x11_2).f1)) (.int .i64 ((qa l1_2 x11_2).f2)) (.int .i64 ((qa l1_2 x11_2).f3)) (.int .i64 ((qa l1_2 x11_2).f4)) (.int .i64 ((qa l1_2 x11_2).f5)) ∧ zS6 w' (ad576.add ((t572).toNat * 6)) (qa l0_2 t572)) (ds := []) (zm 7 0) (by kernel_rfl) rfl rfl ⟨zb3 BK557, zb6 BK571, zh6 HB hw576_0 hw576_1 hw576_2 hw576_3 hw576_4 hw576_5⟩ (fun hHd => ?_)
       generalize w50.drew = w51 at HO_8 HO_9 HO_10 BK557 BK558 BK571 HB hx576_0 hx576_1 hx576_2 hx576_3 hx576_4 hx576_5 hHd ⊢
       refine pure_ (i := 0) (N := some 53) (v := ?_) (a' := ?_) (zm 7 1) rfl rfl (by kernel_rfl) (fun _ _ _ h => h) (Or.inl ⟨by rfl, ?_⟩) ?_ ?_
       rotate_left
       ·exact zwx
       rotate_left
       ·exact zpx
       refine pure_ (i := 2) (N := some 55) (v := ?_) (a' := ?_) (zm 7 5) rfl rfl (by kernel_rfl) (fun _ _ _ h => h) (Or.inl ⟨by rfl, ?_⟩) ?_ ?_
       rotate_left
       ·exact zwx
       rotate_left
       ·exact zpx
       refine take_ (i := 1) (N := some 54) (v := ?_) (a' := ?_) (zm 7 7) rfl rfl (by kernel_rfl) (fun _ _ _ h => h) (Or.inl ⟨by rfl, ?_⟩) hHd ?_ ?_
       rotate_left
       ·rintro w' ⟨⟨s0, s1, s2⟩, ⟨s3, s4, s5, s6, s7, s8⟩, ⟨s9, s10, s11, s12, s13, s14⟩⟩
        go_simp
        with_reducible rfl
       rotate_left
       ·exact zpx
       refine pure_ (i := 3) (N := some 56) (v := ?_) (a' := ?_) (zm 7 15) rfl rfl (by kernel_rfl) (fun _ _ _ h => h) (Or.inl ⟨by rfl, ?_⟩) ?_ ?_
       rotate_left
       ·exact zwx
       rotate_left
       ·exact zpx
       refine take_ (i := 4) (N := some 57) (v := ?_) (a' := ?_) (zm 7 31) rfl rfl (by kernel_rfl) (fun _ _ _ h => h) (Or.inl ⟨by rfl, ?_⟩) hHd ?_ ?_
       rotate_left
       ·rintro w' ⟨⟨s0, s1, s2⟩, ⟨s3, s4, s5, s6, s7, s8⟩, ⟨s9, s10, s11, s12, s13, s14⟩⟩
        go_simp
        with_reducible rfl
       rotate_left
       ·exact zpx
       refine take_ (i := 5) (N := some 58) (v := ?_) (a' := ?_) (zm 7 63) rfl rfl (by kernel_rfl) (fun _ _ _ h => h) (Or.inl ⟨by rfl, ?_⟩) hHd ?_ ?_
       rotate_left
       ·rintro w' ⟨⟨s0, s1, s2⟩, ⟨s3, s4, s5, s6, s7, s8⟩, ⟨s9, s10, s11, s12, s13, s14⟩⟩
        go_simp
        with_reducible rfl
       rotate_left
       ·exact zpx
       refine pure_ (i := 6) (N := some 59) (v := ?_) (a' := ?_) (zm 7 127) rfl rfl (by kernel_rfl) (fun _ _ _ h => h) (Or.inl ⟨by rfl, ?_⟩) ?_ ?_
       rotate_left
       ·exact zwx
       rotate_left
       ·exact zpx
       refine done_ (by kernel_rfl) ?_
       have hcz52 := zc6 BK571.o
       try go_wp2_with (first | ((with_reducible refine gate_builtin (b := .append) (xs := #[.tmp 60, .tmp 63]) rfl ?_); at_builtin; refine Kd.R_append (Kd.int .i64) (w0 := w) w.heap.size rfl (.tmp 60) (.tmp 63) 45 3 (.int .i64 0) 8 rfl Tryz.underlying45 info3 rfl (by decide) (by omega) u10 x10_2 ((qa l1_2 x11_2).f0) [.int .i64 ((qa l1_2 x11_2).f0)] (fun k_ => some k_ ≠ (u8 : Value).ownBlock ∧ some k_ ≠ (v563 : Value).ownBlock) (fun _ => False) rfl rfl ?aP (fun _ hk => hk.elim) ?aF ?aO ?aB ?aS ?aL ?_; (case aP => exact rfl); (case aB => exact (zhB HB.o)); (case aF => exact (fun k_ hk => ⟨Kd.fresh' (Kd.R_lt (zRx HO_8.o)) k_ hk, Kd.fresh' (Kd.R_lt (zRx HO_9.o)) k_ hk⟩)); (case aO => exact (zRx HO_10.o)); (case aS => exact (below_size (zhB HB.o))); (case aL => have := LMc42.o; omega); intro v578 w53 ho hb hg hat; rw [← Ny577.o] at ho; replace HO_8 := am (Kd.R_after (ok := (fun k_ => some k_ ≠ (v563 : Value).ownBlock)) (zRx HO_8.o) hg hat); replace HO_9 := am (Kd.R_after (ok := (fun k_ => some k_ ≠ (u8 : Value).ownBlock)) (zRx HO_9.o) hg hat); replace BK557 := zgr BK557.o hg (Kd.R_ne HO_10.o BK557.o (by decide)); replace BK558 := zgr BK558.o hg (Kd.R_ne HO_10.o BK558.o (by decide)); replace BK571 := zgr BK571.o hg (Kd.R_ne HO_10.o BK571.o (by decide)); replace HB := am (hb); have HO579 := am (ho); clear HO_10; clear ho hb hg hat))
       go_roundg k2
       case measure => have := HJ2.o; have := HK2.o; omega
       case rel => exact ⟨(x8_2), (y577), (wrap64 (x11_2 + 1)), zrx, H', ⟨by have := HJ2.o; have := HK2.o; omega⟩, ⟨zDR HO_8.o⟩, ⟨zDR HO_9.o⟩, ⟨zDR HO579.o⟩, ⟨zbx BK557.o⟩, ⟨zbx BK558.o⟩, ⟨zhB HB.o⟩⟩
     rw [if_neg c24] at H
     have c24b0 := decide_eq_false c24
     clear c24
     have H' := am H
     clear H
     have hnb63 := NB558_557.o
     have hnc63 := NB557_558.o
     have hcz64 := zc3 BK558.o
     go_wp2
     go_loopg [9, 14] k2 (fun kq v9 v14 w' => ∃ (x9_3 : List Int) (x14_3 : Int), v14 = .int .i64 x14_3 ∧ Aq (qe.l1 kq x8_2 x9_3 x10_2 x14_3 a0_0 a0_1 l0_2 a1_0 a1_1 l1_2 = some (r1, r2, r3, r4)) ∧ Aq (kq ≤ k2) ∧ Aq (Kd.R (Kd.int .i64) 3 w' w.heap.size (fun k_ => some k_ ≠ (v9 : Value).ownBlock ∧ some k_ ≠ (u10 : Value).ownBlock) u8 x8_2) ∧ Aq (Kd.R (Kd.int .i64) 3 w' w.heap.size (fun k_ => some k_ ≠ (u8 : Value).ownBlock ∧ some k_ ≠ (u10 : Value).ownBlock) v9 x9_3) ∧ Aq (Kd.R (Kd.int .i64) 3 w' w.heap.size (fun k_ => some k_ ≠ (u8 : Value).ownBlock ∧ some k_ ≠ (v9 : Value).ownBlock) u10 x10_2) ∧ Aq (w'.heap[gb557]? = some (.cells #[.int .i64 a0_0, .int .i64 a0_1, (.slice A0_2 l0_2.length c0_2)] 34 (0, 0))) ∧ Aq (w'.heap[gb558]? = some (.cells #[.int .i64 a1_0, .int .i64 a1_1, (.slice A1_2 l1_2.length c1_2)] 34 (0, 0))) ∧ Aq (Below w.heap.size w w'))
     case atStart => exact ⟨(y562), (0), zrx, H', ⟨Nat.le_refl _⟩, ⟨zDR HO_8.o⟩, ⟨zDR HO_9.o⟩, ⟨zDR HO_10.o⟩, ⟨zbx BK557.o⟩, ⟨zbx BK558.o⟩, ⟨zBz HB.o GE557.o GE558.o⟩⟩
     case round =>
      clear H'
      try clear c23
      try clear c24
      try clear c24b0
      try clear hcz64
      obtain ⟨x9_3, x14_3, rfl, HA, HK3, HO_8, HO_9, HO_10, BK557, BK558, HB⟩ := hrel
      cases gk with
      | zero => exact absurd HA.o (by simp [qe.l1])
      | succ k3 =>
       have H := HA.o
       clear HA
       simp only [qe.l1] at H
       by_cases c65 : x14_3 < (l0_2.length : Int)
       rotate_left
       ·rw [if_neg c65] at H
        have c65b0 := decide_eq_false c65
        clear c65
        focus
         simp only [Option.some.injEq, Prod.mk.injEq] at H
         obtain ⟨rfl, rfl, rfl, rfl⟩ := H
         have hnb80 := NB557_558.o
         have hnc80 := NB558_557.o
         have hcz81 := zc3 BK557.o
         go_wp2
         refine bodyPost_ret (results_list (rs := [.tmp 4, .tmp 5, .tmp 6, .tmp 7]) rfl (by simp) (.tmp (.tmp (.tmp (.tmp .nil))))) rfl ?_
         exact ⟨_, _, _, zew, zDR HO_8.o, zDR HO_9.o, zDR HO_10.o, zBz HB.o GE557.o GE558.o⟩
       rw [if_pos c65] at H
       have c65b0 := decide_eq_true c65
       clear c65
       obtain ⟨c66, H⟩ := zin H
       have c66b0 := decide_eq_true c66
       clear c66
       obtain ⟨t581, A67, H⟩ := zob H
       try dsimp only at H
       by_cases c68 : t581 < 0
       rotate_left
       ·rw [if_neg c68] at H
        have c68b0 := decide_eq_false c68
        clear c68
        focus
         have H' := am H
         clear H
         have hnb76 := NB557_558.o
         have hnc76 := NB558_557.o
         have hcz77 := zc3 BK557.o
         try go_wp2
         replace HO_8 := am (Kd.R_drew HO_8.o)
         replace HO_9 := am (Kd.R_drew HO_9.o)
         replace HO_10 := am (Kd.R_drew HO_10.o)
         replace BK557 := am (blk_drew BK557.o)
         replace BK558 := am (blk_drew BK558.o)
         replace HB := am (below_drew1 HB.o)
         have p580 : 0 ≤ (x14_3 : Int) := zod
         have q580 : x14_3 < (l0_2.length : Int) := zod
         obtain ⟨ad580, e580, hx580_0, hx580_1, hx580_2, hx580_3, hx580_4, hx580_5⟩ := at_T25 HR0_2.o x14_3 p580 q580
         have hw580_5 := hx580_5
         have hw580_4 := hx580_4
         have hw580_3 := hx580_3
         have hw580_2 := hx580_2
         have hw580_1 := hx580_1
         have hw580_0 := hx580_0
         cases e580
         obtain ⟨hx580_0, hx580_1, hx580_2, hx580_3, hx580_4, hx580_5⟩ := zh6 HB hx580_0 hx580_1 hx580_2 hx580_3 hx580_4 hx580_5
         replace p580 := eq_true p580
         replace q580 := eq_true q580
         refine start_ (n := 10) (S := fun w' => zB3 w' gb558 (.int .i64 a1_0) (.int .i64 a1_1) (.slice A1_2 l1_2.length c1_2) ∧ zB3 w' gb557 (.int .i64 a0_0) (.int .i64 a0_1) (.slice (some ad580) l0_2.length c0_2) ∧ zS6 w' (ad580.add ((x14_3).toNat * 6)) (qa l0_2 x14_3)) (ds := []) (zm 10 0) (by kernel_rfl) rfl rfl ⟨zb3 BK558, zb3 BK557, zh6 HB hw580_0 hw580_1 hw580_2 hw580_3 hw580_4 hw580_5⟩ (fun hHd => ?_); refine with_tabW qe.tab16 qe.bits16 (fun Tq Wq => ?_)
         generalize wr.drew = w78 at HO_8 HO_9 HO_10 BK557 BK558 HB hx580_0 hx580_1 hx580_2 hx580_3 hx580_4 hx580_5 hHd ⊢
         refine zpu 0 72 (zm 10 1) Tq.o ?_
         refine zpu 2 74 (zm 10 5) Tq.o ?_
         refine zpu 4 76 (zm 10 21) Tq.o ?_
         refine take_ (i := 1) (N := some 73) (v := ?_) (a' := ?_) (zm 10 23) rfl rfl (take_ofW Tq.o Wq.o (by kernel_rfl)) (fun _ _ _ h => h) (Or.inl ⟨by rfl, ?_⟩) hHd ?_ ?_
         rotate_left
         ·rintro w' ⟨⟨s0, s1, s2⟩, ⟨s3, s4, s5⟩, ⟨s6, s7, s8, s9, s10, s11⟩⟩
          go_simp
          with_reducible rfl
         rotate_left
         ·exact zpx
         refine take_ (i := 3) (N := some 75) (v := ?_) (a' := ?_) (zm 10 31) rfl rfl (take_ofW Tq.o Wq.o (by kernel_rfl)) (fun _ _ _ h => h) (Or.inl ⟨by rfl, ?_⟩) hHd ?_ ?_
         rotate_left
         ·rintro w' ⟨⟨s0, s1, s2⟩, ⟨s3, s4, s5⟩, ⟨s6, s7, s8, s9, s10, s11⟩⟩
          go_simp
          with_reducible rfl
         rotate_left
         ·exact zpx
         refine zpu 5 77 (zm 10 63) Tq.o ?_
         refine zpu 6 78 (zm 10 127) Tq.o ?_
         refine take_ (i := 7) (N := some 79) (v := ?_) (a' := ?_) (zm 10 255) rfl rfl (take_ofW Tq.o Wq.o (by kernel_rfl)) (fun _ _ _ h => h) (Or.inl ⟨by rfl, ?_⟩) hHd ?_ ?_
         rotate_left
         ·rintro w' ⟨⟨s0, s1, s2⟩, ⟨s3, s4, s5⟩, ⟨s6, s7, s8, s9, s10, s11⟩⟩
          go_simp
          with_reducible rfl
         rotate_left
         ·exact zpx
         refine one_ (i := 8) (N := some 80) (zm 10 511) rfl rfl (one_of Tq.o (by kernel_rfl)) (by decide) (fun K hK => ?_)
         refine goes_ Tryz.func77 (by kernel_rfl) rfl #[.slice A1_2 l1_2.length c1_2, .int .i64 ((qa l0_2 x14_3).f0)] (by rfl) rfl rfl zlx ?_
         with_reducible refine (qU.calls _ _ l1_2 ((qa l0_2 x14_3).f0) t581 _ ?side1 ?side2 A67.o).mono ?_
         (case side1 => exact zCx (Kd.C_below HR1_2.o HB.o))
         (case side2 => exact HC1_2.o)
         rintro e w79 ⟨rfl, hb⟩
         refine ⟨_, rfl, ?_⟩
         replace HO_8 := zro HO_8 hb
         replace HO_9 := zro HO_9 hb
         replace HO_10 := zro HO_10 hb
         replace BK557 := zbl BK557.o hb
         replace BK558 := zbl BK558.o hb
         replace HB := zhs HB hb
         (try clear hb)
         (try clear hb2)
         (try clear hk)
         (try clear hi)
         refine hK.out _ _ ⟨zb3 BK558, zb3 BK557, zh6 HB hw580_0 hw580_1 hw580_2 hw580_3 hw580_4 hw580_5⟩ (fun hHd => ?_)
         clear hK K
         refine norm_ (a' := ?_) ?_ ?_
         rotate_left
         ·show Act.put _ (some 80) _ = _
          simp only [Act.put, List.setIfInBounds_toArray, List.set_cons_zero, List.set_cons_succ, i64_w, i32_w]
          rfl
         refine zpu 9 81 (zm 10 1023) Tq.o ?_
         refine done_ (done_of Tq.o (by kernel_rfl)) ?_
         try go_wp2
         go_roundg k3
         case measure => have := HJ2.o; have := HK2.o; have := HK3.o; omega
         case rel => exact ⟨(x9_3), (wrap64 (x14_3 + 1)), zrx, H', ⟨by have := HJ2.o; have := HK2.o; have := HK3.o; omega⟩, ⟨zDR HO_8.o⟩, ⟨zDR HO_9.o⟩, ⟨zDR HO_10.o⟩, ⟨zbx BK557.o⟩, ⟨zbx BK558.o⟩, ⟨zBz HB.o GE557.o GE558.o⟩⟩
       rw [if_pos c68] at H
       have c68b0 := decide_eq_true c68
       clear c68
       obtain ⟨c69, H⟩ := zin H
       have LMc69 := am c69
       clear c69
       obtain ⟨y583, hy583⟩ : ∃ y_ : List Int, y_ = (x9_3 ++ [(qa l0_2 x14_3).f0]) := ⟨_, rfl⟩
       replace H : (qe.l1 k3 x8_2 y583 x10_2 (wrap64 (x14_3 + 1)) a0_0 a0_1 l0_2 a1_0 a1_1 l1_2) = some (r1, r2, r3, r4) := by rw [hy583]; exact H
       have Ny583 := am hy583
       clear hy583
       focus
        have H' := am H
        clear H
        have hnb70 := NB557_558.o
        have hnc70 := NB558_557.o
        have hcz71 := zc3 BK557.o
        try go_wp2
        replace HO_8 := am (Kd.R_drew HO_8.o)
        replace HO_9 := am (Kd.R_drew HO_9.o)
        replace HO_10 := am (Kd.R_drew HO_10.o)
        replace BK557 := am (blk_drew BK557.o)
        replace BK558 := am (blk_drew BK558.o)
        replace HB := am (below_drew1 HB.o)
        have p580 : 0 ≤ (x14_3 : Int) := zod
        have q580 : x14_3 < (l0_2.length : Int) := zod
        obtain ⟨ad580, e580, hx580_0, hx580_1, hx580_2, hx580_3, hx580_4, hx580_5⟩ := at_T25 HR0_2.o x14_3 p580 q580
        have hw580_5 := hx580_5
        have hw580_4 := hx580_4
        have hw580_3 := hx580_3
        have hw580_2 := hx580_2
        have hw580_1 := hx580_1
        have hw580_0 := hx580_0
        cases e580
        obtain ⟨hx580_0, hx580_1, hx580_2, hx580_3, hx580_4, hx580_5⟩ := zh6 HB hx580_0 hx580_1 hx580_2 hx580_3 hx580_4 hx580_5
        replace p580 := eq_true p580
        replace q580 := eq_true q580
        refine start_ (n := 10) (S := fun w' => zB3 w' gb558 (.int .i64 a1_0) (.int .i64 a1_1) (.slice A1_2 l1_2.length c1_2) ∧ zB3 w' gb557 (.int .i64 a0_0) (.int .i64 a0_1) (.slice (some ad580) l0_2.length c0_2) ∧ zS6 w' (ad580.add ((x14_3).toNat * 6)) (qa l0_2 x14_3)) (ds := []) (zm 10 0) (by kernel_rfl) rfl rfl ⟨zb3 BK558, zb3 BK557, zh6 HB hw580_0 hw580_1 hw580_2 hw580_3 hw580_4 hw580_5⟩ (fun hHd => ?_); refine with_tabW qe.tab16 qe.bits16 (fun Tq Wq => ?_)
        generalize wr.drew = w72 at HO_8 HO_9 HO_10 BK557 BK558 HB hx580_0 hx580_1 hx580_2 hx580_3 hx580_4 hx580_5 hHd ⊢
        refine zpu 0 72 (zm 10 1) Tq.o ?_
        refine zpu 2 74 (zm 10 5) Tq.o ?_
        refine zpu 4 76 (zm 10 21) Tq.o ?_
        refine take_ (i := 1) (N := some 73) (v := ?_) (a' := ?_) (zm 10 23) rfl rfl (take_ofW Tq.o Wq.o (by kernel_rfl)) (fun _ _ _ h => h) (Or.inl ⟨by rfl, ?_⟩) hHd ?_ ?_
        rotate_left
        ·rintro w' ⟨⟨s0, s1, s2⟩, ⟨s3, s4, s5⟩, ⟨s6, s7, s8, s9, s10, s11⟩⟩
         go_simp
         with_reducible rfl
        rotate_left
        ·exact zpx
        refine take_ (i := 3) (N := some 75) (v := ?_) (a' := ?_) (zm 10 31) rfl rfl (take_ofW Tq.o Wq.o (by kernel_rfl)) (fun _ _ _ h => h) (Or.inl ⟨by rfl, ?_⟩) hHd ?_ ?_
        rotate_left
        ·rintro w' ⟨⟨s0, s1, s2⟩, ⟨s3, s4, s5⟩, ⟨s6, s7, s8, s9, s10, s11⟩⟩
         go_simp
         with_reducible rfl
        rotate_left
        ·exact zpx
        refine zpu 5 77 (zm 10 63) Tq.o ?_
        refine zpu 6 78 (zm 10 127) Tq.o ?_
        refine take_ (i := 7) (N := some 79) (v := ?_) (a' := ?_) (zm 10 255) rfl rfl (take_ofW Tq.o Wq.o (by kernel_rfl)) (fun _ _ _ h => h) (Or.inl ⟨by rfl, ?_⟩) hHd ?_ ?_
        rotate_left
        ·rintro w' ⟨⟨s0, s1, s2⟩, ⟨s3, s4, s5⟩, ⟨s6, s7, s8, s9, s10, s11⟩⟩
         go_simp
         with_reducible rfl
        rotate_left
        ·exact zpx
        refine one_ (i := 8) (N := some 80) (zm 10 511) rfl rfl (one_of Tq.o (by kernel_rfl)) (by decide) (fun K hK => ?_)
        refine goes_ Tryz.func77 (by kernel_rfl) rfl #[.slice A1_2 l1_2.length c1_2, .int .i64 ((qa l0_2 x14_3).f0)] (by rfl) rfl rfl zlx ?_
        with_reducible refine (qU.calls _ _ l1_2 ((qa l0_2 x14_3).f0) t581 _ ?side1 ?side2 A67.o).mono ?_
        (case side1 => exact zCx (Kd.C_below HR1_2.o HB.o))
        (case side2 => exact HC1_2.o)
        rintro e w73 ⟨rfl, hb⟩
        refine ⟨_, rfl, ?_⟩
        replace HO_8 := zro HO_8 hb
        replace HO_9 := zro HO_9 hb
        replace HO_10 := zro HO_10 hb
        replace BK557 := zbl BK557.o hb
        replace BK558 := zbl BK558.o hb
        replace HB := zhs HB hb
        (try clear hb)
        (try clear hb2)
        (try clear hk)
        (try clear hi)
        refine hK.out _ _ ⟨zb3 BK558, zb3 BK557, zh6 HB hw580_0 hw580_1 hw580_2 hw580_3 hw580_4 hw580_5⟩ (fun hHd => ?_)
        clear hK K
        refine norm_ (a' := ?_) ?_ ?_
        rotate_left
        ·show Act.put _ (some 80) _ = _
         simp only [Act.put, List.setIfInBounds_toArray, List.set_cons_zero, List.set_cons_succ, i64_w, i32_w]
         rfl
        refine zpu 9 81 (zm 10 1023) Tq.o ?_
        refine done_ (done_of Tq.o (by kernel_rfl)) ?_
        have hcz74 := zc3 BK557.o
        have p582 : 0 ≤ (x14_3 : Int) := zod
        have q582 : x14_3 < (l0_2.length : Int) := zod
        obtain ⟨ad582, e582, hx582_0, hx582_1, hx582_2, hx582_3, hx582_4, hx582_5⟩ := at_T25 HR0_2.o x14_3 p582 q582
        obtain rfl : ad580 = ad582 := (by injection e582)
        obtain ⟨hx582_0, hx582_1, hx582_2, hx582_3, hx582_4, hx582_5⟩ := zh6 HB hx582_0 hx582_1 hx582_2 hx582_3 hx582_4 hx582_5
        replace p582 := eq_true p582
        replace q582 := eq_true q582
        try go_wp2_with (first | ((with_reducible refine gate_builtin (b := .append) (xs := #[.tmp 82, .tmp 89]) rfl ?_); at_builtin; refine Kd.R_append (Kd.int .i64) (w0 := w) w.heap.size rfl (.tmp 82) (.tmp 89) 45 3 (.int .i64 0) 8 rfl Tryz.underlying45 info3 rfl (by decide) (by omega) u9 x9_3 ((qa l0_2 x14_3).f0) [.int .i64 ((qa l0_2 x14_3).f0)] (fun k_ => some k_ ≠ (u8 : Value).ownBlock ∧ some k_ ≠ (u10 : Value).ownBlock) (fun _ => False) rfl rfl ?aP (fun _ hk => hk.elim) ?aF ?aO ?aB ?aS ?aL ?_; (case aP => exact rfl); (case aB => exact (zBz HB.o GE557.o GE558.o)); (case aF => exact (fun k_ hk => ⟨Kd.fresh' (Kd.R_lt (zRx HO_8.o)) k_ hk, Kd.fresh' (Kd.R_lt (zRx HO_10.o)) k_ hk⟩)); (case aO => exact (zRx HO_9.o)); (case aS => exact (below_size (zBz HB.o GE557.o GE558.o))); (case aL => have := LMc69.o; omega); intro v584 w75 ho hb hg hat; rw [← Ny583.o] at ho; replace HO_8 := am (Kd.R_after (ok := (fun k_ => some k_ ≠ (u10 : Value).ownBlock)) (by refine zDR ?_; exact Kd.R_mono HO_8.o (fun _ hk => by first | exact ⟨hk.2, hk.1⟩ | exact ⟨hk.1, hk.2⟩ | grind)) hg hat); replace HO_10 := am (Kd.R_after (ok := (fun k_ => some k_ ≠ (u8 : Value).ownBlock)) (zRx HO_10.o) hg hat); replace BK557 := zgr BK557.o hg (Kd.R_ne HO_9.o BK557.o (by decide)); replace BK558 := zgr BK558.o hg (Kd.R_ne HO_9.o BK558.o (by decide)); replace HB := am (hb); have HO585 := am (ho); clear HO_9; clear ho hb hg hat))
        go_roundg k3
        case measure => have := HJ2.o; have := HK2.o; have := HK3.o; omega
        case rel => exact ⟨(y583), (wrap64 (x14_3 + 1)), zrx, H', ⟨by have := HJ2.o; have := HK2.o; have := HK3.o; omega⟩, ⟨by refine zDR ?_; exact Kd.R_mono HO_8.o (fun _ hk => by first | exact ⟨hk.2, hk.1⟩ | exact ⟨hk.1, hk.2⟩ | grind)⟩, ⟨zDR HO585.o⟩, ⟨zDR HO_10.o⟩, ⟨zbx BK557.o⟩, ⟨zbx BK558.o⟩, ⟨zBz HB.o GE557.o GE558.o⟩⟩
def qJ.l0 : Nat → List Int → List Int → Int → Option (Bool)
 | 0, _, _, _ => none
 | k + 1, x0, x1, x5 => if x5 < (x0.length : Int) then (if 0 ≤ x5 then (if x5 < (x1.length : Int) then (if (rd x0 x5) = (rd x1 x5) then (qJ.l0 k x0 x1 (wrap64 (x5 + 1))) else (some false)) else (none)) else (none)) else (some true)
def qJ.f (k : Nat) (l0 : List Int) (l1 : List Int) : Option (Bool) := if (l0.length : Int) = (l1.length : Int) then (qJ.l0 k l0 l1 0) else (some false)
theorem qJ.calls (k : Nat) (A0 : Option Addr) (c0 : Nat) (l0 : List Int) (A1 : Option Addr) (c1 : Nat) (l1 : List Int) (r : Bool) (w : World) (hr0 : Kd.C (Kd.int .i64) w A0 l0.length l0) (hc0 : l0.length ≤ c0) (hr1 : Kd.C (Kd.int .i64) w A1 l1.length l1) (hc1 : l1.length ≤ c1) (h : qJ.f k l0 l1 = some r) :
 Calls Tryz.prog 30 #[.slice A0 l0.length c0, .slice A1 l1.length c1] w fun e w' => e = .returned (.bool r) ∧ Dq w w' := by
 have HR0 := am hr0
 have HC0 := am hc0
 clear hr0 hc0
 have HR1 := am hr1
 have HC1 := am hc1
 clear hr1 hc1
 unfold qJ.f at h
 have H := h
 clear h
 by_cases c3 : (l0.length : Int) = (l1.length : Int)
 rotate_left
 ·rw [if_neg c3] at H
  have c3b0 := beq_eq_false_iff_ne.mpr c3
  have c3b1 := bne_iff_ne.mpr c3
  have c3b2 : (l0.length == l1.length) = false := by first | simpa using c3 | (simp at c3 ⊢; omega)
  focus
   obtain rfl := Option.some.inj H
   go_enter Tryz.func30, Tryz.ntmps30
   go_wp2
   repeat (go_quiet (fail); try go_wp2)
   go_ret
   exact ⟨by first | rfl | (simp; done) | (simp [*]; done), by repeat (first | exact Dq.refl _ | apply Dq.step)⟩
 rw [if_pos c3] at H
 have c3b0 := beq_iff_eq.mpr c3
 have c3b1 := bne_eq_false_iff_eq.mpr c3
 have c3b2 : (l0.length == l1.length) = true := by first | simpa using c3 | (simp at c3 ⊢; omega)
 clear c3
 have H' := am H
 clear H
 go_enter Tryz.func30, Tryz.ntmps30
 go_wp2
 repeat (go_quiet (fail); try go_wp2)
 go_loopg [5] k (fun kq v5 w' => ∃ (x5_1 : Int), v5 = .int .i64 x5_1 ∧ Aq (qJ.l0 kq l0 l1 x5_1 = some r) ∧ Aq (kq ≤ k) ∧ Dq w w')
 case atStart => exact ⟨(0), zrx, H', ⟨Nat.le_refl _⟩, by repeat (first | exact Dq.refl _ | apply Dq.step)⟩
 case round =>
  clear H'
  try clear c3
  try clear c3b0
  try clear c3b1
  try clear c3b2
  obtain ⟨x5_1, rfl, HA, HK1, ⟨m1, rfl⟩⟩ := hrel
  cases gk with
  | zero => exact absurd HA.o (by simp [qJ.l0])
  | succ k1 =>
   have H := HA.o
   clear HA
   simp only [qJ.l0] at H
   by_cases c4 : x5_1 < (l0.length : Int)
   rotate_left
   ·rw [if_neg c4] at H
    have c4b0 := decide_eq_false c4
    clear c4
    focus
     obtain rfl := Option.some.inj H
     go_wp2
     repeat (go_quiet (fail); try go_wp2)
     go_ret
     exact ⟨by first | rfl | (simp; done) | (simp [*]; done), by repeat (first | exact Dq.refl _ | apply Dq.step)⟩
   rw [if_pos c4] at H
   have c4b0 := decide_eq_true c4
   clear c4
   obtain ⟨c5, H⟩ := zin H
   have c5b0 := decide_eq_true c5
   clear c5
   obtain ⟨c6, H⟩ := zin H
   have c6b0 := decide_eq_true c6
   clear c6
   by_cases c7 : (rd l0 x5_1) = (rd l1 x5_1)
   rotate_left
   ·rw [if_neg c7] at H
    have c7b0 := beq_eq_false_iff_ne.mpr c7
    have c7b1 := bne_iff_ne.mpr c7
    focus
     obtain rfl := Option.some.inj H
     have p586 : 0 ≤ (x5_1 : Int) := zod
     have q586 : x5_1 < (l0.length : Int) := zod
     obtain ⟨ad586, e586, hx586_0⟩ := Kd.at_int HR0.o x5_1 p586 q586
     cases e586
     replace p586 := eq_true p586
     replace q586 := eq_true q586
     have p587 : 0 ≤ (x5_1 : Int) := zod
     have q587 : x5_1 < (l1.length : Int) := zod
     obtain ⟨ad587, e587, hx587_0⟩ := Kd.at_int HR1.o x5_1 p587 q587
     cases e587
     replace p587 := eq_true p587
     replace q587 := eq_true q587
     go_wp2
     repeat (go_quiet (fail); try go_wp2)
     go_ret
     exact ⟨by first | rfl | (simp; done) | (simp [*]; done), by repeat (first | exact Dq.refl _ | apply Dq.step)⟩
   rw [if_pos c7] at H
   have c7b0 := beq_iff_eq.mpr c7
   have c7b1 := bne_eq_false_iff_eq.mpr c7
   clear c7
   focus
    have H' := am H
    clear H
    have p586 : 0 ≤ (x5_1 : Int) := zod
    have q586 : x5_1 < (l0.length : Int) := zod
    obtain ⟨ad586, e586, hx586_0⟩ := Kd.at_int HR0.o x5_1 p586 q586
    cases e586
    replace p586 := eq_true p586
    replace q586 := eq_true q586
    have p587 : 0 ≤ (x5_1 : Int) := zod
    have q587 : x5_1 < (l1.length : Int) := zod
    obtain ⟨ad587, e587, hx587_0⟩ := Kd.at_int HR1.o x5_1 p587 q587
    cases e587
    replace p587 := eq_true p587
    replace q587 := eq_true q587
    go_wp2
    repeat (go_quiet (fail); try go_wp2)
    go_roundg k1
    case measure => have := HK1.o; omega
    case rel => exact ⟨(wrap64 (x5_1 + 1)), zrx, H', ⟨by have := HK1.o; omega⟩, by repeat (first | exact Dq.refl _ | apply Dq.step)⟩
mutual
def ql.l0 : Nat → List (S34) → Int → List Int → Int → Int → Option ((List (S34)))
 | 0, _, _, _, _, _ => none
 | k + 1, x4, x5, x589000, x589001, x589002 => if x5 > 0 then ((qE.f k x589000 x589001 x589002).bind fun bt595 => (if x4.length < 3518437208883 then (ql.l0 k (x4 ++ [(⟨bt595.1, bt595.2.1, bt595.2.2.1⟩ : S34)]) (wrap64 (x5 - 1)) x589000 bt595.2.2.2.1 bt595.2.2.2.2) else (none))) else ((qC.f x589000 x589001 x589002 24).bind fun bt605 => (if bt605.1 = true then (ql.l1 k x4 0 x589000 bt605.2.1 bt605.2.2) else (some x4)))
def ql.l1 : Nat → List (S34) → Int → List Int → Int → Int → Option ((List (S34)))
 | 0, _, _, _, _, _ => none
 | k + 1, x4, x6, x589000, x589001, x589002 => (qb.f x589000 x589001 x589002 2).bind fun bt608 => (if (x4.length : Int) < (wrap64 (10 + bt608.1)) then (if x6 < 12 then (if x4.length < 3518437208883 then (ql.l1 k (x4 ++ [(⟨wrap64 (100 + x6), 0, ([] : List (S25))⟩ : S34)]) (wrap64 (x6 + 1)) x589000 bt608.2.1 bt608.2.2) else (none)) else (some x4)) else (some x4))
end
def ql.f (k : Nat) (l0 : List Int) : Option ((List (S34))) := (qb.f l0 0 0 4).bind fun bt592 => (ql.l0 k (([] : List (S34))) bt592.1 l0 bt592.2.1 bt592.2.2)
theorem ql.calls (k : Nat) (A0 : Option Addr) (c0 : Nat) (l0 : List Int) (r : List (S34)) (w : World) (hr0 : Kd.C (Kd.int .u8) w A0 l0.length l0) (hc0 : l0.length ≤ c0) (h : ql.f k l0 = some r) :
 Calls Tryz.prog 31 #[.slice A0 l0.length c0] w fun e w' => ∃ v0_ : Value, e = .returned (v0_) ∧ Kd.S k34 34 w' w.heap.size (fun _ => True) v0_ r ∧ Below w.heap.size w w' := by
 have hu71 := Tryz.underlying71
 have hu34 := Tryz.underlying34
 have HR0 := am hr0
 have HC0 := am hc0
 clear hr0 hc0
 have HB := am (Below.refl w.heap.size w)
 unfold ql.f at h
 have H := h
 clear h
 obtain ⟨y589, hy589⟩ : ∃ y_ : List (S34), y_ = (([] : List (S34))) := ⟨_, rfl⟩
 replace H : ((qb.f l0 0 0 4).bind fun bt592 => (ql.l0 k y589 bt592.1 l0 bt592.2.1 bt592.2.2)) = some r := by rw [hy589]; exact H
 have Ny589 := am hy589
 clear hy589
 obtain ⟨⟨t592, t593, t594⟩, A2, H⟩ := zob H
 try dsimp only at H
 have H' := am H
 clear H
 go_enter Tryz.func31, Tryz.ntmps31
 go_wp2_with (first | ((with_reducible refine zgd 9 rfl ?_); refine zbe 9 #[.slice A0 l0.length c0, .int .i64 0, .int .u64 0] 71 ?_; intro gb588 hg w3 hbox hb; have BK588 := am (hbox); have GW588 := zns hg HB.o; have GE588 := zns hg HB.o; replace HB := zhs HB hb; clear hb hbox hg) | ((with_reducible refine zgd 10 rfl ?_); refine Kd.S_lit k34 _ 34 ?hg (N := 10) ?hd (xs := ([] : List (S34))) (inner := []) (ok := fun _ => True) (okp := fun _ => True) ?hr ?hp (fun _ hk => hk) trivial (Below.refl _ _) (Nat.le_refl _) (by simp) ?_; (case hd => rfl); (case hg => rfl); (case hr => exact zsx); (case hp => exact (Reps.none _ _)); intro v590 w4 ho5 hb hg_ hnew_; clear hg_ hnew_; (first | rw [← Ny589.o] at ho5 | (simp only [Int.reduceToNat] at ho5; rw [← Ny589.o] at ho5)); have HO591 := am (Kd.S_lower ho5 (below_size (zBy HB.o GE588.o))); replace BK588 := zbl BK588.o hb; replace HB := zhs HB hb; clear hb ho5) | ((with_reducible refine zgc 75 rfl ?_); refine zgl 12 Tryz.func75 #[.pointer (some ⟨gb588, 0, none⟩), .int .i64 4] ?_; (with_reducible refine (qb.calls gb588 l0 0 0 4 t592 t593 t594 w _ ?side1 ?side2 A2.o).mono ?_); (case side1 => first | exact ⟨_, _, (zbx BK588.o), GE588.o, HR0.o⟩); (case side2 => first | exact zBy HB.o (I7.ge HI588.o) | exact zBx HB.o); rintro e w6 ⟨rfl, hi, hb, hk⟩; refine ⟨_, rfl, ?_⟩; replace HO591 := am (Kd.S_mono (Kd.S_keep (I7.apartS (show I7 w _ gb588 l0 0 0 from by first | exact ⟨_, _, (zbx BK588.o), GE588.o, HR0.o⟩) (zSx HO591.o) (by decide)) hk (fun _ h => h.2)) (fun _ h => h.1)); replace HB := am (hb); have HI588 := am (hi); clear hb hk hi))
 go_loopg [4, 5] k (fun kq v4 v5 w' => ∃ (x4_1 : List (S34)) (x5_1 : Int) (x589001_1 : Int) (x589002_1 : Int), v5 = .int .i64 x5_1 ∧ Aq (ql.l0 kq x4_1 x5_1 l0 x589001_1 x589002_1 = some r) ∧ Aq (kq ≤ k) ∧ Aq (Kd.S k34 34 w' w.heap.size (fun _ => True) v4 x4_1) ∧ Aq (I7 w w' gb588 l0 x589001_1 x589002_1) ∧ Aq (Below w.heap.size w w'))
 case atStart => exact ⟨(y589), (t592), (t593), (t594), zrx, H', ⟨Nat.le_refl _⟩, ⟨by (with_reducible repeat (first | apply Kd.S_alloc | apply Kd.S_drewN | apply Kd.S_drew)); exact HO591.o⟩, ⟨by exact I7.zI HI588.o⟩, ⟨by first | exact zBy HB.o (I7.ge HI588.o) | exact zBx HB.o⟩⟩
 case round =>
  clear H'
  obtain ⟨x4_1, x5_1, x589001_1, x589002_1, rfl, HA, HK1, HO_4, HI588, HB⟩ := hrel
  cases gk with
  | zero => exact absurd HA.o (by simp [ql.l0])
  | succ k1 =>
   have H := HA.o
   clear HA
   simp only [ql.l0] at H
   by_cases c7 : x5_1 > 0
   ·rw [if_pos c7] at H
    have c7b0 := decide_eq_true c7
    clear c7
    obtain ⟨⟨t595, t596, t597, t600, t601⟩, A8, H⟩ := zob H
    try dsimp only at H
    by_cases c9 : x4_1.length < 3518437208883
    ·rw [if_pos c9] at H
     have LMc9 := am c9
     clear c9
     obtain ⟨y602, hy602⟩ : ∃ y_ : List (S34), y_ = (x4_1 ++ [(⟨t595, t596, t597⟩ : S34)]) := ⟨_, rfl⟩
     replace H : (ql.l0 k1 y602 (wrap64 (x5_1 - 1)) l0 t600 t601) = some r := by rw [hy602]; exact H
     have Ny602 := am hy602
     clear hy602
     focus
      have H' := am H
      clear H
      go_wp2_with (first | ((with_reducible refine zgc 71 rfl ?_); refine zgl 19 Tryz.func71 #[.pointer (some ⟨gb588, 0, none⟩)] ?_; (with_reducible refine (qE.calls k1 gb588 l0 x589001_1 x589002_1 t595 t596 t597 t600 t601 w _ ?side1 ?side2 A8.o).mono ?_); (case side1 => exact I7.zI HI588.o); (case side2 => first | exact zBy HB.o (I7.ge HI588.o) | exact zBx HB.o); rintro e w10 ⟨v598, rfl, ho0, hi, hb, hk⟩; refine ⟨_, rfl, ?_⟩; replace HO_4 := am (Kd.S_mono (Kd.S_told (Kd.S_oldK (I7.apartS (show I7 w _ gb588 l0 x589001_1 x589002_1 from I7.zI HI588.o) (zSx HO_4.o) (by decide)) hk) (Kd.R_base ho0)) (fun _ h_ => h_.1)); have HO599 := am (Kd.R_lower ho0 (below_size (by first | exact zBy HB.o (I7.ge HI588.o) | exact zBx HB.o))); replace HB := am (hb); replace HI588 := am (hi); clear hb hk hi; (try clear ho0); obtain ⟨Ao12, co12, eo12⟩ := Kd.R_slice HO599.o; subst eo12) | ((with_reducible refine gate_builtin (b := .append) (xs := #[.tmp 17, .tmp 20]) rfl ?_); at_builtin; refine Kd.S_append k34 (w0 := w) w.heap.size rfl (.tmp 17) (.tmp 20) 49 34 (.agg #[(.int .i64 0), (.int .i64 0), (.slice none 0 0)]) 40 rfl Tryz.underlying49 info34 rfl (by decide) (by omega) u4 x4_1 (⟨t595, t596, t597⟩ : S34) [.int .i64 t595, .int .i64 t596, .slice Ao12 t597.length co12] (fun _ => True) (fun k_ => some k_ = (.slice Ao12 t597.length co12 : Value).ownBlock) rfl rfl ?aP (fun k_ hk_ => ((Kd.R_mono (ok' := fun k_ => ((fun _ => True)) k_ ∧ some k_ ≠ (u4 : Value).ownBlock) (Kd.R_apart' (HO599.o) (Kd.S_typed HO_4.o) (by decide)) (fun k_ hk => ⟨trivial, hk.2⟩))).1 k_ hk_.symm) ?aF ?aO ?aB ?aS ?aL ?_; (case aP => exact k34_mkM _ _ _ (⟨t595, t596, t597⟩ : S34) (Kd.R_mono (Kd.R_tight rfl (Kd.R_mono (ok' := fun k_ => ((fun _ => True)) k_ ∧ some k_ ≠ (u4 : Value).ownBlock) (Kd.R_apart' (HO599.o) (Kd.S_typed HO_4.o) (by decide)) (fun k_ hk => ⟨trivial, hk.2⟩))) (fun _ h_ => h_))); (case aB => exact (by first | exact zBy HB.o (I7.ge HI588.o) | exact zBx HB.o)); (case aF => exact (fun _ _ => trivial)); (case aO => exact (by (with_reducible repeat (first | apply Kd.S_alloc | apply Kd.S_drewN | apply Kd.S_drew)); exact Kd.S_mono HO_4.o (fun k_ hk => ⟨trivial, fun e_ => hk.2 e_⟩))); (case aS => exact (below_size (by first | exact zBy HB.o (I7.ge HI588.o) | exact zBx HB.o))); (case aL => have := LMc9.o; omega); intro v603 w11 ho hb hg hat; rw [← Ny602.o] at ho; replace HI588 := am (I7.grown (I7.zI HI588.o) hg (I7.own_neS HI588.o HO_4.o (by decide))); replace HB := am (hb); have HO604 := am (ho); clear HO_4; clear HO599; clear ho hb hg hat))
      go_roundg k1
      case measure => have := HK1.o; omega
      case rel => exact ⟨(y602), (wrap64 (x5_1 - 1)), (t600), (t601), zrx, H', ⟨by have := HK1.o; omega⟩, ⟨by (with_reducible repeat (first | apply Kd.S_alloc | apply Kd.S_drewN | apply Kd.S_drew)); exact HO604.o⟩, ⟨by exact I7.zI HI588.o⟩, ⟨by first | exact zBy HB.o (I7.ge HI588.o) | exact zBx HB.o⟩⟩
    ·rw [if_neg c9] at H
     exact absurd H (by simp)
   rw [if_neg c7] at H
   have c7b0 := decide_eq_false c7
   clear c7
   obtain ⟨⟨t605, t606, t607⟩, A13, H⟩ := zob H
   try dsimp only at H
   by_cases c14 : t605 = true
   rotate_left
   ·replace c14 := Bool.eq_false_iff.mpr c14
    subst c14
    rw [if_neg (show ¬ (false = true) by decide)] at H
    focus
     obtain rfl := Option.some.inj H
     go_wp2_with (first | ((with_reducible refine zgc 50 rfl ?_); refine zgl 23 Tryz.func50 #[.pointer (some ⟨gb588, 0, none⟩), .int .i64 24] ?_; (with_reducible refine (qC.calls gb588 l0 x589001_1 x589002_1 24 false t606 t607 w _ ?side1 ?side2 A13.o).mono ?_); (case side1 => exact I7.zI HI588.o); (case side2 => first | exact zBy HB.o (I7.ge HI588.o) | exact zBx HB.o); rintro e w27 ⟨rfl, hi, hb, hk⟩; refine ⟨_, rfl, ?_⟩; replace HO_4 := am (Kd.S_mono (Kd.S_keep (I7.apartS (show I7 w _ gb588 l0 x589001_1 x589002_1 from I7.zI HI588.o) (zSx HO_4.o) (by decide)) hk (fun _ h => h.2)) (fun _ h => h.1)); replace HB := am (hb); replace HI588 := am (hi); clear hb hk hi))
     go_ret
     exact ⟨_, zew, by (with_reducible repeat (first | apply Kd.S_alloc | apply Kd.S_drewN | apply Kd.S_drew)); exact HO_4.o, by first | exact zBy HB.o (I7.ge HI588.o) | exact zBx HB.o⟩
   subst c14
   rw [if_pos rfl] at H
   have H' := am H
   clear H
   go_wp2_with (first | ((with_reducible refine zgc 50 rfl ?_); refine zgl 23 Tryz.func50 #[.pointer (some ⟨gb588, 0, none⟩), .int .i64 24] ?_; (with_reducible refine (qC.calls gb588 l0 x589001_1 x589002_1 24 true t606 t607 w _ ?side1 ?side2 A13.o).mono ?_); (case side1 => exact I7.zI HI588.o); (case side2 => first | exact zBy HB.o (I7.ge HI588.o) | exact zBx HB.o); rintro e w15 ⟨rfl, hi, hb, hk⟩; refine ⟨_, rfl, ?_⟩; replace HO_4 := am (Kd.S_mono (Kd.S_keep (I7.apartS (show I7 w _ gb588 l0 x589001_1 x589002_1 from I7.zI HI588.o) (zSx HO_4.o) (by decide)) hk (fun _ h => h.2)) (fun _ h => h.1)); replace HB := am (hb); replace HI588 := am (hi); clear hb hk hi))
   go_loopg [4, 6] k1 (fun kq v4 v6 w' => ∃ (x4_2 : List (S34)) (x6_2 : Int) (x589001_2 : Int) (x589002_2 : Int), v6 = .int .i64 x6_2 ∧ Aq (ql.l1 kq x4_2 x6_2 l0 x589001_2 x589002_2 = some r) ∧ Aq (kq ≤ k1) ∧ Aq (Kd.S k34 34 w' w.heap.size (fun _ => True) v4 x4_2) ∧ Aq (I7 w w' gb588 l0 x589001_2 x589002_2) ∧ Aq (Below w.heap.size w w'))
   case atStart => exact ⟨(x4_1), (0), (t606), (t607), zrx, H', ⟨Nat.le_refl _⟩, ⟨by (with_reducible repeat (first | apply Kd.S_alloc | apply Kd.S_drewN | apply Kd.S_drew)); exact HO_4.o⟩, ⟨by exact I7.zI HI588.o⟩, ⟨by first | exact zBy HB.o (I7.ge HI588.o) | exact zBx HB.o⟩⟩
   case round =>
    clear H'
    try clear c7
    try clear c7b0
    try clear c14
    obtain ⟨x4_2, x6_2, x589001_2, x589002_2, rfl, HA, HK2, HO_4, HI588, HB⟩ := hrel
    cases gk with
    | zero => exact absurd HA.o (by simp [ql.l1])
    | succ k2 =>
     have H := HA.o
     clear HA
     simp only [ql.l1] at H
     obtain ⟨⟨t608, t609, t610⟩, A16, H⟩ := zob H
     try dsimp only at H
     by_cases c17 : (x4_2.length : Int) < (wrap64 (10 + t608))
     rotate_left
     ·rw [if_neg c17] at H
      have c17b0 := decide_eq_false c17
      clear c17
      focus
       obtain rfl := Option.some.inj H
       obtain ⟨Ao25, co25, eo25⟩ := Kd.S_slice HO_4.o
       subst eo25
       go_wp2_with (first | ((with_reducible refine zgc 75 rfl ?_); refine zgl 27 Tryz.func75 #[.pointer (some ⟨gb588, 0, none⟩), .int .i64 2] ?_; (with_reducible refine (qb.calls gb588 l0 x589001_2 x589002_2 2 t608 t609 t610 w _ ?side1 ?side2 A16.o).mono ?_); (case side1 => exact I7.zI HI588.o); (case side2 => first | exact zBy HB.o (I7.ge HI588.o) | exact zBx HB.o); rintro e w26 ⟨rfl, hi, hb, hk⟩; refine ⟨_, rfl, ?_⟩; replace HO_4 := am (Kd.S_mono (Kd.S_keep (I7.apartS (show I7 w _ gb588 l0 x589001_2 x589002_2 from I7.zI HI588.o) (zSx HO_4.o) (by decide)) hk (fun _ h => h.2)) (fun _ h => h.1)); replace HB := am (hb); replace HI588 := am (hi); clear hb hk hi))
       go_ret
       exact ⟨_, zew, by (with_reducible repeat (first | apply Kd.S_alloc | apply Kd.S_drewN | apply Kd.S_drew)); exact HO_4.o, by first | exact zBy HB.o (I7.ge HI588.o) | exact zBx HB.o⟩
     rw [if_pos c17] at H
     have c17b0 := decide_eq_true c17
     clear c17
     by_cases c18 : x6_2 < 12
     rotate_left
     ·rw [if_neg c18] at H
      have c18b0 := decide_eq_false c18
      clear c18
      focus
       obtain rfl := Option.some.inj H
       obtain ⟨Ao23, co23, eo23⟩ := Kd.S_slice HO_4.o
       subst eo23
       go_wp2_with (first | ((with_reducible refine zgc 75 rfl ?_); refine zgl 27 Tryz.func75 #[.pointer (some ⟨gb588, 0, none⟩), .int .i64 2] ?_; (with_reducible refine (qb.calls gb588 l0 x589001_2 x589002_2 2 t608 t609 t610 w _ ?side1 ?side2 A16.o).mono ?_); (case side1 => exact I7.zI HI588.o); (case side2 => first | exact zBy HB.o (I7.ge HI588.o) | exact zBx HB.o); rintro e w24 ⟨rfl, hi, hb, hk⟩; refine ⟨_, rfl, ?_⟩; replace HO_4 := am (Kd.S_mono (Kd.S_keep (I7.apartS (show I7 w _ gb588 l0 x589001_2 x589002_2 from I7.zI HI588.o) (zSx HO_4.o) (by decide)) hk (fun _ h => h.2)) (fun _ h => h.1)); replace HB := am (hb); replace HI588 := am (hi); clear hb hk hi))
       go_ret
       exact ⟨_, zew, by (with_reducible repeat (first | apply Kd.S_alloc | apply Kd.S_drewN | apply Kd.S_drew)); exact HO_4.o, by first | exact zBy HB.o (I7.ge HI588.o) | exact zBx HB.o⟩
     rw [if_pos c18] at H
     have c18b0 := decide_eq_true c18
     clear c18
     obtain ⟨c19, H⟩ := zin H
     have LMc19 := am c19
     clear c19
     obtain ⟨y611, hy611⟩ : ∃ y_ : List (S34), y_ = (x4_2 ++ [(⟨wrap64 (100 + x6_2), 0, ([] : List (S25))⟩ : S34)]) := ⟨_, rfl⟩
     replace H : (ql.l1 k2 y611 (wrap64 (x6_2 + 1)) l0 t609 t610) = some r := by rw [hy611]; exact H
     have Ny611 := am hy611
     clear hy611
     focus
      have H' := am H
      clear H
      obtain ⟨Ao20, co20, eo20⟩ := Kd.S_slice HO_4.o
      subst eo20
      go_wp2_with (first | ((with_reducible refine zgc 75 rfl ?_); refine zgl 27 Tryz.func75 #[.pointer (some ⟨gb588, 0, none⟩), .int .i64 2] ?_; (with_reducible refine (qb.calls gb588 l0 x589001_2 x589002_2 2 t608 t609 t610 w _ ?side1 ?side2 A16.o).mono ?_); (case side1 => exact I7.zI HI588.o); (case side2 => first | exact zBy HB.o (I7.ge HI588.o) | exact zBx HB.o); rintro e w21 ⟨rfl, hi, hb, hk⟩; refine ⟨_, rfl, ?_⟩; replace HO_4 := am (Kd.S_mono (Kd.S_keep (I7.apartS (show I7 w _ gb588 l0 x589001_2 x589002_2 from I7.zI HI588.o) (zSx HO_4.o) (by decide)) hk (fun _ h => h.2)) (fun _ h => h.1)); replace HB := am (hb); replace HI588 := am (hi); clear hb hk hi) | ((with_reducible refine gate_builtin (b := .append) (xs := #[.tmp 36, .tmp 40]) rfl ?_); at_builtin; refine Kd.S_append k34 (w0 := w) w.heap.size rfl (.tmp 36) (.tmp 40) 49 34 (.agg #[(.int .i64 0), (.int .i64 0), (.slice none 0 0)]) 40 rfl Tryz.underlying49 info34 rfl (by decide) (by omega) (.slice Ao20 x4_2.length co20) x4_2 (⟨wrap64 (100 + x6_2), 0, ([] : List (S25))⟩ : S34) [.int .i64 (wrap64 (100 + x6_2)), .int .i64 0, .slice none 0 0] (fun _ => True) (fun _ => False) rfl rfl ?aP (fun k_ hk_ => hk_.elim) ?aF ?aO ?aB ?aS ?aL ?_; (case aP => exact k34_mkM _ _ _ (⟨wrap64 (100 + x6_2), 0, ([] : List (S25))⟩ : S34) (Kd.R_nil _ _ _ _ _)); (case aB => exact (by first | exact zBy HB.o (I7.ge HI588.o) | exact zBx HB.o)); (case aF => exact (fun _ _ => trivial)); (case aO => exact (by (with_reducible repeat (first | apply Kd.S_alloc | apply Kd.S_drewN | apply Kd.S_drew)); exact Kd.S_mono HO_4.o (fun k_ hk => ⟨trivial, fun e_ => e_⟩))); (case aS => exact (below_size (by first | exact zBy HB.o (I7.ge HI588.o) | exact zBx HB.o))); (case aL => have := LMc19.o; omega); intro v612 w22 ho hb hg hat; rw [← Ny611.o] at ho; replace HI588 := am (I7.grown (I7.zI HI588.o) hg (I7.own_neS HI588.o HO_4.o (by decide))); replace HB := am (hb); have HO613 := am (ho); clear HO_4; clear ho hb hg hat))
      go_roundg k2
      case measure => have := HK1.o; have := HK2.o; omega
      case rel => exact ⟨(y611), (wrap64 (x6_2 + 1)), (t609), (t610), zrx, H', ⟨by have := HK1.o; have := HK2.o; omega⟩, ⟨by (with_reducible repeat (first | apply Kd.S_alloc | apply Kd.S_drewN | apply Kd.S_drew)); exact HO613.o⟩, ⟨by exact I7.zI HI588.o⟩, ⟨by first | exact zBy HB.o (I7.ge HI588.o) | exact zBx HB.o⟩⟩
def ixU.l0 (p : S34 → Bool) : Nat → List (S34) → Int → Option Int
 | 0, _, _ => none
 | k + 1, l, i => if i < (l.length : Int) then (if 0 ≤ i then (if p (qn l i) = true then some i else ixU.l0 p k l (wrap64 (i + 1))) else none) else some (-1)
theorem ixU.calls (k : Nat) (A0 : Option Addr) (c0 : Nat) (l0 : List (S34)) (p : S34 → Bool) (g : FuncId) (fn : Func) (caps : Array Value) (r : Int) (w : World) (hgf : Tryz.prog.funcs[g]? = some fn) (hgn : (fn.name == "runtime.NumGoroutine") = false) (hgb : fn.body.isSome = true)
  (hp : ∀ i : Int, 0 ≤ i → i < (l0.length : Int) → ∀ (A174_2 : Option Addr) (c174_2 : Nat) (W : World), Below w.heap.size w W → Calls Tryz.prog g (#[.agg #[.int .i64 (qn l0 i).f0, .int .i64 (qn l0 i).f1, .slice A174_2 (qn l0 i).f2.length c174_2]] ++ caps) W fun e W' => e = .returned (.bool (p (qn l0 i))) ∧ Below W.heap.size W W')
  (hr0 : Kd.C k34 w A0 l0.length l0) (hc0 : l0.length ≤ c0) (h : ixU.l0 p k l0 0 = some r) :
  Calls Tryz.prog 113 #[.slice A0 l0.length c0, .func (.func g) #[] caps] w fun e w' => e = .returned (.int .i64 r) ∧ Below w.heap.size w w' := by
 have HR0 := am hr0
 have HC0 := am hc0
 have HP := am hp
 clear hr0 hc0 hp
 have HB := am (Below.refl w.heap.size w)
 have H' := am h
 clear h
 go_enter Tryz.func113, Tryz.ntmps113
 go_wp2
 go_loopg [8] k (fun kq v8 w' => ∃ (x8_1 : Int), v8 = .int .i64 x8_1 ∧ Aq (ixU.l0 p kq l0 x8_1 = some r) ∧ Aq (kq ≤ k) ∧ Aq (Below w.heap.size w w'))
 case atStart => exact ⟨(0), zrx, H', ⟨Nat.le_refl _⟩, ⟨zBx HB.o⟩⟩
 case round =>
  clear H'
  obtain ⟨x8_1, rfl, HA, HK1, HB⟩ := hrel
  cases gk with
  | zero => exact absurd HA.o (by simp [ixU.l0])
  | succ k1 =>
   have H := HA.o
   clear HA
   simp only [ixU.l0] at H
   by_cases c3 : x8_1 < (l0.length : Int)
   rotate_left
   · rw [if_neg c3] at H
     have c3b0 := decide_eq_false c3
     clear c3
     obtain rfl := Option.some.inj H
     clear H
     go_wp2
     go_ret
     exact ⟨rfl, zBx HB.o⟩
   rw [if_pos c3] at H
   have c3b0 := decide_eq_true c3
   clear c3
   by_cases c4 : 0 ≤ x8_1
   rotate_left
   · rw [if_neg c4] at H
     exact absurd H (by simp)
   rw [if_pos c4] at H
   have c4b0 := decide_eq_true c4
   clear c4
   by_cases c7 : p (qn l0 x8_1) = true
   · rw [if_pos c7] at H
     have HC7 := am c7
     clear c7
     obtain rfl := Option.some.inj H
     clear H
     have p174 : 0 ≤ (x8_1 : Int) := zod
     have q174 : x8_1 < (l0.length : Int) := zod
     obtain ⟨ad174, A174_2, c174_2, e174, hx174_0, hx174_1, hx174_2, hl174_2, hi174_2⟩ := at_T34 HR0.o x8_1 p174 q174
     cases e174
     obtain ⟨hx174_0, hx174_1, hx174_2⟩ := zh3 HB hx174_0 hx174_1 hx174_2
     replace p174 := eq_true p174
     replace q174 := eq_true q174
     go_wp2_with (first | ((with_reducible refine gate_calleeT (t := 11) rfl ?_); refine goesC_ (t := 11) (some 16) rfl rfl hgf hgn hgb #[.agg #[.int .i64 (qn l0 x8_1).f0, .int .i64 (qn l0 x8_1).f1, .slice A174_2 (qn l0 x8_1).f2.length c174_2]] caps (#[.agg #[.int .i64 (qn l0 x8_1).f0, .int .i64 (qn l0 x8_1).f1, .slice A174_2 (qn l0 x8_1).f2.length c174_2]] ++ caps) ⟨rfl, rfl⟩ zlx rfl ?_; (with_reducible refine (HP.o x8_1 (of_decide_eq_true zax) (of_decide_eq_true zax) A174_2 c174_2 _ ?sb).mono ?_); (case sb => exact zBx HB.o); rintro e w8 ⟨he_, hb⟩; rw [HC7.o] at he_; subst he_; refine ⟨_, rfl, ?_⟩; replace HB := zhs HB hb; clear hb))
     go_ret
     exact ⟨rfl, zBx HB.o⟩
   rw [if_neg c7] at H
   have HC7 := am (Bool.eq_false_iff.mpr c7)
   clear c7
   have H' := am H
   clear H
   have p174 : 0 ≤ (x8_1 : Int) := zod
   have q174 : x8_1 < (l0.length : Int) := zod
   obtain ⟨ad174, A174_2, c174_2, e174, hx174_0, hx174_1, hx174_2, hl174_2, hi174_2⟩ := at_T34 HR0.o x8_1 p174 q174
   cases e174
   obtain ⟨hx174_0, hx174_1, hx174_2⟩ := zh3 HB hx174_0 hx174_1 hx174_2
   replace p174 := eq_true p174
   replace q174 := eq_true q174
   go_wp2_with (first | ((with_reducible refine gate_calleeT (t := 11) rfl ?_); refine goesC_ (t := 11) (some 16) rfl rfl hgf hgn hgb #[.agg #[.int .i64 (qn l0 x8_1).f0, .int .i64 (qn l0 x8_1).f1, .slice A174_2 (qn l0 x8_1).f2.length c174_2]] caps (#[.agg #[.int .i64 (qn l0 x8_1).f0, .int .i64 (qn l0 x8_1).f1, .slice A174_2 (qn l0 x8_1).f2.length c174_2]] ++ caps) ⟨rfl, rfl⟩ zlx rfl ?_; (with_reducible refine (HP.o x8_1 (of_decide_eq_true zax) (of_decide_eq_true zax) A174_2 c174_2 _ ?sb).mono ?_); (case sb => exact zBx HB.o); rintro e w8 ⟨he_, hb⟩; rw [HC7.o] at he_; subst he_; refine ⟨_, rfl, ?_⟩; replace HB := zhs HB hb; clear hb))
   go_roundg k1
   case measure => have := HK1.o; omega
   case rel => exact ⟨(wrap64 (x8_1 + 1)), zrx, H', ⟨by have := HK1.o; omega⟩, ⟨zBx HB.o⟩⟩
theorem closure79 (x0 x1 : Int) (A2 : Option Addr) (n2 c2 : Nat) (a1 : Int) (g : Nat) (w : World) (hq : w.cell? ⟨g, 0, none⟩ = some (.int .i64 a1)) :
  Calls Tryz.prog 79 #[.agg #[.int .i64 x0, .int .i64 x1, .slice A2 n2 c2], .pointer (some ⟨g, 0, none⟩)] w fun e w' => e = .returned (.bool (decide (x0 = a1))) ∧ Below w.heap.size w w' := by
 have hu34 := Tryz.underlying34
 have HB := am (Below.refl w.heap.size w)
 go_enter Tryz.func79, Tryz.ntmps79
 go_wp2_with (first | ((with_reducible refine zgd 2 rfl ?_); refine zbe 2 #[.int .i64 x0, .int .i64 x1, .slice A2 n2 c2] 34 ?_; intro gb265 hg w12 hbox hb; have n0_ := am (bsq (zBx HB.o) hb); have n1_ := am (hbox); have n2_ := zns hg HB.o; replace hq := pw_cell_below n0_.o hq; clear HB; have HB := n0_; have BK265 := n1_; have GE265 := n2_; clear n0_ n1_ n2_; clear hb hbox hg; have hcz13_0 := (bkc BK265.o 0).trans rfl; have hcz13_1 := (bkc BK265.o 1).trans rfl; have hcz13_2 := (bkc BK265.o 2).trans rfl))
 go_ret
 exact ⟨by first | rfl | (simp; done) | (simp [*]; done), zBy HB.o GE265.o⟩
def slices_ContainsFunc_Bulletin.f (l0 : List (S34)) (a1_0 : Int) (a1_1 : Int) (l1_2 : List (S25)) : Option (Bool) := (ixU.l0 (fun x => decide (x.f0 = a1_0)) (l0.length + 1) l0 0).bind fun i => some (decide (i ≥ 0))
theorem slices_ContainsFunc_Bulletin.calls (g : Nat) (A0 : Option Addr) (c0 : Nat) (l0 : List (S34)) (a1_0 : Int) (a1_1 : Int) (l1_2 : List (S25)) (r : Bool) (w : World) (hr0 : Kd.C k34 w A0 l0.length l0) (hc0 : l0.length ≤ c0) (hq : w.cell? ⟨g, 0, none⟩ = some (.int .i64 a1_0)) (h : slices_ContainsFunc_Bulletin.f l0 a1_0 a1_1 l1_2 = some r) :
 Calls Tryz.prog 78 #[.slice A0 l0.length c0, .func (.func 79) #[] #[.pointer (some ⟨g, 0, none⟩)]] w fun e w' => e = .returned (.bool r) ∧ Below w.heap.size w w' := by
 unfold slices_ContainsFunc_Bulletin.f at h
 obtain ⟨i, hi, h⟩ := Option.bind_eq_some_iff.mp h
 obtain rfl := Option.some.inj h
 clear h
 have key := ixU.calls (l0.length + 1) A0 c0 l0 (fun x => decide (x.f0 = a1_0)) 79 Tryz.f79 #[.pointer (some ⟨g, 0, none⟩)] i
 have clo : ∀ W, Below w.heap.size w W → ∀ i : Int, 0 ≤ i → i < (l0.length : Int) → ∀ (A2 : Option Addr) (c2 : Nat) (W' : World), Below W.heap.size W W' → Calls Tryz.prog 79 (#[.agg #[.int .i64 (qn l0 i).f0, .int .i64 (qn l0 i).f1, .slice A2 (qn l0 i).f2.length c2]] ++ #[.pointer (some ⟨g, 0, none⟩)]) W' fun e W'' => e = .returned (.bool (decide ((qn l0 i).f0 = a1_0))) ∧ Below W'.heap.size W' W'' := by
  intro W hW i _ _ A2 c2 W' hW'
  have hb := bsq hW hW'
  exact closure79 (qn l0 i).f0 (qn l0 i).f1 A2 (qn l0 i).f2.length c2 a1_0 g W' (pw_cell_below hb hq)
 clear hq
 have HR0 := am hr0
 have HC0 := am hc0
 have HK := am key
 have HI := am hi
 have CLO := am clo
 clear hr0 hc0 key clo hi
 have HB := am (Below.refl w.heap.size w)
 go_enter Tryz.func78, Tryz.ntmps78
 go_wp2_with (first | (go_at_call 113; refine (HK.o _ (by kernel_rfl) (by kernel_rfl) (by kernel_rfl) ?side0 ?side1 ?side2 HI.o).mono ?_; (case side0 => exact CLO.o _ (zBx HB.o)); (case side1 => exact zCx HR0.o); (case side2 => exact HC0.o); rintro e w4 ⟨rfl, hb⟩; replace HB := zhs HB hb; clear hb))
 go_ret
 exact ⟨rfl, zBx HB.o⟩
def slices_Clone_Warning.f (l0 : List (S25)) : Option ((List (S25))) := (some (([] : List (S25)) : List (S25))).bind fun y614 => (if y614.length + l0.length < 2932031007402 then (some (y614 ++ l0)) else (none))
theorem slices_Clone_Warning.calls_some (ad0_ : Addr) (c0 : Nat) (l0 : List (S25)) (r : List (S25)) (w : World) (hr0 : Kd.C k25 w (some ad0_) l0.length l0) (hc0 : l0.length ≤ c0) (h : slices_Clone_Warning.f l0 = some r) :
 Calls Tryz.prog 80 #[.slice (some ad0_) l0.length c0] w fun e w' => ∃ v0_ : Value, e = .returned (v0_) ∧ Kd.R k25 25 w' w.heap.size (fun _ => True) v0_ r ∧ Below w.heap.size w w' := by
 have HR0 := am hr0
 have HC0 := am hc0
 clear hr0 hc0
 have HB := am (Below.refl w.heap.size w)
 unfold slices_Clone_Warning.f at h
 have H := h
 clear h
 obtain ⟨y614, hy614⟩ : ∃ y_ : List (S25), y_ = (([] : List (S25))) := ⟨_, rfl⟩
 replace H := zyb hy614 H
 have Ny614 := am hy614
 clear hy614
 by_cases c2 : y614.length + l0.length < 2932031007402
 ·rw [if_pos c2] at H
  have LMc2 := am c2
  clear c2
  obtain ⟨y617, hy617⟩ : ∃ y_ : List (S25), y_ = (y614 ++ l0) := ⟨_, rfl⟩
  replace H : (some y617) = some r := by rw [hy617]; exact H
  have Ny617 := am hy617
  clear hy617
  focus
   obtain rfl := Option.some.inj H
   have q_ : ∀ W : World, (binOp .eql 32 (.slice (some ad0_) l0.length c0) (.slice none 0 0)).run Tryz.prog W = .ok (.bool false) W := fun W => Lib.run_eql_slice_nil W _ _ (some ad0_) _ _ _ _ Tryz.underlying32
   go_enter Tryz.func80, Tryz.ntmps80
   go_wp2_with (first | ((with_reducible refine zgd 5 rfl ?_); refine Kd.R_lit k25 _ 25 ?hg (N := 5) ?hd (xs := ([] : List (S25))) (inner := []) (ok := fun _ => True) (okp := fun _ => True) ?hr ?hp (fun _ hk => hk) trivial (Below.refl _ _) (Nat.le_refl _) (by simp) ?_; (case hd => rfl); (case hg => rfl); (case hr => exact zsx); (case hp => exact (Reps.none _ _)); intro v615 w3 ho4 hb hg_ hnew_; clear hg_ hnew_; (first | rw [← Ny614.o] at ho4 | (simp only [Int.reduceToNat] at ho4; rw [← Ny614.o] at ho4)); have HO616 := am (Kd.R_lower ho4 (below_size (zBx HB.o))); replace HB := zhs HB hb; clear hb ho4) | ((with_reducible refine gate_builtin (b := .append) (xs := #[.tmp 5, .tmp 6]) rfl ?_); at_builtin; refine Kd.R_append_rows k25 (w0 := w) w.heap.size rfl (.tmp 5) (.tmp 6) 32 25 (.agg #[(.int .i64 0), (.int .i64 0), (.int .i64 0), (.int .i64 0), (.int .i64 0), (.int .i64 0)]) 48 rfl Tryz.underlying32 info25 rfl (by decide) (by omega) v615 y614 l0 _ _ _ (fun _ => True) (fun _ => False) rfl rfl ?aO ?aR (fun _ _ h => h) (fun _ h => h.elim) ?aF ?aB ?aS ?aL ?_; (case aR => repeat (first | exact (Kd.C_below HR0.o HB.o) | (with_reducible refine Kd.C_alloc ?_ _) | (with_reducible refine Kd.C_drewN ?_ _) | (with_reducible refine Kd.C_drew ?_))); (case aB => exact (zBx HB.o)); (case aF => exact (fun _ _ => trivial)); (case aO => exact (zRx HO616.o)); (case aS => exact (below_size (zBx HB.o))); (case aL => have := LMc2.o; omega); intro v618 w5 ho hb hg hat; rw [← Ny617.o] at ho; replace HB := am (hb); have HO619 := am (ho); clear HO616; clear ho hb hg hat))
   go_ret
   exact ⟨_, zew, zDR HO619.o, zBx HB.o⟩
 ·rw [if_neg c2] at H
  exact absurd H (by simp)
theorem slices_Clone_Warning.calls (A0 : Option Addr) (c0 : Nat) (l0 : List (S25)) (r : List (S25)) (w : World) (hr0 : Kd.C k25 w A0 l0.length l0) (hc0 : l0.length ≤ c0) (h : slices_Clone_Warning.f l0 = some r) :
 Calls Tryz.prog 80 #[.slice A0 l0.length c0] w fun e w' => ∃ v0_ : Value, e = .returned (v0_) ∧ Kd.R k25 25 w' w.heap.size (fun _ => True) v0_ r ∧ Below w.heap.size w w' := by
 cases A0 with
 | some ad => exact slices_Clone_Warning.calls_some ad c0 l0 r w hr0 hc0 h
 | none =>
  have hl : l0.length = 0 := by
   rcases Nat.eq_zero_or_pos l0.length with h0 | h0
   ·exact h0
   ·obtain ⟨_, e, _⟩ := hr0.2.2 h0
    cases e
  obtain rfl : l0 = [] := List.eq_nil_of_length_eq_zero hl
  obtain rfl : r = [] := by simpa [slices_Clone_Warning.f] using h.symm
  clear hr0 hc0 h
  have q_ : ∀ W : World, (binOp .eql 32 (.slice none 0 c0) (.slice none 0 0)).run Tryz.prog W = .ok (.bool true) W := fun W => Lib.run_eql_slice_nil W _ _ none _ _ _ _ Tryz.underlying32
  go_enter Tryz.func80, Tryz.ntmps80
  go_wp2
  go_ret
  exact ⟨_, rfl, Kd.R_nil _ _ _ _ _, Below.refl _ _⟩
mutual
def qi.l0 : Nat → List (S34) → Int → List (S34) → Int → Int → Option ((List (S25)) × Int × Bool)
 | 0, _, _, _, _, _ => none
 | k + 1, x0, x5, x12, x13, x14 => if x14 < x13 then (if 0 ≤ x14 then (if x14 < (x12.length : Int) then ((qr.f k ((qn x12 x14).f0) ((qn x12 x14).f1) ((qn x12 x14).f2)).bind fun t628 => (if t628 = true then (if x14 ≤ (x0.length : Int) then ((slices_ContainsFunc_Bulletin.f (x0.take (x14 : Int).toNat) ((qn x12 x14).f0) ((qn x12 x14).f1) ((qn x12 x14).f2)).bind fun t633 => (qi.j1 k x0 x5 x14 x12 x13 x14 t633 ((qn x12 x14).f0) ((qn x12 x14).f1) ((qn x12 x14).f2))) else (none)) else (qi.j1 k x0 x5 x14 x12 x13 x14 true ((qn x12 x14).f0) ((qn x12 x14).f1) ((qn x12 x14).f2)))) else (none)) else (none)) else (if 0 ≤ x5 then (if x5 < (x0.length : Int) then ((slices_Clone_Warning.f ((qn x0 x5).f2)).bind fun t622 => (some (t622, (qn x0 x5).f0, true))) else (none)) else (none))
def qi.j1 : Nat → List (S34) → Int → Int → List (S34) → Int → Int → Bool → Int → Int → List (S25) → Option ((List (S25)) × Int × Bool)
 | 0, _, _, _, _, _, _, _, _, _, _ => none
 | k + 1, x0, x5, x6, x12, x13, x14, x28, x628000, x628001, x628002 => if x28 = true then (some (([] : List (S25)), 0, false)) else (if 0 ≤ x5 then (if x5 < (x0.length : Int) then (if x628000 > ((qn x0 x5).f0) then (qi.l0 k x0 x6 x12 x13 (wrap64 (x14 + 1))) else (qi.l0 k x0 x5 x12 x13 (wrap64 (x14 + 1)))) else (none)) else (none))
end
def qi.f (k : Nat) (l0 : List (S34)) : Option ((List (S25)) × Int × Bool) := (qp.f (l0.length : Int) 1 10).bind fun t620 => (if t620 = true then (qi.l0 k l0 0 l0 (l0.length : Int) 0) else (some (([] : List (S25)), 0, false)))
def qi.T9 : Bool × List (List Nat × List Nat) := (true, [([], []), ([0], [0]), ([], []), ([], []), ([2, 3], [2, 3]), ([4], [4]), ([5], [5]), ([1, 6], [1, 6])])
def qi.B9 : List Nat := [0, 1, 0, 0, 12, 28, 60, 127]
theorem qi.tab9 : rtab .any (opsOf Tryz.f32 9) = qi.T9 := by kernel_rfl
theorem qi.bits9 : waitsOk qi.T9.2 qi.B9 = true := by kernel_rfl
def qi.T12 : Bool × List (List Nat × List Nat) := (true, [([], []), ([], []), ([0, 1], [0, 1]), ([2], [2]), ([3], [3]), ([4], [4]), ([], []), ([], []), ([6, 7], [6, 7]), ([8], [8]), ([9], [9]), ([5, 5, 0, 1, 2, 3, 4, 5], [5]), ([10, 11, 0, 1, 2, 3, 4, 5, 6, 7, 8, 9, 10, 11], [10]), ([12, 0, 1, 2, 3, 4, 5, 6, 7, 8, 9, 10, 11, 12], [])])
def qi.B12 : List Nat := [0, 0, 3, 7, 15, 31, 0, 0, 192, 448, 960, 63, 4095, 8191]
theorem qi.tab12 : rtab .any (opsOf Tryz.f32 12) = qi.T12 := by kernel_rfl
theorem qi.bits12 : waitsOk qi.T12.2 qi.B12 = true := by kernel_rfl
theorem qi.calls (k : Nat) (A0 : Option Addr) (c0 : Nat) (l0 : List (S34)) (r1 : List (S25)) (r2 : Int) (r3 : Bool) (w : World) (hr0 : Kd.C k34 w A0 l0.length l0) (hc0 : l0.length ≤ c0) (h : qi.f k l0 = some (r1, r2, r3)) :
 Calls Tryz.prog 32 #[.slice A0 l0.length c0] w fun e w' => ∃ v0_ : Value, e = .returned (.tuple #[v0_, .int .i64 r2, .bool r3]) ∧ Kd.R k25 25 w' w.heap.size (fun _ => True) v0_ r1 ∧ Below w.heap.size w w' := by
 have hu34 := Tryz.underlying34
 have HR0 := am hr0
 have HC0 := am hc0
 clear hr0 hc0
 have HB := am (Below.refl w.heap.size w)
 unfold qi.f at h
 have H := h
 clear h
 obtain ⟨t620, A2, H⟩ := zob H
 try dsimp only at H
 by_cases c3 : t620 = true
 rotate_left
 ·replace c3 := Bool.eq_false_iff.mpr c3
  subst c3
  rw [if_neg (show ¬ (false = true) by decide)] at H
  focus
   simp only [Option.some.injEq, Prod.mk.injEq] at H
   obtain ⟨rfl, rfl, rfl⟩ := H
   go_enter Tryz.func32, Tryz.ntmps32
   go_wp2_with (first | ((with_reducible refine zgc 69 rfl ?_); refine zgl 10 Tryz.func69 #[.int .i64 (l0.length : Int), .int .i64 1, .int .i64 10] ?_; (with_reducible refine (qp.calls (l0.length : Int) 1 10 false _ A2.o).mono ?_); rintro e w' ⟨rfl, ⟨nd, rfl⟩⟩; refine ⟨_, rfl, ?_⟩))
   go_ret3
   exact ⟨_, zew, by first | exact Kd.R_nil _ _ _ _ _ | exact Kd.N_nil _ _ _ _ _ | exact Kd.V_nil _ _ _ _ _ | exact Kd.Q_nil _ _ _ _ _ | exact Kd.S_nil _ _ _ _ _, zBx HB.o⟩
 subst c3
 rw [if_pos rfl] at H
 have H' := am H
 clear H
 go_enter Tryz.func32, Tryz.ntmps32
 go_wp2_with (first | ((with_reducible refine zgc 69 rfl ?_); refine zgl 10 Tryz.func69 #[.int .i64 (l0.length : Int), .int .i64 1, .int .i64 10] ?_; (with_reducible refine (qp.calls (l0.length : Int) 1 10 true _ A2.o).mono ?_); rintro e w' ⟨rfl, ⟨nd, rfl⟩⟩; refine ⟨_, rfl, ?_⟩))
 go_loopg [5, 14] k (fun kq v5 v14 w' => ∃ (x5_1 : Int) (x14_1 : Int), v5 = .int .i64 x5_1 ∧ v14 = .int .i64 x14_1 ∧ Aq (qi.l0 kq l0 x5_1 l0 (l0.length : Int) x14_1 = some (r1, r2, r3)) ∧ Aq (kq ≤ k) ∧ Aq (Below w.heap.size w w'))
 case atStart => exact ⟨(0), (0), zrx, zrx, H', ⟨Nat.le_refl _⟩, ⟨zBx HB.o⟩⟩
 case round =>
  clear H'
  try clear c3
  obtain ⟨x5_1, x14_1, rfl, rfl, HA, HK1, HB⟩ := hrel
  cases gk with
  | zero => exact absurd HA.o (by simp [qi.l0])
  | succ k1 =>
   have H := HA.o
   clear HA
   simp only [qi.l0] at H
   by_cases c4 : x14_1 < (l0.length : Int)
   rotate_left
   ·rw [if_neg c4] at H
    have c4b0 := decide_eq_false c4
    clear c4
    obtain ⟨c28, H⟩ := zin H
    have c28b0 := decide_eq_true c28
    clear c28
    obtain ⟨c29, H⟩ := zin H
    have c29b0 := decide_eq_true c29
    clear c29
    obtain ⟨t622, A30, H⟩ := zob H
    try dsimp only at H
    focus
     simp only [Option.some.injEq, Prod.mk.injEq] at H
     obtain ⟨rfl, rfl, rfl⟩ := H
     try go_wp2
     replace HB := am (below_drew1 HB.o)
     have p621 : 0 ≤ (x5_1 : Int) := zod
     have q621 : x5_1 < (l0.length : Int) := zod
     obtain ⟨ad621, A621_2, c621_2, e621, hx621_0, hx621_1, hx621_2, hl621_2, hi621_2⟩ := at_T34 HR0.o x5_1 p621 q621
     have hw621_2 := hx621_2
     have hw621_1 := hx621_1
     have hw621_0 := hx621_0
     cases e621
     obtain ⟨hx621_0, hx621_1, hx621_2⟩ := zh3 HB hx621_0 hx621_1 hx621_2
     have HR621_2 := am hi621_2
     have HC621_2 := am hl621_2
     clear hi621_2 hl621_2
     replace p621 := eq_true p621
     replace q621 := eq_true q621
     have p625 : 0 ≤ (x5_1 : Int) := zod
     have q625 : x5_1 < (l0.length : Int) := zod
     obtain ⟨ad625, A625_2, c625_2, e625, hx625_0, hx625_1, hx625_2, hl625_2, hi625_2⟩ := at_T34 HR0.o x5_1 p625 q625
     have hw625_2 := hx625_2
     have hw625_1 := hx625_1
     have hw625_0 := hx625_0
     obtain rfl : ad621 = ad625 := (by injection e625)
     obtain ⟨hx625_0, hx625_1, hx625_2⟩ := zh3 HB hx625_0 hx625_1 hx625_2
     have HR625_2 := am hi625_2
     have HC625_2 := am hl625_2
     clear hi625_2 hl625_2
     replace p625 := eq_true p625
     replace q625 := eq_true q625
     have ea_ := Option.some.inj (hx621_2.symm.trans hx625_2)
     injection ea_ with ea_ en_ ec_
     subst ea_
     subst ec_
     clear en_
     refine start_ (n := 14) (S := fun w' => zS3 w' (ad621.add ((x5_1).toNat * 3)) (qn l0 x5_1) A621_2 c621_2 ∧ zS3 w' (ad621.add ((x5_1).toNat * 3)) (qn l0 x5_1) A621_2 c621_2) (ds := []) (zm 14 0) (by kernel_rfl) rfl rfl ⟨zh3 HB hw621_0 hw621_1 hw621_2, zh3 HB hw625_0 hw625_1 hw625_2⟩ (fun hHd => ?_); refine with_tabW qi.tab12 qi.bits12 (fun Tq Wq => ?_)
     generalize wr.drew = w31 at HB HR621_2 HR625_2 hx621_0 hx621_1 hx621_2 hx625_0 hx625_1 hx625_2 hHd ⊢
     refine zpu 0 39 (zm 14 1) Tq.o ?_
     refine zpu 1 40 (zm 14 3) Tq.o ?_
     refine zpu 2 41 (zm 14 7) Tq.o ?_
     refine zpu 3 42 (zm 14 15) Tq.o ?_
     refine zpu 6 45 (zm 14 79) Tq.o ?_
     refine zpu 7 46 (zm 14 207) Tq.o ?_
     refine zpu 8 47 (zm 14 463) Tq.o ?_
     refine zpu 9 48 (zm 14 975) Tq.o ?_
     refine take_ (i := 4) (N := some 43) (v := ?_) (a' := ?_) (zm 14 991) rfl rfl (take_ofW Tq.o Wq.o (by kernel_rfl)) (fun _ _ _ h => h) (Or.inl ⟨by rfl, ?_⟩) hHd ?_ ?_
     rotate_left
     ·rintro w' ⟨⟨s0, s1, s2⟩, ⟨s3, s4, s5⟩⟩
      go_simp
      with_reducible rfl
     rotate_left
     ·exact zpx
     refine take_ (i := 10) (N := some 49) (v := ?_) (a' := ?_) (zm 14 2015) rfl rfl (take_ofW Tq.o Wq.o (by kernel_rfl)) (fun _ _ _ h => h) (Or.inl ⟨by rfl, ?_⟩) hHd ?_ ?_
     rotate_left
     ·rintro w' ⟨⟨s0, s1, s2⟩, ⟨s3, s4, s5⟩⟩
      go_simp
      with_reducible rfl
     rotate_left
     ·exact zpx
     refine one_ (i := 5) (N := some 44) (zm 14 2047) rfl rfl (one_of Tq.o (by kernel_rfl)) (by decide) (fun K hK => ?_)
     refine goes_ Tryz.func80 (by kernel_rfl) rfl #[.slice A621_2 ((qn l0 x5_1).f2).length c621_2] (by rfl) rfl rfl zlx ?_
     with_reducible refine (slices_Clone_Warning.calls _ _ ((qn l0 x5_1).f2) t622 _ ?side1 ?side2 A30.o).mono ?_
     (case side1 => exact zCx (Kd.C_below HR621_2.o HB.o))
     (case side2 => exact HC621_2.o)
     rintro e w32 ⟨v623, rfl, ho0, hb⟩
     refine ⟨_, rfl, ?_⟩
     have HO624 := am (Kd.R_lower ho0 (below_size (zBx HB.o)))
     replace HB := zhs HB hb
     (try clear hb)
     (try clear hb2)
     (try clear hk)
     (try clear hi)
     (try clear ho0)
     refine hK.out _ _ ⟨zh3 HB hw621_0 hw621_1 hw621_2, zh3 HB hw625_0 hw625_1 hw625_2⟩ (fun hHd => ?_)
     clear hK K
     refine norm_ (a' := ?_) ?_ ?_
     rotate_left
     ·show Act.put _ (some 44) _ = _
      simp only [Act.put, List.setIfInBounds_toArray, List.set_cons_zero, List.set_cons_succ, i64_w, i32_w]
      rfl
     refine zpu 11 2 (zm 14 4095) Tq.o ?_
     refine zpu 12 3 (zm 14 8191) Tq.o ?_
     refine zpu 13 4 (zm 14 16383) Tq.o ?_
     refine done_ (done_of Tq.o (by kernel_rfl)) ?_
     try go_wp2
     go_ret3
     exact ⟨_, zew, zDR HO624.o, zBx HB.o⟩
   rw [if_pos c4] at H
   have c4b0 := decide_eq_true c4
   clear c4
   obtain ⟨c5, H⟩ := zin H
   have c5b0 := decide_eq_true c5
   clear c5
   obtain ⟨c6, H⟩ := zin H
   have c6b0 := decide_eq_true c6
   clear c6
   have HC7 := am H
   clear H
   have p626 : 0 ≤ (x14_1 : Int) := zod
   have q626 : x14_1 < (l0.length : Int) := zod
   obtain ⟨ad626, A626_2, c626_2, e626, hx626_0, hx626_1, hx626_2, hl626_2, hi626_2⟩ := at_T34 HR0.o x14_1 p626 q626
   cases e626
   obtain ⟨hx626_0, hx626_1, hx626_2⟩ := zh3 HB hx626_0 hx626_1 hx626_2
   have HR626_2 := am hi626_2
   have HC626_2 := am hl626_2
   clear hi626_2 hl626_2
   replace p626 := eq_true p626
   replace q626 := eq_true q626
   go_upto_region 7 with (first | ((with_reducible refine zgd 7 rfl ?_); refine zbe 7 #[.int .i64 0, .int .i64 0, .slice none 0 0] 34 ?_; intro gb627 hg w8 hbox hb; have BK627 := am (hbox); have GW627 := zns hg HB.o; have GE627 := zns hg HB.o; replace HB := zhs HB hb; clear hb hbox hg; have hcz9 := zc3 BK627.o))
   (try simp only [Act.put, List.setIfInBounds_toArray, List.set_cons_zero, List.set_cons_succ])
   go_cut [28] (fun v28 wc => ∃ (kq : Nat) (x28_6 : Bool), v28 = .bool x28_6 ∧ Aq (qi.j1 kq l0 x5_1 x14_1 l0 (l0.length : Int) x14_1 x28_6 ((qn l0 x14_1).f0) ((qn l0 x14_1).f1) ((qn l0 x14_1).f2) = some (r1, r2, r3)) ∧ Aq (kq ≤ k1) ∧ Aq (wc.heap[gb627]? = some (.cells #[.int .i64 ((qn l0 x14_1).f0), .int .i64 ((qn l0 x14_1).f1), (.slice A626_2 ((qn l0 x14_1).f2).length c626_2)] 34 (0, 0))) ∧ Aq (Below w.heap.size w wc))
   case first =>
    have H := HC7.o
    clear HC7
    obtain ⟨t628, A10, H⟩ := zob H
    try dsimp only at H
    by_cases c11 : t628 = true
    rotate_left
    ·replace c11 := Bool.eq_false_iff.mpr c11
     subst c11
     rw [if_neg (show ¬ (false = true) by decide)] at H
     focus
      have H' := am H
      clear H
      have hcz20 := zc3 BK627.o
      go_wp2_with (first | ((with_reducible refine zgc 24 rfl ?_); refine zgl 20 Tryz.func24 #[.agg #[.int .i64 ((qn l0 x14_1).f0), .int .i64 ((qn l0 x14_1).f1), .slice A626_2 ((qn l0 x14_1).f2).length c626_2]] ?_; (with_reducible refine (qr.calls k1 ((qn l0 x14_1).f0) ((qn l0 x14_1).f1) _ _ ((qn l0 x14_1).f2) false _ ?side1 ?side2 A10.o).mono ?_); (case side1 => exact Kd.C_below HR626_2.o (zBy HB.o GE627.o)); (case side2 => exact HC626_2.o); rintro e w21 ⟨rfl, hb⟩; refine ⟨_, rfl, ?_⟩; replace BK627 := am (blk_below (g := gb627) (o := .cells #[.int .i64 ((qn l0 x14_1).f0), .int .i64 ((qn l0 x14_1).f1), .slice A626_2 ((qn l0 x14_1).f2).length c626_2] 34 (0, 0)) (zbp BK627.o) hb); replace HB := zhs HB hb; clear hb))
      go_meet
      case rel => exact ⟨_, (true), zrx, H', ⟨by have := HK1.o; first | omega | exact Nat.le_refl _⟩, ⟨zbx BK627.o⟩, ⟨zBy HB.o GE627.o⟩⟩
    subst c11
    rw [if_pos rfl] at H
    have c12b0 := eq_true (of_decide_eq_true zax : 0 ≤ x14_1)
    obtain ⟨c13, H⟩ := zin H
    have c13b0 := eq_true c13
    have c13b1 := decide_eq_true c13
    clear c13
    obtain ⟨y629, hy629⟩ : ∃ y_ : List (S34), y_ = (l0.take (x14_1 : Int).toNat) := ⟨_, rfl⟩
    replace H : ((slices_ContainsFunc_Bulletin.f y629 ((qn l0 x14_1).f0) ((qn l0 x14_1).f1) ((qn l0 x14_1).f2)).bind fun t633 => (qi.j1 k1 l0 x5_1 x14_1 l0 (l0.length : Int) x14_1 t633 ((qn l0 x14_1).f0) ((qn l0 x14_1).f1) ((qn l0 x14_1).f2))) = some (r1, r2, r3) := by rw [hy629]; exact H
    have Ny629 := am hy629
    clear hy629
    obtain ⟨t633, A14, H⟩ := zob H
    try dsimp only at H
    focus
     have H' := am H
     clear H
     have hcz15 := zc3 BK627.o
     go_wp2_with (first | ((with_reducible refine zgc 24 rfl ?_); refine zgl 20 Tryz.func24 #[.agg #[.int .i64 ((qn l0 x14_1).f0), .int .i64 ((qn l0 x14_1).f1), .slice A626_2 ((qn l0 x14_1).f2).length c626_2]] ?_; (with_reducible refine (qr.calls k1 ((qn l0 x14_1).f0) ((qn l0 x14_1).f1) _ _ ((qn l0 x14_1).f2) true _ ?side1 ?side2 A10.o).mono ?_); (case side1 => exact Kd.C_below HR626_2.o (zBy HB.o GE627.o)); (case side2 => exact HC626_2.o); rintro e w16 ⟨rfl, hb⟩; refine ⟨_, rfl, ?_⟩; replace BK627 := am (blk_below (g := gb627) (o := .cells #[.int .i64 ((qn l0 x14_1).f0), .int .i64 ((qn l0 x14_1).f1), .slice A626_2 ((qn l0 x14_1).f2).length c626_2] 34 (0, 0)) (zbp BK627.o) hb); replace HB := zhs HB hb; clear hb; have q17 : (x14_1 : Int) ≤ ((l0.length : Int) : Int) := of_decide_eq_true zax; obtain ⟨i017, hi017, _, hsz17, _⟩ := info_parts info34; have hroom17 : l0.length ≤ c0 := HC0.o; have hC17 : Kd.C k34 _ (some ad626) l0.length l0 := HR0.o; have hcut17 := cut_to (P := Tryz.prog) 49 34 .i64 Tryz.underlying49 hi017 (some ad626) l0.length c0 x14_1 (of_decide_eq_true zax) q17 hroom17; have hr17 := Kd.C_take (m := (x14_1 : Int).toNat) hC17 (by omega); have hy17 : y629.length = (x14_1 : Int).toNat := (by rw [Ny629.o, List.length_take]; omega); rw [← Ny629.o] at hr17; rw [← hy17] at hcut17; have HR632 := am hr17; have HC632 := am (show y629.length ≤ c0 from by omega); clear hr17 hC17 hroom17 hi017 hsz17; have KY17 := am hy17; clear hy17; replace q17 := eq_true q17; have hcz18 := zc3 BK627.o) | (go_at_call 78; (with_reducible refine (slices_ContainsFunc_Bulletin.calls gb627 _ _ y629 ((qn l0 x14_1).f0) ((qn l0 x14_1).f1) ((qn l0 x14_1).f2) t633 _ ?side1 ?side2 ?sq A14.o).mono ?_); (case side1 => exact zCx (Kd.C_below HR632.o HB.o)); (case side2 => exact HC632.o); (case sq => exact (bkc (t := 34) (cs := #[.int .i64 ((qn l0 x14_1).f0), .int .i64 ((qn l0 x14_1).f1), .slice A626_2 ((qn l0 x14_1).f2).length c626_2]) (zbx BK627.o) 0).trans rfl); rintro e w19 ⟨rfl, hb⟩; replace BK627 := zbl BK627.o hb; replace HB := zhs HB hb; clear hb))
     go_meet
     case rel => exact ⟨_, (t633), zrx, H', ⟨by have := HK1.o; first | omega | exact Nat.le_refl _⟩, ⟨zbx BK627.o⟩, ⟨zBy HB.o GE627.o⟩⟩
   case rest =>
    clear HC7
    try clear c3
    try clear c4
    try clear c4b0
    try clear c5
    try clear c5b0
    try clear c6
    try clear c6b0
    try clear hcz9
    try clear hx626_0
    try clear hx626_1
    try clear hx626_2
    try clear p626
    try clear q626
    obtain ⟨kq, x28_6, rfl, HA, HJ6, BK627, HB⟩ := hcut
    cases kq with
    | zero => exact absurd HA.o (by simp [qi.j1])
    | succ kj6 =>
     have H := HA.o
     clear HA
     simp only [qi.j1] at H
     by_cases c22 : x28_6 = true
     ·subst c22
      rw [if_pos rfl] at H
      focus
       simp only [Option.some.injEq, Prod.mk.injEq] at H
       obtain ⟨rfl, rfl, rfl⟩ := H
       go_wp2
       go_ret3
       exact ⟨_, zew, by first | exact Kd.R_nil _ _ _ _ _ | exact Kd.N_nil _ _ _ _ _ | exact Kd.V_nil _ _ _ _ _ | exact Kd.Q_nil _ _ _ _ _ | exact Kd.S_nil _ _ _ _ _, zBy HB.o GE627.o⟩
     replace c22 := Bool.eq_false_iff.mpr c22
     subst c22
     rw [if_neg (show ¬ (false = true) by decide)] at H
     obtain ⟨c23, H⟩ := zin H
     have c23b0 := decide_eq_true c23
     clear c23
     obtain ⟨c24, H⟩ := zin H
     have c24b0 := decide_eq_true c24
     clear c24
     by_cases c25 : ((qn l0 x14_1).f0) > ((qn l0 x5_1).f0)
     rotate_left
     ·rw [if_neg c25] at H
      have c25b0 := decide_eq_false c25
      clear c25
      focus
       have H' := am H
       clear H
       try go_wp2
       replace BK627 := am (blk_drew BK627.o)
       replace HB := am (below_drew1 HB.o)
       have p634 : 0 ≤ (x5_1 : Int) := zod
       have q634 : x5_1 < (l0.length : Int) := zod
       obtain ⟨ad634, A634_2, c634_2, e634, hx634_0, hx634_1, hx634_2, hl634_2, hi634_2⟩ := at_T34 HR0.o x5_1 p634 q634
       have hw634_2 := hx634_2
       have hw634_1 := hx634_1
       have hw634_0 := hx634_0
       obtain rfl : ad626 = ad634 := (by injection e634)
       obtain ⟨hx634_0, hx634_1, hx634_2⟩ := zh3 HB hx634_0 hx634_1 hx634_2
       have HR634_2 := am hi634_2
       have HC634_2 := am hl634_2
       clear hi634_2 hl634_2
       replace p634 := eq_true p634
       replace q634 := eq_true q634
       refine start_ (n := 8) (S := fun w' => zB3 w' gb627 (.int .i64 ((qn l0 x14_1).f0)) (.int .i64 ((qn l0 x14_1).f1)) (.slice A626_2 ((qn l0 x14_1).f2).length c626_2) ∧ zS3 w' (ad626.add ((x5_1).toNat * 3)) (qn l0 x5_1) A634_2 c634_2) (ds := []) (zm 8 0) (by kernel_rfl) rfl rfl ⟨zb3 BK627, zh3 HB hw634_0 hw634_1 hw634_2⟩ (fun hHd => ?_); refine with_tabW qi.tab9 qi.bits9 (fun Tq Wq => ?_)
       generalize wc.drew = w27 at BK627 HB HR634_2 hx634_0 hx634_1 hx634_2 hHd ⊢
       refine zpu 0 29 (zm 8 1) Tq.o ?_
       refine zpu 2 31 (zm 8 5) Tq.o ?_
       refine zpu 3 32 (zm 8 13) Tq.o ?_
       refine zpu 4 33 (zm 8 29) Tq.o ?_
       refine zpu 5 34 (zm 8 61) Tq.o ?_
       refine take_ (i := 1) (N := some 30) (v := ?_) (a' := ?_) (zm 8 63) rfl rfl (take_ofW Tq.o Wq.o (by kernel_rfl)) (fun _ _ _ h => h) (Or.inl ⟨by rfl, ?_⟩) hHd ?_ ?_
       rotate_left
       ·rintro w' ⟨⟨s0, s1, s2⟩, ⟨s3, s4, s5⟩⟩
        go_simp
        with_reducible rfl
       rotate_left
       ·exact zpx
       refine take_ (i := 6) (N := some 35) (v := ?_) (a' := ?_) (zm 8 127) rfl rfl (take_ofW Tq.o Wq.o (by kernel_rfl)) (fun _ _ _ h => h) (Or.inl ⟨by rfl, ?_⟩) hHd ?_ ?_
       rotate_left
       ·rintro w' ⟨⟨s0, s1, s2⟩, ⟨s3, s4, s5⟩⟩
        go_simp
        with_reducible rfl
       rotate_left
       ·exact zpx
       refine zpu 7 36 (zm 8 255) Tq.o ?_
       refine done_ (done_of Tq.o (by kernel_rfl)) ?_
       try go_wp2
       go_roundg kj6
       case measure => have := HK1.o; have := HJ6.o; omega
       case rel => exact ⟨(x5_1), (wrap64 (x14_1 + 1)), zrx, zrx, H', ⟨by have := HK1.o; have := HJ6.o; omega⟩, ⟨zBy HB.o GE627.o⟩⟩
     rw [if_pos c25] at H
     have c25b0 := decide_eq_true c25
     clear c25
     focus
      have H' := am H
      clear H
      try go_wp2
      replace BK627 := am (blk_drew BK627.o)
      replace HB := am (below_drew1 HB.o)
      have p634 : 0 ≤ (x5_1 : Int) := zod
      have q634 : x5_1 < (l0.length : Int) := zod
      obtain ⟨ad634, A634_2, c634_2, e634, hx634_0, hx634_1, hx634_2, hl634_2, hi634_2⟩ := at_T34 HR0.o x5_1 p634 q634
      have hw634_2 := hx634_2
      have hw634_1 := hx634_1
      have hw634_0 := hx634_0
      obtain rfl : ad626 = ad634 := (by injection e634)
      obtain ⟨hx634_0, hx634_1, hx634_2⟩ := zh3 HB hx634_0 hx634_1 hx634_2
      have HR634_2 := am hi634_2
      have HC634_2 := am hl634_2
      clear hi634_2 hl634_2
      replace p634 := eq_true p634
      replace q634 := eq_true q634
      refine start_ (n := 8) (S := fun w' => zB3 w' gb627 (.int .i64 ((qn l0 x14_1).f0)) (.int .i64 ((qn l0 x14_1).f1)) (.slice A626_2 ((qn l0 x14_1).f2).length c626_2) ∧ zS3 w' (ad626.add ((x5_1).toNat * 3)) (qn l0 x5_1) A634_2 c634_2) (ds := []) (zm 8 0) (by kernel_rfl) rfl rfl ⟨zb3 BK627, zh3 HB hw634_0 hw634_1 hw634_2⟩ (fun hHd => ?_); refine with_tabW qi.tab9 qi.bits9 (fun Tq Wq => ?_)
      generalize wc.drew = w26 at BK627 HB HR634_2 hx634_0 hx634_1 hx634_2 hHd ⊢
      refine zpu 0 29 (zm 8 1) Tq.o ?_
      refine zpu 2 31 (zm 8 5) Tq.o ?_
      refine zpu 3 32 (zm 8 13) Tq.o ?_
      refine zpu 4 33 (zm 8 29) Tq.o ?_
      refine zpu 5 34 (zm 8 61) Tq.o ?_
      refine take_ (i := 1) (N := some 30) (v := ?_) (a' := ?_) (zm 8 63) rfl rfl (take_ofW Tq.o Wq.o (by kernel_rfl)) (fun _ _ _ h => h) (Or.inl ⟨by rfl, ?_⟩) hHd ?_ ?_
      rotate_left
      ·rintro w' ⟨⟨s0, s1, s2⟩, ⟨s3, s4, s5⟩⟩
       go_simp
       with_reducible rfl
      rotate_left
      ·exact zpx
      refine take_ (i := 6) (N := some 35) (v := ?_) (a' := ?_) (zm 8 127) rfl rfl (take_ofW Tq.o Wq.o (by kernel_rfl)) (fun _ _ _ h => h) (Or.inl ⟨by rfl, ?_⟩) hHd ?_ ?_
      rotate_left
      ·rintro w' ⟨⟨s0, s1, s2⟩, ⟨s3, s4, s5⟩⟩
       go_simp
       with_reducible rfl
      rotate_left
      ·exact zpx
      refine zpu 7 36 (zm 8 255) Tq.o ?_
      refine done_ (done_of Tq.o (by kernel_rfl)) ?_
      try go_wp2
      go_roundg kj6
      case measure => have := HK1.o; have := HJ6.o; omega
      case rel => exact ⟨(x14_1), (wrap64 (x14_1 + 1)), zrx, zrx, H', ⟨by have := HK1.o; have := HJ6.o; omega⟩, ⟨zBy HB.o GE627.o⟩⟩
mutual
def qd.l0 : Nat → List (S34) → List (S25) → Int → Int → Option ((List (S25)) × Int × Bool)
 | 0, _, _, _, _ => none
 | k + 1, x0, x5, x6, x7 => if x7 < (x0.length : Int) then (if 0 ≤ x7 then ((qN.f k ((qn x0 x7).f0) ((qn x0 x7).f1) ((qn x0 x7).f2)).bind fun t648 => (if t648 = true then (qd.l1 k x0 x5 x6 x7 0) else (some (x5, 0, false)))) else (none)) else ((some (([] : List (S25)) : List (S25))).bind fun y639 => (if 0 ≤ x6 then (if x6 < (x0.length : Int) then (if y639.length + ((qn x0 x6).f2).length < 2932031007402 then (some ((y639 ++ ((qn x0 x6).f2)), (qn x0 x6).f0, true)) else (none)) else (none)) else (none)))
def qd.l1 : Nat → List (S34) → List (S25) → Int → Int → Int → Option ((List (S25)) × Int × Bool)
 | 0, _, _, _, _, _ => none
 | k + 1, x0, x5, x6, x7, x8 => if x8 < x7 then (if 0 ≤ x8 then (if x8 < (x0.length : Int) then (if 0 ≤ x7 then (if x7 < (x0.length : Int) then (if ((qn x0 x8).f0) = ((qn x0 x7).f0) then (some (x5, 0, false)) else (qd.l1 k x0 x5 x6 x7 (wrap64 (x8 + 1)))) else (none)) else (none)) else (none)) else (none)) else (if 0 ≤ x7 then (if x7 < (x0.length : Int) then (if 0 ≤ x6 then (if x6 < (x0.length : Int) then (if ((qn x0 x7).f0) > ((qn x0 x6).f0) then (qd.l0 k x0 x5 x7 (wrap64 (x7 + 1))) else (qd.l0 k x0 x5 x6 (wrap64 (x7 + 1)))) else (none)) else (none)) else (none)) else (none))
end
def qd.f (k : Nat) (l0 : List (S34)) : Option ((List (S25)) × Int × Bool) := (some (([] : List (S25)) : List (S25))).bind fun y635 => ((qO.f (l0.length : Int) 1 10).bind fun t638 => (if t638 = true then (qd.l0 k l0 y635 0 0) else (some (y635, 0, false))))
def qd.T13 : Bool × List (List Nat × List Nat) := (true, [([], []), ([], []), ([0, 1], [0, 1]), ([2], [2]), ([3], [3]), ([], []), ([], []), ([5, 6], [5, 6]), ([7], [7]), ([8], [8]), ([4, 9], [4, 9])])
def qd.B13 : List Nat := [0, 0, 3, 7, 15, 0, 0, 96, 224, 480, 1023]
theorem qd.tab13 : rtab .any (opsOf Tryz.f33 13) = qd.T13 := by kernel_rfl
theorem qd.bits13 : waitsOk qd.T13.2 qd.B13 = true := by kernel_rfl
def qd.T15 : Bool × List (List Nat × List Nat) := (true, [([], []), ([], []), ([0, 1], [0, 1]), ([2], [2]), ([3], [3]), ([], []), ([], []), ([5, 6], [5, 6]), ([7], [7]), ([8], [8]), ([4, 9], [4, 9])])
def qd.B15 : List Nat := [0, 0, 3, 7, 15, 0, 0, 96, 224, 480, 1023]
theorem qd.tab15 : rtab .any (opsOf Tryz.f33 15) = qd.T15 := by kernel_rfl
theorem qd.bits15 : waitsOk qd.T15.2 qd.B15 = true := by kernel_rfl
def qd.T17 : Bool × List (List Nat × List Nat) := (true, [([], []), ([], []), ([], []), ([1, 2], [1, 2]), ([3], [3]), ([4], [4]), ([0, 5], [0, 5]), ([], []), ([], []), ([7, 8], [7, 8]), ([9], [9]), ([10], [10]), ([6, 6, 0, 1, 2, 3, 4, 5, 6], [6]), ([11, 12, 0, 1, 2, 3, 4, 5, 6, 7, 8, 9, 10, 11, 12], [11]), ([13, 0, 1, 2, 3, 4, 5, 6, 7, 8, 9, 10, 11, 12, 13], [])])
def qd.B17 : List Nat := [0, 0, 0, 6, 14, 30, 63, 0, 0, 384, 896, 1920, 127, 8191, 16383]
theorem qd.tab17 : rtab .any (opsOf Tryz.f33 17) = qd.T17 := by kernel_rfl
theorem qd.bits17 : waitsOk qd.T17.2 qd.B17 = true := by kernel_rfl
theorem qd.calls (k : Nat) (A0 : Option Addr) (c0 : Nat) (l0 : List (S34)) (r1 : List (S25)) (r2 : Int) (r3 : Bool) (w : World) (hr0 : Kd.C k34 w A0 l0.length l0) (hc0 : l0.length ≤ c0) (h : qd.f k l0 = some (r1, r2, r3)) :
 Calls Tryz.prog 33 #[.slice A0 l0.length c0] w fun e w' => ∃ v0_ : Value, e = .returned (.tuple #[v0_, .int .i64 r2, .bool r3]) ∧ Kd.R k25 25 w' w.heap.size (fun _ => True) v0_ r1 ∧ Below w.heap.size w w' := by
 have hu34 := Tryz.underlying34
 have HR0 := am hr0
 have HC0 := am hc0
 clear hr0 hc0
 have HB := am (Below.refl w.heap.size w)
 unfold qd.f at h
 have H := h
 clear h
 obtain ⟨y635, hy635⟩ : ∃ y_ : List (S25), y_ = (([] : List (S25))) := ⟨_, rfl⟩
 replace H := zyb hy635 H
 have Ny635 := am hy635
 clear hy635
 obtain ⟨t638, A2, H⟩ := zob H
 try dsimp only at H
 by_cases c3 : t638 = true
 rotate_left
 ·replace c3 := Bool.eq_false_iff.mpr c3
  subst c3
  rw [if_neg (show ¬ (false = true) by decide)] at H
  focus
   simp only [Option.some.injEq, Prod.mk.injEq] at H
   obtain ⟨rfl, rfl, rfl⟩ := H
   go_enter Tryz.func33, Tryz.ntmps33
   go_wp2_with (first | ((with_reducible refine zgd 9 rfl ?_); refine Kd.R_lit k25 _ 25 ?hg (N := 9) ?hd (xs := ([] : List (S25))) (inner := []) (ok := fun _ => True) (okp := fun _ => True) ?hr ?hp (fun _ hk => hk) trivial (Below.refl _ _) (Nat.le_refl _) (by simp) ?_; (case hd => rfl); (case hg => rfl); (case hr => exact zsx); (case hp => exact (Reps.none _ _)); intro v636 w34 ho35 hb hg_ hnew_; clear hg_ hnew_; (first | rw [← Ny635.o] at ho35 | (simp only [Int.reduceToNat] at ho35; rw [← Ny635.o] at ho35)); have HO637 := am (Kd.R_lower ho35 (below_size (zBx HB.o))); replace HB := zhs HB hb; clear hb ho35) | ((with_reducible refine zgc 53 rfl ?_); refine zgl 12 Tryz.func53 #[.int .i64 (l0.length : Int), .int .i64 1, .int .i64 10] ?_; (with_reducible refine (qO.calls (l0.length : Int) 1 10 false _ A2.o).mono ?_); rintro e w' ⟨rfl, ⟨nd, rfl⟩⟩; refine ⟨_, rfl, ?_⟩))
   go_ret3
   exact ⟨_, zew, zDR HO637.o, zBx HB.o⟩
 subst c3
 rw [if_pos rfl] at H
 have H' := am H
 clear H
 go_enter Tryz.func33, Tryz.ntmps33
 go_wp2_with (first | ((with_reducible refine zgd 9 rfl ?_); refine Kd.R_lit k25 _ 25 ?hg (N := 9) ?hd (xs := ([] : List (S25))) (inner := []) (ok := fun _ => True) (okp := fun _ => True) ?hr ?hp (fun _ hk => hk) trivial (Below.refl _ _) (Nat.le_refl _) (by simp) ?_; (case hd => rfl); (case hg => rfl); (case hr => exact zsx); (case hp => exact (Reps.none _ _)); intro v636 w4 ho5 hb hg_ hnew_; clear hg_ hnew_; (first | rw [← Ny635.o] at ho5 | (simp only [Int.reduceToNat] at ho5; rw [← Ny635.o] at ho5)); have HO637 := am (Kd.R_lower ho5 (below_size (zBx HB.o))); replace HB := zhs HB hb; clear hb ho5) | ((with_reducible refine zgc 53 rfl ?_); refine zgl 12 Tryz.func53 #[.int .i64 (l0.length : Int), .int .i64 1, .int .i64 10] ?_; (with_reducible refine (qO.calls (l0.length : Int) 1 10 true _ A2.o).mono ?_); rintro e w' ⟨rfl, ⟨nd, rfl⟩⟩; refine ⟨_, rfl, ?_⟩))
 go_loopg [6, 7] k (fun kq v6 v7 w' => ∃ (x6_1 : Int) (x7_1 : Int), v6 = .int .i64 x6_1 ∧ v7 = .int .i64 x7_1 ∧ Aq (qd.l0 kq l0 y635 x6_1 x7_1 = some (r1, r2, r3)) ∧ Aq (kq ≤ k) ∧ Aq (Kd.R k25 25 w' w.heap.size (fun _ => True) v636 y635) ∧ Aq (Below w.heap.size w w'))
 case atStart => exact ⟨(0), (0), zrx, zrx, H', ⟨Nat.le_refl _⟩, ⟨zDR HO637.o⟩, ⟨zBx HB.o⟩⟩
 case round =>
  clear H'
  try clear c3
  obtain ⟨x6_1, x7_1, rfl, rfl, HA, HK1, HO_5, HB⟩ := hrel
  cases gk with
  | zero => exact absurd HA.o (by simp [qd.l0])
  | succ k1 =>
   have H := HA.o
   clear HA
   simp only [qd.l0] at H
   by_cases c6 : x7_1 < (l0.length : Int)
   rotate_left
   ·rw [if_neg c6] at H
    have c6b0 := decide_eq_false c6
    clear c6
    obtain ⟨y639, hy639⟩ : ∃ y_ : List (S25), y_ = (([] : List (S25))) := ⟨_, rfl⟩
    replace H := zyb hy639 H
    have Ny639 := am hy639
    clear hy639
    obtain ⟨c27, H⟩ := zin H
    have c27b0 := decide_eq_true c27
    clear c27
    obtain ⟨c28, H⟩ := zin H
    have c28b0 := decide_eq_true c28
    clear c28
    obtain ⟨c29, H⟩ := zin H
    have LMc29 := am c29
    clear c29
    obtain ⟨y643, hy643⟩ : ∃ y_ : List (S25), y_ = (y639 ++ ((qn l0 x6_1).f2)) := ⟨_, rfl⟩
    replace H : (some (y643, (qn l0 x6_1).f0, true)) = some (r1, r2, r3) := by rw [hy643]; exact H
    have Ny643 := am hy643
    clear hy643
    focus
     simp only [Option.some.injEq, Prod.mk.injEq] at H
     obtain ⟨rfl, rfl, rfl⟩ := H
     try go_wp2
     replace HO_5 := am (Kd.R_drew HO_5.o)
     replace HB := am (below_drew1 HB.o)
     have p642 : 0 ≤ (x6_1 : Int) := zod
     have q642 : x6_1 < (l0.length : Int) := zod
     obtain ⟨ad642, A642_2, c642_2, e642, hx642_0, hx642_1, hx642_2, hl642_2, hi642_2⟩ := at_T34 HR0.o x6_1 p642 q642
     have hw642_2 := hx642_2
     have hw642_1 := hx642_1
     have hw642_0 := hx642_0
     cases e642
     obtain ⟨hx642_0, hx642_1, hx642_2⟩ := zh3 HB hx642_0 hx642_1 hx642_2
     have HR642_2 := am hi642_2
     have HC642_2 := am hl642_2
     clear hi642_2 hl642_2
     replace p642 := eq_true p642
     replace q642 := eq_true q642
     have p646 : 0 ≤ (x6_1 : Int) := zod
     have q646 : x6_1 < (l0.length : Int) := zod
     obtain ⟨ad646, A646_2, c646_2, e646, hx646_0, hx646_1, hx646_2, hl646_2, hi646_2⟩ := at_T34 HR0.o x6_1 p646 q646
     have hw646_2 := hx646_2
     have hw646_1 := hx646_1
     have hw646_0 := hx646_0
     obtain rfl : ad642 = ad646 := (by injection e646)
     obtain ⟨hx646_0, hx646_1, hx646_2⟩ := zh3 HB hx646_0 hx646_1 hx646_2
     have HR646_2 := am hi646_2
     have HC646_2 := am hl646_2
     clear hi646_2 hl646_2
     replace p646 := eq_true p646
     replace q646 := eq_true q646
     have ea_ := Option.some.inj (hx642_2.symm.trans hx646_2)
     injection ea_ with ea_ en_ ec_
     subst ea_
     subst ec_
     clear en_
     refine start_ (n := 15) (S := fun w' => zS3 w' (ad642.add ((x6_1).toNat * 3)) (qn l0 x6_1) A642_2 c642_2 ∧ zS3 w' (ad642.add ((x6_1).toNat * 3)) (qn l0 x6_1) A642_2 c642_2) (ds := []) (zm 15 0) (by kernel_rfl) rfl rfl ⟨zh3 HB hw642_0 hw642_1 hw642_2, zh3 HB hw646_0 hw646_1 hw646_2⟩ (fun hHd => ?_); refine with_tabW qd.tab17 qd.bits17 (fun Tq Wq => ?_)
     generalize wr.drew = w30 at HO_5 HB HR642_2 HR646_2 hx642_0 hx642_1 hx642_2 hx646_0 hx646_1 hx646_2 hHd ⊢
     refine zpu 1 58 (zm 15 2) Tq.o ?_
     refine zpu 2 59 (zm 15 6) Tq.o ?_
     refine zpu 3 60 (zm 15 14) Tq.o ?_
     refine zpu 4 61 (zm 15 30) Tq.o ?_
     refine zpu 7 64 (zm 15 158) Tq.o ?_
     refine zpu 8 65 (zm 15 414) Tq.o ?_
     refine zpu 9 66 (zm 15 926) Tq.o ?_
     refine zpu 10 67 (zm 15 1950) Tq.o ?_
     refine take_ (i := 5) (N := some 62) (v := ?_) (a' := ?_) (zm 15 1982) rfl rfl (take_ofW Tq.o Wq.o (by kernel_rfl)) (fun _ _ _ h => h) (Or.inl ⟨by rfl, ?_⟩) hHd ?_ ?_
     rotate_left
     ·rintro w' ⟨⟨s0, s1, s2⟩, ⟨s3, s4, s5⟩⟩
      go_simp
      with_reducible rfl
     rotate_left
     ·exact zpx
     refine take_ (i := 11) (N := some 68) (v := ?_) (a' := ?_) (zm 15 4030) rfl rfl (take_ofW Tq.o Wq.o (by kernel_rfl)) (fun _ _ _ h => h) (Or.inl ⟨by rfl, ?_⟩) hHd ?_ ?_
     rotate_left
     ·rintro w' ⟨⟨s0, s1, s2⟩, ⟨s3, s4, s5⟩⟩
      go_simp
      with_reducible rfl
     rotate_left
     ·exact zpx
     refine one_ (i := 0) (N := some 57) (zm 15 4031) rfl rfl (one_of Tq.o (by kernel_rfl)) (by decide) (fun K hK => ?_)
     refine Kd.R_lit_step k25 _ 25 ?hg (N := 57) ?hd (xs := ([] : List (S25))) (inner := []) (ok := fun _ => True) (okp := fun _ => True) ?hr ?hp (fun _ hk => hk) trivial (Below.refl _ _) (Nat.le_refl _) (by simp) ?_; (case hd => rfl); (case hg => rfl); (case hr => exact zsx); (case hp => exact (Reps.none _ _))
     intro v640 w31 ho32 hb hg_ hnew_
     clear hg_ hnew_
     (first | rw [← Ny639.o] at ho32 | (simp only [Int.reduceToNat] at ho32; rw [← Ny639.o] at ho32))
     have HO641 := am (Kd.R_lower (Kd.R_new' ho32 (Kd.R_lt (zRx HO_5.o))) (below_size (zBx HB.o)))
     replace HO_5 := am (Kd.R_elder' (zRx HO_5.o) (Kd.R_base ho32) hb)
     replace HB := zhs HB hb
     clear hb ho32
     refine hK.out _ _ ⟨zh3 HB hw642_0 hw642_1 hw642_2, zh3 HB hw646_0 hw646_1 hw646_2⟩ (fun hHd => ?_)
     clear hK K
     refine norm_ (a' := ?_) ?_ ?_
     rotate_left
     ·show Act.put _ (some 57) _ = _
      simp only [Act.put, List.setIfInBounds_toArray, List.set_cons_zero, List.set_cons_succ, i64_w, i32_w]
      rfl
     refine one_ (i := 6) (N := some 63) (zm 15 4095) rfl rfl (one_of Tq.o (by kernel_rfl)) (by decide) (fun K hK => ?_)
     refine Kd.R_append_rows_step k25 (w0 := w) w.heap.size (by rfl) (.tmp 57) (.tmp 62) 32 25 (.agg #[(.int .i64 0), (.int .i64 0), (.int .i64 0), (.int .i64 0), (.int .i64 0), (.int .i64 0)]) 48 rfl Tryz.underlying32 info25 rfl (by decide) (by omega) v640 y639 ((qn l0 x6_1).f2) _ _ _ (fun k_ => some k_ ≠ (v636 : Value).ownBlock) (fun _ => False) rfl rfl ?aO ?aR (fun _ _ h => h) (fun _ h => h.elim) ?aF ?aB ?aS ?aL ?_
     (case aR => repeat (first | exact (Kd.C_below HR642_2.o HB.o) | (with_reducible refine Kd.C_alloc ?_ _) | (with_reducible refine Kd.C_drewN ?_ _) | (with_reducible refine Kd.C_drew ?_)))
     (case aB => exact (zBx HB.o))
     (case aF => exact (fun k_ hk => Kd.fresh' (Kd.R_lt (zRx HO_5.o)) k_ hk))
     (case aO => exact (by refine zDR ?_; exact Kd.R_mono HO641.o (fun _ hk => hk.2)))
     (case aS => exact (below_size (zBx HB.o)))
     (case aL => have := LMc29.o; omega)
     intro v644 w33 ho hb hg hat
     rw [← Ny643.o] at ho
     replace HO_5 := am (Kd.R_after (ok := (fun _ => True)) (zRx HO_5.o) hg hat)
     replace HB := am (hb)
     have HO645 := am (ho)
     clear HO641
     clear ho hb hg hat
     refine hK.out _ _ ⟨zh3 HB hw642_0 hw642_1 hw642_2, zh3 HB hw646_0 hw646_1 hw646_2⟩ (fun hHd => ?_)
     clear hK K
     refine norm_ (a' := ?_) ?_ ?_
     rotate_left
     ·show Act.put _ (some 63) _ = _
      simp only [Act.put, List.setIfInBounds_toArray, List.set_cons_zero, List.set_cons_succ, i64_w, i32_w]
      rfl
     refine zpu 12 2 (zm 15 8191) Tq.o ?_
     refine zpu 13 3 (zm 15 16383) Tq.o ?_
     refine zpu 14 4 (zm 15 32767) Tq.o ?_
     refine done_ (done_of Tq.o (by kernel_rfl)) ?_
     try go_wp2
     go_ret3
     exact ⟨_, zew, by refine zDR ?_; exact Kd.R_mono HO645.o (fun _ hk => trivial), zBx HB.o⟩
   rw [if_pos c6] at H
   have c6b0 := decide_eq_true c6
   clear c6
   obtain ⟨c7, H⟩ := zin H
   have c7b0 := decide_eq_true c7
   clear c7
   obtain ⟨t648, A8, H⟩ := zob H
   try dsimp only at H
   by_cases c9 : t648 = true
   rotate_left
   ·replace c9 := Bool.eq_false_iff.mpr c9
    subst c9
    rw [if_neg (show ¬ (false = true) by decide)] at H
    focus
     simp only [Option.some.injEq, Prod.mk.injEq] at H
     obtain ⟨rfl, rfl, rfl⟩ := H
     have p647 : 0 ≤ (x7_1 : Int) := zod
     have q647 : x7_1 < (l0.length : Int) := zod
     obtain ⟨ad647, A647_2, c647_2, e647, hx647_0, hx647_1, hx647_2, hl647_2, hi647_2⟩ := at_T34 HR0.o x7_1 p647 q647
     cases e647
     obtain ⟨hx647_0, hx647_1, hx647_2⟩ := zh3 HB hx647_0 hx647_1 hx647_2
     have HR647_2 := am hi647_2
     have HC647_2 := am hl647_2
     clear hi647_2 hl647_2
     replace p647 := eq_true p647
     replace q647 := eq_true q647
     go_wp2_with (first | ((with_reducible refine zgc 67 rfl ?_); refine zgl 25 Tryz.func67 #[.agg #[.int .i64 ((qn l0 x7_1).f0), .int .i64 ((qn l0 x7_1).f1), .slice A647_2 ((qn l0 x7_1).f2).length c647_2]] ?_; (with_reducible refine (qN.calls k1 ((qn l0 x7_1).f0) ((qn l0 x7_1).f1) _ _ ((qn l0 x7_1).f2) false _ ?side1 ?side2 A8.o).mono ?_); (case side1 => exact zCx (Kd.C_below HR647_2.o HB.o)); (case side2 => exact HC647_2.o); rintro e w26 ⟨rfl, hb⟩; refine ⟨_, rfl, ?_⟩; replace HO_5 := zro HO_5 hb; replace HB := zhs HB hb; clear hb))
     go_ret3
     exact ⟨_, zew, zDR HO_5.o, zBx HB.o⟩
   subst c9
   rw [if_pos rfl] at H
   have H' := am H
   clear H
   have p647 : 0 ≤ (x7_1 : Int) := zod
   have q647 : x7_1 < (l0.length : Int) := zod
   obtain ⟨ad647, A647_2, c647_2, e647, hx647_0, hx647_1, hx647_2, hl647_2, hi647_2⟩ := at_T34 HR0.o x7_1 p647 q647
   cases e647
   obtain ⟨hx647_0, hx647_1, hx647_2⟩ := zh3 HB hx647_0 hx647_1 hx647_2
   have HR647_2 := am hi647_2
   have HC647_2 := am hl647_2
   clear hi647_2 hl647_2
   replace p647 := eq_true p647
   replace q647 := eq_true q647
   go_wp2_with (first | ((with_reducible refine zgc 67 rfl ?_); refine zgl 25 Tryz.func67 #[.agg #[.int .i64 ((qn l0 x7_1).f0), .int .i64 ((qn l0 x7_1).f1), .slice A647_2 ((qn l0 x7_1).f2).length c647_2]] ?_; (with_reducible refine (qN.calls k1 ((qn l0 x7_1).f0) ((qn l0 x7_1).f1) _ _ ((qn l0 x7_1).f2) true _ ?side1 ?side2 A8.o).mono ?_); (case side1 => exact zCx (Kd.C_below HR647_2.o HB.o)); (case side2 => exact HC647_2.o); rintro e w10 ⟨rfl, hb⟩; refine ⟨_, rfl, ?_⟩; replace HO_5 := zro HO_5 hb; replace HB := zhs HB hb; clear hb))
   go_loopg [8] k1 (fun kq v8 w' => ∃ (x8_2 : Int), v8 = .int .i64 x8_2 ∧ Aq (qd.l1 kq l0 y635 x6_1 x7_1 x8_2 = some (r1, r2, r3)) ∧ Aq (kq ≤ k1) ∧ Aq (Kd.R k25 25 w' w.heap.size (fun _ => True) v636 y635) ∧ Aq (Below w.heap.size w w'))
   case atStart => exact ⟨(0), zrx, H', ⟨Nat.le_refl _⟩, ⟨zDR HO_5.o⟩, ⟨zBx HB.o⟩⟩
   case round =>
    clear H'
    try clear c3
    try clear c6
    try clear c6b0
    try clear c7
    try clear c7b0
    try clear c9
    try clear hx647_0
    try clear hx647_1
    try clear hx647_2
    try clear p647
    try clear q647
    obtain ⟨x8_2, rfl, HA, HK2, HO_5, HB⟩ := hrel
    cases gk with
    | zero => exact absurd HA.o (by simp [qd.l1])
    | succ k2 =>
     have H := HA.o
     clear HA
     simp only [qd.l1] at H
     by_cases c11 : x8_2 < x7_1
     rotate_left
     ·rw [if_neg c11] at H
      have c11b0 := decide_eq_false c11
      clear c11
      obtain ⟨c19, H⟩ := zin H
      have c19b0 := decide_eq_true c19
      clear c19
      obtain ⟨c20, H⟩ := zin H
      have c20b0 := decide_eq_true c20
      clear c20
      obtain ⟨c21, H⟩ := zin H
      have c21b0 := decide_eq_true c21
      clear c21
      obtain ⟨c22, H⟩ := zin H
      have c22b0 := decide_eq_true c22
      clear c22
      by_cases c23 : ((qn l0 x7_1).f0) > ((qn l0 x6_1).f0)
      rotate_left
      ·rw [if_neg c23] at H
       have c23b0 := decide_eq_false c23
       clear c23
       focus
        have H' := am H
        clear H
        try go_wp2
        replace HO_5 := am (Kd.R_drew HO_5.o)
        replace HB := am (below_drew1 HB.o)
        have p651 : 0 ≤ (x7_1 : Int) := zod
        have q651 : x7_1 < (l0.length : Int) := zod
        obtain ⟨ad651, A651_2, c651_2, e651, hx651_0, hx651_1, hx651_2, hl651_2, hi651_2⟩ := at_T34 HR0.o x7_1 p651 q651
        have hw651_2 := hx651_2
        have hw651_1 := hx651_1
        have hw651_0 := hx651_0
        obtain rfl : ad647 = ad651 := (by injection e651)
        obtain ⟨hx651_0, hx651_1, hx651_2⟩ := zh3 HB hx651_0 hx651_1 hx651_2
        have HR651_2 := am hi651_2
        have HC651_2 := am hl651_2
        clear hi651_2 hl651_2
        replace p651 := eq_true p651
        replace q651 := eq_true q651
        have p652 : 0 ≤ (x6_1 : Int) := zod
        have q652 : x6_1 < (l0.length : Int) := zod
        obtain ⟨ad652, A652_2, c652_2, e652, hx652_0, hx652_1, hx652_2, hl652_2, hi652_2⟩ := at_T34 HR0.o x6_1 p652 q652
        have hw652_2 := hx652_2
        have hw652_1 := hx652_1
        have hw652_0 := hx652_0
        obtain rfl : ad647 = ad652 := (by injection e652)
        obtain ⟨hx652_0, hx652_1, hx652_2⟩ := zh3 HB hx652_0 hx652_1 hx652_2
        have HR652_2 := am hi652_2
        have HC652_2 := am hl652_2
        clear hi652_2 hl652_2
        replace p652 := eq_true p652
        replace q652 := eq_true q652
        refine start_ (n := 11) (S := fun w' => zS3 w' (ad647.add ((x7_1).toNat * 3)) (qn l0 x7_1) A651_2 c651_2 ∧ zS3 w' (ad647.add ((x6_1).toNat * 3)) (qn l0 x6_1) A652_2 c652_2) (ds := []) (zm 11 0) (by kernel_rfl) rfl rfl ⟨zh3 HB hw651_0 hw651_1 hw651_2, zh3 HB hw652_0 hw652_1 hw652_2⟩ (fun hHd => ?_); refine with_tabW qd.tab15 qd.bits15 (fun Tq Wq => ?_)
        generalize wr.drew = w25 at HO_5 HB HR651_2 HR652_2 hx651_0 hx651_1 hx651_2 hx652_0 hx652_1 hx652_2 hHd ⊢
        refine zpu 0 45 (zm 11 1) Tq.o ?_
        refine zpu 1 46 (zm 11 3) Tq.o ?_
        refine zpu 2 47 (zm 11 7) Tq.o ?_
        refine zpu 3 48 (zm 11 15) Tq.o ?_
        refine zpu 5 50 (zm 11 47) Tq.o ?_
        refine zpu 6 51 (zm 11 111) Tq.o ?_
        refine zpu 7 52 (zm 11 239) Tq.o ?_
        refine zpu 8 53 (zm 11 495) Tq.o ?_
        refine take_ (i := 4) (N := some 49) (v := ?_) (a' := ?_) (zm 11 511) rfl rfl (take_ofW Tq.o Wq.o (by kernel_rfl)) (fun _ _ _ h => h) (Or.inl ⟨by rfl, ?_⟩) hHd ?_ ?_
        rotate_left
        ·rintro w' ⟨⟨s0, s1, s2⟩, ⟨s3, s4, s5⟩⟩
         go_simp
         with_reducible rfl
        rotate_left
        ·exact zpx
        refine take_ (i := 9) (N := some 54) (v := ?_) (a' := ?_) (zm 11 1023) rfl rfl (take_ofW Tq.o Wq.o (by kernel_rfl)) (fun _ _ _ h => h) (Or.inl ⟨by rfl, ?_⟩) hHd ?_ ?_
        rotate_left
        ·rintro w' ⟨⟨s0, s1, s2⟩, ⟨s3, s4, s5⟩⟩
         go_simp
         with_reducible rfl
        rotate_left
        ·exact zpx
        refine zpu 10 55 (zm 11 2047) Tq.o ?_
        refine done_ (done_of Tq.o (by kernel_rfl)) ?_
        try go_wp2
        go_roundg k2
        case measure => have := HK1.o; have := HK2.o; omega
        case rel => exact ⟨(x6_1), (wrap64 (x7_1 + 1)), zrx, zrx, H', ⟨by have := HK1.o; have := HK2.o; omega⟩, ⟨zDR HO_5.o⟩, ⟨zBx HB.o⟩⟩
      rw [if_pos c23] at H
      have c23b0 := decide_eq_true c23
      clear c23
      focus
       have H' := am H
       clear H
       try go_wp2
       replace HO_5 := am (Kd.R_drew HO_5.o)
       replace HB := am (below_drew1 HB.o)
       have p651 : 0 ≤ (x7_1 : Int) := zod
       have q651 : x7_1 < (l0.length : Int) := zod
       obtain ⟨ad651, A651_2, c651_2, e651, hx651_0, hx651_1, hx651_2, hl651_2, hi651_2⟩ := at_T34 HR0.o x7_1 p651 q651
       have hw651_2 := hx651_2
       have hw651_1 := hx651_1
       have hw651_0 := hx651_0
       obtain rfl : ad647 = ad651 := (by injection e651)
       obtain ⟨hx651_0, hx651_1, hx651_2⟩ := zh3 HB hx651_0 hx651_1 hx651_2
       have HR651_2 := am hi651_2
       have HC651_2 := am hl651_2
       clear hi651_2 hl651_2
       replace p651 := eq_true p651
       replace q651 := eq_true q651
       have p652 : 0 ≤ (x6_1 : Int) := zod
       have q652 : x6_1 < (l0.length : Int) := zod
       obtain ⟨ad652, A652_2, c652_2, e652, hx652_0, hx652_1, hx652_2, hl652_2, hi652_2⟩ := at_T34 HR0.o x6_1 p652 q652
       have hw652_2 := hx652_2
       have hw652_1 := hx652_1
       have hw652_0 := hx652_0
       obtain rfl : ad647 = ad652 := (by injection e652)
       obtain ⟨hx652_0, hx652_1, hx652_2⟩ := zh3 HB hx652_0 hx652_1 hx652_2
       have HR652_2 := am hi652_2
       have HC652_2 := am hl652_2
       clear hi652_2 hl652_2
       replace p652 := eq_true p652
       replace q652 := eq_true q652
       refine start_ (n := 11) (S := fun w' => zS3 w' (ad647.add ((x7_1).toNat * 3)) (qn l0 x7_1) A651_2 c651_2 ∧ zS3 w' (ad647.add ((x6_1).toNat * 3)) (qn l0 x6_1) A652_2 c652_2) (ds := []) (zm 11 0) (by kernel_rfl) rfl rfl ⟨zh3 HB hw651_0 hw651_1 hw651_2, zh3 HB hw652_0 hw652_1 hw652_2⟩ (fun hHd => ?_); refine with_tabW qd.tab15 qd.bits15 (fun Tq Wq => ?_)
       generalize wr.drew = w24 at HO_5 HB HR651_2 HR652_2 hx651_0 hx651_1 hx651_2 hx652_0 hx652_1 hx652_2 hHd ⊢
       refine zpu 0 45 (zm 11 1) Tq.o ?_
       refine zpu 1 46 (zm 11 3) Tq.o ?_
       refine zpu 2 47 (zm 11 7) Tq.o ?_
       refine zpu 3 48 (zm 11 15) Tq.o ?_
       refine zpu 5 50 (zm 11 47) Tq.o ?_
       refine zpu 6 51 (zm 11 111) Tq.o ?_
       refine zpu 7 52 (zm 11 239) Tq.o ?_
       refine zpu 8 53 (zm 11 495) Tq.o ?_
       refine take_ (i := 4) (N := some 49) (v := ?_) (a' := ?_) (zm 11 511) rfl rfl (take_ofW Tq.o Wq.o (by kernel_rfl)) (fun _ _ _ h => h) (Or.inl ⟨by rfl, ?_⟩) hHd ?_ ?_
       rotate_left
       ·rintro w' ⟨⟨s0, s1, s2⟩, ⟨s3, s4, s5⟩⟩
        go_simp
        with_reducible rfl
       rotate_left
       ·exact zpx
       refine take_ (i := 9) (N := some 54) (v := ?_) (a' := ?_) (zm 11 1023) rfl rfl (take_ofW Tq.o Wq.o (by kernel_rfl)) (fun _ _ _ h => h) (Or.inl ⟨by rfl, ?_⟩) hHd ?_ ?_
       rotate_left
       ·rintro w' ⟨⟨s0, s1, s2⟩, ⟨s3, s4, s5⟩⟩
        go_simp
        with_reducible rfl
       rotate_left
       ·exact zpx
       refine zpu 10 55 (zm 11 2047) Tq.o ?_
       refine done_ (done_of Tq.o (by kernel_rfl)) ?_
       try go_wp2
       go_roundg k2
       case measure => have := HK1.o; have := HK2.o; omega
       case rel => exact ⟨(x7_1), (wrap64 (x7_1 + 1)), zrx, zrx, H', ⟨by have := HK1.o; have := HK2.o; omega⟩, ⟨zDR HO_5.o⟩, ⟨zBx HB.o⟩⟩
     rw [if_pos c11] at H
     have c11b0 := decide_eq_true c11
     clear c11
     obtain ⟨c12, H⟩ := zin H
     have c12b0 := decide_eq_true c12
     clear c12
     obtain ⟨c13, H⟩ := zin H
     have c13b0 := decide_eq_true c13
     clear c13
     obtain ⟨c14, H⟩ := zin H
     have c14b0 := decide_eq_true c14
     clear c14
     obtain ⟨c15, H⟩ := zin H
     have c15b0 := decide_eq_true c15
     clear c15
     by_cases c16 : ((qn l0 x8_2).f0) = ((qn l0 x7_1).f0)
     rotate_left
     ·rw [if_neg c16] at H
      have c16b0 := beq_eq_false_iff_ne.mpr c16
      have c16b1 := bne_iff_ne.mpr c16
      focus
       have H' := am H
       clear H
       try go_wp2
       replace HO_5 := am (Kd.R_drew HO_5.o)
       replace HB := am (below_drew1 HB.o)
       have p649 : 0 ≤ (x8_2 : Int) := zod
       have q649 : x8_2 < (l0.length : Int) := zod
       obtain ⟨ad649, A649_2, c649_2, e649, hx649_0, hx649_1, hx649_2, hl649_2, hi649_2⟩ := at_T34 HR0.o x8_2 p649 q649
       have hw649_2 := hx649_2
       have hw649_1 := hx649_1
       have hw649_0 := hx649_0
       obtain rfl : ad647 = ad649 := (by injection e649)
       obtain ⟨hx649_0, hx649_1, hx649_2⟩ := zh3 HB hx649_0 hx649_1 hx649_2
       have HR649_2 := am hi649_2
       have HC649_2 := am hl649_2
       clear hi649_2 hl649_2
       replace p649 := eq_true p649
       replace q649 := eq_true q649
       have p650 : 0 ≤ (x7_1 : Int) := zod
       have q650 : x7_1 < (l0.length : Int) := zod
       obtain ⟨ad650, A650_2, c650_2, e650, hx650_0, hx650_1, hx650_2, hl650_2, hi650_2⟩ := at_T34 HR0.o x7_1 p650 q650
       have hw650_2 := hx650_2
       have hw650_1 := hx650_1
       have hw650_0 := hx650_0
       obtain rfl : ad647 = ad650 := (by injection e650)
       obtain ⟨hx650_0, hx650_1, hx650_2⟩ := zh3 HB hx650_0 hx650_1 hx650_2
       have HR650_2 := am hi650_2
       have HC650_2 := am hl650_2
       clear hi650_2 hl650_2
       replace p650 := eq_true p650
       replace q650 := eq_true q650
       refine start_ (n := 11) (S := fun w' => zS3 w' (ad647.add ((x8_2).toNat * 3)) (qn l0 x8_2) A649_2 c649_2 ∧ zS3 w' (ad647.add ((x7_1).toNat * 3)) (qn l0 x7_1) A650_2 c650_2) (ds := []) (zm 11 0) (by kernel_rfl) rfl rfl ⟨zh3 HB hw649_0 hw649_1 hw649_2, zh3 HB hw650_0 hw650_1 hw650_2⟩ (fun hHd => ?_); refine with_tabW qd.tab13 qd.bits13 (fun Tq Wq => ?_)
       generalize wr.drew = w18 at HO_5 HB HR649_2 HR650_2 hx649_0 hx649_1 hx649_2 hx650_0 hx650_1 hx650_2 hHd ⊢
       refine zpu 0 33 (zm 11 1) Tq.o ?_
       refine zpu 1 34 (zm 11 3) Tq.o ?_
       refine zpu 2 35 (zm 11 7) Tq.o ?_
       refine zpu 3 36 (zm 11 15) Tq.o ?_
       refine zpu 5 38 (zm 11 47) Tq.o ?_
       refine zpu 6 39 (zm 11 111) Tq.o ?_
       refine zpu 7 40 (zm 11 239) Tq.o ?_
       refine zpu 8 41 (zm 11 495) Tq.o ?_
       refine take_ (i := 4) (N := some 37) (v := ?_) (a' := ?_) (zm 11 511) rfl rfl (take_ofW Tq.o Wq.o (by kernel_rfl)) (fun _ _ _ h => h) (Or.inl ⟨by rfl, ?_⟩) hHd ?_ ?_
       rotate_left
       ·rintro w' ⟨⟨s0, s1, s2⟩, ⟨s3, s4, s5⟩⟩
        go_simp
        with_reducible rfl
       rotate_left
       ·exact zpx
       refine take_ (i := 9) (N := some 42) (v := ?_) (a' := ?_) (zm 11 1023) rfl rfl (take_ofW Tq.o Wq.o (by kernel_rfl)) (fun _ _ _ h => h) (Or.inl ⟨by rfl, ?_⟩) hHd ?_ ?_
       rotate_left
       ·rintro w' ⟨⟨s0, s1, s2⟩, ⟨s3, s4, s5⟩⟩
        go_simp
        with_reducible rfl
       rotate_left
       ·exact zpx
       refine zpu 10 43 (zm 11 2047) Tq.o ?_
       refine done_ (done_of Tq.o (by kernel_rfl)) ?_
       try go_wp2
       go_roundg k2
       case measure => have := HK1.o; have := HK2.o; omega
       case rel => exact ⟨(wrap64 (x8_2 + 1)), zrx, H', ⟨by have := HK1.o; have := HK2.o; omega⟩, ⟨zDR HO_5.o⟩, ⟨zBx HB.o⟩⟩
     rw [if_pos c16] at H
     have c16b0 := beq_iff_eq.mpr c16
     have c16b1 := bne_eq_false_iff_eq.mpr c16
     clear c16
     focus
      simp only [Option.some.injEq, Prod.mk.injEq] at H
      obtain ⟨rfl, rfl, rfl⟩ := H
      try go_wp2
      replace HO_5 := am (Kd.R_drew HO_5.o)
      replace HB := am (below_drew1 HB.o)
      have p649 : 0 ≤ (x8_2 : Int) := zod
      have q649 : x8_2 < (l0.length : Int) := zod
      obtain ⟨ad649, A649_2, c649_2, e649, hx649_0, hx649_1, hx649_2, hl649_2, hi649_2⟩ := at_T34 HR0.o x8_2 p649 q649
      have hw649_2 := hx649_2
      have hw649_1 := hx649_1
      have hw649_0 := hx649_0
      obtain rfl : ad647 = ad649 := (by injection e649)
      obtain ⟨hx649_0, hx649_1, hx649_2⟩ := zh3 HB hx649_0 hx649_1 hx649_2
      have HR649_2 := am hi649_2
      have HC649_2 := am hl649_2
      clear hi649_2 hl649_2
      replace p649 := eq_true p649
      replace q649 := eq_true q649
      have p650 : 0 ≤ (x7_1 : Int) := zod
      have q650 : x7_1 < (l0.length : Int) := zod
      obtain ⟨ad650, A650_2, c650_2, e650, hx650_0, hx650_1, hx650_2, hl650_2, hi650_2⟩ := at_T34 HR0.o x7_1 p650 q650
      have hw650_2 := hx650_2
      have hw650_1 := hx650_1
      have hw650_0 := hx650_0
      obtain rfl : ad647 = ad650 := (by injection e650)
      obtain ⟨hx650_0, hx650_1, hx650_2⟩ := zh3 HB hx650_0 hx650_1 hx650_2
      have HR650_2 := am hi650_2
      have HC650_2 := am hl650_2
      clear hi650_2 hl650_2
      replace p650 := eq_true p650
      replace q650 := eq_true q650
      refine start_ (n := 11) (S := fun w' => zS3 w' (ad647.add ((x8_2).toNat * 3)) (qn l0 x8_2) A649_2 c649_2 ∧ zS3 w' (ad647.add ((x7_1).toNat * 3)) (qn l0 x7_1) A650_2 c650_2) (ds := []) (zm 11 0) (by kernel_rfl) rfl rfl ⟨zh3 HB hw649_0 hw649_1 hw649_2, zh3 HB hw650_0 hw650_1 hw650_2⟩ (fun hHd => ?_); refine with_tabW qd.tab13 qd.bits13 (fun Tq Wq => ?_)
      generalize wr.drew = w17 at HO_5 HB HR649_2 HR650_2 hx649_0 hx649_1 hx649_2 hx650_0 hx650_1 hx650_2 hHd ⊢
      refine zpu 0 33 (zm 11 1) Tq.o ?_
      refine zpu 1 34 (zm 11 3) Tq.o ?_
      refine zpu 2 35 (zm 11 7) Tq.o ?_
      refine zpu 3 36 (zm 11 15) Tq.o ?_
      refine zpu 5 38 (zm 11 47) Tq.o ?_
      refine zpu 6 39 (zm 11 111) Tq.o ?_
      refine zpu 7 40 (zm 11 239) Tq.o ?_
      refine zpu 8 41 (zm 11 495) Tq.o ?_
      refine take_ (i := 4) (N := some 37) (v := ?_) (a' := ?_) (zm 11 511) rfl rfl (take_ofW Tq.o Wq.o (by kernel_rfl)) (fun _ _ _ h => h) (Or.inl ⟨by rfl, ?_⟩) hHd ?_ ?_
      rotate_left
      ·rintro w' ⟨⟨s0, s1, s2⟩, ⟨s3, s4, s5⟩⟩
       go_simp
       with_reducible rfl
      rotate_left
      ·exact zpx
      refine take_ (i := 9) (N := some 42) (v := ?_) (a' := ?_) (zm 11 1023) rfl rfl (take_ofW Tq.o Wq.o (by kernel_rfl)) (fun _ _ _ h => h) (Or.inl ⟨by rfl, ?_⟩) hHd ?_ ?_
      rotate_left
      ·rintro w' ⟨⟨s0, s1, s2⟩, ⟨s3, s4, s5⟩⟩
       go_simp
       with_reducible rfl
      rotate_left
      ·exact zpx
      refine zpu 10 43 (zm 11 2047) Tq.o ?_
      refine done_ (done_of Tq.o (by kernel_rfl)) ?_
      try go_wp2
      go_ret3
      exact ⟨_, zew, zDR HO_5.o, zBx HB.o⟩
mutual
def qk.j0 : Nat → List Int → Bool → Option (Bool)
 | 0, _, _ => none
 | k + 1, x0, x77 => if x77 = true then (some false) else ((qz.f k x0).bind fun t673 => ((qh.f k t673).bind fun bt674 => ((qM.f k bt674.1 bt674.2.1 bt674.2.2.1).bind fun bt681 => (if bt674.2.2.2 = true then (if bt681.2 = true then (qk.j1 k x0 (bt681.1.toList != t673.toList)) else (qk.j1 k x0 true)) else (qk.j1 k x0 false)))))
def qk.j1 : Nat → List Int → Bool → Option (Bool)
 | 0, _, _ => none
 | k + 1, x0, x99 => if x99 = true then (some false) else ((qc.f k x0).bind fun bt683 => ((qg.f k bt683.1 bt683.2.1 bt683.2.2.1 bt683.2.2.2.1 bt683.2.2.2.2.1 bt683.2.2.2.2.2).bind fun bt695 => ((qe.f k bt683.1 bt683.2.1 bt683.2.2.1 bt683.2.2.2.1 bt683.2.2.2.2.1 bt683.2.2.2.2.2).bind fun bt705 => (if (bt695.2.2.2 != bt705.2.2.2) = true then (qk.j2 k x0 bt695.1 bt695.2.1 bt695.2.2.2 true bt683.1 bt683.2.1 bt683.2.2.1 bt683.2.2.2.1 bt683.2.2.2.2.1 bt683.2.2.2.2.2) else ((qJ.f k bt695.1 bt705.1).bind fun t715 => (if t715 = true then ((qJ.f k bt695.2.1 bt705.2.1).bind fun t716 => (if t716 = true then ((qJ.f k bt695.2.2.1 bt705.2.2.1).bind fun t717 => (qk.j2 k x0 bt695.1 bt695.2.1 bt695.2.2.2 (!t717) bt683.1 bt683.2.1 bt683.2.2.1 bt683.2.2.2.1 bt683.2.2.2.2.1 bt683.2.2.2.2.2)) else (qk.j2 k x0 bt695.1 bt695.2.1 bt695.2.2.2 true bt683.1 bt683.2.1 bt683.2.2.1 bt683.2.2.2.1 bt683.2.2.2.2.1 bt683.2.2.2.2.2))) else (qk.j2 k x0 bt695.1 bt695.2.1 bt695.2.2.2 true bt683.1 bt683.2.1 bt683.2.2.1 bt683.2.2.2.1 bt683.2.2.2.2.1 bt683.2.2.2.2.2)))))))
def qk.j2 : Nat → List Int → List Int → List Int → Bool → Bool → Int → Int → List (S25) → Int → Int → List (S25) → Option (Bool)
 | 0, _, _, _, _, _, _, _, _, _, _, _ => none
 | k + 1, x0, x17, x18, x20, x141, x694000, x694001, x694002, x695000, x695001, x695002 => if x141 = true then (some false) else (if x20 = true then (qk.j3 k x0 ((x695002.length : Int) != (wrap64 ((wrap64 ((x694002.length : Int) + (x17.length : Int))) - (x18.length : Int))))) else (qk.j3 k x0 false))
def qk.j3 : Nat → List Int → Bool → Option (Bool)
 | 0, _, _ => none
 | k + 1, x0, x157 => if x157 = true then (some false) else ((ql.f k x0).bind fun t718 => ((qi.f k t718).bind fun bt721 => ((qd.f k t718).bind fun bt726 => (if (bt721.2.2 == bt726.2.2) = true then (if bt721.2.1 = bt726.2.1 then ((qH.f k bt721.1 bt726.1).bind fun t731 => (some t731)) else (some false)) else (some false)))))
end
def qk.f (k : Nat) (l0 : List Int) : Option (Bool) := (laws_vBig.f l0).bind fun t653 => (if t653 = true then (some true) else ((spec_DrawFormatBulletin.f k l0).bind fun bt654 => ((qM.f k bt654.1 bt654.2.1 bt654.2.2).bind fun bt660 => ((qh.f k bt660.1).bind fun bt662 => ((spec_FormatBulletin.f k bt654.1 bt654.2.1 bt654.2.2).bind fun bt669 => (if bt660.1.toList = bt669.1.toList then (if (bt660.2 != bt669.2) = true then (qk.j0 k l0 true) else ((qr.f k bt654.1 bt654.2.1 bt654.2.2).bind fun t671 => (if (t671 != bt660.2) = true then (qk.j0 k l0 true) else (if bt660.2 = true then (if bt662.2.2.2 = true then ((laws_vBulletin.f k bt662.1 bt662.2.1 bt662.2.2.1 bt654.1 bt654.2.1 bt654.2.2).bind fun t672 => (qk.j0 k l0 (!t672))) else (qk.j0 k l0 true)) else (qk.j0 k l0 false))))) else (qk.j0 k l0 true)))))))
theorem qk.calls (k : Nat) (A0 : Option Addr) (c0 : Nat) (l0 : List Int) (r : Bool) (w : World) (hr0 : Kd.C (Kd.int .u8) w A0 l0.length l0) (hc0 : l0.length ≤ c0) (hL : Laid w) (h : qk.f k l0 = some r) (hr_ : r = true) :
 Calls Tryz.prog 5 #[.slice A0 l0.length c0] w fun e w' => e = .returned (.bool r) ∧ Below w.heap.size w w' := by
 have hu34 := Tryz.underlying34
 have HR0 := am hr0
 have HC0 := am hc0
 clear hr0 hc0
 have HL := am hL
 clear hL
 have HB := am (Below.refl w.heap.size w)
 unfold qk.f at h
 have H := h
 clear h
 obtain ⟨t653, A2, H⟩ := zob H
 try dsimp only at H
 by_cases c3 : t653 = true
 ·subst c3
  rw [if_pos rfl] at H
  as_aux_lemma =>
   obtain rfl := Option.some.inj H
   go_enter Tryz.func5, Tryz.ntmps5
   go_wp2_with (first | ((with_reducible refine zgc 6 rfl ?_); refine zgl 33 Tryz.func6 #[.slice A0 l0.length c0] ?_; (with_reducible refine (laws_vBig.calls _ _ l0 true _ ?side1 ?side2 A2.o).mono ?_); (case side1 => exact zCx HR0.o); (case side2 => exact HC0.o); rintro e w' ⟨rfl, ⟨nd, rfl⟩⟩; refine ⟨_, rfl, ?_⟩))
   go_ret
   exact ⟨zew, zBx HB.o⟩
 replace c3 := Bool.eq_false_iff.mpr c3
 subst c3
 rw [if_neg (show ¬ (false = true) by decide)] at H
 obtain ⟨⟨t654, t655, t656⟩, A4, H⟩ := zob H
 try dsimp only at H
 obtain ⟨⟨t660, t661⟩, A5, H⟩ := zob H
 try dsimp only at H
 obtain ⟨⟨t662, t663, t664, t667⟩, A6, H⟩ := zob H
 try dsimp only at H
 obtain ⟨⟨t669, t670⟩, A7, H⟩ := zob H
 try dsimp only at H
 have HC8 := am H
 clear H
 go_enter Tryz.func5, Tryz.ntmps5
 go_upto_region 7 with (first | ((with_reducible refine zgc 6 rfl ?_); refine zgl 33 Tryz.func6 #[.slice A0 l0.length c0] ?_; (with_reducible refine (laws_vBig.calls _ _ l0 false _ ?side1 ?side2 A2.o).mono ?_); (case side1 => exact zCx HR0.o); (case side2 => exact HC0.o); rintro e w' ⟨rfl, ⟨nd, rfl⟩⟩; refine ⟨_, rfl, ?_⟩) | ((with_reducible refine zgc 21 rfl ?_); refine zgl 35 Tryz.func21 #[.slice A0 l0.length c0] ?_; (with_reducible refine (spec_DrawFormatBulletin.calls k _ _ l0 t654 t655 t656 _ ?side1 ?side2 A4.o).mono ?_); (case side1 => exact zCx HR0.o); (case side2 => exact HC0.o); rintro e w9 ⟨v657, rfl, ho0, hb⟩; refine ⟨_, rfl, ?_⟩; have HO658 := am (Kd.R_lower ho0 (below_size (zBx HB.o))); replace HB := zhs HB hb; clear hb; (try clear ho0)) | ((with_reducible refine zgd 3 rfl ?_); (try (refine gate_guard (by rfl) ?_; dsimp only)); refine box_event ?hg (N := 3) ?hd (cs := #[.int .i64 0, .int .i64 0, .slice none 0 0]) (t := 34) ?hr ?_; (case hd => rfl); (case hg => rfl); (case hr => exact zsx); intro gb659 hg w10 hbox hb; replace HO658 := zro HO658 hb; have BK659 := am (hbox); have GW659 := zns hg HB.o; have GE659 := zns hg HB.o; replace HB := zhs HB hb; clear hb hbox hg; have hcz11 := zc3 BK659.o; obtain ⟨Ao12, co12, eo12⟩ := Kd.R_slice HO658.o; subst eo12) | ((with_reducible refine zgc 22 rfl ?_); refine zgl 38 Tryz.func22 #[.agg #[.int .i64 t654, .int .i64 t655, .slice Ao12 t656.length co12]] ?_; (with_reducible refine (qM.calls k t654 t655 _ _ t656 t660 t661 _ ?side1 ?side2 ?sideL A5.o).mono ?_); (case sideL => exact Laid.below HL.o (zBy HB.o GE659.o)); (case side1 => refine (Kd.R_reads' (e := 25) (base := w.heap.size) (ok := fun k_ => True) (n := t656.length) (c := co12) ?_).2.2; exact (by (with_reducible repeat (first | apply Kd.R_alloc | apply Kd.R_drewN | apply Kd.R_drew)); exact (Kd.R_mono (zRf (Kd.R_types HO658.o BK659.o (by decide))) (fun _ h_ => h_.1)))); (case side2 => exact (Kd.R_reads' HO658.o).2.1); rintro e w13 ⟨rfl, hb⟩; refine ⟨_, rfl, ?_⟩; replace HO658 := am (Kd.R_below (by (with_reducible repeat (first | apply Kd.R_alloc | apply Kd.R_drewN | apply Kd.R_drew)); exact (Kd.R_mono (zRf (Kd.R_types HO658.o BK659.o (by decide))) (fun _ h_ => h_.1))) hb); replace BK659 := am (blk_below (g := gb659) (o := .cells #[.int .i64 t654, .int .i64 t655, .slice Ao12 t656.length co12] 34 (0, 0)) (zbp BK659.o) hb); replace HB := zhs HB hb; clear hb) | ((with_reducible refine zgc 17 rfl ?_); refine zgl 43 Tryz.func17 #[.string t660] ?_; (with_reducible refine (qh.calls k t660 t662 t663 t664 t667 _ ?sideL A6.o).mono ?_); (case sideL => exact Laid.below HL.o (zBy HB.o GE659.o)); rintro e w14 ⟨v665, rfl, ho0, hb⟩; refine ⟨_, rfl, ?_⟩; have HO666 := am (Kd.R_lower (Kd.R_new' ho0 (Kd.R_lt (zRx HO658.o))) (below_size (zBy HB.o GE659.o))); replace HO658 := am (Kd.R_elder' (zRx HO658.o) (Kd.R_base ho0) hb); replace BK659 := zbl BK659.o hb; replace HB := zhs HB hb; clear hb; (try clear ho0)) | ((with_reducible refine zgd 6 rfl ?_); (try (refine gate_guard (by rfl) ?_; dsimp only)); refine box_event ?hg (N := 6) ?hd (cs := #[.int .i64 0, .int .i64 0, .slice none 0 0]) (t := 34) ?hr ?_; (case hd => rfl); (case hg => rfl); (case hr => exact zsx); intro gb668 hg w15 hbox hb; replace HO658 := zro HO658 hb; replace HO666 := zro HO666 hb; have BK668 := am (hbox); have GW668 := zns hg HB.o; have GE668 := zns hg HB.o; replace HB := zhs HB hb; have NB659_668 := znl hg BK659.o; have NB668_659 := zng hg BK659.o; replace BK659 := zbl BK659.o hb; clear hb hbox hg; have hnb16 := NB668_659.o; have hnc16 := NB659_668.o; have hcz17 := zc3 BK668.o; obtain ⟨Ao18, co18, eo18⟩ := Kd.R_slice HO666.o; subst eo18; have hcz19 := zc3 BK659.o) | ((with_reducible refine zgc 23 rfl ?_); refine zgl 48 Tryz.func23 #[.agg #[.int .i64 t654, .int .i64 t655, .slice Ao12 t656.length co12]] ?_; (with_reducible refine (spec_FormatBulletin.calls k t654 t655 _ _ t656 t669 t670 _ ?side1 ?side2 A7.o).mono ?_); (case side1 => refine (Kd.R_reads' (e := 25) (base := w.heap.size) (ok := fun k_ => (True ∧ some k_ ≠ (.slice Ao18 t664.length co18 : Value).ownBlock)) (n := t656.length) (c := co12) ?_).2.2; exact (by (with_reducible repeat (first | apply Kd.R_alloc | apply Kd.R_drewN | apply Kd.R_drew)); exact (Kd.R_mono (zRf (Kd.R_types HO658.o BK668.o (by decide))) (fun _ h_ => h_.1)))); (case side2 => exact (Kd.R_reads' HO658.o).2.1); rintro e w20 ⟨rfl, hb⟩; refine ⟨_, rfl, ?_⟩; replace HO658 := am (Kd.R_below (by (with_reducible repeat (first | apply Kd.R_alloc | apply Kd.R_drewN | apply Kd.R_drew)); exact (Kd.R_mono (zRf (Kd.R_types HO658.o BK668.o (by decide))) (fun _ h_ => h_.1))) hb); replace HO666 := am (Kd.R_below (by (with_reducible repeat (first | apply Kd.R_alloc | apply Kd.R_drewN | apply Kd.R_drew)); exact (Kd.R_mono (zRf (Kd.R_types HO666.o BK668.o (by decide))) (fun _ h_ => h_.1))) hb); replace BK659 := zbl BK659.o hb; replace BK668 := am (blk_below (g := gb668) (o := .cells #[.int .i64 t662, .int .i64 t663, .slice Ao18 t664.length co18] 34 (0, 0)) (zbp BK668.o) hb); replace HB := zhs HB hb; clear hb))
 (try simp only [Act.put, List.setIfInBounds_toArray, List.set_cons_zero, List.set_cons_succ])
 go_cut [77] (fun v77 wc => ∃ (kq : Nat) (x77_7 : Bool), v77 = .bool x77_7 ∧ Aq (qk.j0 kq l0 x77_7 = some r) ∧ Aq (kq ≤ k) ∧ Aq (Kd.Q k25 25 wc w.heap.size (fun k_ => some k_ ≠ ((.slice Ao18 t664.length co18) : Value).ownBlock) (.slice Ao12 t656.length co12) t656) ∧ Aq (Kd.Q k25 25 wc w.heap.size (fun k_ => some k_ ≠ ((.slice Ao12 t656.length co12) : Value).ownBlock) (.slice Ao18 t664.length co18) t664) ∧ Aq (wc.heap[gb659]? = some (.cells #[.int .i64 t654, .int .i64 t655, (.slice Ao12 t656.length co12)] 34 (0, 0))) ∧ Aq (wc.heap[gb668]? = some (.cells #[.int .i64 t662, .int .i64 t663, (.slice Ao18 t664.length co18)] 34 (0, 0))) ∧ Aq (Below w.heap.size w wc))
 case first =>
  as_aux_lemma =>
  have H := HC8.o
  clear HC8
  by_cases c21 : t660.toList = t669.toList
  rotate_left
  ·rw [if_neg c21] at H
   have c21b0 := beq_eq_false_iff_ne.mpr c21
   have c21b1 := bne_iff_ne.mpr c21
   (first | rw [c21b0] | (simp only [i64_w, i32_w]; rw [c21b0]) | skip)
   as_aux_lemma =>
    have H' := am H
    clear H
    go_wp2
    go_meet
    case rel => exact ⟨_, (true), zrx, H', ⟨by first | omega | exact Nat.le_refl _⟩, ⟨Kd.Q_of_R (by refine zDR ?_; exact Kd.R_mono HO658.o (fun _ hk => hk.2))⟩, ⟨Kd.Q_of_R (by refine zDR ?_; exact Kd.R_mono HO666.o (fun _ hk => hk.2))⟩, ⟨zbx BK659.o⟩, ⟨zbx BK668.o⟩, ⟨zBz HB.o GE659.o GE668.o⟩⟩
  rw [if_pos c21] at H
  have c21b0 := beq_iff_eq.mpr c21
  have c21b1 := bne_eq_false_iff_eq.mpr c21
  clear c21
  (first | rw [c21b0] | (simp only [i64_w, i32_w]; rw [c21b0]) | skip)
  by_cases c22 : (t661 != t670) = true
  ·rw [if_pos c22] at H
   have c22b0 : (t661 != t670) = true := c22
   (try (have c22b1 : decide (t661 = t670) = false := by simpa using c22))
   (try (have c22b2 : (t661 == t670) = false := by simpa using c22))
   (try (have c22b3 : ¬ (t661 = t670) := by simpa using c22))
   clear c22
   as_aux_lemma =>
    have H' := am H
    clear H
    go_wp2
    go_meet
    case rel => exact ⟨_, (true), zrx, H', ⟨by first | omega | exact Nat.le_refl _⟩, ⟨Kd.Q_of_R (by refine zDR ?_; exact Kd.R_mono HO658.o (fun _ hk => hk.2))⟩, ⟨Kd.Q_of_R (by refine zDR ?_; exact Kd.R_mono HO666.o (fun _ hk => hk.2))⟩, ⟨zbx BK659.o⟩, ⟨zbx BK668.o⟩, ⟨zBz HB.o GE659.o GE668.o⟩⟩
  rw [if_neg c22] at H
  have c22b0 : (t661 != t670) = false := by simpa using c22
  (try (have c22b1 : decide (t661 = t670) = true := by simpa using c22))
  (try (have c22b2 : (t661 == t670) = true := by simpa using c22))
  clear c22
  obtain ⟨t671, A23, H⟩ := zob H
  try dsimp only at H
  by_cases c24 : (t671 != t661) = true
  ·rw [if_pos c24] at H
   have c24b0 : (t671 != t661) = true := c24
   (try (have c24b1 : decide (t671 = t661) = false := by simpa using c24))
   (try (have c24b2 : (t671 == t661) = false := by simpa using c24))
   (try (have c24b3 : ¬ (t671 = t661) := by simpa using c24))
   clear c24
   as_aux_lemma =>
    have H' := am H
    clear H
    have hnb25 := NB659_668.o
    have hnc25 := NB668_659.o
    have hcz26 := zc3 BK659.o
    go_wp2_with (first | (go_at_call 24; (with_reducible refine (qr.calls k t654 t655 _ _ t656 t671 _ ?side1 ?side2 A23.o).mono ?_); (case side1 => exact zCx (Kd.R_reads' HO658.o).2.2); (case side2 => exact (Kd.R_reads' HO658.o).2.1); rintro e w27 ⟨rfl, hb⟩; replace HO658 := zro HO658 hb; replace HO666 := zro HO666 hb; replace BK659 := zbl BK659.o hb; replace BK668 := zbl BK668.o hb; replace HB := zhs HB hb; clear hb))
    go_meet
    case rel => exact ⟨_, (true), zrx, H', ⟨by first | omega | exact Nat.le_refl _⟩, ⟨Kd.Q_of_R (by refine zDR ?_; exact Kd.R_mono HO658.o (fun _ hk => hk.2))⟩, ⟨Kd.Q_of_R (by refine zDR ?_; exact Kd.R_mono HO666.o (fun _ hk => hk.2))⟩, ⟨zbx BK659.o⟩, ⟨zbx BK668.o⟩, ⟨zBz HB.o GE659.o GE668.o⟩⟩
  rw [if_neg c24] at H
  have c24b0 : (t671 != t661) = false := by simpa using c24
  (try (have c24b1 : decide (t671 = t661) = true := by simpa using c24))
  (try (have c24b2 : (t671 == t661) = true := by simpa using c24))
  clear c24
  by_cases c28 : t661 = true
  rotate_left
  ·replace c28 := Bool.eq_false_iff.mpr c28
   subst c28
   rw [if_neg (show ¬ (false = true) by decide)] at H
   as_aux_lemma =>
    have H' := am H
    clear H
    have hnb40 := NB659_668.o
    have hnc40 := NB668_659.o
    have hcz41 := zc3 BK659.o
    go_wp2_with (first | (go_at_call 24; (with_reducible refine (qr.calls k t654 t655 _ _ t656 t671 _ ?side1 ?side2 A23.o).mono ?_); (case side1 => exact zCx (Kd.R_reads' HO658.o).2.2); (case side2 => exact (Kd.R_reads' HO658.o).2.1); rintro e w42 ⟨rfl, hb⟩; replace HO658 := zro HO658 hb; replace HO666 := zro HO666 hb; replace BK659 := zbl BK659.o hb; replace BK668 := zbl BK668.o hb; replace HB := zhs HB hb; clear hb))
    go_meet
    case rel => exact ⟨_, (false), zrx, H', ⟨by first | omega | exact Nat.le_refl _⟩, ⟨Kd.Q_of_R (by refine zDR ?_; exact Kd.R_mono HO658.o (fun _ hk => hk.2))⟩, ⟨Kd.Q_of_R (by refine zDR ?_; exact Kd.R_mono HO666.o (fun _ hk => hk.2))⟩, ⟨zbx BK659.o⟩, ⟨zbx BK668.o⟩, ⟨zBz HB.o GE659.o GE668.o⟩⟩
  subst c28
  rw [if_pos rfl] at H
  by_cases c29 : t667 = true
  rotate_left
  ·replace c29 := Bool.eq_false_iff.mpr c29
   subst c29
   rw [if_neg (show ¬ (false = true) by decide)] at H
   as_aux_lemma =>
    have H' := am H
    clear H
    have hnb37 := NB659_668.o
    have hnc37 := NB668_659.o
    have hcz38 := zc3 BK659.o
    go_wp2_with (first | (go_at_call 24; (with_reducible refine (qr.calls k t654 t655 _ _ t656 t671 _ ?side1 ?side2 A23.o).mono ?_); (case side1 => exact zCx (Kd.R_reads' HO658.o).2.2); (case side2 => exact (Kd.R_reads' HO658.o).2.1); rintro e w39 ⟨rfl, hb⟩; replace HO658 := zro HO658 hb; replace HO666 := zro HO666 hb; replace BK659 := zbl BK659.o hb; replace BK668 := zbl BK668.o hb; replace HB := zhs HB hb; clear hb))
    go_meet
    case rel => exact ⟨_, (true), zrx, H', ⟨by first | omega | exact Nat.le_refl _⟩, ⟨Kd.Q_of_R (by refine zDR ?_; exact Kd.R_mono HO658.o (fun _ hk => hk.2))⟩, ⟨Kd.Q_of_R (by refine zDR ?_; exact Kd.R_mono HO666.o (fun _ hk => hk.2))⟩, ⟨zbx BK659.o⟩, ⟨zbx BK668.o⟩, ⟨zBz HB.o GE659.o GE668.o⟩⟩
  subst c29
  rw [if_pos rfl] at H
  obtain ⟨t672, A30, H⟩ := zob H
  try dsimp only at H
  as_aux_lemma =>
   have H' := am H
   clear H
   have hnb31 := NB659_668.o
   have hnc31 := NB668_659.o
   have hcz32 := zc3 BK659.o
   go_wp2_with (first | (go_at_call 24; (with_reducible refine (qr.calls k t654 t655 _ _ t656 t671 _ ?side1 ?side2 A23.o).mono ?_); (case side1 => exact zCx (Kd.R_reads' HO658.o).2.2); (case side2 => exact (Kd.R_reads' HO658.o).2.1); rintro e w33 ⟨rfl, hb⟩; replace HO658 := zro HO658 hb; replace HO666 := zro HO666 hb; replace BK659 := zbl BK659.o hb; replace BK668 := zbl BK668.o hb; replace HB := zhs HB hb; clear hb; have hcz34 := zc3 BK668.o; have hcz35 := zc3 BK659.o) | (go_at_call 25; (with_reducible refine (laws_vBulletin.calls k t662 t663 _ _ t664 t654 t655 _ _ t656 t672 _ ?side1 ?side2 ?side3 ?side4 A30.o).mono ?_); (case side1 => exact zCx (Kd.R_reads' HO666.o).2.2); (case side2 => exact (Kd.R_reads' HO666.o).2.1); (case side3 => exact zCx (Kd.R_reads' HO658.o).2.2); (case side4 => exact (Kd.R_reads' HO658.o).2.1); rintro e w36 ⟨rfl, hb⟩; replace HO658 := zro HO658 hb; replace HO666 := zro HO666 hb; replace BK659 := zbl BK659.o hb; replace BK668 := zbl BK668.o hb; replace HB := zhs HB hb; clear hb))
   go_meet
   case rel => exact ⟨_, (!t672), zrx, H', ⟨by first | omega | exact Nat.le_refl _⟩, ⟨Kd.Q_of_R (by refine zDR ?_; exact Kd.R_mono HO658.o (fun _ hk => hk.2))⟩, ⟨Kd.Q_of_R (by refine zDR ?_; exact Kd.R_mono HO666.o (fun _ hk => hk.2))⟩, ⟨zbx BK659.o⟩, ⟨zbx BK668.o⟩, ⟨zBz HB.o GE659.o GE668.o⟩⟩
 case rest =>
  clear HC8
  try clear c3
  try clear hcz11
  try clear hcz17
  try clear hcz19
  obtain ⟨kq, x77_7, rfl, HA, HJ7, HO_660002, HO_669002, BK659, BK668, HB⟩ := hcut
  cases kq with
  | zero => exact absurd HA.o (by simp [qk.j0])
  | succ kj7 =>
   have H := HA.o
   clear HA
   simp only [qk.j0] at H
   by_cases c43 : x77_7 = true
   ·subst c43
    rw [if_pos rfl] at H
    as_aux_lemma =>
     exact absurd (Option.some.inj H) (by rw [hr_]; decide)
   replace c43 := Bool.eq_false_iff.mpr c43
   subst c43
   rw [if_neg (show ¬ (false = true) by decide)] at H
   obtain ⟨t673, A44, H⟩ := zob H
   try dsimp only at H
   obtain ⟨⟨t674, t675, t676, t679⟩, A45, H⟩ := zob H
   try dsimp only at H
   obtain ⟨⟨t681, t682⟩, A46, H⟩ := zob H
   try dsimp only at H
   have HC47 := am H
   clear H
   go_upto_region 12 with (first | ((with_reducible refine zgc 26 rfl ?_); refine zgl 79 Tryz.func26 #[.slice A0 l0.length c0] ?_; (with_reducible refine (qz.calls kj7 _ _ l0 t673 _ ?side1 ?side2 A44.o).mono ?_); (case side1 => exact zCx (Kd.C_below HR0.o HB.o)); (case side2 => exact HC0.o); rintro e w48 ⟨rfl, hb⟩; refine ⟨_, rfl, ?_⟩; replace HO_660002 := am (Kd.Q_below (zDQ HO_660002.o) hb); replace HO_669002 := am (Kd.Q_below (zDQ HO_669002.o) hb); replace BK659 := zbl BK659.o hb; replace BK668 := zbl BK668.o hb; replace HB := zhs HB hb; clear hb) | ((with_reducible refine zgc 17 rfl ?_); refine zgl 82 Tryz.func17 #[.string t673] ?_; (with_reducible refine (qh.calls kj7 t673 t674 t675 t676 t679 _ ?sideL A45.o).mono ?_); (case sideL => exact Laid.below HL.o (zBz HB.o GE659.o GE668.o)); rintro e w49 ⟨v677, rfl, ho0, hb⟩; refine ⟨_, rfl, ?_⟩; have HO678 := am (Kd.R_lower (Kd.R_new' (Kd.R_new' ho0 (Kd.Q_lt (zDQ HO_660002.o))) (Kd.Q_lt (zDQ HO_669002.o))) (below_size (zBz HB.o GE659.o GE668.o))); replace HO_660002 := am (Kd.Q_elder' (zDQ HO_660002.o) (Kd.R_base ho0) hb); replace HO_669002 := am (Kd.Q_elder' (zDQ HO_669002.o) (Kd.R_base ho0) hb); replace BK659 := zbl BK659.o hb; replace BK668 := zbl BK668.o hb; replace HB := zhs HB hb; clear hb; (try clear ho0)) | ((with_reducible refine zgd 11 rfl ?_); (try (refine gate_guard (by rfl) ?_; dsimp only)); refine box_event ?hg (N := 11) ?hd (cs := #[.int .i64 0, .int .i64 0, .slice none 0 0]) (t := 34) ?hr ?_; (case hd => rfl); (case hg => rfl); (case hr => exact zsx); intro gb680 hg w50 hbox hb; replace HO_660002 := am (Kd.Q_below (zDQ HO_660002.o) hb); replace HO_669002 := am (Kd.Q_below (zDQ HO_669002.o) hb); replace HO678 := zro HO678 hb; have BK680 := am (hbox); have GW680 := zns hg HB.o; have GE680 := zns hg HB.o; replace HB := zhs HB hb; have NB659_680 := znl hg BK659.o; have NB680_659 := zng hg BK659.o; replace BK659 := zbl BK659.o hb; have NB668_680 := znl hg BK668.o; have NB680_668 := zng hg BK668.o; replace BK668 := zbl BK668.o hb; clear hb hbox hg; have hnb51 := NB680_659.o; have hnc51 := NB659_680.o; have hnb52 := NB680_668.o; have hnc52 := NB668_680.o; have hcz53 := zc3 BK680.o; obtain ⟨Ao54, co54, eo54⟩ := Kd.R_slice HO678.o; subst eo54) | ((with_reducible refine zgc 22 rfl ?_); refine zgl 87 Tryz.func22 #[.agg #[.int .i64 t674, .int .i64 t675, .slice Ao54 t676.length co54]] ?_; (with_reducible refine (qM.calls kj7 t674 t675 _ _ t676 t681 t682 _ ?side1 ?side2 ?sideL A46.o).mono ?_); (case sideL => exact Laid.below HL.o (zhB HB.o)); (case side1 => refine (Kd.R_reads' (e := 25) (base := w.heap.size) (ok := fun k_ => ((True ∧ some k_ ≠ (.slice Ao12 t656.length co12 : Value).ownBlock) ∧ some k_ ≠ (.slice Ao18 t664.length co18 : Value).ownBlock)) (n := t676.length) (c := co54) ?_).2.2; exact (by (with_reducible repeat (first | apply Kd.R_alloc | apply Kd.R_drewN | apply Kd.R_drew)); exact (Kd.R_mono (zRf (Kd.R_types HO678.o BK680.o (by decide))) (fun _ h_ => h_.1)))); (case side2 => exact (Kd.R_reads' HO678.o).2.1); rintro e w55 ⟨rfl, hb⟩; refine ⟨_, rfl, ?_⟩; replace HO_660002 := am (Kd.Q_below (by (with_reducible repeat (first | apply Kd.Q_alloc | apply Kd.Q_drewN | apply Kd.Q_drew)); exact (Kd.Q_mono (zQf (Kd.Q_types HO_660002.o BK680.o (by decide))) (fun _ h_ => h_.1))) hb); replace HO_669002 := am (Kd.Q_below (by (with_reducible repeat (first | apply Kd.Q_alloc | apply Kd.Q_drewN | apply Kd.Q_drew)); exact (Kd.Q_mono (zQf (Kd.Q_types HO_669002.o BK680.o (by decide))) (fun _ h_ => h_.1))) hb); replace HO678 := am (Kd.R_below (by (with_reducible repeat (first | apply Kd.R_alloc | apply Kd.R_drewN | apply Kd.R_drew)); exact (Kd.R_mono (zRf (Kd.R_types HO678.o BK680.o (by decide))) (fun _ h_ => h_.1))) hb); replace BK659 := zbl BK659.o hb; replace BK668 := zbl BK668.o hb; replace BK680 := am (blk_below (g := gb680) (o := .cells #[.int .i64 t674, .int .i64 t675, .slice Ao54 t676.length co54] 34 (0, 0)) (zbp BK680.o) hb); replace HB := zhs HB hb; clear hb))
   (try simp only [Act.put, List.setIfInBounds_toArray, List.set_cons_zero, List.set_cons_succ])
   go_cut [99] (fun v99 wc => ∃ (kq : Nat) (x99_46 : Bool), v99 = .bool x99_46 ∧ Aq (qk.j1 kq l0 x99_46 = some r) ∧ Aq (kq ≤ kj7) ∧ Aq (Kd.Q k25 25 wc w.heap.size (fun k_ => some k_ ≠ ((.slice Ao18 t664.length co18) : Value).ownBlock ∧ some k_ ≠ ((.slice Ao54 t676.length co54) : Value).ownBlock) (.slice Ao12 t656.length co12) t656) ∧ Aq (Kd.Q k25 25 wc w.heap.size (fun k_ => some k_ ≠ ((.slice Ao12 t656.length co12) : Value).ownBlock ∧ some k_ ≠ ((.slice Ao54 t676.length co54) : Value).ownBlock) (.slice Ao18 t664.length co18) t664) ∧ Aq (Kd.Q k25 25 wc w.heap.size (fun k_ => some k_ ≠ ((.slice Ao12 t656.length co12) : Value).ownBlock ∧ some k_ ≠ ((.slice Ao18 t664.length co18) : Value).ownBlock) (.slice Ao54 t676.length co54) t676) ∧ Aq (wc.heap[gb659]? = some (.cells #[.int .i64 t654, .int .i64 t655, (.slice Ao12 t656.length co12)] 34 (0, 0))) ∧ Aq (wc.heap[gb668]? = some (.cells #[.int .i64 t662, .int .i64 t663, (.slice Ao18 t664.length co18)] 34 (0, 0))) ∧ Aq (wc.heap[gb680]? = some (.cells #[.int .i64 t674, .int .i64 t675, (.slice Ao54 t676.length co54)] 34 (0, 0))) ∧ Aq (Below w.heap.size w wc))
   case first =>
    as_aux_lemma =>
    have H := HC47.o
    clear HC47
    by_cases c56 : t679 = true
    rotate_left
    ·replace c56 := Bool.eq_false_iff.mpr c56
     subst c56
     rw [if_neg (show ¬ (false = true) by decide)] at H
     as_aux_lemma =>
      have H' := am H
      clear H
      go_wp2
      go_meet
      case rel => exact ⟨_, (false), zrx, H', ⟨by have := HJ7.o; first | omega | exact Nat.le_refl _⟩, ⟨zDQ HO_660002.o⟩, ⟨zDQ HO_669002.o⟩, ⟨Kd.Q_of_R (by refine zDR ?_; exact Kd.R_mono HO678.o (fun _ hk => by first | exact ⟨hk.1.2, hk.2⟩ | exact ⟨hk.2, hk.1.2⟩ | grind))⟩, ⟨zbx BK659.o⟩, ⟨zbx BK668.o⟩, ⟨zbx BK680.o⟩, ⟨zhB HB.o⟩⟩
    subst c56
    rw [if_pos rfl] at H
    by_cases c57 : t682 = true
    ·subst c57
     rw [if_pos rfl] at H
     as_aux_lemma =>
      have H' := am H
      clear H
      go_wp2
      go_meet
      case rel => exact ⟨_, ((t681.toList != t673.toList)), zrx, H', ⟨by have := HJ7.o; first | omega | exact Nat.le_refl _⟩, ⟨zDQ HO_660002.o⟩, ⟨zDQ HO_669002.o⟩, ⟨Kd.Q_of_R (by refine zDR ?_; exact Kd.R_mono HO678.o (fun _ hk => by first | exact ⟨hk.1.2, hk.2⟩ | exact ⟨hk.2, hk.1.2⟩ | grind))⟩, ⟨zbx BK659.o⟩, ⟨zbx BK668.o⟩, ⟨zbx BK680.o⟩, ⟨zhB HB.o⟩⟩
    ·replace c57 := Bool.eq_false_iff.mpr c57
     subst c57
     rw [if_neg (show ¬ (false = true) by decide)] at H
     as_aux_lemma =>
      have H' := am H
      clear H
      go_wp2
      go_meet
      case rel => exact ⟨_, (true), zrx, H', ⟨by have := HJ7.o; first | omega | exact Nat.le_refl _⟩, ⟨zDQ HO_660002.o⟩, ⟨zDQ HO_669002.o⟩, ⟨Kd.Q_of_R (by refine zDR ?_; exact Kd.R_mono HO678.o (fun _ hk => by first | exact ⟨hk.1.2, hk.2⟩ | exact ⟨hk.2, hk.1.2⟩ | grind))⟩, ⟨zbx BK659.o⟩, ⟨zbx BK668.o⟩, ⟨zbx BK680.o⟩, ⟨zhB HB.o⟩⟩
   case rest =>
    clear HC47
    try clear c3
    try clear c43
    try clear hcz11
    try clear hcz17
    try clear hcz19
    try clear hcz53
    obtain ⟨kq, x99_46, rfl, HA, HJ46, HO_660002, HO_669002, HO_681002, BK659, BK668, BK680, HB⟩ := hcut
    cases kq with
    | zero => exact absurd HA.o (by simp [qk.j1])
    | succ kj46 =>
     have H := HA.o
     clear HA
     simp only [qk.j1] at H
     by_cases c58 : x99_46 = true
     ·subst c58
      rw [if_pos rfl] at H
      as_aux_lemma =>
       exact absurd (Option.some.inj H) (by rw [hr_]; decide)
     replace c58 := Bool.eq_false_iff.mpr c58
     subst c58
     rw [if_neg (show ¬ (false = true) by decide)] at H
     obtain ⟨⟨t683, t684, t685, t688, t689, t690⟩, A59, H⟩ := zob H
     try dsimp only at H
     obtain ⟨⟨t695, t698, t701, t704⟩, A60, H⟩ := zob H
     try dsimp only at H
     obtain ⟨⟨t705, t708, t711, t714⟩, A61, H⟩ := zob H
     try dsimp only at H
     have HC62 := am H
     clear H
     go_upto_region 17 with (first | ((with_reducible refine zgc 27 rfl ?_); refine zgl 102 Tryz.func27 #[.slice A0 l0.length c0] ?_; (with_reducible refine (qc.calls kj46 _ _ l0 t683 t684 t685 t688 t689 t690 _ ?side1 ?side2 A59.o).mono ?_); (case side1 => exact zCx (Kd.C_below HR0.o HB.o)); (case side2 => exact HC0.o); rintro e w63 ⟨v686, v691, rfl, ho0, ho1, hb⟩; refine ⟨_, rfl, ?_⟩; have HO687 := am (Kd.Q_lower (Kd.Q_new' (Kd.Q_new' (Kd.Q_new' ho0 (Kd.Q_lt (zDQ HO_660002.o))) (Kd.Q_lt (zDQ HO_669002.o))) (Kd.Q_lt (zDQ HO_681002.o))) (below_size (zhB HB.o))); have HO692 := am (Kd.Q_lower (Kd.Q_new' (Kd.Q_new' (Kd.Q_new' ho1 (Kd.Q_lt (zDQ HO_660002.o))) (Kd.Q_lt (zDQ HO_669002.o))) (Kd.Q_lt (zDQ HO_681002.o))) (below_size (zhB HB.o))); replace HO_660002 := am (Kd.Q_mono (Kd.Q_told (Kd.Q_told (Kd.Q_old (zDQ HO_660002.o) hb) (Kd.Q_base ho0)) (Kd.Q_base ho1)) (fun _ h_ => h_.1)); replace HO_669002 := am (Kd.Q_mono (Kd.Q_told (Kd.Q_told (Kd.Q_old (zDQ HO_669002.o) hb) (Kd.Q_base ho0)) (Kd.Q_base ho1)) (fun _ h_ => h_.1)); replace HO_681002 := am (Kd.Q_mono (Kd.Q_told (Kd.Q_told (Kd.Q_old (zDQ HO_681002.o) hb) (Kd.Q_base ho0)) (Kd.Q_base ho1)) (fun _ h_ => h_.1)); replace BK659 := zbl BK659.o hb; replace BK668 := zbl BK668.o hb; replace BK680 := zbl BK680.o hb; replace HB := zhs HB hb; clear hb; (try clear ho0); (try clear ho1)) | ((with_reducible refine zgd 15 rfl ?_); (try (refine gate_guard (by rfl) ?_; dsimp only)); refine box_event ?hg (N := 15) ?hd (cs := #[.int .i64 0, .int .i64 0, .slice none 0 0]) (t := 34) ?hr ?_; (case hd => rfl); (case hg => rfl); (case hr => exact zsx); intro gb693 hg w64 hbox hb; replace HO_660002 := am (Kd.Q_below (zDQ HO_660002.o) hb); replace HO_669002 := am (Kd.Q_below (zDQ HO_669002.o) hb); replace HO_681002 := am (Kd.Q_below (zDQ HO_681002.o) hb); replace HO687 := am (Kd.Q_below (zDQ HO687.o) hb); replace HO692 := am (Kd.Q_below (zDQ HO692.o) hb); have BK693 := am (hbox); have GW693 := zns hg HB.o; have GE693 := zns hg HB.o; replace HB := zhs HB hb; have NB659_693 := znl hg BK659.o; have NB693_659 := zng hg BK659.o; replace BK659 := zbl BK659.o hb; have NB668_693 := znl hg BK668.o; have NB693_668 := zng hg BK668.o; replace BK668 := zbl BK668.o hb; have NB680_693 := znl hg BK680.o; have NB693_680 := zng hg BK680.o; replace BK680 := zbl BK680.o hb; clear hb hbox hg) | ((with_reducible refine zgd 16 rfl ?_); (try (refine gate_guard (by rfl) ?_; dsimp only)); refine box_event ?hg (N := 16) ?hd (cs := #[.int .i64 0, .int .i64 0, .slice none 0 0]) (t := 34) ?hr ?_; (case hd => rfl); (case hg => rfl); (case hr => exact zsx); intro gb694 hg w65 hbox hb; replace HO_660002 := am (Kd.Q_below (zDQ HO_660002.o) hb); replace HO_669002 := am (Kd.Q_below (zDQ HO_669002.o) hb); replace HO_681002 := am (Kd.Q_below (zDQ HO_681002.o) hb); replace HO687 := am (Kd.Q_below (zDQ HO687.o) hb); replace HO692 := am (Kd.Q_below (zDQ HO692.o) hb); have BK694 := am (hbox); have GW694 := zns hg HB.o; have GE694 := zns hg HB.o; replace HB := zhs HB hb; have NB659_694 := znl hg BK659.o; have NB694_659 := zng hg BK659.o; replace BK659 := zbl BK659.o hb; have NB668_694 := znl hg BK668.o; have NB694_668 := zng hg BK668.o; replace BK668 := zbl BK668.o hb; have NB680_694 := znl hg BK680.o; have NB694_680 := zng hg BK680.o; replace BK680 := zbl BK680.o hb; have NB693_694 := znl hg BK693.o; have NB694_693 := zng hg BK693.o; replace BK693 := zbl BK693.o hb; clear hb hbox hg; have hnb66 := NB693_659.o; have hnc66 := NB659_693.o; have hnb67 := NB693_668.o; have hnc67 := NB668_693.o; have hnb68 := NB693_680.o; have hnc68 := NB680_693.o; have hnb69 := NB693_694.o; have hnc69 := NB694_693.o; have hcz70 := zc3 BK693.o; obtain ⟨Ao71, co71, eo71, _⟩ := Kd.Q_slice HO687.o; subst eo71; have hnb72 := NB694_659.o; have hnc72 := NB659_694.o; have hnb73 := NB694_668.o; have hnc73 := NB668_694.o; have hnb74 := NB694_680.o; have hnc74 := NB680_694.o; have hcz75 := zc3 BK694.o; obtain ⟨Ao76, co76, eo76, _⟩ := Kd.Q_slice HO692.o; subst eo76) | ((with_reducible refine zgc 28 rfl ?_); refine zgl 108 Tryz.func28 #[.agg #[.int .i64 t683, .int .i64 t684, .slice Ao71 t685.length co71], .agg #[.int .i64 t688, .int .i64 t689, .slice Ao76 t690.length co76]] ?_; (with_reducible refine (qg.calls kj46 t683 t684 _ _ t685 t688 t689 _ _ t690 t695 t698 t701 t704 _ ?side1 ?side2 ?side3 ?side4 A60.o).mono ?_); (case side1 => refine (Kd.Q_reads' (e := 25) (base := w.heap.size) (ok := fun k_ => (((some k_ ≠ (.slice Ao76 t690.length co76 : Value).ownBlock ∧ some k_ ≠ (.slice Ao12 t656.length co12 : Value).ownBlock) ∧ some k_ ≠ (.slice Ao18 t664.length co18 : Value).ownBlock) ∧ some k_ ≠ (.slice Ao54 t676.length co54 : Value).ownBlock)) (n := t685.length) (c := co71) ?_).2.2; exact (by (with_reducible repeat (first | apply Kd.Q_alloc | apply Kd.Q_drewN | apply Kd.Q_drew)); exact (Kd.Q_mono (Kd.Q_mono (zQf (Kd.Q_far (p := ⟨gb693, 2, none⟩) (Kd.Q_far (p := ⟨gb693, 1, none⟩) (Kd.Q_far (p := ⟨gb693, 0, none⟩) (Kd.Q_types (Kd.Q_types HO687.o BK693.o (by decide)) BK694.o (by decide)) (fun _ hk => hk.1.2) (.int .i64 t683)) (fun _ hk => hk.1.2) (.int .i64 t684)) (fun _ hk => hk.1.2) (.slice Ao71 t685.length co71))) (fun _ h_ => h_.1)) (fun _ h_ => h_.1)))); (case side2 => exact (Kd.Q_reads' HO687.o).2.1); (case side3 => refine (Kd.Q_reads' (e := 25) (base := w.heap.size) (ok := fun k_ => (((some k_ ≠ (.slice Ao71 t685.length co71 : Value).ownBlock ∧ some k_ ≠ (.slice Ao12 t656.length co12 : Value).ownBlock) ∧ some k_ ≠ (.slice Ao18 t664.length co18 : Value).ownBlock) ∧ some k_ ≠ (.slice Ao54 t676.length co54 : Value).ownBlock)) (n := t690.length) (c := co76) ?_).2.2; exact (by (with_reducible repeat (first | apply Kd.Q_alloc | apply Kd.Q_drewN | apply Kd.Q_drew)); exact (Kd.Q_mono (Kd.Q_mono (zQf (Kd.Q_far (p := ⟨gb693, 2, none⟩) (Kd.Q_far (p := ⟨gb693, 1, none⟩) (Kd.Q_far (p := ⟨gb693, 0, none⟩) (Kd.Q_types (Kd.Q_types HO692.o BK693.o (by decide)) BK694.o (by decide)) (fun _ hk => hk.1.2) (.int .i64 t683)) (fun _ hk => hk.1.2) (.int .i64 t684)) (fun _ hk => hk.1.2) (.slice Ao71 t685.length co71))) (fun _ h_ => h_.1)) (fun _ h_ => h_.1)))); (case side4 => exact (Kd.Q_reads' HO692.o).2.1); rintro e w77 ⟨v696, v699, v702, rfl, ho0, ho1, ho2, hb⟩; refine ⟨_, rfl, ?_⟩; replace HO_660002 := am (Kd.Q_below (by (with_reducible repeat (first | apply Kd.Q_alloc | apply Kd.Q_drewN | apply Kd.Q_drew)); exact (Kd.Q_mono (Kd.Q_mono (zQf (Kd.Q_far (p := ⟨gb693, 2, none⟩) (Kd.Q_far (p := ⟨gb693, 1, none⟩) (Kd.Q_far (p := ⟨gb693, 0, none⟩) (Kd.Q_types (Kd.Q_types HO_660002.o BK693.o (by decide)) BK694.o (by decide)) (fun _ hk => hk.1.2) (.int .i64 t683)) (fun _ hk => hk.1.2) (.int .i64 t684)) (fun _ hk => hk.1.2) (.slice Ao71 t685.length co71))) (fun _ h_ => h_.1)) (fun _ h_ => h_.1))) hb); replace HO_669002 := am (Kd.Q_below (by (with_reducible repeat (first | apply Kd.Q_alloc | apply Kd.Q_drewN | apply Kd.Q_drew)); exact (Kd.Q_mono (Kd.Q_mono (zQf (Kd.Q_far (p := ⟨gb693, 2, none⟩) (Kd.Q_far (p := ⟨gb693, 1, none⟩) (Kd.Q_far (p := ⟨gb693, 0, none⟩) (Kd.Q_types (Kd.Q_types HO_669002.o BK693.o (by decide)) BK694.o (by decide)) (fun _ hk => hk.1.2) (.int .i64 t683)) (fun _ hk => hk.1.2) (.int .i64 t684)) (fun _ hk => hk.1.2) (.slice Ao71 t685.length co71))) (fun _ h_ => h_.1)) (fun _ h_ => h_.1))) hb); replace HO_681002 := am (Kd.Q_below (by (with_reducible repeat (first | apply Kd.Q_alloc | apply Kd.Q_drewN | apply Kd.Q_drew)); exact (Kd.Q_mono (Kd.Q_mono (zQf (Kd.Q_far (p := ⟨gb693, 2, none⟩) (Kd.Q_far (p := ⟨gb693, 1, none⟩) (Kd.Q_far (p := ⟨gb693, 0, none⟩) (Kd.Q_types (Kd.Q_types HO_681002.o BK693.o (by decide)) BK694.o (by decide)) (fun _ hk => hk.1.2) (.int .i64 t683)) (fun _ hk => hk.1.2) (.int .i64 t684)) (fun _ hk => hk.1.2) (.slice Ao71 t685.length co71))) (fun _ h_ => h_.1)) (fun _ h_ => h_.1))) hb); replace HO687 := am (Kd.Q_below (by (with_reducible repeat (first | apply Kd.Q_alloc | apply Kd.Q_drewN | apply Kd.Q_drew)); exact (Kd.Q_mono (Kd.Q_mono (zQf (Kd.Q_far (p := ⟨gb693, 2, none⟩) (Kd.Q_far (p := ⟨gb693, 1, none⟩) (Kd.Q_far (p := ⟨gb693, 0, none⟩) (Kd.Q_types (Kd.Q_types HO687.o BK693.o (by decide)) BK694.o (by decide)) (fun _ hk => hk.1.2) (.int .i64 t683)) (fun _ hk => hk.1.2) (.int .i64 t684)) (fun _ hk => hk.1.2) (.slice Ao71 t685.length co71))) (fun _ h_ => h_.1)) (fun _ h_ => h_.1))) hb); replace HO692 := am (Kd.Q_below (by (with_reducible repeat (first | apply Kd.Q_alloc | apply Kd.Q_drewN | apply Kd.Q_drew)); exact (Kd.Q_mono (Kd.Q_mono (zQf (Kd.Q_far (p := ⟨gb693, 2, none⟩) (Kd.Q_far (p := ⟨gb693, 1, none⟩) (Kd.Q_far (p := ⟨gb693, 0, none⟩) (Kd.Q_types (Kd.Q_types HO692.o BK693.o (by decide)) BK694.o (by decide)) (fun _ hk => hk.1.2) (.int .i64 t683)) (fun _ hk => hk.1.2) (.int .i64 t684)) (fun _ hk => hk.1.2) (.slice Ao71 t685.length co71))) (fun _ h_ => h_.1)) (fun _ h_ => h_.1))) hb); have HO697 := am (Kd.R_lower ho0 (below_size (zhB HB.o))); have HO700 := am (Kd.R_lower ho1 (below_size (zhB HB.o))); have HO703 := am (Kd.R_lower ho2 (below_size (zhB HB.o))); replace BK659 := zbl BK659.o hb; replace BK668 := zbl BK668.o hb; replace BK680 := zbl BK680.o hb; replace BK693 := am (blk_below (g := gb693) (o := .cells #[.int .i64 t683, .int .i64 t684, .slice Ao71 t685.length co71] 34 (0, 0)) (zbp BK693.o) hb); replace BK694 := am (blk_below (g := gb694) (o := .cells #[.int .i64 t688, .int .i64 t689, .slice Ao76 t690.length co76] 34 (0, 0)) (zbp BK694.o) hb); replace HB := zhs HB hb; clear hb; (try clear ho0); (try clear ho1); (try clear ho2); have hcz78 := zc3 BK693.o; have hcz79 := zc3 BK694.o) | ((with_reducible refine zgc 29 rfl ?_); refine zgl 116 Tryz.func29 #[.agg #[.int .i64 t683, .int .i64 t684, .slice Ao71 t685.length co71], .agg #[.int .i64 t688, .int .i64 t689, .slice Ao76 t690.length co76]] ?_; (with_reducible refine (qe.calls kj46 t683 t684 _ _ t685 t688 t689 _ _ t690 t705 t708 t711 t714 _ ?side1 ?side2 ?side3 ?side4 A61.o).mono ?_); (case side1 => exact zCx (Kd.Q_reads' HO687.o).2.2); (case side2 => exact (Kd.Q_reads' HO687.o).2.1); (case side3 => exact zCx (Kd.Q_reads' HO692.o).2.2); (case side4 => exact (Kd.Q_reads' HO692.o).2.1); rintro e w80 ⟨v706, v709, v712, rfl, ho0, ho1, ho2, hb⟩; refine ⟨_, rfl, ?_⟩; replace HO_660002 := am (Kd.Q_below (zDQ HO_660002.o) hb); replace HO_669002 := am (Kd.Q_below (zDQ HO_669002.o) hb); replace HO_681002 := am (Kd.Q_below (zDQ HO_681002.o) hb); replace HO687 := am (Kd.Q_below (zDQ HO687.o) hb); replace HO692 := am (Kd.Q_below (zDQ HO692.o) hb); have HO707 := am (Kd.R_lower (Kd.R_new' (Kd.R_new' (Kd.R_new' ho0 (Kd.R_lt (zRx HO697.o))) (Kd.R_lt (zRx HO700.o))) (Kd.R_lt (zRx HO703.o))) (below_size (zhB HB.o))); have HO710 := am (Kd.R_lower (Kd.R_new' (Kd.R_new' (Kd.R_new' ho1 (Kd.R_lt (zRx HO697.o))) (Kd.R_lt (zRx HO700.o))) (Kd.R_lt (zRx HO703.o))) (below_size (zhB HB.o))); have HO713 := am (Kd.R_lower (Kd.R_new' (Kd.R_new' (Kd.R_new' ho2 (Kd.R_lt (zRx HO697.o))) (Kd.R_lt (zRx HO700.o))) (Kd.R_lt (zRx HO703.o))) (below_size (zhB HB.o))); replace HO697 := am (Kd.R_mono (Kd.R_told (Kd.R_told (Kd.R_told (Kd.R_old (zRx HO697.o) hb) (Kd.R_base ho0)) (Kd.R_base ho1)) (Kd.R_base ho2)) (fun _ h_ => h_.1)); replace HO700 := am (Kd.R_mono (Kd.R_told (Kd.R_told (Kd.R_told (Kd.R_old (zRx HO700.o) hb) (Kd.R_base ho0)) (Kd.R_base ho1)) (Kd.R_base ho2)) (fun _ h_ => h_.1)); replace HO703 := am (Kd.R_mono (Kd.R_told (Kd.R_told (Kd.R_told (Kd.R_old (zRx HO703.o) hb) (Kd.R_base ho0)) (Kd.R_base ho1)) (Kd.R_base ho2)) (fun _ h_ => h_.1)); replace BK659 := zbl BK659.o hb; replace BK668 := zbl BK668.o hb; replace BK680 := zbl BK680.o hb; replace BK693 := zbl BK693.o hb; replace BK694 := zbl BK694.o hb; replace HB := zhs HB hb; clear hb; (try clear ho0); (try clear ho1); (try clear ho2)))
     (try simp only [Act.put, List.setIfInBounds_toArray, List.set_cons_zero, List.set_cons_succ])
     go_cut [141] (fun v141 wc => ∃ (kq : Nat) (x141_61 : Bool), v141 = .bool x141_61 ∧ Aq (qk.j2 kq l0 t695 t698 t704 x141_61 t683 t684 t685 t688 t689 t690 = some r) ∧ Aq (kq ≤ kj46) ∧ Aq (Kd.R (Kd.int .i64) 3 wc w.heap.size (fun k_ => some k_ ≠ (v699 : Value).ownBlock) v696 t695) ∧ Aq (Kd.R (Kd.int .i64) 3 wc w.heap.size (fun k_ => some k_ ≠ (v696 : Value).ownBlock) v699 t698) ∧ Aq (Kd.Q k25 25 wc w.heap.size (fun k_ => some k_ ≠ ((.slice Ao18 t664.length co18) : Value).ownBlock ∧ some k_ ≠ ((.slice Ao54 t676.length co54) : Value).ownBlock ∧ some k_ ≠ ((.slice Ao71 t685.length co71) : Value).ownBlock ∧ some k_ ≠ ((.slice Ao76 t690.length co76) : Value).ownBlock) (.slice Ao12 t656.length co12) t656) ∧ Aq (Kd.Q k25 25 wc w.heap.size (fun k_ => some k_ ≠ ((.slice Ao12 t656.length co12) : Value).ownBlock ∧ some k_ ≠ ((.slice Ao54 t676.length co54) : Value).ownBlock ∧ some k_ ≠ ((.slice Ao71 t685.length co71) : Value).ownBlock ∧ some k_ ≠ ((.slice Ao76 t690.length co76) : Value).ownBlock) (.slice Ao18 t664.length co18) t664) ∧ Aq (Kd.Q k25 25 wc w.heap.size (fun k_ => some k_ ≠ ((.slice Ao12 t656.length co12) : Value).ownBlock ∧ some k_ ≠ ((.slice Ao18 t664.length co18) : Value).ownBlock ∧ some k_ ≠ ((.slice Ao71 t685.length co71) : Value).ownBlock ∧ some k_ ≠ ((.slice Ao76 t690.length co76) : Value).ownBlock) (.slice Ao54 t676.length co54) t676) ∧ Aq (Kd.Q k25 25 wc w.heap.size (fun k_ => some k_ ≠ ((.slice Ao12 t656.length co12) : Value).ownBlock ∧ some k_ ≠ ((.slice Ao18 t664.length co18) : Value).ownBlock ∧ some k_ ≠ ((.slice Ao54 t676.length co54) : Value).ownBlock ∧ some k_ ≠ ((.slice Ao76 t690.length co76) : Value).ownBlock) (.slice Ao71 t685.length co71) t685) ∧ Aq (Kd.Q k25 25 wc w.heap.size (fun k_ => some k_ ≠ ((.slice Ao12 t656.length co12) : Value).ownBlock ∧ some k_ ≠ ((.slice Ao18 t664.length co18) : Value).ownBlock ∧ some k_ ≠ ((.slice Ao54 t676.length co54) : Value).ownBlock ∧ some k_ ≠ ((.slice Ao71 t685.length co71) : Value).ownBlock) (.slice Ao76 t690.length co76) t690) ∧ Aq (wc.heap[gb659]? = some (.cells #[.int .i64 t654, .int .i64 t655, (.slice Ao12 t656.length co12)] 34 (0, 0))) ∧ Aq (wc.heap[gb668]? = some (.cells #[.int .i64 t662, .int .i64 t663, (.slice Ao18 t664.length co18)] 34 (0, 0))) ∧ Aq (wc.heap[gb680]? = some (.cells #[.int .i64 t674, .int .i64 t675, (.slice Ao54 t676.length co54)] 34 (0, 0))) ∧ Aq (wc.heap[gb693]? = some (.cells #[.int .i64 t683, .int .i64 t684, (.slice Ao71 t685.length co71)] 34 (0, 0))) ∧ Aq (wc.heap[gb694]? = some (.cells #[.int .i64 t688, .int .i64 t689, (.slice Ao76 t690.length co76)] 34 (0, 0))) ∧ Aq (Below w.heap.size w wc))
     case first =>
      as_aux_lemma =>
      have H := HC62.o
      clear HC62
      by_cases c81 : (t704 != t714) = true
      ·rw [if_pos c81] at H
       have c81b0 : (t704 != t714) = true := c81
       (try (have c81b1 : decide (t704 = t714) = false := by simpa using c81))
       (try (have c81b2 : (t704 == t714) = false := by simpa using c81))
       (try (have c81b3 : ¬ (t704 = t714) := by simpa using c81))
       clear c81
       (first | rw [c81b0] | (simp only [i64_w, i32_w]; rw [c81b0]) | skip)
       as_aux_lemma =>
        have H' := am H
        clear H
        go_wp2
        go_meet
        case rel => exact ⟨_, (true), zrx, H', ⟨by have := HJ7.o; have := HJ46.o; first | omega | exact Nat.le_refl _⟩, ⟨by refine zDR ?_; exact Kd.R_mono HO697.o (fun _ hk => hk.1.1.1.1)⟩, ⟨by refine zDR ?_; exact Kd.R_mono HO700.o (fun _ hk => hk.1.1.1.1)⟩, ⟨by refine zDQ ?_; exact Kd.Q_mono HO_660002.o (fun _ hk => ⟨hk.1.1.1, ⟨hk.1.1.2, ⟨hk.1.2, hk.2⟩⟩⟩)⟩, ⟨by refine zDQ ?_; exact Kd.Q_mono HO_669002.o (fun _ hk => ⟨hk.1.1.1, ⟨hk.1.1.2, ⟨hk.1.2, hk.2⟩⟩⟩)⟩, ⟨by refine zDQ ?_; exact Kd.Q_mono HO_681002.o (fun _ hk => ⟨hk.1.1.1, ⟨hk.1.1.2, ⟨hk.1.2, hk.2⟩⟩⟩)⟩, ⟨by refine zDQ ?_; exact Kd.Q_mono HO687.o (fun _ hk => ⟨hk.1.1.2, ⟨hk.1.2, ⟨hk.2, hk.1.1.1⟩⟩⟩)⟩, ⟨by refine zDQ ?_; exact Kd.Q_mono HO692.o (fun _ hk => ⟨hk.1.1.2, ⟨hk.1.2, ⟨hk.2, hk.1.1.1⟩⟩⟩)⟩, ⟨zbx BK659.o⟩, ⟨zbx BK668.o⟩, ⟨zbx BK680.o⟩, ⟨zbx BK693.o⟩, ⟨zbx BK694.o⟩, ⟨zhB HB.o⟩⟩
      rw [if_neg c81] at H
      have c81b0 : (t704 != t714) = false := by simpa using c81
      (try (have c81b1 : decide (t704 = t714) = true := by simpa using c81))
      (try (have c81b2 : (t704 == t714) = true := by simpa using c81))
      clear c81
      (first | rw [c81b0] | (simp only [i64_w, i32_w]; rw [c81b0]) | skip)
      obtain ⟨t715, A82, H⟩ := zob H
      try dsimp only at H
      by_cases c83 : t715 = true
      rotate_left
      ·replace c83 := Bool.eq_false_iff.mpr c83
       subst c83
       rw [if_neg (show ¬ (false = true) by decide)] at H
       as_aux_lemma =>
        have H' := am H
        clear H
        obtain ⟨Ao97, co97, eo97⟩ := Kd.R_slice HO697.o
        subst eo97
        obtain ⟨Ao98, co98, eo98⟩ := Kd.R_slice HO707.o
        subst eo98
        go_wp2_with (first | (go_at_call 30; (with_reducible refine (qJ.calls kj46 _ _ t695 _ _ t705 false _ ?side1 ?side2 ?side3 ?side4 A82.o).mono ?_); (case side1 => exact zCx (Kd.R_reads' HO697.o).2.2); (case side2 => exact (Kd.R_reads' HO697.o).2.1); (case side3 => exact zCx (Kd.R_reads' HO707.o).2.2); (case side4 => exact (Kd.R_reads' HO707.o).2.1); rintro e w' ⟨rfl, ⟨nd, rfl⟩⟩))
        go_meet
        case rel => exact ⟨_, (true), zrx, H', ⟨by have := HJ7.o; have := HJ46.o; first | omega | exact Nat.le_refl _⟩, ⟨by refine zDR ?_; exact Kd.R_mono HO697.o (fun _ hk => hk.1.1.1.1)⟩, ⟨by refine zDR ?_; exact Kd.R_mono HO700.o (fun _ hk => hk.1.1.1.1)⟩, ⟨by refine zDQ ?_; exact Kd.Q_mono HO_660002.o (fun _ hk => ⟨hk.1.1.1, ⟨hk.1.1.2, ⟨hk.1.2, hk.2⟩⟩⟩)⟩, ⟨by refine zDQ ?_; exact Kd.Q_mono HO_669002.o (fun _ hk => ⟨hk.1.1.1, ⟨hk.1.1.2, ⟨hk.1.2, hk.2⟩⟩⟩)⟩, ⟨by refine zDQ ?_; exact Kd.Q_mono HO_681002.o (fun _ hk => ⟨hk.1.1.1, ⟨hk.1.1.2, ⟨hk.1.2, hk.2⟩⟩⟩)⟩, ⟨by refine zDQ ?_; exact Kd.Q_mono HO687.o (fun _ hk => ⟨hk.1.1.2, ⟨hk.1.2, ⟨hk.2, hk.1.1.1⟩⟩⟩)⟩, ⟨by refine zDQ ?_; exact Kd.Q_mono HO692.o (fun _ hk => ⟨hk.1.1.2, ⟨hk.1.2, ⟨hk.2, hk.1.1.1⟩⟩⟩)⟩, ⟨zbx BK659.o⟩, ⟨zbx BK668.o⟩, ⟨zbx BK680.o⟩, ⟨zbx BK693.o⟩, ⟨zbx BK694.o⟩, ⟨zhB HB.o⟩⟩
      subst c83
      rw [if_pos rfl] at H
      obtain ⟨t716, A84, H⟩ := zob H
      try dsimp only at H
      by_cases c85 : t716 = true
      rotate_left
      ·replace c85 := Bool.eq_false_iff.mpr c85
       subst c85
       rw [if_neg (show ¬ (false = true) by decide)] at H
       as_aux_lemma =>
        have H' := am H
        clear H
        obtain ⟨Ao93, co93, eo93⟩ := Kd.R_slice HO697.o
        subst eo93
        obtain ⟨Ao94, co94, eo94⟩ := Kd.R_slice HO707.o
        subst eo94
        go_wp2_with (first | (go_at_call 30; (with_reducible refine (qJ.calls kj46 _ _ t695 _ _ t705 true _ ?side1 ?side2 ?side3 ?side4 A82.o).mono ?_); (case side1 => exact zCx (Kd.R_reads' HO697.o).2.2); (case side2 => exact (Kd.R_reads' HO697.o).2.1); (case side3 => exact zCx (Kd.R_reads' HO707.o).2.2); (case side4 => exact (Kd.R_reads' HO707.o).2.1); rintro e w' ⟨rfl, ⟨nd, rfl⟩⟩; obtain ⟨Ao95, co95, eo95⟩ := Kd.R_slice HO700.o; subst eo95; obtain ⟨Ao96, co96, eo96⟩ := Kd.R_slice HO710.o; subst eo96) | (go_at_call 30; (with_reducible refine (qJ.calls kj46 _ _ t698 _ _ t708 false _ ?side1 ?side2 ?side3 ?side4 A84.o).mono ?_); (case side1 => exact zCx (Kd.R_reads' HO700.o).2.2); (case side2 => exact (Kd.R_reads' HO700.o).2.1); (case side3 => exact zCx (Kd.R_reads' HO710.o).2.2); (case side4 => exact (Kd.R_reads' HO710.o).2.1); rintro e w' ⟨rfl, ⟨nd, rfl⟩⟩))
        go_meet
        case rel => exact ⟨_, (true), zrx, H', ⟨by have := HJ7.o; have := HJ46.o; first | omega | exact Nat.le_refl _⟩, ⟨by refine zDR ?_; exact Kd.R_mono HO697.o (fun _ hk => hk.1.1.1.1)⟩, ⟨by refine zDR ?_; exact Kd.R_mono HO700.o (fun _ hk => hk.1.1.1.1)⟩, ⟨by refine zDQ ?_; exact Kd.Q_mono HO_660002.o (fun _ hk => ⟨hk.1.1.1, ⟨hk.1.1.2, ⟨hk.1.2, hk.2⟩⟩⟩)⟩, ⟨by refine zDQ ?_; exact Kd.Q_mono HO_669002.o (fun _ hk => ⟨hk.1.1.1, ⟨hk.1.1.2, ⟨hk.1.2, hk.2⟩⟩⟩)⟩, ⟨by refine zDQ ?_; exact Kd.Q_mono HO_681002.o (fun _ hk => ⟨hk.1.1.1, ⟨hk.1.1.2, ⟨hk.1.2, hk.2⟩⟩⟩)⟩, ⟨by refine zDQ ?_; exact Kd.Q_mono HO687.o (fun _ hk => ⟨hk.1.1.2, ⟨hk.1.2, ⟨hk.2, hk.1.1.1⟩⟩⟩)⟩, ⟨by refine zDQ ?_; exact Kd.Q_mono HO692.o (fun _ hk => ⟨hk.1.1.2, ⟨hk.1.2, ⟨hk.2, hk.1.1.1⟩⟩⟩)⟩, ⟨zbx BK659.o⟩, ⟨zbx BK668.o⟩, ⟨zbx BK680.o⟩, ⟨zbx BK693.o⟩, ⟨zbx BK694.o⟩, ⟨zhB HB.o⟩⟩
      subst c85
      rw [if_pos rfl] at H
      obtain ⟨t717, A86, H⟩ := zob H
      try dsimp only at H
      as_aux_lemma =>
       have H' := am H
       clear H
       obtain ⟨Ao87, co87, eo87⟩ := Kd.R_slice HO697.o
       subst eo87
       obtain ⟨Ao88, co88, eo88⟩ := Kd.R_slice HO707.o
       subst eo88
       go_wp2_with (first | (go_at_call 30; (with_reducible refine (qJ.calls kj46 _ _ t695 _ _ t705 true _ ?side1 ?side2 ?side3 ?side4 A82.o).mono ?_); (case side1 => exact zCx (Kd.R_reads' HO697.o).2.2); (case side2 => exact (Kd.R_reads' HO697.o).2.1); (case side3 => exact zCx (Kd.R_reads' HO707.o).2.2); (case side4 => exact (Kd.R_reads' HO707.o).2.1); rintro e w' ⟨rfl, ⟨nd, rfl⟩⟩; obtain ⟨Ao89, co89, eo89⟩ := Kd.R_slice HO700.o; subst eo89; obtain ⟨Ao90, co90, eo90⟩ := Kd.R_slice HO710.o; subst eo90) | (go_at_call 30; (with_reducible refine (qJ.calls kj46 _ _ t698 _ _ t708 true _ ?side1 ?side2 ?side3 ?side4 A84.o).mono ?_); (case side1 => exact zCx (Kd.R_reads' HO700.o).2.2); (case side2 => exact (Kd.R_reads' HO700.o).2.1); (case side3 => exact zCx (Kd.R_reads' HO710.o).2.2); (case side4 => exact (Kd.R_reads' HO710.o).2.1); rintro e w' ⟨rfl, ⟨nd, rfl⟩⟩; obtain ⟨Ao91, co91, eo91⟩ := Kd.R_slice HO703.o; subst eo91; obtain ⟨Ao92, co92, eo92⟩ := Kd.R_slice HO713.o; subst eo92) | (go_at_call 30; (with_reducible refine (qJ.calls kj46 _ _ t701 _ _ t711 t717 _ ?side1 ?side2 ?side3 ?side4 A86.o).mono ?_); (case side1 => exact zCx (Kd.R_reads' HO703.o).2.2); (case side2 => exact (Kd.R_reads' HO703.o).2.1); (case side3 => exact zCx (Kd.R_reads' HO713.o).2.2); (case side4 => exact (Kd.R_reads' HO713.o).2.1); rintro e w' ⟨rfl, ⟨nd, rfl⟩⟩))
       go_meet
       case rel => exact ⟨_, (!t717), zrx, H', ⟨by have := HJ7.o; have := HJ46.o; first | omega | exact Nat.le_refl _⟩, ⟨by refine zDR ?_; exact Kd.R_mono HO697.o (fun _ hk => hk.1.1.1.1)⟩, ⟨by refine zDR ?_; exact Kd.R_mono HO700.o (fun _ hk => hk.1.1.1.1)⟩, ⟨by refine zDQ ?_; exact Kd.Q_mono HO_660002.o (fun _ hk => ⟨hk.1.1.1, ⟨hk.1.1.2, ⟨hk.1.2, hk.2⟩⟩⟩)⟩, ⟨by refine zDQ ?_; exact Kd.Q_mono HO_669002.o (fun _ hk => ⟨hk.1.1.1, ⟨hk.1.1.2, ⟨hk.1.2, hk.2⟩⟩⟩)⟩, ⟨by refine zDQ ?_; exact Kd.Q_mono HO_681002.o (fun _ hk => ⟨hk.1.1.1, ⟨hk.1.1.2, ⟨hk.1.2, hk.2⟩⟩⟩)⟩, ⟨by refine zDQ ?_; exact Kd.Q_mono HO687.o (fun _ hk => ⟨hk.1.1.2, ⟨hk.1.2, ⟨hk.2, hk.1.1.1⟩⟩⟩)⟩, ⟨by refine zDQ ?_; exact Kd.Q_mono HO692.o (fun _ hk => ⟨hk.1.1.2, ⟨hk.1.2, ⟨hk.2, hk.1.1.1⟩⟩⟩)⟩, ⟨zbx BK659.o⟩, ⟨zbx BK668.o⟩, ⟨zbx BK680.o⟩, ⟨zbx BK693.o⟩, ⟨zbx BK694.o⟩, ⟨zhB HB.o⟩⟩
     case rest =>
      clear HC62
      try clear c3
      try clear c43
      try clear c58
      try clear hcz11
      try clear hcz17
      try clear hcz19
      try clear hcz53
      try clear hcz70
      try clear hcz75
      try clear hcz78
      try clear hcz79
      obtain ⟨kq, x141_61, rfl, HA, HJ61, HO_17, HO_18, HO_660002, HO_669002, HO_681002, HO_694002, HO_695002, BK659, BK668, BK680, BK693, BK694, HB⟩ := hcut
      cases kq with
      | zero => exact absurd HA.o (by simp [qk.j2])
      | succ kj61 =>
       have H := HA.o
       clear HA
       simp only [qk.j2] at H
       by_cases c99 : x141_61 = true
       ·subst c99
        rw [if_pos rfl] at H
        as_aux_lemma =>
         exact absurd (Option.some.inj H) (by rw [hr_]; decide)
       replace c99 := Bool.eq_false_iff.mpr c99
       subst c99
       rw [if_neg (show ¬ (false = true) by decide)] at H
       have HC100 := am H
       clear H
       go_upto_region 19 with (fail)
       go_cut [157] (fun v157 wc => ∃ (kq : Nat) (x157_99 : Bool), v157 = .bool x157_99 ∧ Aq (qk.j3 kq l0 x157_99 = some r) ∧ Aq (kq ≤ kj61) ∧ Aq (Kd.Q k25 25 wc w.heap.size (fun k_ => some k_ ≠ ((.slice Ao18 t664.length co18) : Value).ownBlock ∧ some k_ ≠ ((.slice Ao54 t676.length co54) : Value).ownBlock ∧ some k_ ≠ ((.slice Ao71 t685.length co71) : Value).ownBlock ∧ some k_ ≠ ((.slice Ao76 t690.length co76) : Value).ownBlock) (.slice Ao12 t656.length co12) t656) ∧ Aq (Kd.Q k25 25 wc w.heap.size (fun k_ => some k_ ≠ ((.slice Ao12 t656.length co12) : Value).ownBlock ∧ some k_ ≠ ((.slice Ao54 t676.length co54) : Value).ownBlock ∧ some k_ ≠ ((.slice Ao71 t685.length co71) : Value).ownBlock ∧ some k_ ≠ ((.slice Ao76 t690.length co76) : Value).ownBlock) (.slice Ao18 t664.length co18) t664) ∧ Aq (Kd.Q k25 25 wc w.heap.size (fun k_ => some k_ ≠ ((.slice Ao12 t656.length co12) : Value).ownBlock ∧ some k_ ≠ ((.slice Ao18 t664.length co18) : Value).ownBlock ∧ some k_ ≠ ((.slice Ao71 t685.length co71) : Value).ownBlock ∧ some k_ ≠ ((.slice Ao76 t690.length co76) : Value).ownBlock) (.slice Ao54 t676.length co54) t676) ∧ Aq (Kd.Q k25 25 wc w.heap.size (fun k_ => some k_ ≠ ((.slice Ao12 t656.length co12) : Value).ownBlock ∧ some k_ ≠ ((.slice Ao18 t664.length co18) : Value).ownBlock ∧ some k_ ≠ ((.slice Ao54 t676.length co54) : Value).ownBlock ∧ some k_ ≠ ((.slice Ao76 t690.length co76) : Value).ownBlock) (.slice Ao71 t685.length co71) t685) ∧ Aq (Kd.Q k25 25 wc w.heap.size (fun k_ => some k_ ≠ ((.slice Ao12 t656.length co12) : Value).ownBlock ∧ some k_ ≠ ((.slice Ao18 t664.length co18) : Value).ownBlock ∧ some k_ ≠ ((.slice Ao54 t676.length co54) : Value).ownBlock ∧ some k_ ≠ ((.slice Ao71 t685.length co71) : Value).ownBlock) (.slice Ao76 t690.length co76) t690) ∧ Aq (wc.heap[gb659]? = some (.cells #[.int .i64 t654, .int .i64 t655, (.slice Ao12 t656.length co12)] 34 (0, 0))) ∧ Aq (wc.heap[gb668]? = some (.cells #[.int .i64 t662, .int .i64 t663, (.slice Ao18 t664.length co18)] 34 (0, 0))) ∧ Aq (wc.heap[gb680]? = some (.cells #[.int .i64 t674, .int .i64 t675, (.slice Ao54 t676.length co54)] 34 (0, 0))) ∧ Aq (wc.heap[gb693]? = some (.cells #[.int .i64 t683, .int .i64 t684, (.slice Ao71 t685.length co71)] 34 (0, 0))) ∧ Aq (wc.heap[gb694]? = some (.cells #[.int .i64 t688, .int .i64 t689, (.slice Ao76 t690.length co76)] 34 (0, 0))) ∧ Aq (Below w.heap.size w wc))
       case first =>
        as_aux_lemma =>
        have H := HC100.o
        clear HC100
        by_cases c101 : t704 = true
        rotate_left
        ·replace c101 := Bool.eq_false_iff.mpr c101
         subst c101
         rw [if_neg (show ¬ (false = true) by decide)] at H
         as_aux_lemma =>
          have H' := am H
          clear H
          go_wp2
          go_meet
          case rel => exact ⟨_, (false), zrx, H', ⟨by have := HJ7.o; have := HJ46.o; have := HJ61.o; first | omega | exact Nat.le_refl _⟩, ⟨zDQ HO_660002.o⟩, ⟨zDQ HO_669002.o⟩, ⟨zDQ HO_681002.o⟩, ⟨zDQ HO_694002.o⟩, ⟨zDQ HO_695002.o⟩, ⟨zbx BK659.o⟩, ⟨zbx BK668.o⟩, ⟨zbx BK680.o⟩, ⟨zbx BK693.o⟩, ⟨zbx BK694.o⟩, ⟨zhB HB.o⟩⟩
        subst c101
        rw [if_pos rfl] at H
        as_aux_lemma =>
         have H' := am H
         clear H
         have hnb102 := NB694_659.o
         have hnc102 := NB659_694.o
         have hnb103 := NB694_668.o
         have hnc103 := NB668_694.o
         have hnb104 := NB694_680.o
         have hnc104 := NB680_694.o
         have hnb105 := NB694_693.o
         have hnc105 := NB693_694.o
         have hcz106 := zc3 BK694.o
         have hnb107 := NB693_659.o
         have hnc107 := NB659_693.o
         have hnb108 := NB693_668.o
         have hnc108 := NB668_693.o
         have hnb109 := NB693_680.o
         have hnc109 := NB680_693.o
         have hcz110 := zc3 BK693.o
         obtain ⟨Ao111, co111, eo111⟩ := Kd.R_slice HO_17.o
         subst eo111
         obtain ⟨Ao112, co112, eo112⟩ := Kd.R_slice HO_18.o
         subst eo112
         go_wp2
         go_meet
         case rel => exact ⟨_, (((t690.length : Int) != (wrap64 ((wrap64 ((t685.length : Int) + (t695.length : Int))) - (t698.length : Int))))), zrx, H', ⟨by have := HJ7.o; have := HJ46.o; have := HJ61.o; first | omega | exact Nat.le_refl _⟩, ⟨zDQ HO_660002.o⟩, ⟨zDQ HO_669002.o⟩, ⟨zDQ HO_681002.o⟩, ⟨zDQ HO_694002.o⟩, ⟨zDQ HO_695002.o⟩, ⟨zbx BK659.o⟩, ⟨zbx BK668.o⟩, ⟨zbx BK680.o⟩, ⟨zbx BK693.o⟩, ⟨zbx BK694.o⟩, ⟨zhB HB.o⟩⟩
       case rest =>
        clear HC100
        try clear c3
        try clear c43
        try clear c58
        try clear c99
        try clear hcz11
        try clear hcz17
        try clear hcz19
        try clear hcz53
        try clear hcz70
        try clear hcz75
        try clear hcz78
        try clear hcz79
        obtain ⟨kq, x157_99, rfl, HA, HJ99, HO_660002, HO_669002, HO_681002, HO_694002, HO_695002, BK659, BK668, BK680, BK693, BK694, HB⟩ := hcut
        cases kq with
        | zero => exact absurd HA.o (by simp [qk.j3])
        | succ kj99 =>
         have H := HA.o
         clear HA
         simp only [qk.j3] at H
         by_cases c113 : x157_99 = true
         ·subst c113
          rw [if_pos rfl] at H
          as_aux_lemma =>
           exact absurd (Option.some.inj H) (by rw [hr_]; decide)
         replace c113 := Bool.eq_false_iff.mpr c113
         subst c113
         rw [if_neg (show ¬ (false = true) by decide)] at H
         obtain ⟨t718, A114, H⟩ := zob H
         try dsimp only at H
         obtain ⟨⟨t721, t722, t723⟩, A115, H⟩ := zob H
         try dsimp only at H
         obtain ⟨⟨t726, t727, t728⟩, A116, H⟩ := zob H
         try dsimp only at H
         by_cases c117 : (t723 == t728) = true
         rotate_left
         ·rw [if_neg c117] at H
          have c117b0 : (t723 == t728) = false := by simpa using c117
          (try (have c117b1 : decide (t723 = t728) = false := by simpa using c117))
          (try (have c117b2 : (t723 == t728) = false := by simpa using c117))
          (try (have c117b3 : ¬ (t723 = t728) := by simpa using c117))
          clear c117
          as_aux_lemma =>
           exact absurd (Option.some.inj H) (by rw [hr_]; decide)
         rw [if_pos c117] at H
         have c117b0 : (t723 == t728) = true := c117
         (try (have c117b1 : decide (t723 = t728) = true := by simpa using c117))
         (try (have c117b2 : (t723 == t728) = true := by simpa using c117))
         clear c117
         by_cases c118 : t722 = t727
         ·rw [if_pos c118] at H
          have c118b0 := beq_iff_eq.mpr c118
          have c118b1 := bne_eq_false_iff_eq.mpr c118
          clear c118
          obtain ⟨t731, A119, H⟩ := zob H
          try dsimp only at H
          as_aux_lemma =>
           obtain rfl := Option.some.inj H
           go_wp2_with (first | ((with_reducible refine zgc 31 rfl ?_); refine zgl 159 Tryz.func31 #[.slice A0 l0.length c0] ?_; (with_reducible refine (ql.calls kj99 _ _ l0 t718 _ ?side1 ?side2 A114.o).mono ?_); (case side1 => exact zCx (Kd.C_below HR0.o HB.o)); (case side2 => exact HC0.o); rintro e w120 ⟨v719, rfl, ho0, hb⟩; refine ⟨_, rfl, ?_⟩; have HO720 := am (Kd.S_lower (Kd.S_newB (Kd.S_newB (Kd.S_newB (Kd.S_newB (Kd.S_newB (Kd.S_new' (Kd.S_new' (Kd.S_new' (Kd.S_new' (Kd.S_new' ho0 (Kd.Q_lt (zDQ HO_660002.o))) (Kd.Q_lt (zDQ HO_669002.o))) (Kd.Q_lt (zDQ HO_681002.o))) (Kd.Q_lt (zDQ HO_694002.o))) (Kd.Q_lt (zDQ HO_695002.o))) (g := gb659) (o := .cells #[.int .i64 t654, .int .i64 t655, .slice Ao12 t656.length co12] 34 (0, 0)) (zbx BK659.o)) (g := gb668) (o := .cells #[.int .i64 t662, .int .i64 t663, .slice Ao18 t664.length co18] 34 (0, 0)) (zbx BK668.o)) (g := gb680) (o := .cells #[.int .i64 t674, .int .i64 t675, .slice Ao54 t676.length co54] 34 (0, 0)) (zbx BK680.o)) (g := gb693) (o := .cells #[.int .i64 t683, .int .i64 t684, .slice Ao71 t685.length co71] 34 (0, 0)) (zbx BK693.o)) (g := gb694) (o := .cells #[.int .i64 t688, .int .i64 t689, .slice Ao76 t690.length co76] 34 (0, 0)) (zbx BK694.o)) (below_size (zhB HB.o))); replace HO_660002 := am (Kd.Q_below (zDQ HO_660002.o) hb); replace HO_669002 := am (Kd.Q_below (zDQ HO_669002.o) hb); replace HO_681002 := am (Kd.Q_below (zDQ HO_681002.o) hb); replace HO_694002 := am (Kd.Q_below (zDQ HO_694002.o) hb); replace HO_695002 := am (Kd.Q_below (zDQ HO_695002.o) hb); replace BK659 := zbl BK659.o hb; replace BK668 := zbl BK668.o hb; replace BK680 := zbl BK680.o hb; replace BK693 := zbl BK693.o hb; replace BK694 := zbl BK694.o hb; replace HB := zhs HB hb; clear hb; (try clear ho0); obtain ⟨Ao121, co121, eo121⟩ := Kd.S_slice HO720.o; subst eo121) | ((with_reducible refine zgc 32 rfl ?_); refine zgl 162 Tryz.func32 #[.slice Ao121 t718.length co121] ?_; (with_reducible refine (qi.calls kj99 _ _ t718 t721 t722 t723 _ ?side1 ?side2 A115.o).mono ?_); (case side1 => repeat (first | exact (Kd.S_reads' HO720.o).2.2 | (with_reducible refine Kd.C_alloc ?_ _) | (with_reducible refine Kd.C_drewN ?_ _) | (with_reducible refine Kd.C_drew ?_))); (case side2 => exact (Kd.S_reads' HO720.o).2.1); rintro e w122 ⟨v724, rfl, ho0, hb⟩; refine ⟨_, rfl, ?_⟩; replace HO720 := am (Kd.S_elder' (zSx HO720.o) (Kd.R_base ho0) hb); have HO725 := am (Kd.R_lower (Kd.R_new' (Kd.R_new' (Kd.R_new' (Kd.R_new' (Kd.R_new' ho0 (Kd.Q_lt (zDQ HO_660002.o))) (Kd.Q_lt (zDQ HO_669002.o))) (Kd.Q_lt (zDQ HO_681002.o))) (Kd.Q_lt (zDQ HO_694002.o))) (Kd.Q_lt (zDQ HO_695002.o))) (below_size (zhB HB.o))); replace HO_660002 := am (Kd.Q_elder' (zDQ HO_660002.o) (Kd.R_base ho0) hb); replace HO_669002 := am (Kd.Q_elder' (zDQ HO_669002.o) (Kd.R_base ho0) hb); replace HO_681002 := am (Kd.Q_elder' (zDQ HO_681002.o) (Kd.R_base ho0) hb); replace HO_694002 := am (Kd.Q_elder' (zDQ HO_694002.o) (Kd.R_base ho0) hb); replace HO_695002 := am (Kd.Q_elder' (zDQ HO_695002.o) (Kd.R_base ho0) hb); replace BK659 := zbl BK659.o hb; replace BK668 := zbl BK668.o hb; replace BK680 := zbl BK680.o hb; replace BK693 := zbl BK693.o hb; replace BK694 := zbl BK694.o hb; replace HB := zhs HB hb; clear hb; (try clear ho0)) | ((with_reducible refine zgc 33 rfl ?_); refine zgl 168 Tryz.func33 #[.slice Ao121 t718.length co121] ?_; (with_reducible refine (qd.calls kj99 _ _ t718 t726 t727 t728 _ ?side1 ?side2 A116.o).mono ?_); (case side1 => repeat (first | exact (Kd.S_reads' HO720.o).2.2 | (with_reducible refine Kd.C_alloc ?_ _) | (with_reducible refine Kd.C_drewN ?_ _) | (with_reducible refine Kd.C_drew ?_))); (case side2 => exact (Kd.S_reads' HO720.o).2.1); rintro e w123 ⟨v729, rfl, ho0, hb⟩; refine ⟨_, rfl, ?_⟩; replace HO720 := am (Kd.S_elder' (zSx HO720.o) (Kd.R_base ho0) hb); have HO730 := am (Kd.R_lower (Kd.R_new' (Kd.R_new' (Kd.R_new' (Kd.R_new' (Kd.R_new' (Kd.R_new' ho0 (Kd.Q_lt (zDQ HO_660002.o))) (Kd.Q_lt (zDQ HO_669002.o))) (Kd.Q_lt (zDQ HO_681002.o))) (Kd.Q_lt (zDQ HO_694002.o))) (Kd.Q_lt (zDQ HO_695002.o))) (Kd.R_lt (zRx HO725.o))) (below_size (zhB HB.o))); replace HO_660002 := am (Kd.Q_elder' (zDQ HO_660002.o) (Kd.R_base ho0) hb); replace HO_669002 := am (Kd.Q_elder' (zDQ HO_669002.o) (Kd.R_base ho0) hb); replace HO_681002 := am (Kd.Q_elder' (zDQ HO_681002.o) (Kd.R_base ho0) hb); replace HO_694002 := am (Kd.Q_elder' (zDQ HO_694002.o) (Kd.R_base ho0) hb); replace HO_695002 := am (Kd.Q_elder' (zDQ HO_695002.o) (Kd.R_base ho0) hb); replace HO725 := am (Kd.R_elder' (zRx HO725.o) (Kd.R_base ho0) hb); replace BK659 := zbl BK659.o hb; replace BK668 := zbl BK668.o hb; replace BK680 := zbl BK680.o hb; replace BK693 := zbl BK693.o hb; replace BK694 := zbl BK694.o hb; replace HB := zhs HB hb; clear hb; (try clear ho0); obtain ⟨Ao124, co124, eo124⟩ := Kd.R_slice HO725.o; subst eo124; obtain ⟨Ao125, co125, eo125⟩ := Kd.R_slice HO730.o; subst eo125) | (go_at_call 34; (with_reducible refine (qH.calls kj99 _ _ t721 _ _ t726 t731 _ ?side1 ?side2 ?side3 ?side4 A119.o).mono ?_); (case side1 => exact zCx (Kd.R_reads' HO725.o).2.2); (case side2 => exact (Kd.R_reads' HO725.o).2.1); (case side3 => exact zCx (Kd.R_reads' HO730.o).2.2); (case side4 => exact (Kd.R_reads' HO730.o).2.1); rintro e w' ⟨rfl, ⟨nd, rfl⟩⟩))
           go_ret
           exact ⟨zew, zhB HB.o⟩
         ·rw [if_neg c118] at H
          have c118b0 := beq_eq_false_iff_ne.mpr c118
          have c118b1 := bne_iff_ne.mpr c118
          as_aux_lemma =>
           exact absurd (Option.some.inj H) (by rw [hr_]; decide)
def qk.Pure : Prop := ∀ (l0 : List Int), l0.length ≤ maxLen → l0.length * 1 ≤ 140737488351232 → (∀ x ∈ l0, (Lit.int .u8 x).wf = true) → ∃ k, qk.f k l0 = some true
theorem qk.walk (P : qk.Pure) (a0 : Option Addr) (len0 cap0 : Nat) (z0 : List Int) (w : World) (w0 : (a0 = none ∧ len0 = 0 ∧ cap0 = 0 ∧ z0 = []) ∨ ∃ x, a0 = some x ∧ len0 ≤ cap0 ∧ cap0 ≤ maxLen ∧ z0.length = cap0 ∧ (∀ i, i < z0.length → w.cell? (x.add i) = some (.int .u8 (z0.getD i 0))) ∧ ∀ n ∈ z0, (Lit.int .u8 n).wf = true) (y0 : len0 * 1 ≤ 140737488351232) (hL : Laid w) :
 Calls Tryz.prog 5 #[.slice a0 len0 cap0] w fun e w' => e = .returned (.bool true) ∧ Below w.heap.size w w' := by
 obtain ⟨l0, rfl, hr0, hm0, hw0, hc0⟩ := ReadsInt.ofRowC w0
 obtain ⟨k, h⟩ := P l0 hm0 y0 hw0
 refine (qk.calls k _ _ l0 true w (Kd.C_of_reads (d := (0 : Int)) (h1 := fun _ => rfl) hr0) hc0 hL h rfl).mono ?_
 rintro e w' ⟨rfl, hd⟩
 exact ⟨rfl, hd⟩
end Go.Proofs.YtlfoojgbiafffaaGreatDoor.XFnBulletins
