-- written by wip/tools/xprint.py (a program of this project) out of the translation
import Derived.Test.YtlfoojgbiafffaaGreatDoorXFnBulletinsA
import Derived.Test.YtlfoojgbiafffaaGreatDoorStrsE
namespace Go.Proofs.YtlfoojgbiafffaaGreatDoor.XFnBulletins
open Go.RowKit Go.Proofs.YtlfoojgbiafffaaGreatDoorW.PrintWords Go.Proofs.YtlfoojgbiafffaaGreatDoorW.PrintLast Go.Proofs.YtlfoojgbiafffaaGreatDoorW.PrintMore
open Go.Proofs.YtlfoojgbiafffaaGreatDoor.Strs
attribute [local go_sem] max2_int min2_int max_two min_two max_three min_three max_four min_four
set_option linter.unusedVariables false
set_option linter.unusedSimpArgs false
set_option maxHeartbeats 8000000
set_option maxRecDepth 100000
def qb.f (s0_0 : List Int) (s0_1 : Int) (s0_2 : Int) (a1 : Int) : Option (Int × Int × Int) := if a1 ≤ 1 then (some (0, s0_1, s0_2)) else ((spec_l1Cur_next.f s0_0 s0_1 s0_2).bind fun bt213 => (if a1 > 200 then ((spec_l1Cur_next.f s0_0 bt213.2.1 bt213.2.2).bind fun bt216 => (if a1 = 0 then (none) else (some (Int.tmod (wrap64 ((wrap64 (bt213.1 * 256)) + bt216.1)) a1, bt216.2.1, bt216.2.2)))) else (if a1 = 0 then (none) else (some (Int.tmod bt213.1 a1, bt213.2.1, bt213.2.2)))))
theorem zendnBulletinsx7_0 {P_ : Prop} (h_ : P_ := by
  simp only [Option.some.injEq, Prod.mk.injEq] at H
  obtain ⟨rfl, rfl, rfl⟩ := H
  go_enter Tryz.func75, Tryz.ntmps75
  go_wp2_with (first | ((with_reducible refine zgc 110 rfl ?_); refine zgl 9 Tryz.func110 #[.pointer (some ⟨g, 0, none⟩)] ?_; (with_reducible refine (spec_l1Cur_next.calls g s0_0 s0_1 s0_2 t213 t214 t215 w0 _ ?side1 ?side2 A4.o).mono ?_); (case side1 => exact I7.zI HI0.o); (case side2 => first | exact zBy HB.o (I7.ge HI0.o) | exact zBx HB.o); rintro e w8 ⟨rfl, hi, hb, hk⟩; refine ⟨_, rfl, ?_⟩; replace HK := zkt HK hk; replace HB := am (hb); replace HI0 := am (hi); clear hb hk hi) | ((with_reducible refine zgc 110 rfl ?_); refine zgl 15 Tryz.func110 #[.pointer (some ⟨g, 0, none⟩)] ?_; (with_reducible refine (spec_l1Cur_next.calls g s0_0 t214 t215 t216 t217 t218 w0 _ ?side1 ?side2 A6.o).mono ?_); (case side1 => exact I7.zI HI0.o); (case side2 => first | exact zBy HB.o (I7.ge HI0.o) | exact zBx HB.o); rintro e w9 ⟨rfl, hi, hb, hk⟩; refine ⟨_, rfl, ?_⟩; replace HK := zkt HK hk; replace HB := am (hb); replace HI0 := am (hi); clear hb hk hi))
  go_ret
  exact ⟨zew, by exact I7.zI HI0.o, by first | exact zBy HB.o (I7.ge HI0.o) | exact zBx HB.o, by exact zKx HK.o⟩) : P_ := h_
theorem qb.calls (g : Nat) (s0_0 : List Int) (s0_1 : Int) (s0_2 : Int) (a1 : Int) (r1 : Int) (r2 : Int) (r3 : Int) (w0 w : World) (hI : I7 w0 w g s0_0 s0_1 s0_2) (hB : Below w0.heap.size w0 w) (h : qb.f s0_0 s0_1 s0_2 a1 = some (r1, r2, r3)) :
 Calls Tryz.prog 75 #[.pointer (some ⟨g, 0, none⟩), .int .i64 a1] w fun e w' => e = .returned (.int .i64 r1) ∧ I7 w0 w' g s0_0 r2 r3 ∧ Below w0.heap.size w0 w' ∧ Kq w w' g none := by
 have HI0 := am hI
 have HK := am (Kq.refl w g none)
 have HL := am hB.size
 clear hI
 have HW0 := am hB.size
 have HB := am hB
 clear hB
 unfold qb.f at h
 have H := h
 clear h
 by_cases c3 : a1 ≤ 1
 ·rw [if_pos c3] at H
  have c3b0 := decide_eq_true c3
  clear c3
  focus
   simp only [Option.some.injEq, Prod.mk.injEq] at H
   obtain ⟨rfl, rfl, rfl⟩ := H
   go_enter Tryz.func75, Tryz.ntmps75
   go_wp2
   go_ret
   exact ⟨zew, by exact I7.zI HI0.o, by first | exact zBy HB.o (I7.ge HI0.o) | exact zBx HB.o, by exact zKx HK.o⟩
 rw [if_neg c3] at H
 have c3b0 := decide_eq_false c3
 clear c3
 obtain ⟨⟨t213, t214, t215⟩, A4, H⟩ := zob H
 try dsimp only at H
 by_cases c5 : a1 > 200
 rotate_left
 ·rw [if_neg c5] at H
  have c5b0 := decide_eq_false c5
  clear c5
  by_cases c10 : a1 = 0
  ·rw [if_pos c10] at H
   exact absurd H (by simp)
  ·rw [if_neg c10] at H
   have c10b0 := beq_eq_false_iff_ne.mpr c10
   have c10b1 := bne_iff_ne.mpr c10
   focus
    exact zendnBulletinsx7_0
 rw [if_pos c5] at H
 have c5b0 := decide_eq_true c5
 clear c5
 obtain ⟨⟨t216, t217, t218⟩, A6, H⟩ := zob H
 try dsimp only at H
 by_cases c7 : a1 = 0
 ·rw [if_pos c7] at H
  exact absurd H (by simp)
 ·rw [if_neg c7] at H
  have c7b0 := beq_eq_false_iff_ne.mpr c7
  have c7b1 := bne_iff_ne.mpr c7
  focus
   exact zendnBulletinsx7_0
def qy.f (s0_0 : List Int) (s0_1 : Int) (s0_2 : Int) (l1 : List Int) : Option (Int × Int × Int) := (qb.f s0_0 s0_1 s0_2 (l1.length : Int)).bind fun bt219 => (if 0 ≤ bt219.1 then (if bt219.1 < (l1.length : Int) then (some (rd l1 bt219.1, bt219.2.1, bt219.2.2)) else (none)) else (none))
theorem qy.calls (g : Nat) (s0_0 : List Int) (s0_1 : Int) (s0_2 : Int) (A1 : Option Addr) (c1 : Nat) (l1 : List Int) (r1 : Int) (r2 : Int) (r3 : Int) (w0 w : World) (hI : I7 w0 w g s0_0 s0_1 s0_2) (hB : Below w0.heap.size w0 w) (hr1 : Kd.C (Kd.int .i64) w A1 l1.length l1) (hc1 : l1.length ≤ c1) (hf1 : ∀ ad, A1 = some ad → 0 < l1.length → ad.block ≠ g) (h : qy.f s0_0 s0_1 s0_2 l1 = some (r1, r2, r3)) :
 Calls Tryz.prog 96 #[.pointer (some ⟨g, 0, none⟩), .slice A1 l1.length c1] w fun e w' => e = .returned (.int .i64 r1) ∧ I7 w0 w' g s0_0 r2 r3 ∧ Below w0.heap.size w0 w' ∧ Kq w w' g none := by
 have HR1 := am hr1
 have HC1 := am hc1
 clear hr1 hc1
 have HI0 := am hI
 have HK := am (Kq.refl w g none)
 have HL := am hB.size
 clear hI
 have HW0 := am hB.size
 have HB := am hB
 clear hB
 unfold qy.f at h
 have H := h
 clear h
 obtain ⟨⟨t219, t220, t221⟩, A3, H⟩ := zob H
 try dsimp only at H
 by_cases c4 : 0 ≤ t219
 rotate_left
 ·rw [if_neg c4] at H
  exact absurd H (by simp)
 rw [if_pos c4] at H
 have c4b0 := decide_eq_true c4
 clear c4
 by_cases c5 : t219 < (l1.length : Int)
 ·rw [if_pos c5] at H
  have c5b0 := decide_eq_true c5
  clear c5
  focus
   simp only [Option.some.injEq, Prod.mk.injEq] at H
   obtain ⟨rfl, rfl, rfl⟩ := H
   go_enter Tryz.func96, Tryz.ntmps96
   go_wp2_with (first | ((with_reducible refine zgc 75 rfl ?_); refine zgl 9 Tryz.func75 #[.pointer (some ⟨g, 0, none⟩), .int .i64 (l1.length : Int)] ?_; (with_reducible refine (qb.calls g s0_0 s0_1 s0_2 (l1.length : Int) t219 t220 t221 w0 _ ?side1 ?side2 A3.o).mono ?_); (case side1 => exact I7.zI HI0.o); (case side2 => first | exact zBy HB.o (I7.ge HI0.o) | exact zBx HB.o); rintro e w6 ⟨rfl, hi, hb, hk⟩; refine ⟨_, rfl, ?_⟩; replace HK := zkt HK hk; replace HB := am (hb); replace HI0 := am (hi); clear hb hk hi; have p222 : 0 ≤ (t219 : Int) := of_decide_eq_true zax; have q222 : t219 < (l1.length : Int) := of_decide_eq_true zax; obtain ⟨ad222, e222, hx222_0⟩ := Kd.at_int HR1.o t219 p222 q222; cases e222; replace hx222_0 := keep_cell HK.o hx222_0 (by first | (rw [add_block]; exact hf1 _ rfl (by omega)) | exact hf1 _ rfl (by omega) | exact hf1 ad222 rfl (by omega)); replace p222 := eq_true p222; replace q222 := eq_true q222))
   go_ret
   exact ⟨zew, by exact I7.zI HI0.o, by first | exact zBy HB.o (I7.ge HI0.o) | exact zBx HB.o, by exact zKx HK.o⟩
 ·rw [if_neg c5] at H
  exact absurd H (by simp)
def spec_l1Cur_warning.f (s0_0 : List Int) (s0_1 : Int) (s0_2 : Int) : Option (Int × Int × Int × Int × Int × Int × Int × Int) := (qb.f s0_0 s0_1 s0_2 30).bind fun bt224 => ((qb.f s0_0 bt224.2.1 bt224.2.2 9).bind fun bt227 => ((qb.f s0_0 bt227.2.1 bt227.2.2 3).bind fun bt230 => ((qb.f s0_0 bt230.2.1 bt230.2.2 3).bind fun bt233 => ((qb.f s0_0 bt233.2.1 bt233.2.2 3).bind fun bt236 => ((qb.f s0_0 bt236.2.1 bt236.2.2 12).bind fun bt239 => ((qb.f s0_0 bt239.2.1 bt239.2.2 24).bind fun bt243 => (if bt243.1 = 0 then ((qy.f s0_0 bt243.2.1 bt243.2.2 (([0, 999, 1000] : List Int))).bind fun bt249 => (some (bt249.1, wrap64 (1 + bt230.1), wrap64 (1 + bt233.1), wrap64 (1 + bt236.1), bt224.1, wrap64 ((wrap64 (bt224.1 + 1)) + bt239.1), bt249.2.1, bt249.2.2))) else (if bt243.1 = 1 then ((qy.f s0_0 bt243.2.1 bt243.2.2 (([0, 5, 6] : List Int))).bind fun bt255 => (some (wrap64 (1 + bt227.1), bt255.1, wrap64 (1 + bt233.1), wrap64 (1 + bt236.1), bt224.1, wrap64 ((wrap64 (bt224.1 + 1)) + bt239.1), bt255.2.1, bt255.2.2))) else (if bt243.1 = 2 then ((qy.f s0_0 bt243.2.1 bt243.2.2 (([0, 4] : List Int))).bind fun bt261 => (some (wrap64 (1 + bt227.1), wrap64 (1 + bt230.1), bt261.1, wrap64 (1 + bt236.1), bt224.1, wrap64 ((wrap64 (bt224.1 + 1)) + bt239.1), bt261.2.1, bt261.2.2))) else (if bt243.1 = 3 then ((qy.f s0_0 bt243.2.1 bt243.2.2 (([0, 9, 10] : List Int))).bind fun bt267 => (some (wrap64 (1 + bt227.1), wrap64 (1 + bt230.1), wrap64 (1 + bt233.1), bt267.1, bt224.1, wrap64 ((wrap64 (bt224.1 + 1)) + bt239.1), bt267.2.1, bt267.2.2))) else (if bt243.1 = 4 then ((qy.f s0_0 bt243.2.1 bt243.2.2 (([bt224.1, 240, 241] : List Int))).bind fun bt273 => (some (wrap64 (1 + bt227.1), wrap64 (1 + bt230.1), wrap64 (1 + bt233.1), wrap64 (1 + bt236.1), bt224.1, bt273.1, bt273.2.1, bt273.2.2))) else (some (wrap64 (1 + bt227.1), wrap64 (1 + bt230.1), wrap64 (1 + bt233.1), wrap64 (1 + bt236.1), bt224.1, wrap64 ((wrap64 (bt224.1 + 1)) + bt239.1), bt243.2.1, bt243.2.2)))))))))))))
theorem spec_l1Cur_warning.calls (g : Nat) (s0_0 : List Int) (s0_1 : Int) (s0_2 : Int) (r1 : Int) (r2 : Int) (r3 : Int) (r4 : Int) (r5 : Int) (r6 : Int) (r7 : Int) (r8 : Int) (w0 w : World) (hI : I7 w0 w g s0_0 s0_1 s0_2) (hB : Below w0.heap.size w0 w) (h : spec_l1Cur_warning.f s0_0 s0_1 s0_2 = some (r1, r2, r3, r4, r5, r6, r7, r8)) :
 Calls Tryz.prog 49 #[.pointer (some ⟨g, 0, none⟩)] w fun e w' => e = .returned (.agg #[.int .i64 r1, .int .i64 r2, .int .i64 r3, .int .i64 r4, .int .i64 r5, .int .i64 r6]) ∧ I7 w0 w' g s0_0 r7 r8 ∧ Below w0.heap.size w0 w' ∧ Kq w w' g none := by
 have hu25 := Tryz.underlying25
 have HI0 := am hI
 have HK := am (Kq.refl w g none)
 have HL := am hB.size
 clear hI
 have HW0 := am hB.size
 have HB := am hB
 clear hB
 unfold spec_l1Cur_warning.f at h
 have H := h
 clear h
 obtain ⟨⟨t224, t225, t226⟩, A2, H⟩ := zob H
 try dsimp only at H
 obtain ⟨⟨t227, t228, t229⟩, A3, H⟩ := zob H
 try dsimp only at H
 obtain ⟨⟨t230, t231, t232⟩, A4, H⟩ := zob H
 try dsimp only at H
 obtain ⟨⟨t233, t234, t235⟩, A5, H⟩ := zob H
 try dsimp only at H
 obtain ⟨⟨t236, t237, t238⟩, A6, H⟩ := zob H
 try dsimp only at H
 obtain ⟨⟨t239, t240, t241⟩, A7, H⟩ := zob H
 try dsimp only at H
 obtain ⟨⟨t243, t244, t245⟩, A8, H⟩ := zob H
 try dsimp only at H
 by_cases c9 : t243 = 0
 ·rw [if_pos c9] at H
  have c9b0 := beq_iff_eq.mpr c9
  have c9b1 := bne_eq_false_iff_eq.mpr c9
  clear c9
  obtain ⟨y246, hy246⟩ : ∃ y_ : List Int, y_ = (([0, 999, 1000] : List Int)) := ⟨_, rfl⟩
  replace H : ((qy.f s0_0 t244 t245 y246).bind fun bt249 => (some (bt249.1, wrap64 (1 + t230), wrap64 (1 + t233), wrap64 (1 + t236), t224, wrap64 ((wrap64 (t224 + 1)) + t239), bt249.2.1, bt249.2.2))) = some (r1, r2, r3, r4, r5, r6, r7, r8) := by rw [hy246]; exact H
  have Ny246 := am hy246
  clear hy246
  obtain ⟨⟨t249, t250, t251⟩, A10, H⟩ := zob H
  try dsimp only at H
  focus
   simp only [Option.some.injEq, Prod.mk.injEq] at H
   obtain ⟨rfl, rfl, rfl, rfl, rfl, rfl, rfl, rfl⟩ := H
   go_enter Tryz.func49, Tryz.ntmps49
   go_wp2_with (first | ((with_reducible refine zgd 2 rfl ?_); refine zbe 2 #[.int .i64 0, .int .i64 0, .int .i64 0, .int .i64 0, .int .i64 0, .int .i64 0] 25 ?_; intro gb223 hg w11 hbox hb; replace HB := am (bsq (by first | exact zBy HB.o (I7.ge HI0.o) | exact zBx HB.o) hb); have BK223 := am (hbox); have GW223 := zkw hg HK; have GE223 := zkv HW0 GW223; replace HK := zkq HK hb; have NB0_223 := am ((by rw [hg]; exact Nat.ne_of_lt (I7.lt (show I7 w0 _ g s0_0 s0_1 s0_2 from I7.zI HI0.o)) : g ≠ gb223)); have NB223_0 := am ((by rw [hg]; exact Nat.ne_of_gt (I7.lt (show I7 w0 _ g s0_0 s0_1 s0_2 from I7.zI HI0.o)) : gb223 ≠ g)); replace HI0 := am (I7.below (I7.zI HI0.o) hb); clear hb hbox hg) | ((with_reducible refine zgc 75 rfl ?_); refine zgl 6 Tryz.func75 #[.pointer (some ⟨g, 0, none⟩), .int .i64 30] ?_; (with_reducible refine (qb.calls g s0_0 s0_1 s0_2 30 t224 t225 t226 w0 _ ?side1 ?side2 A2.o).mono ?_); (case side1 => exact I7.zJ HI0.o NB0_223.o); (case side2 => first | exact zBz HB.o (I7.ge HI0.o) GE223.o | exact zBy HB.o GE223.o); rintro e w12 ⟨rfl, hi, hb, hk⟩; refine ⟨_, rfl, ?_⟩; replace BK223 := zkb hk BK223.o NB223_0.o; replace HK := zkt HK hk; replace HB := am (hb); replace HI0 := am (hi); clear hb hk hi) | ((with_reducible refine zgc 75 rfl ?_); refine zgl 8 Tryz.func75 #[.pointer (some ⟨g, 0, none⟩), .int .i64 9] ?_; (with_reducible refine (qb.calls g s0_0 t225 t226 9 t227 t228 t229 w0 _ ?side1 ?side2 A3.o).mono ?_); (case side1 => exact I7.zJ HI0.o NB0_223.o); (case side2 => first | exact zBz HB.o (I7.ge HI0.o) GE223.o | exact zBy HB.o GE223.o); rintro e w13 ⟨rfl, hi, hb, hk⟩; refine ⟨_, rfl, ?_⟩; replace BK223 := zkb hk BK223.o NB223_0.o; replace HK := zkt HK hk; replace HB := am (hb); replace HI0 := am (hi); clear hb hk hi) | ((with_reducible refine zgc 75 rfl ?_); refine zgl 11 Tryz.func75 #[.pointer (some ⟨g, 0, none⟩), .int .i64 3] ?_; (with_reducible refine (qb.calls g s0_0 t228 t229 3 t230 t231 t232 w0 _ ?side1 ?side2 A4.o).mono ?_); (case side1 => exact I7.zJ HI0.o NB0_223.o); (case side2 => first | exact zBz HB.o (I7.ge HI0.o) GE223.o | exact zBy HB.o GE223.o); rintro e w14 ⟨rfl, hi, hb, hk⟩; refine ⟨_, rfl, ?_⟩; replace BK223 := zkb hk BK223.o NB223_0.o; replace HK := zkt HK hk; replace HB := am (hb); replace HI0 := am (hi); clear hb hk hi) | ((with_reducible refine zgc 75 rfl ?_); refine zgl 14 Tryz.func75 #[.pointer (some ⟨g, 0, none⟩), .int .i64 3] ?_; (with_reducible refine (qb.calls g s0_0 t231 t232 3 t233 t234 t235 w0 _ ?side1 ?side2 A5.o).mono ?_); (case side1 => exact I7.zJ HI0.o NB0_223.o); (case side2 => first | exact zBz HB.o (I7.ge HI0.o) GE223.o | exact zBy HB.o GE223.o); rintro e w15 ⟨rfl, hi, hb, hk⟩; refine ⟨_, rfl, ?_⟩; replace BK223 := zkb hk BK223.o NB223_0.o; replace HK := zkt HK hk; replace HB := am (hb); replace HI0 := am (hi); clear hb hk hi) | ((with_reducible refine zgc 75 rfl ?_); refine zgl 17 Tryz.func75 #[.pointer (some ⟨g, 0, none⟩), .int .i64 3] ?_; (with_reducible refine (qb.calls g s0_0 t234 t235 3 t236 t237 t238 w0 _ ?side1 ?side2 A6.o).mono ?_); (case side1 => exact I7.zJ HI0.o NB0_223.o); (case side2 => first | exact zBz HB.o (I7.ge HI0.o) GE223.o | exact zBy HB.o GE223.o); rintro e w16 ⟨rfl, hi, hb, hk⟩; refine ⟨_, rfl, ?_⟩; replace BK223 := zkb hk BK223.o NB223_0.o; replace HK := zkt HK hk; replace HB := am (hb); replace HI0 := am (hi); clear hb hk hi) | ((with_reducible refine zgc 75 rfl ?_); refine zgl 23 Tryz.func75 #[.pointer (some ⟨g, 0, none⟩), .int .i64 12] ?_; (with_reducible refine (qb.calls g s0_0 t237 t238 12 t239 t240 t241 w0 _ ?side1 ?side2 A7.o).mono ?_); (case side1 => exact I7.zJ HI0.o NB0_223.o); (case side2 => first | exact zBz HB.o (I7.ge HI0.o) GE223.o | exact zBy HB.o GE223.o); rintro e w17 ⟨rfl, hi, hb, hk⟩; refine ⟨_, rfl, ?_⟩; replace BK223 := zkb hk BK223.o NB223_0.o; replace HK := zkt HK hk; replace HB := am (hb); replace HI0 := am (hi); clear hb hk hi) | ((with_reducible refine zgd 4 rfl ?_); refine zbe 4 #[.int .i64 0, .int .i64 0, .int .i64 0, .int .i64 0, .int .i64 0, .int .i64 0] 25 ?_; intro gb242 hg w18 hbox hb; replace HB := am (bsq (by first | exact zBz HB.o (I7.ge HI0.o) GE223.o | exact zBy HB.o GE223.o) hb); have BK242 := am (hbox); have GW242 := zkw hg HK; have GE242 := zkv HW0 GW242; replace HK := zkq HK hb; have NB223_242 := znl hg BK223.o; have NB242_223 := zng hg BK223.o; replace BK223 := zbl BK223.o hb; have NB0_242 := am ((by rw [hg]; exact Nat.ne_of_lt (I7.lt (show I7 w0 _ g s0_0 t240 t241 from I7.zJ HI0.o NB0_223.o)) : g ≠ gb242)); have NB242_0 := am ((by rw [hg]; exact Nat.ne_of_gt (I7.lt (show I7 w0 _ g s0_0 t240 t241 from I7.zJ HI0.o NB0_223.o)) : gb242 ≠ g)); replace HI0 := am (I7.below (I7.zF HI0.o NB0_223.o) hb); clear hb hbox hg; have hnb19 := NB242_223.o; have hnc19 := NB223_242.o; have hnb20 := NB242_0.o; have hnc20 := NB0_242.o; have hcz21 := zc6 BK242.o) | ((with_reducible refine zgc 75 rfl ?_); refine zgl 27 Tryz.func75 #[.pointer (some ⟨g, 0, none⟩), .int .i64 24] ?_; (with_reducible refine (qb.calls g s0_0 t240 t241 24 t243 t244 t245 w0 _ ?side1 ?side2 A8.o).mono ?_); (case side1 => exact zhI71 HI0.o); (case side2 => exact zhB HB.o); rintro e w22 ⟨rfl, hi, hb, hk⟩; refine ⟨_, rfl, ?_⟩; replace BK223 := zkb hk BK223.o NB223_0.o; replace BK242 := am (Kq.blk hk (g' := gb242) (o := .cells #[.int .i64 (wrap64 (1 + t227)), .int .i64 (wrap64 (1 + t230)), .int .i64 (wrap64 (1 + t233)), .int .i64 (wrap64 (1 + t236)), .int .i64 t224, .int .i64 (wrap64 ((wrap64 (t224 + 1)) + t239))] 25 (0, 0)) (zbp BK242.o) NB242_0.o (by simp)); replace HK := zkt HK hk; replace HB := am (hb); replace HI0 := am (hi); clear hb hk hi) | ((with_reducible refine zgd 31 rfl ?_); refine Kd.R_lit (Kd.int .i64) _ 3 ?hg (N := 31) ?hd (xs := ([0, 999, 1000] : List Int)) (inner := [.int .i64 0, .int .i64 999, .int .i64 1000]) (ok := fun _ => True) (okp := fun _ => True) ?hr ?hp (fun _ hk => hk) trivial (Below.refl _ _) (Nat.le_refl _) (by simp) ?_; (case hd => rfl); (case hg => rfl); (case hr => exact zsx); (case hp => exact (Reps.one (show Kd.M (Kd.int .i64) _ _ _ 0 [.int .i64 0] from rfl) (Reps.one (show Kd.M (Kd.int .i64) _ _ _ 999 [.int .i64 999] from rfl) (Reps.one (show Kd.M (Kd.int .i64) _ _ _ 1000 [.int .i64 1000] from rfl) (Reps.none _ _))))); intro v247 w23 ho24 hb hg_ hnew_; clear hg_ hnew_; (first | rw [← Ny246.o] at ho24 | (simp only [Int.reduceToNat] at ho24; rw [← Ny246.o] at ho24)); have HO248 := am (Kd.R_lower ho24 (keep_size (w := w) (g := g) (row := none) (zhK HK.o))); replace HI0 := am (I7.below (zhI71 HI0.o) hb); replace BK223 := zbl BK223.o hb; replace BK242 := zbl BK242.o hb; replace HK := zkq HK hb; replace HB := zhs HB hb; clear hb ho24; obtain ⟨Ao25, co25, eo25⟩ := Kd.R_slice HO248.o; subst eo25) | ((with_reducible refine zgc 96 rfl ?_); refine zgl 32 Tryz.func96 #[.pointer (some ⟨g, 0, none⟩), .slice Ao25 y246.length co25] ?_; (with_reducible refine (qy.calls g s0_0 t244 t245 _ _ y246 t249 t250 t251 w0 _ ?side1 ?side2 ?side3 ?side4 ?side5 A10.o).mono ?_); (case side1 => exact zhI71 HI0.o); (case side2 => exact zhB HB.o); (case side3 => exact zCx (Kd.R_reads' HO248.o).2.2); (case side4 => exact (Kd.R_reads' HO248.o).2.1); (case side5 => exact far_slice (I7.own_ne HI0.o HO248.o (by decide))); rintro e w26 ⟨rfl, hi, hb, hk⟩; refine ⟨_, rfl, ?_⟩; replace BK223 := zkb hk BK223.o NB223_0.o; replace BK242 := zkb hk BK242.o NB242_0.o; replace HO248 := am (Kd.R_mono (Kd.R_keep (I7.apart (show I7 w0 _ g s0_0 t244 t245 from zhI71 HI0.o) (zRx HO248.o) (by decide)) hk (fun _ h => h.2)) (fun _ h => h.1)); replace HK := zkt HK hk; replace HB := am (hb); replace HI0 := am (hi); clear hb hk hi; have hcz27 := zc6 BK242.o; have hnb28 := NB223_0.o; have hnc28 := NB0_223.o; have hcz29 := zc6 BK223.o))
   refine bodyPost_ret (results_cell_row rfl _ _ gb223 25 #[.int .i64 t249, .int .i64 (wrap64 (1 + t230)), .int .i64 (wrap64 (1 + t233)), .int .i64 (wrap64 (1 + t236)), .int .i64 t224, .int .i64 (wrap64 ((wrap64 (t224 + 1)) + t239))] (0, 0) _ rfl (zbp BK223.o) Tryz.underlying25 rfl (by kernel_rfl)) rfl ?_
   exact ⟨zew, zhI71 HI0.o, zhB HB.o, zhK HK.o⟩
 rw [if_neg c9] at H
 have c9b0 := beq_eq_false_iff_ne.mpr c9
 have c9b1 := bne_iff_ne.mpr c9
 by_cases c30 : t243 = 1
 ·rw [if_pos c30] at H
  have c30b0 := beq_iff_eq.mpr c30
  have c30b1 := bne_eq_false_iff_eq.mpr c30
  clear c30
  obtain ⟨y252, hy252⟩ : ∃ y_ : List Int, y_ = (([0, 5, 6] : List Int)) := ⟨_, rfl⟩
  replace H : ((qy.f s0_0 t244 t245 y252).bind fun bt255 => (some (wrap64 (1 + t227), bt255.1, wrap64 (1 + t233), wrap64 (1 + t236), t224, wrap64 ((wrap64 (t224 + 1)) + t239), bt255.2.1, bt255.2.2))) = some (r1, r2, r3, r4, r5, r6, r7, r8) := by rw [hy252]; exact H
  have Ny252 := am hy252
  clear hy252
  obtain ⟨⟨t255, t256, t257⟩, A31, H⟩ := zob H
  try dsimp only at H
  focus
   simp only [Option.some.injEq, Prod.mk.injEq] at H
   obtain ⟨rfl, rfl, rfl, rfl, rfl, rfl, rfl, rfl⟩ := H
   go_enter Tryz.func49, Tryz.ntmps49
   go_wp2_with (first | ((with_reducible refine zgd 2 rfl ?_); refine zbe 2 #[.int .i64 0, .int .i64 0, .int .i64 0, .int .i64 0, .int .i64 0, .int .i64 0] 25 ?_; intro gb223 hg w32 hbox hb; replace HB := am (bsq (by first | exact zBy HB.o (I7.ge HI0.o) | exact zBx HB.o) hb); have BK223 := am (hbox); have GW223 := zkw hg HK; have GE223 := zkv HW0 GW223; replace HK := zkq HK hb; have NB0_223 := am ((by rw [hg]; exact Nat.ne_of_lt (I7.lt (show I7 w0 _ g s0_0 s0_1 s0_2 from I7.zI HI0.o)) : g ≠ gb223)); have NB223_0 := am ((by rw [hg]; exact Nat.ne_of_gt (I7.lt (show I7 w0 _ g s0_0 s0_1 s0_2 from I7.zI HI0.o)) : gb223 ≠ g)); replace HI0 := am (I7.below (I7.zI HI0.o) hb); clear hb hbox hg) | ((with_reducible refine zgc 75 rfl ?_); refine zgl 6 Tryz.func75 #[.pointer (some ⟨g, 0, none⟩), .int .i64 30] ?_; (with_reducible refine (qb.calls g s0_0 s0_1 s0_2 30 t224 t225 t226 w0 _ ?side1 ?side2 A2.o).mono ?_); (case side1 => exact I7.zJ HI0.o NB0_223.o); (case side2 => first | exact zBz HB.o (I7.ge HI0.o) GE223.o | exact zBy HB.o GE223.o); rintro e w33 ⟨rfl, hi, hb, hk⟩; refine ⟨_, rfl, ?_⟩; replace BK223 := zkb hk BK223.o NB223_0.o; replace HK := zkt HK hk; replace HB := am (hb); replace HI0 := am (hi); clear hb hk hi) | ((with_reducible refine zgc 75 rfl ?_); refine zgl 8 Tryz.func75 #[.pointer (some ⟨g, 0, none⟩), .int .i64 9] ?_; (with_reducible refine (qb.calls g s0_0 t225 t226 9 t227 t228 t229 w0 _ ?side1 ?side2 A3.o).mono ?_); (case side1 => exact I7.zJ HI0.o NB0_223.o); (case side2 => first | exact zBz HB.o (I7.ge HI0.o) GE223.o | exact zBy HB.o GE223.o); rintro e w34 ⟨rfl, hi, hb, hk⟩; refine ⟨_, rfl, ?_⟩; replace BK223 := zkb hk BK223.o NB223_0.o; replace HK := zkt HK hk; replace HB := am (hb); replace HI0 := am (hi); clear hb hk hi) | ((with_reducible refine zgc 75 rfl ?_); refine zgl 11 Tryz.func75 #[.pointer (some ⟨g, 0, none⟩), .int .i64 3] ?_; (with_reducible refine (qb.calls g s0_0 t228 t229 3 t230 t231 t232 w0 _ ?side1 ?side2 A4.o).mono ?_); (case side1 => exact I7.zJ HI0.o NB0_223.o); (case side2 => first | exact zBz HB.o (I7.ge HI0.o) GE223.o | exact zBy HB.o GE223.o); rintro e w35 ⟨rfl, hi, hb, hk⟩; refine ⟨_, rfl, ?_⟩; replace BK223 := zkb hk BK223.o NB223_0.o; replace HK := zkt HK hk; replace HB := am (hb); replace HI0 := am (hi); clear hb hk hi) | ((with_reducible refine zgc 75 rfl ?_); refine zgl 14 Tryz.func75 #[.pointer (some ⟨g, 0, none⟩), .int .i64 3] ?_; (with_reducible refine (qb.calls g s0_0 t231 t232 3 t233 t234 t235 w0 _ ?side1 ?side2 A5.o).mono ?_); (case side1 => exact I7.zJ HI0.o NB0_223.o); (case side2 => first | exact zBz HB.o (I7.ge HI0.o) GE223.o | exact zBy HB.o GE223.o); rintro e w36 ⟨rfl, hi, hb, hk⟩; refine ⟨_, rfl, ?_⟩; replace BK223 := zkb hk BK223.o NB223_0.o; replace HK := zkt HK hk; replace HB := am (hb); replace HI0 := am (hi); clear hb hk hi) | ((with_reducible refine zgc 75 rfl ?_); refine zgl 17 Tryz.func75 #[.pointer (some ⟨g, 0, none⟩), .int .i64 3] ?_; (with_reducible refine (qb.calls g s0_0 t234 t235 3 t236 t237 t238 w0 _ ?side1 ?side2 A6.o).mono ?_); (case side1 => exact I7.zJ HI0.o NB0_223.o); (case side2 => first | exact zBz HB.o (I7.ge HI0.o) GE223.o | exact zBy HB.o GE223.o); rintro e w37 ⟨rfl, hi, hb, hk⟩; refine ⟨_, rfl, ?_⟩; replace BK223 := zkb hk BK223.o NB223_0.o; replace HK := zkt HK hk; replace HB := am (hb); replace HI0 := am (hi); clear hb hk hi) | ((with_reducible refine zgc 75 rfl ?_); refine zgl 23 Tryz.func75 #[.pointer (some ⟨g, 0, none⟩), .int .i64 12] ?_; (with_reducible refine (qb.calls g s0_0 t237 t238 12 t239 t240 t241 w0 _ ?side1 ?side2 A7.o).mono ?_); (case side1 => exact I7.zJ HI0.o NB0_223.o); (case side2 => first | exact zBz HB.o (I7.ge HI0.o) GE223.o | exact zBy HB.o GE223.o); rintro e w38 ⟨rfl, hi, hb, hk⟩; refine ⟨_, rfl, ?_⟩; replace BK223 := zkb hk BK223.o NB223_0.o; replace HK := zkt HK hk; replace HB := am (hb); replace HI0 := am (hi); clear hb hk hi) | ((with_reducible refine zgd 4 rfl ?_); refine zbe 4 #[.int .i64 0, .int .i64 0, .int .i64 0, .int .i64 0, .int .i64 0, .int .i64 0] 25 ?_; intro gb242 hg w39 hbox hb; replace HB := am (bsq (by first | exact zBz HB.o (I7.ge HI0.o) GE223.o | exact zBy HB.o GE223.o) hb); have BK242 := am (hbox); have GW242 := zkw hg HK; have GE242 := zkv HW0 GW242; replace HK := zkq HK hb; have NB223_242 := znl hg BK223.o; have NB242_223 := zng hg BK223.o; replace BK223 := zbl BK223.o hb; have NB0_242 := am ((by rw [hg]; exact Nat.ne_of_lt (I7.lt (show I7 w0 _ g s0_0 t240 t241 from I7.zJ HI0.o NB0_223.o)) : g ≠ gb242)); have NB242_0 := am ((by rw [hg]; exact Nat.ne_of_gt (I7.lt (show I7 w0 _ g s0_0 t240 t241 from I7.zJ HI0.o NB0_223.o)) : gb242 ≠ g)); replace HI0 := am (I7.below (I7.zF HI0.o NB0_223.o) hb); clear hb hbox hg; have hnb40 := NB242_223.o; have hnc40 := NB223_242.o; have hnb41 := NB242_0.o; have hnc41 := NB0_242.o; have hcz42 := zc6 BK242.o) | ((with_reducible refine zgc 75 rfl ?_); refine zgl 27 Tryz.func75 #[.pointer (some ⟨g, 0, none⟩), .int .i64 24] ?_; (with_reducible refine (qb.calls g s0_0 t240 t241 24 t243 t244 t245 w0 _ ?side1 ?side2 A8.o).mono ?_); (case side1 => exact zhI71 HI0.o); (case side2 => exact zhB HB.o); rintro e w43 ⟨rfl, hi, hb, hk⟩; refine ⟨_, rfl, ?_⟩; replace BK223 := zkb hk BK223.o NB223_0.o; replace BK242 := am (Kq.blk hk (g' := gb242) (o := .cells #[.int .i64 (wrap64 (1 + t227)), .int .i64 (wrap64 (1 + t230)), .int .i64 (wrap64 (1 + t233)), .int .i64 (wrap64 (1 + t236)), .int .i64 t224, .int .i64 (wrap64 ((wrap64 (t224 + 1)) + t239))] 25 (0, 0)) (zbp BK242.o) NB242_0.o (by simp)); replace HK := zkt HK hk; replace HB := am (hb); replace HI0 := am (hi); clear hb hk hi) | ((with_reducible refine zgd 37 rfl ?_); refine Kd.R_lit (Kd.int .i64) _ 3 ?hg (N := 37) ?hd (xs := ([0, 5, 6] : List Int)) (inner := [.int .i64 0, .int .i64 5, .int .i64 6]) (ok := fun _ => True) (okp := fun _ => True) ?hr ?hp (fun _ hk => hk) trivial (Below.refl _ _) (Nat.le_refl _) (by simp) ?_; (case hd => rfl); (case hg => rfl); (case hr => exact zsx); (case hp => exact (Reps.one (show Kd.M (Kd.int .i64) _ _ _ 0 [.int .i64 0] from rfl) (Reps.one (show Kd.M (Kd.int .i64) _ _ _ 5 [.int .i64 5] from rfl) (Reps.one (show Kd.M (Kd.int .i64) _ _ _ 6 [.int .i64 6] from rfl) (Reps.none _ _))))); intro v253 w44 ho45 hb hg_ hnew_; clear hg_ hnew_; (first | rw [← Ny252.o] at ho45 | (simp only [Int.reduceToNat] at ho45; rw [← Ny252.o] at ho45)); have HO254 := am (Kd.R_lower ho45 (keep_size (w := w) (g := g) (row := none) (zhK HK.o))); replace HI0 := am (I7.below (zhI71 HI0.o) hb); replace BK223 := zbl BK223.o hb; replace BK242 := zbl BK242.o hb; replace HK := zkq HK hb; replace HB := zhs HB hb; clear hb ho45; obtain ⟨Ao46, co46, eo46⟩ := Kd.R_slice HO254.o; subst eo46) | ((with_reducible refine zgc 96 rfl ?_); refine zgl 38 Tryz.func96 #[.pointer (some ⟨g, 0, none⟩), .slice Ao46 y252.length co46] ?_; (with_reducible refine (qy.calls g s0_0 t244 t245 _ _ y252 t255 t256 t257 w0 _ ?side1 ?side2 ?side3 ?side4 ?side5 A31.o).mono ?_); (case side1 => exact zhI71 HI0.o); (case side2 => exact zhB HB.o); (case side3 => exact zCx (Kd.R_reads' HO254.o).2.2); (case side4 => exact (Kd.R_reads' HO254.o).2.1); (case side5 => exact far_slice (I7.own_ne HI0.o HO254.o (by decide))); rintro e w47 ⟨rfl, hi, hb, hk⟩; refine ⟨_, rfl, ?_⟩; replace BK223 := zkb hk BK223.o NB223_0.o; replace BK242 := zkb hk BK242.o NB242_0.o; replace HO254 := am (Kd.R_mono (Kd.R_keep (I7.apart (show I7 w0 _ g s0_0 t244 t245 from zhI71 HI0.o) (zRx HO254.o) (by decide)) hk (fun _ h => h.2)) (fun _ h => h.1)); replace HK := zkt HK hk; replace HB := am (hb); replace HI0 := am (hi); clear hb hk hi; have hcz48 := zc6 BK242.o; have hnb49 := NB223_0.o; have hnc49 := NB0_223.o; have hcz50 := zc6 BK223.o))
   refine bodyPost_ret (results_cell_row rfl _ _ gb223 25 #[.int .i64 (wrap64 (1 + t227)), .int .i64 t255, .int .i64 (wrap64 (1 + t233)), .int .i64 (wrap64 (1 + t236)), .int .i64 t224, .int .i64 (wrap64 ((wrap64 (t224 + 1)) + t239))] (0, 0) _ rfl (zbp BK223.o) Tryz.underlying25 rfl (by kernel_rfl)) rfl ?_
   exact ⟨zew, zhI71 HI0.o, zhB HB.o, zhK HK.o⟩
 rw [if_neg c30] at H
 have c30b0 := beq_eq_false_iff_ne.mpr c30
 have c30b1 := bne_iff_ne.mpr c30
 by_cases c51 : t243 = 2
 ·rw [if_pos c51] at H
  have c51b0 := beq_iff_eq.mpr c51
  have c51b1 := bne_eq_false_iff_eq.mpr c51
  clear c51
  obtain ⟨y258, hy258⟩ : ∃ y_ : List Int, y_ = (([0, 4] : List Int)) := ⟨_, rfl⟩
  replace H : ((qy.f s0_0 t244 t245 y258).bind fun bt261 => (some (wrap64 (1 + t227), wrap64 (1 + t230), bt261.1, wrap64 (1 + t236), t224, wrap64 ((wrap64 (t224 + 1)) + t239), bt261.2.1, bt261.2.2))) = some (r1, r2, r3, r4, r5, r6, r7, r8) := by rw [hy258]; exact H
  have Ny258 := am hy258
  clear hy258
  obtain ⟨⟨t261, t262, t263⟩, A52, H⟩ := zob H
  try dsimp only at H
  focus
   simp only [Option.some.injEq, Prod.mk.injEq] at H
   obtain ⟨rfl, rfl, rfl, rfl, rfl, rfl, rfl, rfl⟩ := H
   go_enter Tryz.func49, Tryz.ntmps49
   go_wp2_with (first | ((with_reducible refine zgd 2 rfl ?_); refine zbe 2 #[.int .i64 0, .int .i64 0, .int .i64 0, .int .i64 0, .int .i64 0, .int .i64 0] 25 ?_; intro gb223 hg w53 hbox hb; replace HB := am (bsq (by first | exact zBy HB.o (I7.ge HI0.o) | exact zBx HB.o) hb); have BK223 := am (hbox); have GW223 := zkw hg HK; have GE223 := zkv HW0 GW223; replace HK := zkq HK hb; have NB0_223 := am ((by rw [hg]; exact Nat.ne_of_lt (I7.lt (show I7 w0 _ g s0_0 s0_1 s0_2 from I7.zI HI0.o)) : g ≠ gb223)); have NB223_0 := am ((by rw [hg]; exact Nat.ne_of_gt (I7.lt (show I7 w0 _ g s0_0 s0_1 s0_2 from I7.zI HI0.o)) : gb223 ≠ g)); replace HI0 := am (I7.below (I7.zI HI0.o) hb); clear hb hbox hg) | ((with_reducible refine zgc 75 rfl ?_); refine zgl 6 Tryz.func75 #[.pointer (some ⟨g, 0, none⟩), .int .i64 30] ?_; (with_reducible refine (qb.calls g s0_0 s0_1 s0_2 30 t224 t225 t226 w0 _ ?side1 ?side2 A2.o).mono ?_); (case side1 => exact I7.zJ HI0.o NB0_223.o); (case side2 => first | exact zBz HB.o (I7.ge HI0.o) GE223.o | exact zBy HB.o GE223.o); rintro e w54 ⟨rfl, hi, hb, hk⟩; refine ⟨_, rfl, ?_⟩; replace BK223 := zkb hk BK223.o NB223_0.o; replace HK := zkt HK hk; replace HB := am (hb); replace HI0 := am (hi); clear hb hk hi) | ((with_reducible refine zgc 75 rfl ?_); refine zgl 8 Tryz.func75 #[.pointer (some ⟨g, 0, none⟩), .int .i64 9] ?_; (with_reducible refine (qb.calls g s0_0 t225 t226 9 t227 t228 t229 w0 _ ?side1 ?side2 A3.o).mono ?_); (case side1 => exact I7.zJ HI0.o NB0_223.o); (case side2 => first | exact zBz HB.o (I7.ge HI0.o) GE223.o | exact zBy HB.o GE223.o); rintro e w55 ⟨rfl, hi, hb, hk⟩; refine ⟨_, rfl, ?_⟩; replace BK223 := zkb hk BK223.o NB223_0.o; replace HK := zkt HK hk; replace HB := am (hb); replace HI0 := am (hi); clear hb hk hi) | ((with_reducible refine zgc 75 rfl ?_); refine zgl 11 Tryz.func75 #[.pointer (some ⟨g, 0, none⟩), .int .i64 3] ?_; (with_reducible refine (qb.calls g s0_0 t228 t229 3 t230 t231 t232 w0 _ ?side1 ?side2 A4.o).mono ?_); (case side1 => exact I7.zJ HI0.o NB0_223.o); (case side2 => first | exact zBz HB.o (I7.ge HI0.o) GE223.o | exact zBy HB.o GE223.o); rintro e w56 ⟨rfl, hi, hb, hk⟩; refine ⟨_, rfl, ?_⟩; replace BK223 := zkb hk BK223.o NB223_0.o; replace HK := zkt HK hk; replace HB := am (hb); replace HI0 := am (hi); clear hb hk hi) | ((with_reducible refine zgc 75 rfl ?_); refine zgl 14 Tryz.func75 #[.pointer (some ⟨g, 0, none⟩), .int .i64 3] ?_; (with_reducible refine (qb.calls g s0_0 t231 t232 3 t233 t234 t235 w0 _ ?side1 ?side2 A5.o).mono ?_); (case side1 => exact I7.zJ HI0.o NB0_223.o); (case side2 => first | exact zBz HB.o (I7.ge HI0.o) GE223.o | exact zBy HB.o GE223.o); rintro e w57 ⟨rfl, hi, hb, hk⟩; refine ⟨_, rfl, ?_⟩; replace BK223 := zkb hk BK223.o NB223_0.o; replace HK := zkt HK hk; replace HB := am (hb); replace HI0 := am (hi); clear hb hk hi) | ((with_reducible refine zgc 75 rfl ?_); refine zgl 17 Tryz.func75 #[.pointer (some ⟨g, 0, none⟩), .int .i64 3] ?_; (with_reducible refine (qb.calls g s0_0 t234 t235 3 t236 t237 t238 w0 _ ?side1 ?side2 A6.o).mono ?_); (case side1 => exact I7.zJ HI0.o NB0_223.o); (case side2 => first | exact zBz HB.o (I7.ge HI0.o) GE223.o | exact zBy HB.o GE223.o); rintro e w58 ⟨rfl, hi, hb, hk⟩; refine ⟨_, rfl, ?_⟩; replace BK223 := zkb hk BK223.o NB223_0.o; replace HK := zkt HK hk; replace HB := am (hb); replace HI0 := am (hi); clear hb hk hi) | ((with_reducible refine zgc 75 rfl ?_); refine zgl 23 Tryz.func75 #[.pointer (some ⟨g, 0, none⟩), .int .i64 12] ?_; (with_reducible refine (qb.calls g s0_0 t237 t238 12 t239 t240 t241 w0 _ ?side1 ?side2 A7.o).mono ?_); (case side1 => exact I7.zJ HI0.o NB0_223.o); (case side2 => first | exact zBz HB.o (I7.ge HI0.o) GE223.o | exact zBy HB.o GE223.o); rintro e w59 ⟨rfl, hi, hb, hk⟩; refine ⟨_, rfl, ?_⟩; replace BK223 := zkb hk BK223.o NB223_0.o; replace HK := zkt HK hk; replace HB := am (hb); replace HI0 := am (hi); clear hb hk hi) | ((with_reducible refine zgd 4 rfl ?_); refine zbe 4 #[.int .i64 0, .int .i64 0, .int .i64 0, .int .i64 0, .int .i64 0, .int .i64 0] 25 ?_; intro gb242 hg w60 hbox hb; replace HB := am (bsq (by first | exact zBz HB.o (I7.ge HI0.o) GE223.o | exact zBy HB.o GE223.o) hb); have BK242 := am (hbox); have GW242 := zkw hg HK; have GE242 := zkv HW0 GW242; replace HK := zkq HK hb; have NB223_242 := znl hg BK223.o; have NB242_223 := zng hg BK223.o; replace BK223 := zbl BK223.o hb; have NB0_242 := am ((by rw [hg]; exact Nat.ne_of_lt (I7.lt (show I7 w0 _ g s0_0 t240 t241 from I7.zJ HI0.o NB0_223.o)) : g ≠ gb242)); have NB242_0 := am ((by rw [hg]; exact Nat.ne_of_gt (I7.lt (show I7 w0 _ g s0_0 t240 t241 from I7.zJ HI0.o NB0_223.o)) : gb242 ≠ g)); replace HI0 := am (I7.below (I7.zF HI0.o NB0_223.o) hb); clear hb hbox hg; have hnb61 := NB242_223.o; have hnc61 := NB223_242.o; have hnb62 := NB242_0.o; have hnc62 := NB0_242.o; have hcz63 := zc6 BK242.o) | ((with_reducible refine zgc 75 rfl ?_); refine zgl 27 Tryz.func75 #[.pointer (some ⟨g, 0, none⟩), .int .i64 24] ?_; (with_reducible refine (qb.calls g s0_0 t240 t241 24 t243 t244 t245 w0 _ ?side1 ?side2 A8.o).mono ?_); (case side1 => exact zhI71 HI0.o); (case side2 => exact zhB HB.o); rintro e w64 ⟨rfl, hi, hb, hk⟩; refine ⟨_, rfl, ?_⟩; replace BK223 := zkb hk BK223.o NB223_0.o; replace BK242 := am (Kq.blk hk (g' := gb242) (o := .cells #[.int .i64 (wrap64 (1 + t227)), .int .i64 (wrap64 (1 + t230)), .int .i64 (wrap64 (1 + t233)), .int .i64 (wrap64 (1 + t236)), .int .i64 t224, .int .i64 (wrap64 ((wrap64 (t224 + 1)) + t239))] 25 (0, 0)) (zbp BK242.o) NB242_0.o (by simp)); replace HK := zkt HK hk; replace HB := am (hb); replace HI0 := am (hi); clear hb hk hi) | ((with_reducible refine zgd 43 rfl ?_); refine Kd.R_lit (Kd.int .i64) _ 3 ?hg (N := 43) ?hd (xs := ([0, 4] : List Int)) (inner := [.int .i64 0, .int .i64 4]) (ok := fun _ => True) (okp := fun _ => True) ?hr ?hp (fun _ hk => hk) trivial (Below.refl _ _) (Nat.le_refl _) (by simp) ?_; (case hd => rfl); (case hg => rfl); (case hr => exact zsx); (case hp => exact (Reps.one (show Kd.M (Kd.int .i64) _ _ _ 0 [.int .i64 0] from rfl) (Reps.one (show Kd.M (Kd.int .i64) _ _ _ 4 [.int .i64 4] from rfl) (Reps.none _ _)))); intro v259 w65 ho66 hb hg_ hnew_; clear hg_ hnew_; (first | rw [← Ny258.o] at ho66 | (simp only [Int.reduceToNat] at ho66; rw [← Ny258.o] at ho66)); have HO260 := am (Kd.R_lower ho66 (keep_size (w := w) (g := g) (row := none) (zhK HK.o))); replace HI0 := am (I7.below (zhI71 HI0.o) hb); replace BK223 := zbl BK223.o hb; replace BK242 := zbl BK242.o hb; replace HK := zkq HK hb; replace HB := zhs HB hb; clear hb ho66; obtain ⟨Ao67, co67, eo67⟩ := Kd.R_slice HO260.o; subst eo67) | ((with_reducible refine zgc 96 rfl ?_); refine zgl 44 Tryz.func96 #[.pointer (some ⟨g, 0, none⟩), .slice Ao67 y258.length co67] ?_; (with_reducible refine (qy.calls g s0_0 t244 t245 _ _ y258 t261 t262 t263 w0 _ ?side1 ?side2 ?side3 ?side4 ?side5 A52.o).mono ?_); (case side1 => exact zhI71 HI0.o); (case side2 => exact zhB HB.o); (case side3 => exact zCx (Kd.R_reads' HO260.o).2.2); (case side4 => exact (Kd.R_reads' HO260.o).2.1); (case side5 => exact far_slice (I7.own_ne HI0.o HO260.o (by decide))); rintro e w68 ⟨rfl, hi, hb, hk⟩; refine ⟨_, rfl, ?_⟩; replace BK223 := zkb hk BK223.o NB223_0.o; replace BK242 := zkb hk BK242.o NB242_0.o; replace HO260 := am (Kd.R_mono (Kd.R_keep (I7.apart (show I7 w0 _ g s0_0 t244 t245 from zhI71 HI0.o) (zRx HO260.o) (by decide)) hk (fun _ h => h.2)) (fun _ h => h.1)); replace HK := zkt HK hk; replace HB := am (hb); replace HI0 := am (hi); clear hb hk hi; have hcz69 := zc6 BK242.o; have hnb70 := NB223_0.o; have hnc70 := NB0_223.o; have hcz71 := zc6 BK223.o))
   refine bodyPost_ret (results_cell_row rfl _ _ gb223 25 #[.int .i64 (wrap64 (1 + t227)), .int .i64 (wrap64 (1 + t230)), .int .i64 t261, .int .i64 (wrap64 (1 + t236)), .int .i64 t224, .int .i64 (wrap64 ((wrap64 (t224 + 1)) + t239))] (0, 0) _ rfl (zbp BK223.o) Tryz.underlying25 rfl (by kernel_rfl)) rfl ?_
   exact ⟨zew, zhI71 HI0.o, zhB HB.o, zhK HK.o⟩
 rw [if_neg c51] at H
 have c51b0 := beq_eq_false_iff_ne.mpr c51
 have c51b1 := bne_iff_ne.mpr c51
 by_cases c72 : t243 = 3
 ·rw [if_pos c72] at H
  have c72b0 := beq_iff_eq.mpr c72
  have c72b1 := bne_eq_false_iff_eq.mpr c72
  clear c72
  obtain ⟨y264, hy264⟩ : ∃ y_ : List Int, y_ = (([0, 9, 10] : List Int)) := ⟨_, rfl⟩
  replace H : ((qy.f s0_0 t244 t245 y264).bind fun bt267 => (some (wrap64 (1 + t227), wrap64 (1 + t230), wrap64 (1 + t233), bt267.1, t224, wrap64 ((wrap64 (t224 + 1)) + t239), bt267.2.1, bt267.2.2))) = some (r1, r2, r3, r4, r5, r6, r7, r8) := by rw [hy264]; exact H
  have Ny264 := am hy264
  clear hy264
  obtain ⟨⟨t267, t268, t269⟩, A73, H⟩ := zob H
  try dsimp only at H
  focus
   simp only [Option.some.injEq, Prod.mk.injEq] at H
   obtain ⟨rfl, rfl, rfl, rfl, rfl, rfl, rfl, rfl⟩ := H
   go_enter Tryz.func49, Tryz.ntmps49
   go_wp2_with (first | ((with_reducible refine zgd 2 rfl ?_); refine zbe 2 #[.int .i64 0, .int .i64 0, .int .i64 0, .int .i64 0, .int .i64 0, .int .i64 0] 25 ?_; intro gb223 hg w74 hbox hb; replace HB := am (bsq (by first | exact zBy HB.o (I7.ge HI0.o) | exact zBx HB.o) hb); have BK223 := am (hbox); have GW223 := zkw hg HK; have GE223 := zkv HW0 GW223; replace HK := zkq HK hb; have NB0_223 := am ((by rw [hg]; exact Nat.ne_of_lt (I7.lt (show I7 w0 _ g s0_0 s0_1 s0_2 from I7.zI HI0.o)) : g ≠ gb223)); have NB223_0 := am ((by rw [hg]; exact Nat.ne_of_gt (I7.lt (show I7 w0 _ g s0_0 s0_1 s0_2 from I7.zI HI0.o)) : gb223 ≠ g)); replace HI0 := am (I7.below (I7.zI HI0.o) hb); clear hb hbox hg) | ((with_reducible refine zgc 75 rfl ?_); refine zgl 6 Tryz.func75 #[.pointer (some ⟨g, 0, none⟩), .int .i64 30] ?_; (with_reducible refine (qb.calls g s0_0 s0_1 s0_2 30 t224 t225 t226 w0 _ ?side1 ?side2 A2.o).mono ?_); (case side1 => exact I7.zJ HI0.o NB0_223.o); (case side2 => first | exact zBz HB.o (I7.ge HI0.o) GE223.o | exact zBy HB.o GE223.o); rintro e w75 ⟨rfl, hi, hb, hk⟩; refine ⟨_, rfl, ?_⟩; replace BK223 := zkb hk BK223.o NB223_0.o; replace HK := zkt HK hk; replace HB := am (hb); replace HI0 := am (hi); clear hb hk hi) | ((with_reducible refine zgc 75 rfl ?_); refine zgl 8 Tryz.func75 #[.pointer (some ⟨g, 0, none⟩), .int .i64 9] ?_; (with_reducible refine (qb.calls g s0_0 t225 t226 9 t227 t228 t229 w0 _ ?side1 ?side2 A3.o).mono ?_); (case side1 => exact I7.zJ HI0.o NB0_223.o); (case side2 => first | exact zBz HB.o (I7.ge HI0.o) GE223.o | exact zBy HB.o GE223.o); rintro e w76 ⟨rfl, hi, hb, hk⟩; refine ⟨_, rfl, ?_⟩; replace BK223 := zkb hk BK223.o NB223_0.o; replace HK := zkt HK hk; replace HB := am (hb); replace HI0 := am (hi); clear hb hk hi) | ((with_reducible refine zgc 75 rfl ?_); refine zgl 11 Tryz.func75 #[.pointer (some ⟨g, 0, none⟩), .int .i64 3] ?_; (with_reducible refine (qb.calls g s0_0 t228 t229 3 t230 t231 t232 w0 _ ?side1 ?side2 A4.o).mono ?_); (case side1 => exact I7.zJ HI0.o NB0_223.o); (case side2 => first | exact zBz HB.o (I7.ge HI0.o) GE223.o | exact zBy HB.o GE223.o); rintro e w77 ⟨rfl, hi, hb, hk⟩; refine ⟨_, rfl, ?_⟩; replace BK223 := zkb hk BK223.o NB223_0.o; replace HK := zkt HK hk; replace HB := am (hb); replace HI0 := am (hi); clear hb hk hi) | ((with_reducible refine zgc 75 rfl ?_); refine zgl 14 Tryz.func75 #[.pointer (some ⟨g, 0, none⟩), .int .i64 3] ?_; (with_reducible refine (qb.calls g s0_0 t231 t232 3 t233 t234 t235 w0 _ ?side1 ?side2 A5.o).mono ?_); (case side1 => exact I7.zJ HI0.o NB0_223.o); (case side2 => first | exact zBz HB.o (I7.ge HI0.o) GE223.o | exact zBy HB.o GE223.o); rintro e w78 ⟨rfl, hi, hb, hk⟩; refine ⟨_, rfl, ?_⟩; replace BK223 := zkb hk BK223.o NB223_0.o; replace HK := zkt HK hk; replace HB := am (hb); replace HI0 := am (hi); clear hb hk hi) | ((with_reducible refine zgc 75 rfl ?_); refine zgl 17 Tryz.func75 #[.pointer (some ⟨g, 0, none⟩), .int .i64 3] ?_; (with_reducible refine (qb.calls g s0_0 t234 t235 3 t236 t237 t238 w0 _ ?side1 ?side2 A6.o).mono ?_); (case side1 => exact I7.zJ HI0.o NB0_223.o); (case side2 => first | exact zBz HB.o (I7.ge HI0.o) GE223.o | exact zBy HB.o GE223.o); rintro e w79 ⟨rfl, hi, hb, hk⟩; refine ⟨_, rfl, ?_⟩; replace BK223 := zkb hk BK223.o NB223_0.o; replace HK := zkt HK hk; replace HB := am (hb); replace HI0 := am (hi); clear hb hk hi) | ((with_reducible refine zgc 75 rfl ?_); refine zgl 23 Tryz.func75 #[.pointer (some ⟨g, 0, none⟩), .int .i64 12] ?_; (with_reducible refine (qb.calls g s0_0 t237 t238 12 t239 t240 t241 w0 _ ?side1 ?side2 A7.o).mono ?_); (case side1 => exact I7.zJ HI0.o NB0_223.o); (case side2 => first | exact zBz HB.o (I7.ge HI0.o) GE223.o | exact zBy HB.o GE223.o); rintro e w80 ⟨rfl, hi, hb, hk⟩; refine ⟨_, rfl, ?_⟩; replace BK223 := zkb hk BK223.o NB223_0.o; replace HK := zkt HK hk; replace HB := am (hb); replace HI0 := am (hi); clear hb hk hi) | ((with_reducible refine zgd 4 rfl ?_); refine zbe 4 #[.int .i64 0, .int .i64 0, .int .i64 0, .int .i64 0, .int .i64 0, .int .i64 0] 25 ?_; intro gb242 hg w81 hbox hb; replace HB := am (bsq (by first | exact zBz HB.o (I7.ge HI0.o) GE223.o | exact zBy HB.o GE223.o) hb); have BK242 := am (hbox); have GW242 := zkw hg HK; have GE242 := zkv HW0 GW242; replace HK := zkq HK hb; have NB223_242 := znl hg BK223.o; have NB242_223 := zng hg BK223.o; replace BK223 := zbl BK223.o hb; have NB0_242 := am ((by rw [hg]; exact Nat.ne_of_lt (I7.lt (show I7 w0 _ g s0_0 t240 t241 from I7.zJ HI0.o NB0_223.o)) : g ≠ gb242)); have NB242_0 := am ((by rw [hg]; exact Nat.ne_of_gt (I7.lt (show I7 w0 _ g s0_0 t240 t241 from I7.zJ HI0.o NB0_223.o)) : gb242 ≠ g)); replace HI0 := am (I7.below (I7.zF HI0.o NB0_223.o) hb); clear hb hbox hg; have hnb82 := NB242_223.o; have hnc82 := NB223_242.o; have hnb83 := NB242_0.o; have hnc83 := NB0_242.o; have hcz84 := zc6 BK242.o) | ((with_reducible refine zgc 75 rfl ?_); refine zgl 27 Tryz.func75 #[.pointer (some ⟨g, 0, none⟩), .int .i64 24] ?_; (with_reducible refine (qb.calls g s0_0 t240 t241 24 t243 t244 t245 w0 _ ?side1 ?side2 A8.o).mono ?_); (case side1 => exact zhI71 HI0.o); (case side2 => exact zhB HB.o); rintro e w85 ⟨rfl, hi, hb, hk⟩; refine ⟨_, rfl, ?_⟩; replace BK223 := zkb hk BK223.o NB223_0.o; replace BK242 := am (Kq.blk hk (g' := gb242) (o := .cells #[.int .i64 (wrap64 (1 + t227)), .int .i64 (wrap64 (1 + t230)), .int .i64 (wrap64 (1 + t233)), .int .i64 (wrap64 (1 + t236)), .int .i64 t224, .int .i64 (wrap64 ((wrap64 (t224 + 1)) + t239))] 25 (0, 0)) (zbp BK242.o) NB242_0.o (by simp)); replace HK := zkt HK hk; replace HB := am (hb); replace HI0 := am (hi); clear hb hk hi) | ((with_reducible refine zgd 49 rfl ?_); refine Kd.R_lit (Kd.int .i64) _ 3 ?hg (N := 49) ?hd (xs := ([0, 9, 10] : List Int)) (inner := [.int .i64 0, .int .i64 9, .int .i64 10]) (ok := fun _ => True) (okp := fun _ => True) ?hr ?hp (fun _ hk => hk) trivial (Below.refl _ _) (Nat.le_refl _) (by simp) ?_; (case hd => rfl); (case hg => rfl); (case hr => exact zsx); (case hp => exact (Reps.one (show Kd.M (Kd.int .i64) _ _ _ 0 [.int .i64 0] from rfl) (Reps.one (show Kd.M (Kd.int .i64) _ _ _ 9 [.int .i64 9] from rfl) (Reps.one (show Kd.M (Kd.int .i64) _ _ _ 10 [.int .i64 10] from rfl) (Reps.none _ _))))); intro v265 w86 ho87 hb hg_ hnew_; clear hg_ hnew_; (first | rw [← Ny264.o] at ho87 | (simp only [Int.reduceToNat] at ho87; rw [← Ny264.o] at ho87)); have HO266 := am (Kd.R_lower ho87 (keep_size (w := w) (g := g) (row := none) (zhK HK.o))); replace HI0 := am (I7.below (zhI71 HI0.o) hb); replace BK223 := zbl BK223.o hb; replace BK242 := zbl BK242.o hb; replace HK := zkq HK hb; replace HB := zhs HB hb; clear hb ho87; obtain ⟨Ao88, co88, eo88⟩ := Kd.R_slice HO266.o; subst eo88) | ((with_reducible refine zgc 96 rfl ?_); refine zgl 50 Tryz.func96 #[.pointer (some ⟨g, 0, none⟩), .slice Ao88 y264.length co88] ?_; (with_reducible refine (qy.calls g s0_0 t244 t245 _ _ y264 t267 t268 t269 w0 _ ?side1 ?side2 ?side3 ?side4 ?side5 A73.o).mono ?_); (case side1 => exact zhI71 HI0.o); (case side2 => exact zhB HB.o); (case side3 => exact zCx (Kd.R_reads' HO266.o).2.2); (case side4 => exact (Kd.R_reads' HO266.o).2.1); (case side5 => exact far_slice (I7.own_ne HI0.o HO266.o (by decide))); rintro e w89 ⟨rfl, hi, hb, hk⟩; refine ⟨_, rfl, ?_⟩; replace BK223 := zkb hk BK223.o NB223_0.o; replace BK242 := zkb hk BK242.o NB242_0.o; replace HO266 := am (Kd.R_mono (Kd.R_keep (I7.apart (show I7 w0 _ g s0_0 t244 t245 from zhI71 HI0.o) (zRx HO266.o) (by decide)) hk (fun _ h => h.2)) (fun _ h => h.1)); replace HK := zkt HK hk; replace HB := am (hb); replace HI0 := am (hi); clear hb hk hi; have hcz90 := zc6 BK242.o; have hnb91 := NB223_0.o; have hnc91 := NB0_223.o; have hcz92 := zc6 BK223.o))
   refine bodyPost_ret (results_cell_row rfl _ _ gb223 25 #[.int .i64 (wrap64 (1 + t227)), .int .i64 (wrap64 (1 + t230)), .int .i64 (wrap64 (1 + t233)), .int .i64 t267, .int .i64 t224, .int .i64 (wrap64 ((wrap64 (t224 + 1)) + t239))] (0, 0) _ rfl (zbp BK223.o) Tryz.underlying25 rfl (by kernel_rfl)) rfl ?_
   exact ⟨zew, zhI71 HI0.o, zhB HB.o, zhK HK.o⟩
 rw [if_neg c72] at H
 have c72b0 := beq_eq_false_iff_ne.mpr c72
 have c72b1 := bne_iff_ne.mpr c72
 by_cases c93 : t243 = 4
 rotate_left
 ·rw [if_neg c93] at H
  have c93b0 := beq_eq_false_iff_ne.mpr c93
  have c93b1 := bne_iff_ne.mpr c93
  focus
   simp only [Option.some.injEq, Prod.mk.injEq] at H
   obtain ⟨rfl, rfl, rfl, rfl, rfl, rfl, rfl, rfl⟩ := H
   go_enter Tryz.func49, Tryz.ntmps49
   go_wp2_with (first | ((with_reducible refine zgd 2 rfl ?_); refine zbe 2 #[.int .i64 0, .int .i64 0, .int .i64 0, .int .i64 0, .int .i64 0, .int .i64 0] 25 ?_; intro gb223 hg w115 hbox hb; replace HB := am (bsq (by first | exact zBy HB.o (I7.ge HI0.o) | exact zBx HB.o) hb); have BK223 := am (hbox); have GW223 := zkw hg HK; have GE223 := zkv HW0 GW223; replace HK := zkq HK hb; have NB0_223 := am ((by rw [hg]; exact Nat.ne_of_lt (I7.lt (show I7 w0 _ g s0_0 s0_1 s0_2 from I7.zI HI0.o)) : g ≠ gb223)); have NB223_0 := am ((by rw [hg]; exact Nat.ne_of_gt (I7.lt (show I7 w0 _ g s0_0 s0_1 s0_2 from I7.zI HI0.o)) : gb223 ≠ g)); replace HI0 := am (I7.below (I7.zI HI0.o) hb); clear hb hbox hg) | ((with_reducible refine zgc 75 rfl ?_); refine zgl 6 Tryz.func75 #[.pointer (some ⟨g, 0, none⟩), .int .i64 30] ?_; (with_reducible refine (qb.calls g s0_0 s0_1 s0_2 30 t224 t225 t226 w0 _ ?side1 ?side2 A2.o).mono ?_); (case side1 => exact I7.zJ HI0.o NB0_223.o); (case side2 => first | exact zBz HB.o (I7.ge HI0.o) GE223.o | exact zBy HB.o GE223.o); rintro e w116 ⟨rfl, hi, hb, hk⟩; refine ⟨_, rfl, ?_⟩; replace BK223 := zkb hk BK223.o NB223_0.o; replace HK := zkt HK hk; replace HB := am (hb); replace HI0 := am (hi); clear hb hk hi) | ((with_reducible refine zgc 75 rfl ?_); refine zgl 8 Tryz.func75 #[.pointer (some ⟨g, 0, none⟩), .int .i64 9] ?_; (with_reducible refine (qb.calls g s0_0 t225 t226 9 t227 t228 t229 w0 _ ?side1 ?side2 A3.o).mono ?_); (case side1 => exact I7.zJ HI0.o NB0_223.o); (case side2 => first | exact zBz HB.o (I7.ge HI0.o) GE223.o | exact zBy HB.o GE223.o); rintro e w117 ⟨rfl, hi, hb, hk⟩; refine ⟨_, rfl, ?_⟩; replace BK223 := zkb hk BK223.o NB223_0.o; replace HK := zkt HK hk; replace HB := am (hb); replace HI0 := am (hi); clear hb hk hi) | ((with_reducible refine zgc 75 rfl ?_); refine zgl 11 Tryz.func75 #[.pointer (some ⟨g, 0, none⟩), .int .i64 3] ?_; (with_reducible refine (qb.calls g s0_0 t228 t229 3 t230 t231 t232 w0 _ ?side1 ?side2 A4.o).mono ?_); (case side1 => exact I7.zJ HI0.o NB0_223.o); (case side2 => first | exact zBz HB.o (I7.ge HI0.o) GE223.o | exact zBy HB.o GE223.o); rintro e w118 ⟨rfl, hi, hb, hk⟩; refine ⟨_, rfl, ?_⟩; replace BK223 := zkb hk BK223.o NB223_0.o; replace HK := zkt HK hk; replace HB := am (hb); replace HI0 := am (hi); clear hb hk hi) | ((with_reducible refine zgc 75 rfl ?_); refine zgl 14 Tryz.func75 #[.pointer (some ⟨g, 0, none⟩), .int .i64 3] ?_; (with_reducible refine (qb.calls g s0_0 t231 t232 3 t233 t234 t235 w0 _ ?side1 ?side2 A5.o).mono ?_); (case side1 => exact I7.zJ HI0.o NB0_223.o); (case side2 => first | exact zBz HB.o (I7.ge HI0.o) GE223.o | exact zBy HB.o GE223.o); rintro e w119 ⟨rfl, hi, hb, hk⟩; refine ⟨_, rfl, ?_⟩; replace BK223 := zkb hk BK223.o NB223_0.o; replace HK := zkt HK hk; replace HB := am (hb); replace HI0 := am (hi); clear hb hk hi) | ((with_reducible refine zgc 75 rfl ?_); refine zgl 17 Tryz.func75 #[.pointer (some ⟨g, 0, none⟩), .int .i64 3] ?_; (with_reducible refine (qb.calls g s0_0 t234 t235 3 t236 t237 t238 w0 _ ?side1 ?side2 A6.o).mono ?_); (case side1 => exact I7.zJ HI0.o NB0_223.o); (case side2 => first | exact zBz HB.o (I7.ge HI0.o) GE223.o | exact zBy HB.o GE223.o); rintro e w120 ⟨rfl, hi, hb, hk⟩; refine ⟨_, rfl, ?_⟩; replace BK223 := zkb hk BK223.o NB223_0.o; replace HK := zkt HK hk; replace HB := am (hb); replace HI0 := am (hi); clear hb hk hi) | ((with_reducible refine zgc 75 rfl ?_); refine zgl 23 Tryz.func75 #[.pointer (some ⟨g, 0, none⟩), .int .i64 12] ?_; (with_reducible refine (qb.calls g s0_0 t237 t238 12 t239 t240 t241 w0 _ ?side1 ?side2 A7.o).mono ?_); (case side1 => exact I7.zJ HI0.o NB0_223.o); (case side2 => first | exact zBz HB.o (I7.ge HI0.o) GE223.o | exact zBy HB.o GE223.o); rintro e w121 ⟨rfl, hi, hb, hk⟩; refine ⟨_, rfl, ?_⟩; replace BK223 := zkb hk BK223.o NB223_0.o; replace HK := zkt HK hk; replace HB := am (hb); replace HI0 := am (hi); clear hb hk hi) | ((with_reducible refine zgd 4 rfl ?_); refine zbe 4 #[.int .i64 0, .int .i64 0, .int .i64 0, .int .i64 0, .int .i64 0, .int .i64 0] 25 ?_; intro gb242 hg w122 hbox hb; replace HB := am (bsq (by first | exact zBz HB.o (I7.ge HI0.o) GE223.o | exact zBy HB.o GE223.o) hb); have BK242 := am (hbox); have GW242 := zkw hg HK; have GE242 := zkv HW0 GW242; replace HK := zkq HK hb; have NB223_242 := znl hg BK223.o; have NB242_223 := zng hg BK223.o; replace BK223 := zbl BK223.o hb; have NB0_242 := am ((by rw [hg]; exact Nat.ne_of_lt (I7.lt (show I7 w0 _ g s0_0 t240 t241 from I7.zJ HI0.o NB0_223.o)) : g ≠ gb242)); have NB242_0 := am ((by rw [hg]; exact Nat.ne_of_gt (I7.lt (show I7 w0 _ g s0_0 t240 t241 from I7.zJ HI0.o NB0_223.o)) : gb242 ≠ g)); replace HI0 := am (I7.below (I7.zF HI0.o NB0_223.o) hb); clear hb hbox hg; have hnb123 := NB242_223.o; have hnc123 := NB223_242.o; have hnb124 := NB242_0.o; have hnc124 := NB0_242.o; have hcz125 := zc6 BK242.o) | ((with_reducible refine zgc 75 rfl ?_); refine zgl 27 Tryz.func75 #[.pointer (some ⟨g, 0, none⟩), .int .i64 24] ?_; (with_reducible refine (qb.calls g s0_0 t240 t241 24 t243 t244 t245 w0 _ ?side1 ?side2 A8.o).mono ?_); (case side1 => exact zhI71 HI0.o); (case side2 => exact zhB HB.o); rintro e w126 ⟨rfl, hi, hb, hk⟩; refine ⟨_, rfl, ?_⟩; replace BK223 := zkb hk BK223.o NB223_0.o; replace BK242 := am (Kq.blk hk (g' := gb242) (o := .cells #[.int .i64 (wrap64 (1 + t227)), .int .i64 (wrap64 (1 + t230)), .int .i64 (wrap64 (1 + t233)), .int .i64 (wrap64 (1 + t236)), .int .i64 t224, .int .i64 (wrap64 ((wrap64 (t224 + 1)) + t239))] 25 (0, 0)) (zbp BK242.o) NB242_0.o (by simp)); replace HK := zkt HK hk; replace HB := am (hb); replace HI0 := am (hi); clear hb hk hi; have hcz127 := zc6 BK242.o; have hnb128 := NB223_0.o; have hnc128 := NB0_223.o; have hcz129 := zc6 BK223.o))
   refine bodyPost_ret (results_cell_row rfl _ _ gb223 25 #[.int .i64 (wrap64 (1 + t227)), .int .i64 (wrap64 (1 + t230)), .int .i64 (wrap64 (1 + t233)), .int .i64 (wrap64 (1 + t236)), .int .i64 t224, .int .i64 (wrap64 ((wrap64 (t224 + 1)) + t239))] (0, 0) _ rfl (zbp BK223.o) Tryz.underlying25 rfl (by kernel_rfl)) rfl ?_
   exact ⟨zew, zhI71 HI0.o, zhB HB.o, zhK HK.o⟩
 rw [if_pos c93] at H
 have c93b0 := beq_iff_eq.mpr c93
 have c93b1 := bne_eq_false_iff_eq.mpr c93
 clear c93
 obtain ⟨y270, hy270⟩ : ∃ y_ : List Int, y_ = (([t224, 240, 241] : List Int)) := ⟨_, rfl⟩
 replace H : ((qy.f s0_0 t244 t245 y270).bind fun bt273 => (some (wrap64 (1 + t227), wrap64 (1 + t230), wrap64 (1 + t233), wrap64 (1 + t236), t224, bt273.1, bt273.2.1, bt273.2.2))) = some (r1, r2, r3, r4, r5, r6, r7, r8) := by rw [hy270]; exact H
 have Ny270 := am hy270
 clear hy270
 obtain ⟨⟨t273, t274, t275⟩, A94, H⟩ := zob H
 try dsimp only at H
 focus
  simp only [Option.some.injEq, Prod.mk.injEq] at H
  obtain ⟨rfl, rfl, rfl, rfl, rfl, rfl, rfl, rfl⟩ := H
  go_enter Tryz.func49, Tryz.ntmps49
  go_wp2_with (first | ((with_reducible refine zgd 2 rfl ?_); refine zbe 2 #[.int .i64 0, .int .i64 0, .int .i64 0, .int .i64 0, .int .i64 0, .int .i64 0] 25 ?_; intro gb223 hg w95 hbox hb; replace HB := am (bsq (by first | exact zBy HB.o (I7.ge HI0.o) | exact zBx HB.o) hb); have BK223 := am (hbox); have GW223 := zkw hg HK; have GE223 := zkv HW0 GW223; replace HK := zkq HK hb; have NB0_223 := am ((by rw [hg]; exact Nat.ne_of_lt (I7.lt (show I7 w0 _ g s0_0 s0_1 s0_2 from I7.zI HI0.o)) : g ≠ gb223)); have NB223_0 := am ((by rw [hg]; exact Nat.ne_of_gt (I7.lt (show I7 w0 _ g s0_0 s0_1 s0_2 from I7.zI HI0.o)) : gb223 ≠ g)); replace HI0 := am (I7.below (I7.zI HI0.o) hb); clear hb hbox hg) | ((with_reducible refine zgc 75 rfl ?_); refine zgl 6 Tryz.func75 #[.pointer (some ⟨g, 0, none⟩), .int .i64 30] ?_; (with_reducible refine (qb.calls g s0_0 s0_1 s0_2 30 t224 t225 t226 w0 _ ?side1 ?side2 A2.o).mono ?_); (case side1 => exact I7.zJ HI0.o NB0_223.o); (case side2 => first | exact zBz HB.o (I7.ge HI0.o) GE223.o | exact zBy HB.o GE223.o); rintro e w96 ⟨rfl, hi, hb, hk⟩; refine ⟨_, rfl, ?_⟩; replace BK223 := zkb hk BK223.o NB223_0.o; replace HK := zkt HK hk; replace HB := am (hb); replace HI0 := am (hi); clear hb hk hi) | ((with_reducible refine zgc 75 rfl ?_); refine zgl 8 Tryz.func75 #[.pointer (some ⟨g, 0, none⟩), .int .i64 9] ?_; (with_reducible refine (qb.calls g s0_0 t225 t226 9 t227 t228 t229 w0 _ ?side1 ?side2 A3.o).mono ?_); (case side1 => exact I7.zJ HI0.o NB0_223.o); (case side2 => first | exact zBz HB.o (I7.ge HI0.o) GE223.o | exact zBy HB.o GE223.o); rintro e w97 ⟨rfl, hi, hb, hk⟩; refine ⟨_, rfl, ?_⟩; replace BK223 := zkb hk BK223.o NB223_0.o; replace HK := zkt HK hk; replace HB := am (hb); replace HI0 := am (hi); clear hb hk hi) | ((with_reducible refine zgc 75 rfl ?_); refine zgl 11 Tryz.func75 #[.pointer (some ⟨g, 0, none⟩), .int .i64 3] ?_; (with_reducible refine (qb.calls g s0_0 t228 t229 3 t230 t231 t232 w0 _ ?side1 ?side2 A4.o).mono ?_); (case side1 => exact I7.zJ HI0.o NB0_223.o); (case side2 => first | exact zBz HB.o (I7.ge HI0.o) GE223.o | exact zBy HB.o GE223.o); rintro e w98 ⟨rfl, hi, hb, hk⟩; refine ⟨_, rfl, ?_⟩; replace BK223 := zkb hk BK223.o NB223_0.o; replace HK := zkt HK hk; replace HB := am (hb); replace HI0 := am (hi); clear hb hk hi) | ((with_reducible refine zgc 75 rfl ?_); refine zgl 14 Tryz.func75 #[.pointer (some ⟨g, 0, none⟩), .int .i64 3] ?_; (with_reducible refine (qb.calls g s0_0 t231 t232 3 t233 t234 t235 w0 _ ?side1 ?side2 A5.o).mono ?_); (case side1 => exact I7.zJ HI0.o NB0_223.o); (case side2 => first | exact zBz HB.o (I7.ge HI0.o) GE223.o | exact zBy HB.o GE223.o); rintro e w99 ⟨rfl, hi, hb, hk⟩; refine ⟨_, rfl, ?_⟩; replace BK223 := zkb hk BK223.o NB223_0.o; replace HK := zkt HK hk; replace HB := am (hb); replace HI0 := am (hi); clear hb hk hi) | ((with_reducible refine zgc 75 rfl ?_); refine zgl 17 Tryz.func75 #[.pointer (some ⟨g, 0, none⟩), .int .i64 3] ?_; (with_reducible refine (qb.calls g s0_0 t234 t235 3 t236 t237 t238 w0 _ ?side1 ?side2 A6.o).mono ?_); (case side1 => exact I7.zJ HI0.o NB0_223.o); (case side2 => first | exact zBz HB.o (I7.ge HI0.o) GE223.o | exact zBy HB.o GE223.o); rintro e w100 ⟨rfl, hi, hb, hk⟩; refine ⟨_, rfl, ?_⟩; replace BK223 := zkb hk BK223.o NB223_0.o; replace HK := zkt HK hk; replace HB := am (hb); replace HI0 := am (hi); clear hb hk hi) | ((with_reducible refine zgc 75 rfl ?_); refine zgl 23 Tryz.func75 #[.pointer (some ⟨g, 0, none⟩), .int .i64 12] ?_; (with_reducible refine (qb.calls g s0_0 t237 t238 12 t239 t240 t241 w0 _ ?side1 ?side2 A7.o).mono ?_); (case side1 => exact I7.zJ HI0.o NB0_223.o); (case side2 => first | exact zBz HB.o (I7.ge HI0.o) GE223.o | exact zBy HB.o GE223.o); rintro e w101 ⟨rfl, hi, hb, hk⟩; refine ⟨_, rfl, ?_⟩; replace BK223 := zkb hk BK223.o NB223_0.o; replace HK := zkt HK hk; replace HB := am (hb); replace HI0 := am (hi); clear hb hk hi) | ((with_reducible refine zgd 4 rfl ?_); refine zbe 4 #[.int .i64 0, .int .i64 0, .int .i64 0, .int .i64 0, .int .i64 0, .int .i64 0] 25 ?_; intro gb242 hg w102 hbox hb; replace HB := am (bsq (by first | exact zBz HB.o (I7.ge HI0.o) GE223.o | exact zBy HB.o GE223.o) hb); have BK242 := am (hbox); have GW242 := zkw hg HK; have GE242 := zkv HW0 GW242; replace HK := zkq HK hb; have NB223_242 := znl hg BK223.o; have NB242_223 := zng hg BK223.o; replace BK223 := zbl BK223.o hb; have NB0_242 := am ((by rw [hg]; exact Nat.ne_of_lt (I7.lt (show I7 w0 _ g s0_0 t240 t241 from I7.zJ HI0.o NB0_223.o)) : g ≠ gb242)); have NB242_0 := am ((by rw [hg]; exact Nat.ne_of_gt (I7.lt (show I7 w0 _ g s0_0 t240 t241 from I7.zJ HI0.o NB0_223.o)) : gb242 ≠ g)); replace HI0 := am (I7.below (I7.zF HI0.o NB0_223.o) hb); clear hb hbox hg; have hnb103 := NB242_223.o; have hnc103 := NB223_242.o; have hnb104 := NB242_0.o; have hnc104 := NB0_242.o; have hcz105 := zc6 BK242.o) | ((with_reducible refine zgc 75 rfl ?_); refine zgl 27 Tryz.func75 #[.pointer (some ⟨g, 0, none⟩), .int .i64 24] ?_; (with_reducible refine (qb.calls g s0_0 t240 t241 24 t243 t244 t245 w0 _ ?side1 ?side2 A8.o).mono ?_); (case side1 => exact zhI71 HI0.o); (case side2 => exact zhB HB.o); rintro e w106 ⟨rfl, hi, hb, hk⟩; refine ⟨_, rfl, ?_⟩; replace BK223 := zkb hk BK223.o NB223_0.o; replace BK242 := am (Kq.blk hk (g' := gb242) (o := .cells #[.int .i64 (wrap64 (1 + t227)), .int .i64 (wrap64 (1 + t230)), .int .i64 (wrap64 (1 + t233)), .int .i64 (wrap64 (1 + t236)), .int .i64 t224, .int .i64 (wrap64 ((wrap64 (t224 + 1)) + t239))] 25 (0, 0)) (zbp BK242.o) NB242_0.o (by simp)); replace HK := zkt HK hk; replace HB := am (hb); replace HI0 := am (hi); clear hb hk hi; have hcz107 := zc6 BK242.o) | ((with_reducible refine zgd 57 rfl ?_); refine Kd.R_lit (Kd.int .i64) _ 3 ?hg (N := 57) ?hd (xs := ([t224, 240, 241] : List Int)) (inner := [.int .i64 t224, .int .i64 240, .int .i64 241]) (ok := fun _ => True) (okp := fun _ => True) ?hr ?hp (fun _ hk => hk) trivial (Below.refl _ _) (Nat.le_refl _) (by simp) ?_; (case hd => rfl); (case hg => rfl); (case hr => exact zsx); (case hp => exact (Reps.one (show Kd.M (Kd.int .i64) _ _ _ t224 [.int .i64 t224] from rfl) (Reps.one (show Kd.M (Kd.int .i64) _ _ _ 240 [.int .i64 240] from rfl) (Reps.one (show Kd.M (Kd.int .i64) _ _ _ 241 [.int .i64 241] from rfl) (Reps.none _ _))))); intro v271 w108 ho109 hb hg_ hnew_; clear hg_ hnew_; (first | rw [← Ny270.o] at ho109 | (simp only [Int.reduceToNat] at ho109; rw [← Ny270.o] at ho109)); have HO272 := am (Kd.R_lower ho109 (keep_size (w := w) (g := g) (row := none) (zhK HK.o))); replace HI0 := am (I7.below (zhI71 HI0.o) hb); replace BK223 := zbl BK223.o hb; replace BK242 := zbl BK242.o hb; replace HK := zkq HK hb; replace HB := zhs HB hb; clear hb ho109; obtain ⟨Ao110, co110, eo110⟩ := Kd.R_slice HO272.o; subst eo110) | ((with_reducible refine zgc 96 rfl ?_); refine zgl 58 Tryz.func96 #[.pointer (some ⟨g, 0, none⟩), .slice Ao110 y270.length co110] ?_; (with_reducible refine (qy.calls g s0_0 t244 t245 _ _ y270 t273 t274 t275 w0 _ ?side1 ?side2 ?side3 ?side4 ?side5 A94.o).mono ?_); (case side1 => exact zhI71 HI0.o); (case side2 => exact zhB HB.o); (case side3 => exact zCx (Kd.R_reads' HO272.o).2.2); (case side4 => exact (Kd.R_reads' HO272.o).2.1); (case side5 => exact far_slice (I7.own_ne HI0.o HO272.o (by decide))); rintro e w111 ⟨rfl, hi, hb, hk⟩; refine ⟨_, rfl, ?_⟩; replace BK223 := zkb hk BK223.o NB223_0.o; replace BK242 := zkb hk BK242.o NB242_0.o; replace HO272 := am (Kd.R_mono (Kd.R_keep (I7.apart (show I7 w0 _ g s0_0 t244 t245 from zhI71 HI0.o) (zRx HO272.o) (by decide)) hk (fun _ h => h.2)) (fun _ h => h.1)); replace HK := zkt HK hk; replace HB := am (hb); replace HI0 := am (hi); clear hb hk hi; have hcz112 := zc6 BK242.o; have hnb113 := NB223_0.o; have hnc113 := NB0_223.o; have hcz114 := zc6 BK223.o))
  refine bodyPost_ret (results_cell_row rfl _ _ gb223 25 #[.int .i64 (wrap64 (1 + t227)), .int .i64 (wrap64 (1 + t230)), .int .i64 (wrap64 (1 + t233)), .int .i64 (wrap64 (1 + t236)), .int .i64 t224, .int .i64 t273] (0, 0) _ rfl (zbp BK223.o) Tryz.underlying25 rfl (by kernel_rfl)) rfl ?_
  exact ⟨zew, zhI71 HI0.o, zhB HB.o, zhK HK.o⟩
def qO.f (a0 : Int) (a1 : Int) (a2 : Int) : Option (Bool) := if a0 ≥ a1 then (some (decide (a0 ≤ a2))) else (some false)
theorem qO.calls (a0 : Int) (a1 : Int) (a2 : Int) (r : Bool) (w : World) (h : qO.f a0 a1 a2 = some r) :
 Calls Tryz.prog 53 #[.int .i64 a0, .int .i64 a1, .int .i64 a2] w fun e w' => e = .returned (.bool r) ∧ Dq w w' := by
 unfold qO.f at h
 have H := h
 clear h
 by_cases c4 : a0 ≥ a1
 ·rw [if_pos c4] at H
  have c4b0 := decide_eq_true c4
  clear c4
  focus
   obtain rfl := Option.some.inj H
   go_enter Tryz.func53, Tryz.ntmps53
   go_wp2
   go_ret
   exact ⟨by first | rfl | (simp; done) | (simp [*]; done), by repeat (first | exact Dq.refl _ | apply Dq.step)⟩
 ·rw [if_neg c4] at H
  have c4b0 := decide_eq_false c4
  clear c4
  focus
   obtain rfl := Option.some.inj H
   go_enter Tryz.func53, Tryz.ntmps53
   go_wp2
   go_ret
   exact ⟨by first | rfl | (simp; done) | (simp [*]; done), by repeat (first | exact Dq.refl _ | apply Dq.step)⟩
def spec_l14Good.f (a0_0 : Int) (a0_1 : Int) (a0_2 : Int) (a0_3 : Int) (a0_4 : Int) (a0_5 : Int) : Option (Bool) := (qO.f a0_0 1 999).bind fun t277 => (if t277 = true then ((qO.f a0_1 1 5).bind fun t278 => (if t278 = true then ((qO.f a0_2 1 3).bind fun t279 => (if t279 = true then ((qO.f a0_3 1 9).bind fun t280 => (if t280 = true then ((qO.f a0_5 1 240).bind fun t281 => (if t281 = true then ((qO.f a0_4 0 (wrap64 (a0_5 - 1))).bind fun t282 => (some t282)) else (some false))) else (some false))) else (some false))) else (some false))) else (some false))
theorem zendnBulletinsx7_1 {P_ : Prop} (h_ : P_ := by
  obtain rfl := Option.some.inj H
  go_enter Tryz.func47, Tryz.ntmps47
  go_wp2_with (first | ((with_reducible refine zgd 1 rfl ?_); refine zbe 1 #[.int .i64 a0_0, .int .i64 a0_1, .int .i64 a0_2, .int .i64 a0_3, .int .i64 a0_4, .int .i64 a0_5] 25 ?_; intro gb276 hg w13 hbox hb; have BK276 := am (hbox); have GW276 := zns hg HB.o; have GE276 := zns hg HB.o; replace HB := zhs HB hb; clear hb hbox hg; have hcz14 := zc6 BK276.o) | ((with_reducible refine zgc 53 rfl ?_); refine zgl 5 Tryz.func53 #[.int .i64 a0_0, .int .i64 1, .int .i64 999] ?_; (with_reducible refine (qO.calls a0_0 1 999 _ _ A2.o).mono ?_); rintro e w' ⟨rfl, ⟨nd, rfl⟩⟩; refine ⟨_, rfl, ?_⟩) | (go_at_call 53; (with_reducible refine (qO.calls a0_1 1 5 _ _ A4.o).mono ?_); rintro e w' ⟨rfl, ⟨nd, rfl⟩⟩) | (go_at_call 53; (with_reducible refine (qO.calls a0_2 1 3 _ _ A6.o).mono ?_); rintro e w' ⟨rfl, ⟨nd, rfl⟩⟩) | (go_at_call 53; (with_reducible refine (qO.calls a0_3 1 9 _ _ A8.o).mono ?_); rintro e w' ⟨rfl, ⟨nd, rfl⟩⟩) | (go_at_call 53; (with_reducible refine (qO.calls a0_5 1 240 _ _ A10.o).mono ?_); rintro e w' ⟨rfl, ⟨nd, rfl⟩⟩) | (go_at_call 53; (with_reducible refine (qO.calls a0_4 0 (wrap64 (a0_5 - 1)) t282 _ A12.o).mono ?_); rintro e w' ⟨rfl, ⟨nd, rfl⟩⟩))
  go_ret
  exact ⟨zew, zBy HB.o GE276.o⟩) : P_ := h_
theorem spec_l14Good.calls (a0_0 : Int) (a0_1 : Int) (a0_2 : Int) (a0_3 : Int) (a0_4 : Int) (a0_5 : Int) (r : Bool) (w : World) (h : spec_l14Good.f a0_0 a0_1 a0_2 a0_3 a0_4 a0_5 = some r) :
 Calls Tryz.prog 47 #[.agg #[.int .i64 a0_0, .int .i64 a0_1, .int .i64 a0_2, .int .i64 a0_3, .int .i64 a0_4, .int .i64 a0_5]] w fun e w' => e = .returned (.bool r) ∧ Below w.heap.size w w' := by
 have hu25 := Tryz.underlying25
 have HB := am (Below.refl w.heap.size w)
 unfold spec_l14Good.f at h
 have H := h
 clear h
 obtain ⟨t277, A2, H⟩ := zob H
 try dsimp only at H
 by_cases c3 : t277 = true
 rotate_left
 ·replace c3 := Bool.eq_false_iff.mpr c3
  subst c3
  rw [if_neg (show ¬ (false = true) by decide)] at H
  focus
   exact zendnBulletinsx7_1
 subst c3
 rw [if_pos rfl] at H
 obtain ⟨t278, A4, H⟩ := zob H
 try dsimp only at H
 by_cases c5 : t278 = true
 rotate_left
 ·replace c5 := Bool.eq_false_iff.mpr c5
  subst c5
  rw [if_neg (show ¬ (false = true) by decide)] at H
  focus
   exact zendnBulletinsx7_1
 subst c5
 rw [if_pos rfl] at H
 obtain ⟨t279, A6, H⟩ := zob H
 try dsimp only at H
 by_cases c7 : t279 = true
 rotate_left
 ·replace c7 := Bool.eq_false_iff.mpr c7
  subst c7
  rw [if_neg (show ¬ (false = true) by decide)] at H
  focus
   exact zendnBulletinsx7_1
 subst c7
 rw [if_pos rfl] at H
 obtain ⟨t280, A8, H⟩ := zob H
 try dsimp only at H
 by_cases c9 : t280 = true
 rotate_left
 ·replace c9 := Bool.eq_false_iff.mpr c9
  subst c9
  rw [if_neg (show ¬ (false = true) by decide)] at H
  focus
   exact zendnBulletinsx7_1
 subst c9
 rw [if_pos rfl] at H
 obtain ⟨t281, A10, H⟩ := zob H
 try dsimp only at H
 by_cases c11 : t281 = true
 ·subst c11
  rw [if_pos rfl] at H
  obtain ⟨t282, A12, H⟩ := zob H
  try dsimp only at H
  focus
   exact zendnBulletinsx7_1
 ·replace c11 := Bool.eq_false_iff.mpr c11
  subst c11
  rw [if_neg (show ¬ (false = true) by decide)] at H
  focus
   exact zendnBulletinsx7_1
def spec_l14Meet.f (a0_0 : Int) (a0_1 : Int) (a0_2 : Int) (a0_3 : Int) (a0_4 : Int) (a0_5 : Int) (a1_0 : Int) (a1_1 : Int) (a1_2 : Int) (a1_3 : Int) (a1_4 : Int) (a1_5 : Int) : Option (Bool) := if a0_1 = a1_1 then (if a0_3 = a1_3 then (if a0_4 < a1_5 then (some (decide (a1_4 < a0_5))) else (some false)) else (some false)) else (some false)
theorem zendnBulletinsx7_2 {P_ : Prop} (h_ : P_ := by
  obtain rfl := Option.some.inj H
  go_enter Tryz.func133, Tryz.ntmps133
  go_wp2_with (first | ((with_reducible refine zgd 2 rfl ?_); refine zbe 2 #[.int .i64 a0_0, .int .i64 a0_1, .int .i64 a0_2, .int .i64 a0_3, .int .i64 a0_4, .int .i64 a0_5] 25 ?_; intro gb283 hg w6 hbox hb; have BK283 := am (hbox); have GW283 := zns hg HB.o; have GE283 := zns hg HB.o; replace HB := zhs HB hb; clear hb hbox hg) | ((with_reducible refine zgd 3 rfl ?_); refine zbe 3 #[.int .i64 a1_0, .int .i64 a1_1, .int .i64 a1_2, .int .i64 a1_3, .int .i64 a1_4, .int .i64 a1_5] 25 ?_; intro gb284 hg w7 hbox hb; have BK284 := am (hbox); have GW284 := zns hg HB.o; have GE284 := zns hg HB.o; replace HB := zhs HB hb; have NB283_284 := znl hg BK283.o; have NB284_283 := zng hg BK283.o; replace BK283 := zbl BK283.o hb; clear hb hbox hg; have hnb8 := NB283_284.o; have hnc8 := NB284_283.o; have hcz9 := zc6 BK283.o; have hcz10 := zc6 BK284.o))
  go_ret
  exact ⟨zew, zBz HB.o GE283.o GE284.o⟩) : P_ := h_
theorem spec_l14Meet.calls (a0_0 : Int) (a0_1 : Int) (a0_2 : Int) (a0_3 : Int) (a0_4 : Int) (a0_5 : Int) (a1_0 : Int) (a1_1 : Int) (a1_2 : Int) (a1_3 : Int) (a1_4 : Int) (a1_5 : Int) (r : Bool) (w : World) (h : spec_l14Meet.f a0_0 a0_1 a0_2 a0_3 a0_4 a0_5 a1_0 a1_1 a1_2 a1_3 a1_4 a1_5 = some r) :
 Calls Tryz.prog 133 #[.agg #[.int .i64 a0_0, .int .i64 a0_1, .int .i64 a0_2, .int .i64 a0_3, .int .i64 a0_4, .int .i64 a0_5], .agg #[.int .i64 a1_0, .int .i64 a1_1, .int .i64 a1_2, .int .i64 a1_3, .int .i64 a1_4, .int .i64 a1_5]] w fun e w' => e = .returned (.bool r) ∧ Below w.heap.size w w' := by
 have hu25 := Tryz.underlying25
 have HB := am (Below.refl w.heap.size w)
 unfold spec_l14Meet.f at h
 have H := h
 clear h
 by_cases c3 : a0_1 = a1_1
 rotate_left
 ·rw [if_neg c3] at H
  have c3b0 := beq_eq_false_iff_ne.mpr c3
  have c3b1 := bne_iff_ne.mpr c3
  focus
   exact zendnBulletinsx7_2
 rw [if_pos c3] at H
 have c3b0 := beq_iff_eq.mpr c3
 have c3b1 := bne_eq_false_iff_eq.mpr c3
 clear c3
 by_cases c4 : a0_3 = a1_3
 rotate_left
 ·rw [if_neg c4] at H
  have c4b0 := beq_eq_false_iff_ne.mpr c4
  have c4b1 := bne_iff_ne.mpr c4
  focus
   exact zendnBulletinsx7_2
 rw [if_pos c4] at H
 have c4b0 := beq_iff_eq.mpr c4
 have c4b1 := bne_eq_false_iff_eq.mpr c4
 clear c4
 by_cases c5 : a0_4 < a1_5
 ·rw [if_pos c5] at H
  have c5b0 := decide_eq_true c5
  clear c5
  focus
   exact zendnBulletinsx7_2
 ·rw [if_neg c5] at H
  have c5b0 := decide_eq_false c5
  clear c5
  focus
   exact zendnBulletinsx7_2
mutual
def qj.l0 : Nat → List (S25) → Int → Option (Bool)
 | 0, _, _ => none
 | k + 1, x0, x3 => if x3 < (x0.length : Int) then (if 0 ≤ x3 then ((spec_l14Good.f ((qa x0 x3).f0) ((qa x0 x3).f1) ((qa x0 x3).f2) ((qa x0 x3).f3) ((qa x0 x3).f4) ((qa x0 x3).f5)).bind fun t286 => (if t286 = true then (if x3 > 0 then (if 0 ≤ (wrap64 (x3 - 1)) then (if (wrap64 (x3 - 1)) < (x0.length : Int) then (qj.j1 k x0 x3 (decide (((qa x0 (wrap64 (x3 - 1))).f0) ≥ ((qa x0 x3).f0)))) else (none)) else (none)) else (qj.j1 k x0 x3 false)) else (qj.j1 k x0 x3 true))) else (none)) else (some true)
def qj.j1 : Nat → List (S25) → Int → Bool → Option (Bool)
 | 0, _, _, _ => none
 | k + 1, x0, x3, x37 => if x37 = true then (some false) else (qj.l1 k x0 x3 0)
def qj.l1 : Nat → List (S25) → Int → Int → Option (Bool)
 | 0, _, _, _ => none
 | k + 1, x0, x3, x4 => if x4 < x3 then (if 0 ≤ x4 then (if x4 < (x0.length : Int) then (if 0 ≤ x3 then (if x3 < (x0.length : Int) then ((spec_l14Meet.f ((qa x0 x4).f0) ((qa x0 x4).f1) ((qa x0 x4).f2) ((qa x0 x4).f3) ((qa x0 x4).f4) ((qa x0 x4).f5) ((qa x0 x3).f0) ((qa x0 x3).f1) ((qa x0 x3).f2) ((qa x0 x3).f3) ((qa x0 x3).f4) ((qa x0 x3).f5)).bind fun t291 => (if t291 = true then (some false) else (qj.l1 k x0 x3 (wrap64 (x4 + 1))))) else (none)) else (none)) else (none)) else (none)) else (qj.l0 k x0 (wrap64 (x3 + 1)))
end
def qj.f (k : Nat) (l0 : List (S25)) : Option (Bool) := if (l0.length : Int) > 12 then (some false) else (qj.l0 k l0 0)
def qj.T6 : Bool × List (List Nat × List Nat) := (true, [([], []), ([], []), ([0, 1], [0, 1]), ([2], [2]), ([3], [3]), ([4], [4]), ([5, 4], [5]), ([6], [6]), ([7, 6], [6, 7]), ([8, 6, 6], [6, 8]), ([9], [9]), ([9], [9]), ([11, 9], [9, 11]), ([10, 12, 9], [9, 10, 12]), ([13, 9], [9, 13]), ([14, 9], [9, 14]), ([9], [9]), ([9], [9]), ([16, 17, 9], [9, 16, 17]), ([18, 9], [9, 18]), ([19, 9], [9, 19]), ([15, 20, 9], [9, 15, 20]), ([9, 21, 6], [6, 9, 21]), ([6, 22], [6, 22])])
def qj.B6 : List Nat := [0, 0, 3, 7, 15, 31, 63, 127, 255, 511, 1023, 1023, 3071, 8191, 16383, 32767, 1023, 1023, 197631, 459775, 984063, 2097151, 4194303, 8388607]
theorem qj.tab6 : rtab .any (opsOf Tryz.f103 6) = qj.T6 := by kernel_rfl
theorem qj.bits6 : waitsOk qj.T6.2 qj.B6 = true := by kernel_rfl
def qj.T11 : Bool × List (List Nat × List Nat) := (true, [([], []), ([], []), ([0, 1], [0, 1]), ([2], [2]), ([], []), ([], []), ([4, 5], [4, 5]), ([6], [6]), ([3, 7], [3, 7])])
def qj.B11 : List Nat := [0, 0, 3, 7, 0, 0, 48, 112, 255]
theorem qj.tab11 : rtab .any (opsOf Tryz.f103 11) = qj.T11 := by kernel_rfl
theorem qj.bits11 : waitsOk qj.T11.2 qj.B11 = true := by kernel_rfl
theorem qj.calls (k : Nat) (A0 : Option Addr) (c0 : Nat) (l0 : List (S25)) (r : Bool) (w : World) (hr0 : Kd.C k25 w A0 l0.length l0) (hc0 : l0.length ≤ c0) (h : qj.f k l0 = some r) :
 Calls Tryz.prog 103 #[.slice A0 l0.length c0] w fun e w' => e = .returned (.bool r) ∧ Below w.heap.size w w' := by
 have hu25 := Tryz.underlying25
 have HR0 := am hr0
 have HC0 := am hc0
 clear hr0 hc0
 have HB := am (Below.refl w.heap.size w)
 unfold qj.f at h
 have H := h
 clear h
 by_cases c2 : (l0.length : Int) > 12
 ·rw [if_pos c2] at H
  have c2b0 := decide_eq_true c2
  have c2b1 : decide (12 < l0.length) = true := decide_eq_true (by omega)
  clear c2
  focus
   obtain rfl := Option.some.inj H
   go_enter Tryz.func103, Tryz.ntmps103
   go_wp2
   go_ret
   exact ⟨zew, zBx HB.o⟩
 rw [if_neg c2] at H
 have c2b0 := decide_eq_false c2
 have c2b1 : decide (12 < l0.length) = false := decide_eq_false (by omega)
 clear c2
 have H' := am H
 clear H
 go_enter Tryz.func103, Tryz.ntmps103
 go_wp2
 go_loopg [3] k (fun kq v3 w' => ∃ (x3_1 : Int), v3 = .int .i64 x3_1 ∧ Aq (qj.l0 kq l0 x3_1 = some r) ∧ Aq (kq ≤ k) ∧ Aq (Below w.heap.size w w'))
 case atStart => exact ⟨(0), zrx, H', ⟨Nat.le_refl _⟩, ⟨zBx HB.o⟩⟩
 case round =>
  clear H'
  try clear c2
  try clear c2b0
  try clear c2b1
  obtain ⟨x3_1, rfl, HA, HK1, HB⟩ := hrel
  cases gk with
  | zero => exact absurd HA.o (by simp [qj.l0])
  | succ k1 =>
   have H := HA.o
   clear HA
   simp only [qj.l0] at H
   by_cases c3 : x3_1 < (l0.length : Int)
   rotate_left
   ·rw [if_neg c3] at H
    have c3b0 := decide_eq_false c3
    clear c3
    focus
     obtain rfl := Option.some.inj H
     go_wp2
     go_ret
     exact ⟨zew, zBx HB.o⟩
   rw [if_pos c3] at H
   have c3b0 := decide_eq_true c3
   clear c3
   have HC4 := am H
   clear H
   go_upto_region 6 with (fail)
   go_cut [37] (fun v37 wc => ∃ (kq : Nat) (x37_3 : Bool), v37 = .bool x37_3 ∧ Aq (qj.j1 kq l0 x3_1 x37_3 = some r) ∧ Aq (kq ≤ k1) ∧ Aq (Below w.heap.size w wc))
   case first =>
    have H := HC4.o
    clear HC4
    obtain ⟨c5, H⟩ := zin H
    have c5b0 := decide_eq_true c5
    clear c5
    (first | rw [c5b0] | (simp only [i64_w, i32_w]; rw [c5b0]) | skip)
    obtain ⟨t286, A6, H⟩ := zob H
    try dsimp only at H
    by_cases c7 : t286 = true
    rotate_left
    ·replace c7 := Bool.eq_false_iff.mpr c7
     subst c7
     rw [if_neg (show ¬ (false = true) by decide)] at H
     focus
      have H' := am H
      clear H
      try go_wp2
      replace HB := am (below_drew1 HB.o)
      have p285 : 0 ≤ (x3_1 : Int) := zod
      have q285 : x3_1 < (l0.length : Int) := zod
      obtain ⟨ad285, e285, hx285_0, hx285_1, hx285_2, hx285_3, hx285_4, hx285_5⟩ := at_T25 HR0.o x3_1 p285 q285
      have hw285_5 := hx285_5
      have hw285_4 := hx285_4
      have hw285_3 := hx285_3
      have hw285_2 := hx285_2
      have hw285_1 := hx285_1
      have hw285_0 := hx285_0
      cases e285
      obtain ⟨hx285_0, hx285_1, hx285_2, hx285_3, hx285_4, hx285_5⟩ := zh6 HB hx285_0 hx285_1 hx285_2 hx285_3 hx285_4 hx285_5
      replace p285 := eq_true p285
      replace q285 := eq_true q285
      refine start_ (n := 24) (S := fun w' => zS6 w' (ad285.add ((x3_1).toNat * 6)) (qa l0 x3_1)) (ds := []) (zm 24 0) (by kernel_rfl) rfl rfl (zh6 HB hw285_0 hw285_1 hw285_2 hw285_3 hw285_4 hw285_5) (fun hHd => ?_); refine with_tabW qj.tab6 qj.bits6 (fun Tq Wq => ?_)
      generalize wr.drew = w16 at HB hx285_0 hx285_1 hx285_2 hx285_3 hx285_4 hx285_5 hHd ⊢
      refine zpu 0 14 (zm 24 1) Tq.o ?_
      refine zpu 1 15 (zm 24 3) Tq.o ?_
      refine zpu 2 16 (zm 24 7) Tq.o ?_
      refine take_ (i := 3) (N := some 17) (v := ?_) (a' := ?_) (zm 24 15) rfl rfl (take_ofW Tq.o Wq.o (by kernel_rfl)) (fun _ _ _ h => h) (Or.inl ⟨by rfl, ?_⟩) hHd ?_ ?_
      rotate_left
      ·rintro w' ⟨s0, s1, s2, s3, s4, s5⟩
       go_simp
       with_reducible rfl
      rotate_left
      ·exact zpx
      refine one_ (i := 4) (N := some 18) (zm 24 31) rfl rfl (one_of Tq.o (by kernel_rfl)) (by decide) (fun K hK => ?_)
      refine goes_ Tryz.func47 (by kernel_rfl) rfl #[.agg #[.int .i64 ((qa l0 x3_1).f0), .int .i64 ((qa l0 x3_1).f1), .int .i64 ((qa l0 x3_1).f2), .int .i64 ((qa l0 x3_1).f3), .int .i64 ((qa l0 x3_1).f4), .int .i64 ((qa l0 x3_1).f5)]] (by rfl) rfl rfl zlx ?_
      with_reducible refine (spec_l14Good.calls ((qa l0 x3_1).f0) ((qa l0 x3_1).f1) ((qa l0 x3_1).f2) ((qa l0 x3_1).f3) ((qa l0 x3_1).f4) ((qa l0 x3_1).f5) false _ A6.o).mono ?_
      rintro e w17 ⟨rfl, hb⟩
      refine ⟨_, rfl, ?_⟩
      replace HB := zhs HB hb
      (try clear hb)
      (try clear hb2)
      (try clear hk)
      (try clear hi)
      refine hK.out _ _ (zh6 HB hw285_0 hw285_1 hw285_2 hw285_3 hw285_4 hw285_5) (fun hHd => ?_)
      clear hK K
      refine norm_ (a' := ?_) ?_ ?_
      rotate_left
      ·show Act.put _ (some 18) _ = _
       simp only [Act.put, List.setIfInBounds_toArray, List.set_cons_zero, List.set_cons_succ, i64_w, i32_w]
       rfl
      refine zpu 5 19 (zm 24 63) Tq.o ?_
      refine zpu 6 20 (zm 24 127) Tq.o ?_
      refine zpn 7 21 (zm 24 255) Tq.o ?_
      refine zpn 8 22 (zm 24 511) Tq.o ?_
      refine zpn 9 23 (zm 24 1023) Tq.o ?_
      refine zpn 10 24 (zm 24 2047) Tq.o ?_
      refine zpn 11 25 (zm 24 4095) Tq.o ?_
      refine zpn 12 26 (zm 24 8191) Tq.o ?_
      refine zpn 13 27 (zm 24 16383) Tq.o ?_
      refine zpn 14 28 (zm 24 32767) Tq.o ?_
      refine zpn 15 29 (zm 24 65535) Tq.o ?_
      refine zpn 16 30 (zm 24 131071) Tq.o ?_
      refine zpn 17 31 (zm 24 262143) Tq.o ?_
      refine zpn 18 32 (zm 24 524287) Tq.o ?_
      refine zpn 19 33 (zm 24 1048575) Tq.o ?_
      refine zpn 20 34 (zm 24 2097151) Tq.o ?_
      refine zpn 21 35 (zm 24 4194303) Tq.o ?_
      refine zpn 22 36 (zm 24 8388607) Tq.o ?_
      refine zpu 23 37 (zm 24 16777215) Tq.o ?_
      refine done_ (done_of Tq.o (by kernel_rfl)) ?_
      try go_wp2
      go_meet
      case rel => exact ⟨_, (true), zrx, H', ⟨by have := HK1.o; first | omega | exact Nat.le_refl _⟩, ⟨zBx HB.o⟩⟩
    subst c7
    rw [if_pos rfl] at H
    by_cases c8 : x3_1 > 0
    rotate_left
    ·rw [if_neg c8] at H
     have c8b0 := decide_eq_false c8
     clear c8
     focus
      have H' := am H
      clear H
      try go_wp2
      replace HB := am (below_drew1 HB.o)
      have p285 : 0 ≤ (x3_1 : Int) := zod
      have q285 : x3_1 < (l0.length : Int) := zod
      obtain ⟨ad285, e285, hx285_0, hx285_1, hx285_2, hx285_3, hx285_4, hx285_5⟩ := at_T25 HR0.o x3_1 p285 q285
      have hw285_5 := hx285_5
      have hw285_4 := hx285_4
      have hw285_3 := hx285_3
      have hw285_2 := hx285_2
      have hw285_1 := hx285_1
      have hw285_0 := hx285_0
      cases e285
      obtain ⟨hx285_0, hx285_1, hx285_2, hx285_3, hx285_4, hx285_5⟩ := zh6 HB hx285_0 hx285_1 hx285_2 hx285_3 hx285_4 hx285_5
      replace p285 := eq_true p285
      replace q285 := eq_true q285
      refine start_ (n := 24) (S := fun w' => zS6 w' (ad285.add ((x3_1).toNat * 6)) (qa l0 x3_1)) (ds := []) (zm 24 0) (by kernel_rfl) rfl rfl (zh6 HB hw285_0 hw285_1 hw285_2 hw285_3 hw285_4 hw285_5) (fun hHd => ?_); refine with_tabW qj.tab6 qj.bits6 (fun Tq Wq => ?_)
      generalize wr.drew = w14 at HB hx285_0 hx285_1 hx285_2 hx285_3 hx285_4 hx285_5 hHd ⊢
      refine zpu 0 14 (zm 24 1) Tq.o ?_
      refine zpu 1 15 (zm 24 3) Tq.o ?_
      refine zpu 2 16 (zm 24 7) Tq.o ?_
      refine take_ (i := 3) (N := some 17) (v := ?_) (a' := ?_) (zm 24 15) rfl rfl (take_ofW Tq.o Wq.o (by kernel_rfl)) (fun _ _ _ h => h) (Or.inl ⟨by rfl, ?_⟩) hHd ?_ ?_
      rotate_left
      ·rintro w' ⟨s0, s1, s2, s3, s4, s5⟩
       go_simp
       with_reducible rfl
      rotate_left
      ·exact zpx
      refine one_ (i := 4) (N := some 18) (zm 24 31) rfl rfl (one_of Tq.o (by kernel_rfl)) (by decide) (fun K hK => ?_)
      refine goes_ Tryz.func47 (by kernel_rfl) rfl #[.agg #[.int .i64 ((qa l0 x3_1).f0), .int .i64 ((qa l0 x3_1).f1), .int .i64 ((qa l0 x3_1).f2), .int .i64 ((qa l0 x3_1).f3), .int .i64 ((qa l0 x3_1).f4), .int .i64 ((qa l0 x3_1).f5)]] (by rfl) rfl rfl zlx ?_
      with_reducible refine (spec_l14Good.calls ((qa l0 x3_1).f0) ((qa l0 x3_1).f1) ((qa l0 x3_1).f2) ((qa l0 x3_1).f3) ((qa l0 x3_1).f4) ((qa l0 x3_1).f5) true _ A6.o).mono ?_
      rintro e w15 ⟨rfl, hb⟩
      refine ⟨_, rfl, ?_⟩
      replace HB := zhs HB hb
      (try clear hb)
      (try clear hb2)
      (try clear hk)
      (try clear hi)
      refine hK.out _ _ (zh6 HB hw285_0 hw285_1 hw285_2 hw285_3 hw285_4 hw285_5) (fun hHd => ?_)
      clear hK K
      refine norm_ (a' := ?_) ?_ ?_
      rotate_left
      ·show Act.put _ (some 18) _ = _
       simp only [Act.put, List.setIfInBounds_toArray, List.set_cons_zero, List.set_cons_succ, i64_w, i32_w]
       rfl
      refine zpu 5 19 (zm 24 63) Tq.o ?_
      refine zpu 6 20 (zm 24 127) Tq.o ?_
      refine zpu 7 21 (zm 24 255) Tq.o ?_
      refine zpu 8 22 (zm 24 511) Tq.o ?_
      refine zpu 9 23 (zm 24 1023) Tq.o ?_
      refine zpn 10 24 (zm 24 2047) Tq.o ?_
      refine zpn 11 25 (zm 24 4095) Tq.o ?_
      refine zpn 12 26 (zm 24 8191) Tq.o ?_
      refine zpn 13 27 (zm 24 16383) Tq.o ?_
      refine zpn 14 28 (zm 24 32767) Tq.o ?_
      refine zpn 15 29 (zm 24 65535) Tq.o ?_
      refine zpn 16 30 (zm 24 131071) Tq.o ?_
      refine zpn 17 31 (zm 24 262143) Tq.o ?_
      refine zpn 18 32 (zm 24 524287) Tq.o ?_
      refine zpn 19 33 (zm 24 1048575) Tq.o ?_
      refine zpn 20 34 (zm 24 2097151) Tq.o ?_
      refine zpn 21 35 (zm 24 4194303) Tq.o ?_
      refine zpu 22 36 (zm 24 8388607) Tq.o ?_
      refine zpu 23 37 (zm 24 16777215) Tq.o ?_
      refine done_ (done_of Tq.o (by kernel_rfl)) ?_
      try go_wp2
      go_meet
      case rel => exact ⟨_, (false), zrx, H', ⟨by have := HK1.o; first | omega | exact Nat.le_refl _⟩, ⟨zBx HB.o⟩⟩
    rw [if_pos c8] at H
    have c8b0 := decide_eq_true c8
    clear c8
    obtain ⟨ji9, hji9⟩ : ∃ j_ : Int, (wrap64 (x3_1 - 1)) = j_ := ⟨_, rfl⟩
    replace H : (if 0 ≤ (ji9) then (if (ji9) < (l0.length : Int) then (qj.j1 k1 l0 x3_1 (decide (((qa l0 (ji9)).f0) ≥ ((qa l0 x3_1).f0)))) else (none)) else (none)) = some r := by first | (rw [hji9] at H; exact H) | (simp only [hji9] at H ⊢; exact H)
    (try rw [hji9] at A6)
    have hji9w : (IntKind.i64.wrap (x3_1 - 1)) = ji9 := (i64_w _).trans hji9
    obtain ⟨c10, H⟩ := zin H
    have c10b0 := decide_eq_true c10
    clear c10
    obtain ⟨c11, H⟩ := zin H
    have c11b0 := decide_eq_true c11
    clear c11
    focus
     have H' := am H
     clear H
     try go_wp2
     replace HB := am (below_drew1 HB.o)
     have p285 : 0 ≤ (x3_1 : Int) := zod
     have q285 : x3_1 < (l0.length : Int) := zod
     obtain ⟨ad285, e285, hx285_0, hx285_1, hx285_2, hx285_3, hx285_4, hx285_5⟩ := at_T25 HR0.o x3_1 p285 q285
     have hw285_5 := hx285_5
     have hw285_4 := hx285_4
     have hw285_3 := hx285_3
     have hw285_2 := hx285_2
     have hw285_1 := hx285_1
     have hw285_0 := hx285_0
     cases e285
     obtain ⟨hx285_0, hx285_1, hx285_2, hx285_3, hx285_4, hx285_5⟩ := zh6 HB hx285_0 hx285_1 hx285_2 hx285_3 hx285_4 hx285_5
     replace p285 := eq_true p285
     replace q285 := eq_true q285
     have p287 : 0 ≤ ((ji9) : Int) := zod
     have q287 : (ji9) < (l0.length : Int) := zod
     obtain ⟨ad287, e287, hx287_0, hx287_1, hx287_2, hx287_3, hx287_4, hx287_5⟩ := at_T25 HR0.o (ji9) p287 q287
     have hw287_5 := hx287_5
     have hw287_4 := hx287_4
     have hw287_3 := hx287_3
     have hw287_2 := hx287_2
     have hw287_1 := hx287_1
     have hw287_0 := hx287_0
     obtain rfl : ad285 = ad287 := (by injection e287)
     obtain ⟨hx287_0, hx287_1, hx287_2, hx287_3, hx287_4, hx287_5⟩ := zh6 HB hx287_0 hx287_1 hx287_2 hx287_3 hx287_4 hx287_5
     replace p287 := eq_true p287
     replace q287 := eq_true q287
     have p288 : 0 ≤ (x3_1 : Int) := zod
     have q288 : x3_1 < (l0.length : Int) := zod
     obtain ⟨ad288, e288, hx288_0, hx288_1, hx288_2, hx288_3, hx288_4, hx288_5⟩ := at_T25 HR0.o x3_1 p288 q288
     have hw288_5 := hx288_5
     have hw288_4 := hx288_4
     have hw288_3 := hx288_3
     have hw288_2 := hx288_2
     have hw288_1 := hx288_1
     have hw288_0 := hx288_0
     obtain rfl : ad285 = ad288 := (by injection e288)
     obtain ⟨hx288_0, hx288_1, hx288_2, hx288_3, hx288_4, hx288_5⟩ := zh6 HB hx288_0 hx288_1 hx288_2 hx288_3 hx288_4 hx288_5
     replace p288 := eq_true p288
     replace q288 := eq_true q288
     refine start_ (n := 24) (S := fun w' => zS6 w' (ad285.add ((x3_1).toNat * 6)) (qa l0 x3_1) ∧ zS6 w' (ad285.add (((ji9)).toNat * 6)) (qa l0 (ji9)) ∧ zS6 w' (ad285.add ((x3_1).toNat * 6)) (qa l0 x3_1)) (ds := []) (zm 24 0) (by kernel_rfl) rfl rfl ⟨zh6 HB hw285_0 hw285_1 hw285_2 hw285_3 hw285_4 hw285_5, zh6 HB hw287_0 hw287_1 hw287_2 hw287_3 hw287_4 hw287_5, zh6 HB hw288_0 hw288_1 hw288_2 hw288_3 hw288_4 hw288_5⟩ (fun hHd => ?_); refine with_tabW qj.tab6 qj.bits6 (fun Tq Wq => ?_)
     generalize wr.drew = w12 at HB hx285_0 hx285_1 hx285_2 hx285_3 hx285_4 hx285_5 hx287_0 hx287_1 hx287_2 hx287_3 hx287_4 hx287_5 hx288_0 hx288_1 hx288_2 hx288_3 hx288_4 hx288_5 hHd ⊢
     refine zpu 0 14 (zm 24 1) Tq.o ?_
     refine zpu 1 15 (zm 24 3) Tq.o ?_
     refine zpu 2 16 (zm 24 7) Tq.o ?_
     refine take_ (i := 3) (N := some 17) (v := ?_) (a' := ?_) (zm 24 15) rfl rfl (take_ofW Tq.o Wq.o (by kernel_rfl)) (fun _ _ _ h => h) (Or.inl ⟨by rfl, ?_⟩) hHd ?_ ?_
     rotate_left
     ·rintro w' ⟨⟨s0, s1, s2, s3, s4, s5⟩, ⟨s6, s7, s8, s9, s10, s11⟩, ⟨s12, s13, s14, s15, s16, s17⟩⟩
      go_simp
      with_reducible rfl
     rotate_left
     ·exact zpx
     refine one_ (i := 4) (N := some 18) (zm 24 31) rfl rfl (one_of Tq.o (by kernel_rfl)) (by decide) (fun K hK => ?_)
     refine goes_ Tryz.func47 (by kernel_rfl) rfl #[.agg #[.int .i64 ((qa l0 x3_1).f0), .int .i64 ((qa l0 x3_1).f1), .int .i64 ((qa l0 x3_1).f2), .int .i64 ((qa l0 x3_1).f3), .int .i64 ((qa l0 x3_1).f4), .int .i64 ((qa l0 x3_1).f5)]] (by rfl) rfl rfl zlx ?_
     with_reducible refine (spec_l14Good.calls ((qa l0 x3_1).f0) ((qa l0 x3_1).f1) ((qa l0 x3_1).f2) ((qa l0 x3_1).f3) ((qa l0 x3_1).f4) ((qa l0 x3_1).f5) true _ A6.o).mono ?_
     rintro e w13 ⟨rfl, hb⟩
     refine ⟨_, rfl, ?_⟩
     replace HB := zhs HB hb
     (try clear hb)
     (try clear hb2)
     (try clear hk)
     (try clear hi)
     refine hK.out _ _ ⟨zh6 HB hw285_0 hw285_1 hw285_2 hw285_3 hw285_4 hw285_5, zh6 HB hw287_0 hw287_1 hw287_2 hw287_3 hw287_4 hw287_5, zh6 HB hw288_0 hw288_1 hw288_2 hw288_3 hw288_4 hw288_5⟩ (fun hHd => ?_)
     clear hK K
     refine norm_ (a' := ?_) ?_ ?_
     rotate_left
     ·show Act.put _ (some 18) _ = _
      simp only [Act.put, List.setIfInBounds_toArray, List.set_cons_zero, List.set_cons_succ, i64_w, i32_w]
      rfl
     refine zpu 5 19 (zm 24 63) Tq.o ?_
     refine zpu 6 20 (zm 24 127) Tq.o ?_
     refine zpu 7 21 (zm 24 255) Tq.o ?_
     refine zpu 8 22 (zm 24 511) Tq.o ?_
     refine zpu 9 23 (zm 24 1023) Tq.o ?_
     refine zpu 10 24 (zm 24 2047) Tq.o ?_
     refine zpu 11 25 (zm 24 4095) Tq.o ?_
     refine zpu 12 26 (zm 24 8191) Tq.o ?_
     refine zpu 13 27 (zm 24 16383) Tq.o ?_
     refine zpu 14 28 (zm 24 32767) Tq.o ?_
     refine zpu 16 30 (zm 24 98303) Tq.o ?_
     refine zpu 17 31 (zm 24 229375) Tq.o ?_
     refine zpu 18 32 (zm 24 491519) Tq.o ?_
     refine zpu 19 33 (zm 24 1015807) Tq.o ?_
     refine take_ (i := 15) (N := some 29) (v := ?_) (a' := ?_) (zm 24 1048575) rfl rfl (take_ofW Tq.o Wq.o (by kernel_rfl)) (fun _ _ _ h => h) (Or.inl ⟨by rfl, ?_⟩) hHd ?_ ?_
     rotate_left
     ·rintro w' ⟨⟨s0, s1, s2, s3, s4, s5⟩, ⟨s6, s7, s8, s9, s10, s11⟩, ⟨s12, s13, s14, s15, s16, s17⟩⟩
      go_simp
      with_reducible rfl
     rotate_left
     ·exact zpx
     refine take_ (i := 20) (N := some 34) (v := ?_) (a' := ?_) (zm 24 2097151) rfl rfl (take_ofW Tq.o Wq.o (by kernel_rfl)) (fun _ _ _ h => h) (Or.inl ⟨by rfl, ?_⟩) hHd ?_ ?_
     rotate_left
     ·rintro w' ⟨⟨s0, s1, s2, s3, s4, s5⟩, ⟨s6, s7, s8, s9, s10, s11⟩, ⟨s12, s13, s14, s15, s16, s17⟩⟩
      go_simp
      with_reducible rfl
     rotate_left
     ·exact zpx
     refine zpu 21 35 (zm 24 4194303) Tq.o ?_
     refine zpu 22 36 (zm 24 8388607) Tq.o ?_
     refine zpu 23 37 (zm 24 16777215) Tq.o ?_
     refine done_ (done_of Tq.o (by kernel_rfl)) ?_
     try go_wp2
     go_meet
     case rel => exact ⟨_, (decide (((qa l0 (ji9)).f0) ≥ ((qa l0 x3_1).f0))), (by first | rfl | (simp; done) | (simp only [← hji9] <;> (first | rfl | simp)) | (simp [*]; done)), H', ⟨by have := HK1.o; first | omega | exact Nat.le_refl _⟩, ⟨zBx HB.o⟩⟩
   case rest =>
    clear HC4
    obtain ⟨kq, x37_3, rfl, HA, HJ3, HB⟩ := hcut
    cases kq with
    | zero => exact absurd HA.o (by simp [qj.j1])
    | succ kj3 =>
     have H := HA.o
     clear HA
     simp only [qj.j1] at H
     by_cases c18 : x37_3 = true
     ·subst c18
      rw [if_pos rfl] at H
      focus
       obtain rfl := Option.some.inj H
       go_wp2
       go_ret
       exact ⟨zew, zBx HB.o⟩
     replace c18 := Bool.eq_false_iff.mpr c18
     subst c18
     rw [if_neg (show ¬ (false = true) by decide)] at H
     have H' := am H
     clear H
     go_wp2
     go_loopg [4] kj3 (fun kq v4 w' => ∃ (x4_3 : Int), v4 = .int .i64 x4_3 ∧ Aq (qj.l1 kq l0 x3_1 x4_3 = some r) ∧ Aq (kq ≤ kj3) ∧ Aq (Below w.heap.size w w'))
     case atStart => exact ⟨(0), zrx, H', ⟨Nat.le_refl _⟩, ⟨zBx HB.o⟩⟩
     case round =>
      clear H'
      try clear c18
      obtain ⟨x4_3, rfl, HA, HK3, HB⟩ := hrel
      cases gk with
      | zero => exact absurd HA.o (by simp [qj.l1])
      | succ k3 =>
       have H := HA.o
       clear HA
       simp only [qj.l1] at H
       by_cases c19 : x4_3 < x3_1
       rotate_left
       ·rw [if_neg c19] at H
        have c19b0 := decide_eq_false c19
        clear c19
        focus
         have H' := am H
         clear H
         go_wp2
         go_roundg k3
         case measure => have := HK1.o; have := HJ3.o; have := HK3.o; omega
         case rel => exact ⟨(wrap64 (x3_1 + 1)), zrx, H', ⟨by have := HK1.o; have := HJ3.o; have := HK3.o; omega⟩, ⟨zBx HB.o⟩⟩
       rw [if_pos c19] at H
       have c19b0 := decide_eq_true c19
       clear c19
       obtain ⟨c20, H⟩ := zin H
       have c20b0 := decide_eq_true c20
       clear c20
       obtain ⟨c21, H⟩ := zin H
       have c21b0 := decide_eq_true c21
       clear c21
       obtain ⟨c22, H⟩ := zin H
       have c22b0 := decide_eq_true c22
       clear c22
       obtain ⟨c23, H⟩ := zin H
       have c23b0 := decide_eq_true c23
       clear c23
       obtain ⟨t291, A24, H⟩ := zob H
       try dsimp only at H
       have HH_ := am H
       clear H
       try go_wp2
       replace HB := am (below_drew1 HB.o)
       have p289 : 0 ≤ (x4_3 : Int) := zod
       have q289 : x4_3 < (l0.length : Int) := zod
       obtain ⟨ad289, e289, hx289_0, hx289_1, hx289_2, hx289_3, hx289_4, hx289_5⟩ := at_T25 HR0.o x4_3 p289 q289
       have hw289_5 := hx289_5
       have hw289_4 := hx289_4
       have hw289_3 := hx289_3
       have hw289_2 := hx289_2
       have hw289_1 := hx289_1
       have hw289_0 := hx289_0
       cases e289
       obtain ⟨hx289_0, hx289_1, hx289_2, hx289_3, hx289_4, hx289_5⟩ := zh6 HB hx289_0 hx289_1 hx289_2 hx289_3 hx289_4 hx289_5
       replace p289 := eq_true p289
       replace q289 := eq_true q289
       have p290 : 0 ≤ (x3_1 : Int) := zod
       have q290 : x3_1 < (l0.length : Int) := zod
       obtain ⟨ad290, e290, hx290_0, hx290_1, hx290_2, hx290_3, hx290_4, hx290_5⟩ := at_T25 HR0.o x3_1 p290 q290
       have hw290_5 := hx290_5
       have hw290_4 := hx290_4
       have hw290_3 := hx290_3
       have hw290_2 := hx290_2
       have hw290_1 := hx290_1
       have hw290_0 := hx290_0
       obtain rfl : ad289 = ad290 := (by injection e290)
       obtain ⟨hx290_0, hx290_1, hx290_2, hx290_3, hx290_4, hx290_5⟩ := zh6 HB hx290_0 hx290_1 hx290_2 hx290_3 hx290_4 hx290_5
       replace p290 := eq_true p290
       replace q290 := eq_true q290
       refine start_ (n := 9) (S := fun w' => zS6 w' (ad289.add ((x4_3).toNat * 6)) (qa l0 x4_3) ∧ zS6 w' (ad289.add ((x3_1).toNat * 6)) (qa l0 x3_1)) (ds := []) (zm 9 0) (by kernel_rfl) rfl rfl ⟨zh6 HB hw289_0 hw289_1 hw289_2 hw289_3 hw289_4 hw289_5, zh6 HB hw290_0 hw290_1 hw290_2 hw290_3 hw290_4 hw290_5⟩ (fun hHd => ?_); refine with_tabW qj.tab11 qj.bits11 (fun Tq Wq => ?_)
       generalize wr.drew = w26 at HB hx289_0 hx289_1 hx289_2 hx289_3 hx289_4 hx289_5 hx290_0 hx290_1 hx290_2 hx290_3 hx290_4 hx290_5 hHd ⊢
       refine zpu 0 43 (zm 9 1) Tq.o ?_
       refine zpu 1 44 (zm 9 3) Tq.o ?_
       refine zpu 2 45 (zm 9 7) Tq.o ?_
       refine zpu 4 47 (zm 9 23) Tq.o ?_
       refine zpu 5 48 (zm 9 55) Tq.o ?_
       refine zpu 6 49 (zm 9 119) Tq.o ?_
       refine take_ (i := 3) (N := some 46) (v := ?_) (a' := ?_) (zm 9 127) rfl rfl (take_ofW Tq.o Wq.o (by kernel_rfl)) (fun _ _ _ h => h) (Or.inl ⟨by rfl, ?_⟩) hHd ?_ ?_
       rotate_left
       ·rintro w' ⟨⟨s0, s1, s2, s3, s4, s5⟩, ⟨s6, s7, s8, s9, s10, s11⟩⟩
        go_simp
        with_reducible rfl
       rotate_left
       ·exact zpx
       refine take_ (i := 7) (N := some 50) (v := ?_) (a' := ?_) (zm 9 255) rfl rfl (take_ofW Tq.o Wq.o (by kernel_rfl)) (fun _ _ _ h => h) (Or.inl ⟨by rfl, ?_⟩) hHd ?_ ?_
       rotate_left
       ·rintro w' ⟨⟨s0, s1, s2, s3, s4, s5⟩, ⟨s6, s7, s8, s9, s10, s11⟩⟩
        go_simp
        with_reducible rfl
       rotate_left
       ·exact zpx
       refine one_ (i := 8) (N := some 51) (zm 9 511) rfl rfl (one_of Tq.o (by kernel_rfl)) (by decide) (fun K hK => ?_)
       refine goes_ Tryz.func133 (by kernel_rfl) rfl #[.agg #[.int .i64 ((qa l0 x4_3).f0), .int .i64 ((qa l0 x4_3).f1), .int .i64 ((qa l0 x4_3).f2), .int .i64 ((qa l0 x4_3).f3), .int .i64 ((qa l0 x4_3).f4), .int .i64 ((qa l0 x4_3).f5)], .agg #[.int .i64 ((qa l0 x3_1).f0), .int .i64 ((qa l0 x3_1).f1), .int .i64 ((qa l0 x3_1).f2), .int .i64 ((qa l0 x3_1).f3), .int .i64 ((qa l0 x3_1).f4), .int .i64 ((qa l0 x3_1).f5)]] (by rfl) rfl rfl zlx ?_
       with_reducible refine (spec_l14Meet.calls ((qa l0 x4_3).f0) ((qa l0 x4_3).f1) ((qa l0 x4_3).f2) ((qa l0 x4_3).f3) ((qa l0 x4_3).f4) ((qa l0 x4_3).f5) ((qa l0 x3_1).f0) ((qa l0 x3_1).f1) ((qa l0 x3_1).f2) ((qa l0 x3_1).f3) ((qa l0 x3_1).f4) ((qa l0 x3_1).f5) t291 _ A24.o).mono ?_
       rintro e w27 ⟨rfl, hb⟩
       refine ⟨_, rfl, ?_⟩
       replace HB := zhs HB hb
       (try clear hb)
       refine hK.out _ _ ⟨zh6 HB hw289_0 hw289_1 hw289_2 hw289_3 hw289_4 hw289_5, zh6 HB hw290_0 hw290_1 hw290_2 hw290_3 hw290_4 hw290_5⟩ (fun hHd => ?_)
       clear hK K
       refine norm_ (a' := ?_) ?_ ?_
       rotate_left
       ·show Act.put _ (some 51) _ = _
        simp only [Act.put, List.setIfInBounds_toArray, List.set_cons_zero, List.set_cons_succ, i64_w, i32_w]
        rfl
       refine done_ (done_of Tq.o (by kernel_rfl)) ?_
       have H := HH_.o
       clear HH_
       by_cases c25 : t291 = true
       ·subst c25
        rw [if_pos rfl] at H
        focus
         obtain rfl := Option.some.inj H
         try go_wp2
         go_ret
         exact ⟨zew, zBx HB.o⟩
       ·replace c25 := Bool.eq_false_iff.mpr c25
        subst c25
        rw [if_neg (show ¬ (false = true) by decide)] at H
        focus
         have H' := am H
         clear H
         try go_wp2
         go_roundg k3
         case measure => have := HK1.o; have := HJ3.o; have := HK3.o; omega
         case rel => exact ⟨(wrap64 (x4_3 + 1)), zrx, H', ⟨by have := HK1.o; have := HJ3.o; have := HK3.o; omega⟩, ⟨zBx HB.o⟩⟩
mutual
def qm.l0 : Nat → List (S25) → Int → Int → List Int → Int → Int → Option ((List (S25)) × Int × Int)
 | 0, _, _, _, _, _, _ => none
 | k + 1, x3, x4, x5, x1000, x1001, x1002 => if x5 > 0 then ((spec_l1Cur_warning.f x1000 x1001 x1002).bind fun bt298 => ((qb.f x1000 bt298.2.2.2.2.2.2.1 bt298.2.2.2.2.2.2.2 2).bind fun bt307 => ((some (([] : List (S25)) : List (S25))).bind fun y310 => (if y310.length + x3.length < 2932031007402 then ((some (y310 ++ x3 : List (S25))).bind fun y313 => ((some (([(⟨wrap64 ((wrap64 (x4 + 1)) + bt307.1), bt298.2.1, bt298.2.2.1, bt298.2.2.2.1, bt298.2.2.2.2.1, bt298.2.2.2.2.2.1⟩ : S25)] : List (S25)) : List (S25))).bind fun y316 => (if y313.length + y316.length < 2932031007402 then ((some (y313 ++ y316 : List (S25))).bind fun y319 => ((qj.f k y319).bind fun t322 => (if t322 = true then (qm.l0 k y319 (wrap64 ((wrap64 (x4 + 1)) + bt307.1)) (wrap64 (x5 - 1)) x1000 bt307.2.1 bt307.2.2) else (qm.l0 k x3 (wrap64 ((wrap64 (x4 + 1)) + bt307.1)) (wrap64 (x5 - 1)) x1000 bt307.2.1 bt307.2.2)))) else (none)))) else (none))))) else ((qb.f x1000 x1001 x1002 24).bind fun bt323 => (if bt323.1 = 0 then ((spec_l1Cur_warning.f x1000 bt323.2.1 bt323.2.2).bind fun bt326 => ((some (([(⟨bt326.1, bt326.2.1, bt326.2.2.1, bt326.2.2.2.1, bt326.2.2.2.2.1, bt326.2.2.2.2.2.1⟩ : S25)] : List (S25)) : List (S25))).bind fun y334 => (if x3.length + y334.length < 2932031007402 then (some ((x3 ++ y334), bt326.2.2.2.2.2.2.1, bt326.2.2.2.2.2.2.2)) else (none)))) else (if bt323.1 = 1 then (qm.l1 k x3 0 x1000 bt323.2.1 bt323.2.2) else (some (x3, bt323.2.1, bt323.2.2)))))
def qm.l1 : Nat → List (S25) → Int → List Int → Int → Int → Option ((List (S25)) × Int × Int)
 | 0, _, _, _, _, _ => none
 | k + 1, x3, x8, x1000, x1001, x1002 => (qb.f x1000 x1001 x1002 2).bind fun bt340 => (if (x3.length : Int) < (wrap64 (12 + bt340.1)) then (if x8 < 14 then ((some (([(⟨wrap64 (100 + x8), 5, 1, 9, wrap64 (10 * x8), wrap64 ((wrap64 (10 * x8)) + 5)⟩ : S25)] : List (S25)) : List (S25))).bind fun y343 => (if x3.length + y343.length < 2932031007402 then (qm.l1 k (x3 ++ y343) (wrap64 (x8 + 1)) x1000 bt340.2.1 bt340.2.2) else (none))) else (some (x3, bt340.2.1, bt340.2.2))) else (some (x3, bt340.2.1, bt340.2.2)))
end
def qm.f (k : Nat) (s0_0 : List Int) (s0_1 : Int) (s0_2 : Int) : Option ((List (S25)) × Int × Int) := (qb.f s0_0 s0_1 s0_2 7).bind fun bt295 => (qm.l0 k (([] : List (S25))) 0 bt295.1 s0_0 bt295.2.1 bt295.2.2)
theorem qm.calls (k : Nat) (g : Nat) (s0_0 : List Int) (s0_1 : Int) (s0_2 : Int) (r1 : List (S25)) (r2 : Int) (r3 : Int) (w0 w : World) (hI : I7 w0 w g s0_0 s0_1 s0_2) (hB : Below w0.heap.size w0 w) (h : qm.f k s0_0 s0_1 s0_2 = some (r1, r2, r3)) :
 Calls Tryz.prog 108 #[.pointer (some ⟨g, 0, none⟩)] w fun e w' => ∃ v0_ : Value, e = .returned (v0_) ∧ Kd.R k25 25 w' w.heap.size (fun _ => True) v0_ r1 ∧ I7 w0 w' g s0_0 r2 r3 ∧ Below w0.heap.size w0 w' ∧ Kq w w' g none := by
 have hu25 := Tryz.underlying25
 have HI0 := am hI
 have HK := am (Kq.refl w g none)
 have HL := am hB.size
 clear hI
 have HW0 := am hB.size
 have HB := am hB
 clear hB
 unfold qm.f at h
 have H := h
 clear h
 obtain ⟨y292, hy292⟩ : ∃ y_ : List (S25), y_ = (([] : List (S25))) := ⟨_, rfl⟩
 replace H : ((qb.f s0_0 s0_1 s0_2 7).bind fun bt295 => (qm.l0 k y292 0 bt295.1 s0_0 bt295.2.1 bt295.2.2)) = some (r1, r2, r3) := by rw [hy292]; exact H
 have Ny292 := am hy292
 clear hy292
 obtain ⟨⟨t295, t296, t297⟩, A2, H⟩ := zob H
 try dsimp only at H
 have H' := am H
 clear H
 go_enter Tryz.func108, Tryz.ntmps108
 go_wp2_with (first | ((with_reducible refine zgd 9 rfl ?_); refine Kd.R_lit k25 _ 25 ?hg (N := 9) ?hd (xs := ([] : List (S25))) (inner := []) (ok := fun _ => True) (okp := fun _ => True) ?hr ?hp (fun _ hk => hk) trivial (Below.refl _ _) (Nat.le_refl _) (by simp) ?_; (case hd => rfl); (case hg => rfl); (case hr => exact zsx); (case hp => exact (Reps.none _ _)); intro v293 w3 ho4 hb hg_ hnew_; clear hg_ hnew_; (first | rw [← Ny292.o] at ho4 | (simp only [Int.reduceToNat] at ho4; rw [← Ny292.o] at ho4)); have HO294 := am (Kd.R_lower ho4 (keep_size (w := w) (g := g) (row := none) (zKx HK.o))); replace HK := zkq HK hb; replace HB := am (bsq (by first | exact zBy HB.o (I7.ge HI0.o) | exact zBx HB.o) hb); replace HI0 := am (I7.below (I7.zI HI0.o) hb); clear hb ho4) | ((with_reducible refine zgc 75 rfl ?_); refine zgl 11 Tryz.func75 #[.pointer (some ⟨g, 0, none⟩), .int .i64 7] ?_; (with_reducible refine (qb.calls g s0_0 s0_1 s0_2 7 t295 t296 t297 w0 _ ?side1 ?side2 A2.o).mono ?_); (case side1 => exact I7.zI HI0.o); (case side2 => first | exact zBy HB.o (I7.ge HI0.o) | exact zBx HB.o); rintro e w5 ⟨rfl, hi, hb, hk⟩; refine ⟨_, rfl, ?_⟩; replace HO294 := am (Kd.R_mono (Kd.R_keep (I7.apart (show I7 w0 _ g s0_0 s0_1 s0_2 from I7.zI HI0.o) (zRx HO294.o) (by decide)) hk (fun _ h => h.2)) (fun _ h => h.1)); replace HK := zkt HK hk; replace HB := am (hb); replace HI0 := am (hi); clear hb hk hi))
 go_loopg [3, 4, 5] k (fun kq v3 v4 v5 w' => ∃ (x3_1 : List (S25)) (x4_1 : Int) (x5_1 : Int) (x1001_1 : Int) (x1002_1 : Int), v4 = .int .i64 x4_1 ∧ v5 = .int .i64 x5_1 ∧ Aq (qm.l0 kq x3_1 x4_1 x5_1 s0_0 x1001_1 x1002_1 = some (r1, r2, r3)) ∧ Aq (kq ≤ k) ∧ Aq (Kd.R k25 25 w' w.heap.size (fun _ => True) v3 x3_1) ∧ Aq (I7 w0 w' g s0_0 x1001_1 x1002_1) ∧ Aq (Kq w w' g none) ∧ Aq (Below w0.heap.size w0 w'))
 case atStart => exact ⟨(y292), (0), (t295), (t296), (t297), zrx, zrx, H', ⟨Nat.le_refl _⟩, ⟨zDR HO294.o⟩, ⟨by exact I7.zI HI0.o⟩, ⟨by exact zKx HK.o⟩, ⟨by first | exact zBy HB.o (I7.ge HI0.o) | exact zBx HB.o⟩⟩
 case round =>
  clear H'
  obtain ⟨x3_1, x4_1, x5_1, x1001_1, x1002_1, rfl, rfl, HA, HK1, HO_3, HI0, HK, HB⟩ := hrel
  cases gk with
  | zero => exact absurd HA.o (by simp [qm.l0])
  | succ k1 =>
   have H := HA.o
   clear HA
   simp only [qm.l0] at H
   by_cases c6 : x5_1 > 0
   rotate_left
   ·rw [if_neg c6] at H
    have c6b0 := decide_eq_false c6
    clear c6
    obtain ⟨⟨t323, t324, t325⟩, A51, H⟩ := zob H
    try dsimp only at H
    by_cases c52 : t323 = 0
    ·rw [if_pos c52] at H
     have c52b0 := beq_iff_eq.mpr c52
     have c52b1 := bne_eq_false_iff_eq.mpr c52
     clear c52
     obtain ⟨⟨t326, t327, t328, t329, t330, t331, t332, t333⟩, A53, H⟩ := zob H
     try dsimp only at H
     obtain ⟨y334, hy334⟩ : ∃ y_ : List (S25), y_ = (([(⟨t326, t327, t328, t329, t330, t331⟩ : S25)] : List (S25))) := ⟨_, rfl⟩
     replace H := zyb hy334 H
     have Ny334 := am hy334
     clear hy334
     by_cases c54 : x3_1.length + y334.length < 2932031007402
     ·rw [if_pos c54] at H
      have LMc54 := am c54
      clear c54
      obtain ⟨y337, hy337⟩ : ∃ y_ : List (S25), y_ = (x3_1 ++ y334) := ⟨_, rfl⟩
      replace H : (some (y337, t332, t333)) = some (r1, r2, r3) := by rw [hy337]; exact H
      have Ny337 := am hy337
      clear hy337
      focus
       simp only [Option.some.injEq, Prod.mk.injEq] at H
       obtain ⟨rfl, rfl, rfl⟩ := H
       go_wp2_with (first | ((with_reducible refine zgc 75 rfl ?_); refine zgl 35 Tryz.func75 #[.pointer (some ⟨g, 0, none⟩), .int .i64 24] ?_; (with_reducible refine (qb.calls g s0_0 x1001_1 x1002_1 24 t323 t324 t325 w0 _ ?side1 ?side2 A51.o).mono ?_); (case side1 => exact I7.zI HI0.o); (case side2 => first | exact zBy HB.o (I7.ge HI0.o) | exact zBx HB.o); rintro e w55 ⟨rfl, hi, hb, hk⟩; refine ⟨_, rfl, ?_⟩; replace HO_3 := am (Kd.R_mono (Kd.R_keep (I7.apart (show I7 w0 _ g s0_0 x1001_1 x1002_1 from I7.zI HI0.o) (zRx HO_3.o) (by decide)) hk (fun _ h => h.2)) (fun _ h => h.1)); replace HK := zkt HK hk; replace HB := am (hb); replace HI0 := am (hi); clear hb hk hi) | ((with_reducible refine zgc 49 rfl ?_); refine zgl 40 Tryz.func49 #[.pointer (some ⟨g, 0, none⟩)] ?_; (with_reducible refine (spec_l1Cur_warning.calls g s0_0 t324 t325 t326 t327 t328 t329 t330 t331 t332 t333 w0 _ ?side1 ?side2 A53.o).mono ?_); (case side1 => exact I7.zI HI0.o); (case side2 => first | exact zBy HB.o (I7.ge HI0.o) | exact zBx HB.o); rintro e w56 ⟨rfl, hi, hb, hk⟩; refine ⟨_, rfl, ?_⟩; replace HO_3 := am (Kd.R_mono (Kd.R_keep (I7.apart (show I7 w0 _ g s0_0 t324 t325 from I7.zI HI0.o) (zRx HO_3.o) (by decide)) hk (fun _ h => h.2)) (fun _ h => h.1)); replace HK := zkt HK hk; replace HB := am (hb); replace HI0 := am (hi); clear hb hk hi) | ((with_reducible refine zgd 41 rfl ?_); refine Kd.R_lit k25 _ 25 ?hg (N := 41) ?hd (xs := ([(⟨t326, t327, t328, t329, t330, t331⟩ : S25)] : List (S25))) (inner := [.int .i64 t326, .int .i64 t327, .int .i64 t328, .int .i64 t329, .int .i64 t330, .int .i64 t331]) (ok := fun _ => True) (okp := fun _ => True) ?hr ?hp (fun _ hk => hk) trivial (Below.refl _ _) (Nat.le_refl _) (by simp) ?_; (case hd => rfl); (case hg => rfl); (case hr => exact zsx); (case hp => exact (Reps.c6 (show Kd.M k25 _ _ _ (⟨t326, t327, t328, t329, t330, t331⟩ : S25) [.int .i64 t326, .int .i64 t327, .int .i64 t328, .int .i64 t329, .int .i64 t330, .int .i64 t331] from (k25_mkM _ _ _ (⟨t326, t327, t328, t329, t330, t331⟩ : S25) )) (Reps.none _ _))); intro v335 w57 ho58 hb hg_ hnew_; clear hg_ hnew_; (first | rw [← Ny334.o] at ho58 | (simp only [Int.reduceToNat] at ho58; rw [← Ny334.o] at ho58)); have HO336 := am (Kd.R_lower (Kd.R_new' ho58 (Kd.R_lt (zRx HO_3.o))) (keep_size (w := w) (g := g) (row := none) (zKx HK.o))); replace HO_3 := am (Kd.R_elder' (zRx HO_3.o) (Kd.R_base ho58) hb); replace HK := zkq HK hb; replace HB := am (bsq (by first | exact zBy HB.o (I7.ge HI0.o) | exact zBx HB.o) hb); replace HI0 := am (I7.below (I7.zI HI0.o) hb); clear hb ho58; obtain ⟨Ao60, co60, eo60⟩ := Kd.R_slice HO336.o; subst eo60) | ((with_reducible refine gate_builtin (b := .append) (xs := #[.tmp 38, .tmp 41]) rfl ?_); at_builtin; refine Kd.R_append_rows k25 w.heap.size rfl (.tmp 38) (.tmp 41) 32 25 (.agg #[(.int .i64 0), (.int .i64 0), (.int .i64 0), (.int .i64 0), (.int .i64 0), (.int .i64 0)]) 48 rfl Tryz.underlying32 info25 rfl (by decide) (by omega) u3 x3_1 y334 _ _ _ (fun k_ => some k_ ≠ (.slice Ao60 y334.length co60 : Value).ownBlock) (fun _ => False) rfl rfl ?aO ?aR (fun _ _ h => h) (fun _ h => h.elim) ?aF (Below.refl _ _) ?aS ?aL ?_; (case aR => repeat (first | exact (Kd.R_reads' HO336.o).2.2 | (with_reducible refine Kd.C_alloc ?_ _) | (with_reducible refine Kd.C_drewN ?_ _) | (with_reducible refine Kd.C_drew ?_))); (case aF => exact (fun k_ hk => Kd.fresh' (Kd.R_lt (zRx HO336.o)) k_ hk)); (case aO => exact (by refine zDR ?_; exact Kd.R_mono HO_3.o (fun _ hk => hk.2))); (case aS => exact (keep_size (w := w) (g := g) (row := none) (zKx HK.o))); (case aL => have := LMc54.o; omega); intro v338 w59 ho hb hg hat; rw [← Ny337.o] at ho; replace HO336 := am (Kd.R_after (ok := (fun _ => True)) (zRx HO336.o) hg hat); replace HB := am (below_weaken (by first | exact zBy HB.o (I7.ge HI0.o) | exact zBx HB.o) HL.o hb); replace HI0 := am (I7.grown (I7.zI HI0.o) hg (I7.own_ne HI0.o HO_3.o (by decide))); replace HK := am (Kq.trans (zKx HK.o) (Kq.of_grown hg g) (Kd.R_base2 HO_3.o)); have HO339 := am (ho); clear HO_3; clear ho hb hg hat))
       go_ret
       exact ⟨_, zew, by refine zDR ?_; exact Kd.R_mono HO339.o (fun _ hk => trivial), by exact I7.zI HI0.o, by first | exact zBy HB.o (I7.ge HI0.o) | exact zBx HB.o, by exact zKx HK.o⟩
     ·rw [if_neg c54] at H
      exact absurd H (by simp)
    rw [if_neg c52] at H
    have c52b0 := beq_eq_false_iff_ne.mpr c52
    have c52b1 := bne_iff_ne.mpr c52
    by_cases c61 : t323 = 1
    rotate_left
    ·rw [if_neg c61] at H
     have c61b0 := beq_eq_false_iff_ne.mpr c61
     have c61b1 := bne_iff_ne.mpr c61
     focus
      simp only [Option.some.injEq, Prod.mk.injEq] at H
      obtain ⟨rfl, rfl, rfl⟩ := H
      go_wp2_with (first | ((with_reducible refine zgc 75 rfl ?_); refine zgl 35 Tryz.func75 #[.pointer (some ⟨g, 0, none⟩), .int .i64 24] ?_; (with_reducible refine (qb.calls g s0_0 x1001_1 x1002_1 24 t323 t324 t325 w0 _ ?side1 ?side2 A51.o).mono ?_); (case side1 => exact I7.zI HI0.o); (case side2 => first | exact zBy HB.o (I7.ge HI0.o) | exact zBx HB.o); rintro e w77 ⟨rfl, hi, hb, hk⟩; refine ⟨_, rfl, ?_⟩; replace HO_3 := am (Kd.R_mono (Kd.R_keep (I7.apart (show I7 w0 _ g s0_0 x1001_1 x1002_1 from I7.zI HI0.o) (zRx HO_3.o) (by decide)) hk (fun _ h => h.2)) (fun _ h => h.1)); replace HK := zkt HK hk; replace HB := am (hb); replace HI0 := am (hi); clear hb hk hi))
      go_ret
      exact ⟨_, zew, zDR HO_3.o, by exact I7.zI HI0.o, by first | exact zBy HB.o (I7.ge HI0.o) | exact zBx HB.o, by exact zKx HK.o⟩
    rw [if_pos c61] at H
    have c61b0 := beq_iff_eq.mpr c61
    have c61b1 := bne_eq_false_iff_eq.mpr c61
    clear c61
    have H' := am H
    clear H
    go_wp2_with (first | ((with_reducible refine zgc 75 rfl ?_); refine zgl 35 Tryz.func75 #[.pointer (some ⟨g, 0, none⟩), .int .i64 24] ?_; (with_reducible refine (qb.calls g s0_0 x1001_1 x1002_1 24 t323 t324 t325 w0 _ ?side1 ?side2 A51.o).mono ?_); (case side1 => exact I7.zI HI0.o); (case side2 => first | exact zBy HB.o (I7.ge HI0.o) | exact zBx HB.o); rintro e w62 ⟨rfl, hi, hb, hk⟩; refine ⟨_, rfl, ?_⟩; replace HO_3 := am (Kd.R_mono (Kd.R_keep (I7.apart (show I7 w0 _ g s0_0 x1001_1 x1002_1 from I7.zI HI0.o) (zRx HO_3.o) (by decide)) hk (fun _ h => h.2)) (fun _ h => h.1)); replace HK := zkt HK hk; replace HB := am (hb); replace HI0 := am (hi); clear hb hk hi))
    go_loopg [3, 8] k1 (fun kq v3 v8 w' => ∃ (x3_2 : List (S25)) (x8_2 : Int) (x1001_2 : Int) (x1002_2 : Int), v8 = .int .i64 x8_2 ∧ Aq (qm.l1 kq x3_2 x8_2 s0_0 x1001_2 x1002_2 = some (r1, r2, r3)) ∧ Aq (kq ≤ k1) ∧ Aq (Kd.R k25 25 w' w.heap.size (fun _ => True) v3 x3_2) ∧ Aq (I7 w0 w' g s0_0 x1001_2 x1002_2) ∧ Aq (Kq w w' g none) ∧ Aq (Below w0.heap.size w0 w'))
    case atStart => exact ⟨(x3_1), (0), (t324), (t325), zrx, H', ⟨Nat.le_refl _⟩, ⟨zDR HO_3.o⟩, ⟨by exact I7.zI HI0.o⟩, ⟨by exact zKx HK.o⟩, ⟨by first | exact zBy HB.o (I7.ge HI0.o) | exact zBx HB.o⟩⟩
    case round =>
     clear H'
     try clear c6
     try clear c6b0
     try clear c52
     try clear c52b0
     try clear c52b1
     try clear c61
     try clear c61b0
     try clear c61b1
     obtain ⟨x3_2, x8_2, x1001_2, x1002_2, rfl, HA, HK2, HO_3, HI0, HK, HB⟩ := hrel
     cases gk with
     | zero => exact absurd HA.o (by simp [qm.l1])
     | succ k2 =>
      have H := HA.o
      clear HA
      simp only [qm.l1] at H
      obtain ⟨⟨t340, t341, t342⟩, A63, H⟩ := zob H
      try dsimp only at H
      by_cases c64 : (x3_2.length : Int) < (wrap64 (12 + t340))
      rotate_left
      ·rw [if_neg c64] at H
       have c64b0 := decide_eq_false c64
       clear c64
       focus
        simp only [Option.some.injEq, Prod.mk.injEq] at H
        obtain ⟨rfl, rfl, rfl⟩ := H
        obtain ⟨Ao75, co75, eo75⟩ := Kd.R_slice HO_3.o
        subst eo75
        go_wp2_with (first | ((with_reducible refine zgc 75 rfl ?_); refine zgl 48 Tryz.func75 #[.pointer (some ⟨g, 0, none⟩), .int .i64 2] ?_; (with_reducible refine (qb.calls g s0_0 x1001_2 x1002_2 2 t340 t341 t342 w0 _ ?side1 ?side2 A63.o).mono ?_); (case side1 => exact I7.zI HI0.o); (case side2 => first | exact zBy HB.o (I7.ge HI0.o) | exact zBx HB.o); rintro e w76 ⟨rfl, hi, hb, hk⟩; refine ⟨_, rfl, ?_⟩; replace HO_3 := am (Kd.R_mono (Kd.R_keep (I7.apart (show I7 w0 _ g s0_0 x1001_2 x1002_2 from I7.zI HI0.o) (zRx HO_3.o) (by decide)) hk (fun _ h => h.2)) (fun _ h => h.1)); replace HK := zkt HK hk; replace HB := am (hb); replace HI0 := am (hi); clear hb hk hi))
        go_ret
        exact ⟨_, zew, zDR HO_3.o, by exact I7.zI HI0.o, by first | exact zBy HB.o (I7.ge HI0.o) | exact zBx HB.o, by exact zKx HK.o⟩
      rw [if_pos c64] at H
      have c64b0 := decide_eq_true c64
      clear c64
      by_cases c65 : x8_2 < 14
      rotate_left
      ·rw [if_neg c65] at H
       have c65b0 := decide_eq_false c65
       clear c65
       focus
        simp only [Option.some.injEq, Prod.mk.injEq] at H
        obtain ⟨rfl, rfl, rfl⟩ := H
        obtain ⟨Ao73, co73, eo73⟩ := Kd.R_slice HO_3.o
        subst eo73
        go_wp2_with (first | ((with_reducible refine zgc 75 rfl ?_); refine zgl 48 Tryz.func75 #[.pointer (some ⟨g, 0, none⟩), .int .i64 2] ?_; (with_reducible refine (qb.calls g s0_0 x1001_2 x1002_2 2 t340 t341 t342 w0 _ ?side1 ?side2 A63.o).mono ?_); (case side1 => exact I7.zI HI0.o); (case side2 => first | exact zBy HB.o (I7.ge HI0.o) | exact zBx HB.o); rintro e w74 ⟨rfl, hi, hb, hk⟩; refine ⟨_, rfl, ?_⟩; replace HO_3 := am (Kd.R_mono (Kd.R_keep (I7.apart (show I7 w0 _ g s0_0 x1001_2 x1002_2 from I7.zI HI0.o) (zRx HO_3.o) (by decide)) hk (fun _ h => h.2)) (fun _ h => h.1)); replace HK := zkt HK hk; replace HB := am (hb); replace HI0 := am (hi); clear hb hk hi))
        go_ret
        exact ⟨_, zew, zDR HO_3.o, by exact I7.zI HI0.o, by first | exact zBy HB.o (I7.ge HI0.o) | exact zBx HB.o, by exact zKx HK.o⟩
      rw [if_pos c65] at H
      have c65b0 := decide_eq_true c65
      clear c65
      obtain ⟨y343, hy343⟩ : ∃ y_ : List (S25), y_ = (([(⟨wrap64 (100 + x8_2), 5, 1, 9, wrap64 (10 * x8_2), wrap64 ((wrap64 (10 * x8_2)) + 5)⟩ : S25)] : List (S25))) := ⟨_, rfl⟩
      replace H := zyb hy343 H
      have Ny343 := am hy343
      clear hy343
      obtain ⟨c66, H⟩ := zin H
      have LMc66 := am c66
      clear c66
      obtain ⟨y346, hy346⟩ : ∃ y_ : List (S25), y_ = (x3_2 ++ y343) := ⟨_, rfl⟩
      replace H : (qm.l1 k2 y346 (wrap64 (x8_2 + 1)) s0_0 t341 t342) = some (r1, r2, r3) := by rw [hy346]; exact H
      have Ny346 := am hy346
      clear hy346
      focus
       have H' := am H
       clear H
       obtain ⟨Ao67, co67, eo67⟩ := Kd.R_slice HO_3.o
       subst eo67
       go_wp2_with (first | ((with_reducible refine zgc 75 rfl ?_); refine zgl 48 Tryz.func75 #[.pointer (some ⟨g, 0, none⟩), .int .i64 2] ?_; (with_reducible refine (qb.calls g s0_0 x1001_2 x1002_2 2 t340 t341 t342 w0 _ ?side1 ?side2 A63.o).mono ?_); (case side1 => exact I7.zI HI0.o); (case side2 => first | exact zBy HB.o (I7.ge HI0.o) | exact zBx HB.o); rintro e w68 ⟨rfl, hi, hb, hk⟩; refine ⟨_, rfl, ?_⟩; replace HO_3 := am (Kd.R_mono (Kd.R_keep (I7.apart (show I7 w0 _ g s0_0 x1001_2 x1002_2 from I7.zI HI0.o) (zRx HO_3.o) (by decide)) hk (fun _ h => h.2)) (fun _ h => h.1)); replace HK := zkt HK hk; replace HB := am (hb); replace HI0 := am (hi); clear hb hk hi) | ((with_reducible refine zgd 66 rfl ?_); refine Kd.R_lit k25 _ 25 ?hg (N := 66) ?hd (xs := ([(⟨wrap64 (100 + x8_2), 5, 1, 9, wrap64 (10 * x8_2), wrap64 ((wrap64 (10 * x8_2)) + 5)⟩ : S25)] : List (S25))) (inner := [.int .i64 (wrap64 (100 + x8_2)), .int .i64 5, .int .i64 1, .int .i64 9, .int .i64 (wrap64 (10 * x8_2)), .int .i64 (wrap64 ((wrap64 (10 * x8_2)) + 5))]) (ok := fun _ => True) (okp := fun _ => True) ?hr ?hp (fun _ hk => hk) trivial (Below.refl _ _) (Nat.le_refl _) (by simp) ?_; (case hd => rfl); (case hg => rfl); (case hr => exact zsx); (case hp => exact (Reps.c6 (show Kd.M k25 _ _ _ (⟨wrap64 (100 + x8_2), 5, 1, 9, wrap64 (10 * x8_2), wrap64 ((wrap64 (10 * x8_2)) + 5)⟩ : S25) [.int .i64 (wrap64 (100 + x8_2)), .int .i64 5, .int .i64 1, .int .i64 9, .int .i64 (wrap64 (10 * x8_2)), .int .i64 (wrap64 ((wrap64 (10 * x8_2)) + 5))] from (k25_mkM _ _ _ (⟨wrap64 (100 + x8_2), 5, 1, 9, wrap64 (10 * x8_2), wrap64 ((wrap64 (10 * x8_2)) + 5)⟩ : S25) )) (Reps.none _ _))); intro v344 w69 ho70 hb hg_ hnew_; clear hg_ hnew_; (first | rw [← Ny343.o] at ho70 | (simp only [Int.reduceToNat] at ho70; rw [← Ny343.o] at ho70)); have HO345 := am (Kd.R_lower (Kd.R_new' ho70 (Kd.R_lt (zRx HO_3.o))) (keep_size (w := w) (g := g) (row := none) (zKx HK.o))); replace HO_3 := am (Kd.R_elder' (zRx HO_3.o) (Kd.R_base ho70) hb); replace HK := zkq HK hb; replace HB := am (bsq (by first | exact zBy HB.o (I7.ge HI0.o) | exact zBx HB.o) hb); replace HI0 := am (I7.below (I7.zI HI0.o) hb); clear hb ho70; obtain ⟨Ao72, co72, eo72⟩ := Kd.R_slice HO345.o; subst eo72) | ((with_reducible refine gate_builtin (b := .append) (xs := #[.tmp 57, .tmp 66]) rfl ?_); at_builtin; refine Kd.R_append_rows k25 w.heap.size rfl (.tmp 57) (.tmp 66) 32 25 (.agg #[(.int .i64 0), (.int .i64 0), (.int .i64 0), (.int .i64 0), (.int .i64 0), (.int .i64 0)]) 48 rfl Tryz.underlying32 info25 rfl (by decide) (by omega) (.slice Ao67 x3_2.length co67) x3_2 y343 _ _ _ (fun k_ => some k_ ≠ (.slice Ao72 y343.length co72 : Value).ownBlock) (fun _ => False) rfl rfl ?aO ?aR (fun _ _ h => h) (fun _ h => h.elim) ?aF (Below.refl _ _) ?aS ?aL ?_; (case aR => repeat (first | exact (Kd.R_reads' HO345.o).2.2 | (with_reducible refine Kd.C_alloc ?_ _) | (with_reducible refine Kd.C_drewN ?_ _) | (with_reducible refine Kd.C_drew ?_))); (case aF => exact (fun k_ hk => Kd.fresh' (Kd.R_lt (zRx HO345.o)) k_ hk)); (case aO => exact (by refine zDR ?_; exact Kd.R_mono HO_3.o (fun _ hk => hk.2))); (case aS => exact (keep_size (w := w) (g := g) (row := none) (zKx HK.o))); (case aL => have := LMc66.o; omega); intro v347 w71 ho hb hg hat; rw [← Ny346.o] at ho; replace HO345 := am (Kd.R_after (ok := (fun _ => True)) (zRx HO345.o) hg hat); replace HB := am (below_weaken (by first | exact zBy HB.o (I7.ge HI0.o) | exact zBx HB.o) HL.o hb); replace HI0 := am (I7.grown (I7.zI HI0.o) hg (I7.own_ne HI0.o HO_3.o (by decide))); replace HK := am (Kq.trans (zKx HK.o) (Kq.of_grown hg g) (Kd.R_base2 HO_3.o)); have HO348 := am (ho); clear HO_3; clear ho hb hg hat))
       go_roundg k2
       case measure => have := HK1.o; have := HK2.o; omega
       case rel => exact ⟨(y346), (wrap64 (x8_2 + 1)), (t341), (t342), zrx, H', ⟨by have := HK1.o; have := HK2.o; omega⟩, ⟨by refine zDR ?_; exact Kd.R_mono HO348.o (fun _ hk => trivial)⟩, ⟨by exact I7.zI HI0.o⟩, ⟨by exact zKx HK.o⟩, ⟨by first | exact zBy HB.o (I7.ge HI0.o) | exact zBx HB.o⟩⟩
   rw [if_pos c6] at H
   have c6b0 := decide_eq_true c6
   clear c6
   obtain ⟨⟨t298, t299, t300, t301, t302, t303, t304, t305⟩, A7, H⟩ := zob H
   try dsimp only at H
   obtain ⟨⟨t307, t308, t309⟩, A8, H⟩ := zob H
   try dsimp only at H
   obtain ⟨y310, hy310⟩ : ∃ y_ : List (S25), y_ = (([] : List (S25))) := ⟨_, rfl⟩
   replace H := zyb hy310 H
   have Ny310 := am hy310
   clear hy310
   obtain ⟨c9, H⟩ := zin H
   have LMc9 := am c9
   clear c9
   obtain ⟨y313, hy313⟩ : ∃ y_ : List (S25), y_ = (y310 ++ x3_1) := ⟨_, rfl⟩
   replace H := zyb hy313 H
   have Ny313 := am hy313
   clear hy313
   obtain ⟨y316, hy316⟩ : ∃ y_ : List (S25), y_ = (([(⟨wrap64 ((wrap64 (x4_1 + 1)) + t307), t299, t300, t301, t302, t303⟩ : S25)] : List (S25))) := ⟨_, rfl⟩
   replace H := zyb hy316 H
   have Ny316 := am hy316
   clear hy316
   obtain ⟨c10, H⟩ := zin H
   have LMc10 := am c10
   clear c10
   obtain ⟨y319, hy319⟩ : ∃ y_ : List (S25), y_ = (y313 ++ y316) := ⟨_, rfl⟩
   replace H := zyb hy319 H
   have Ny319 := am hy319
   clear hy319
   obtain ⟨t322, A11, H⟩ := zob H
   try dsimp only at H
   have HH_ := am H
   clear H
   try go_wp2_with (first | ((with_reducible refine zgc 49 rfl ?_); refine zgl 17 Tryz.func49 #[.pointer (some ⟨g, 0, none⟩)] ?_; (with_reducible refine (spec_l1Cur_warning.calls g s0_0 x1001_1 x1002_1 t298 t299 t300 t301 t302 t303 t304 t305 w0 _ ?side1 ?side2 A7.o).mono ?_); (case side1 => exact I7.zI HI0.o); (case side2 => first | exact zBy HB.o (I7.ge HI0.o) | exact zBx HB.o); rintro e w13 ⟨rfl, hi, hb, hk⟩; refine ⟨_, rfl, ?_⟩; replace HO_3 := am (Kd.R_mono (Kd.R_keep (I7.apart (show I7 w0 _ g s0_0 x1001_1 x1002_1 from I7.zI HI0.o) (zRx HO_3.o) (by decide)) hk (fun _ h => h.2)) (fun _ h => h.1)); replace HK := zkt HK hk; replace HB := am (hb); replace HI0 := am (hi); clear hb) | ((with_reducible refine zgd 6 rfl ?_); refine zbe 6 #[.int .i64 0, .int .i64 0, .int .i64 0, .int .i64 0, .int .i64 0, .int .i64 0] 25 ?_; intro gb306 hg w14 hbox hb; replace HO_3 := am (Kd.R_below (Kd.R_elderB (zRx HO_3.o) gb306 (Nat.le_of_eq hg.symm)) hb); replace HB := am (bsq (by first | exact zBy HB.o (I7.ge HI0.o) | exact zBx HB.o) hb); have BK306 := am (hbox); have GW306 := zkw hg HK; have GE306 := zkv HW0 GW306; replace HK := zkq HK hb; have NB0_306 := am ((by rw [hg]; exact Nat.ne_of_lt (I7.lt (show I7 w0 _ g s0_0 t304 t305 from I7.zI HI0.o)) : g ≠ gb306)); have NB306_0 := am ((by rw [hg]; exact Nat.ne_of_gt (I7.lt (show I7 w0 _ g s0_0 t304 t305 from I7.zI HI0.o)) : gb306 ≠ g)); replace HI0 := am (I7.below (I7.zI HI0.o) hb); clear hb hbox hg; have hnb15 := NB306_0.o; have hnc15 := NB0_306.o; have hcz16 := zc6 BK306.o) | ((with_reducible refine zgc 75 rfl ?_); refine zgl 21 Tryz.func75 #[.pointer (some ⟨g, 0, none⟩), .int .i64 2] ?_; (with_reducible refine (qb.calls g s0_0 t304 t305 2 t307 t308 t309 w0 _ ?side1 ?side2 A8.o).mono ?_); (case side1 => exact I7.zJ HI0.o NB0_306.o); (case side2 => first | exact zBz HB.o (I7.ge HI0.o) GE306.o | exact zBy HB.o GE306.o); rintro e w17 ⟨rfl, hi, hb, hk⟩; refine ⟨_, rfl, ?_⟩; replace HO_3 := am (Kd.R_mono (Kd.R_keep (I7.apart (show I7 w0 _ g s0_0 t304 t305 from I7.zJ HI0.o NB0_306.o) (by (with_reducible repeat (first | apply Kd.R_alloc | apply Kd.R_drewN | apply Kd.R_drew)); exact (Kd.R_mono (zRf (Kd.R_mono HO_3.o (fun k_ hk => (⟨hk, hk.2⟩ : _ ∧ k_ ≠ gb306)))) (fun _ h_ => h_.1))) (by decide)) hk (fun _ h => h.2)) (fun _ h => h.1)); replace BK306 := am (Kq.blk hk (g' := gb306) (o := .cells #[.int .i64 t298, .int .i64 t299, .int .i64 t300, .int .i64 t301, .int .i64 t302, .int .i64 t303] 25 (0, 0)) (zbp BK306.o) NB306_0.o (by simp)); replace HK := zkt HK hk; replace HB := am (hb); replace HI0 := am (hi); clear hb; have hcz18 := zc6 BK306.o; obtain ⟨Ao19, co19, eo19⟩ := Kd.R_slice HO_3.o; subst eo19))
   have n0_ : Aq (Kd.R k25 25 (w17.setCell ⟨gb306, 0, none⟩ (.int .i64 (wrap64 ((wrap64 (x4_1 + 1)) + t307)))) w.heap.size (fun k_ => k_ ≠ gb306) (.slice Ao19 x3_1.length co19) x3_1) := ⟨by refine zDR ?_; exact Kd.R_mono (Kd.R_far (p := ⟨gb306, 0, none⟩) (Kd.R_mono HO_3.o (fun k_ hk => (⟨hk, hk.2⟩ : _ ∧ k_ ≠ gb306))) (fun _ hk => hk.2) (.int .i64 (wrap64 ((wrap64 (x4_1 + 1)) + t307)))) (fun _ hk => hk.1.2)⟩
   have n1_ : Aq ((w17.setCell ⟨gb306, 0, none⟩ (.int .i64 (wrap64 ((wrap64 (x4_1 + 1)) + t307)))).heap[gb306]? = some (.cells #[.int .i64 (wrap64 ((wrap64 (x4_1 + 1)) + t307)), .int .i64 t299, .int .i64 t300, .int .i64 t301, .int .i64 t302, .int .i64 t303] 25 (0, 0))) := ⟨zbp BK306.o⟩
   have n2_ : Aq (I7 w0 (w17.setCell ⟨gb306, 0, none⟩ (.int .i64 (wrap64 ((wrap64 (x4_1 + 1)) + t307)))) g s0_0 t308 t309) := ⟨by exact I7.zJ HI0.o NB0_306.o⟩
   have n3_ : Aq (Kq w (w17.setCell ⟨gb306, 0, none⟩ (.int .i64 (wrap64 ((wrap64 (x4_1 + 1)) + t307)))) g none) := ⟨by exact zKy HK.o GW306.o⟩
   have n4_ : Aq (Below w0.heap.size w0 (w17.setCell ⟨gb306, 0, none⟩ (.int .i64 (wrap64 ((wrap64 (x4_1 + 1)) + t307))))) := ⟨by exact zBz HB.o (I7.ge HI0.o) GE306.o⟩
   (try clear HO_3)
   (try clear BK306)
   (try clear HI0)
   (try clear HK)
   (try clear HB)
   generalize (w17.setCell ⟨gb306, 0, none⟩ (.int .i64 (wrap64 ((wrap64 (x4_1 + 1)) + t307)))) = w20 at n0_ n1_ n2_ n3_ n4_ ⊢
   have HO_3 := n0_
   have BK306 := n1_
   have HI0 := n2_
   have HK := n3_
   have HB := n4_
   clear n0_ n1_ n2_ n3_ n4_
   replace HO_3 := am (Kd.R_drew HO_3.o)
   replace BK306 := am (blk_drew BK306.o)
   replace HI0 := am (I7.drew HI0.o)
   replace HK := am (keep_drew HK.o)
   replace HB := am (below_drew1 HB.o)
   refine start_ (n := 7) (S := fun w' => zB6 w' gb306 (.int .i64 (wrap64 ((wrap64 (x4_1 + 1)) + t307))) (.int .i64 t299) (.int .i64 t300) (.int .i64 t301) (.int .i64 t302) (.int .i64 t303)) (ds := []) (zm 7 0) (by kernel_rfl) rfl rfl (zb6 BK306) (fun hHd => ?_)
   generalize w20.drew = w21 at HO_3 BK306 HI0 HK HB hHd ⊢
   refine pure_ (i := 1) (N := some 26) (v := ?_) (a' := ?_) (zm 7 2) rfl rfl (by kernel_rfl) (fun _ _ _ h => h) (Or.inl ⟨by rfl, ?_⟩) ?_ ?_
   rotate_left
   ·exact zwx
   rotate_left
   ·exact zpx
   refine take_ (i := 3) (N := some 28) (v := ?_) (a' := ?_) (zm 7 10) rfl rfl (by kernel_rfl) (fun _ _ _ h => h) (Or.inl ⟨by rfl, ?_⟩) hHd ?_ ?_
   rotate_left
   ·rintro w' ⟨s0, s1, s2, s3, s4, s5⟩
    go_simp
    with_reducible rfl
   rotate_left
   ·exact zpx
   refine join_ (σ := Value × Value × Value) 2 (zm 7 31) (fun s_ => [(25, s_.1), (27, s_.2.1), (29, s_.2.2)]) (fun s_ w' => (w'.cell? ⟨gb306, 0, none⟩ = some (.int .i64 (wrap64 ((wrap64 (x4_1 + 1)) + t307))) ∧ w'.cell? ⟨gb306, 1, none⟩ = some (.int .i64 t299) ∧ w'.cell? ⟨gb306, 2, none⟩ = some (.int .i64 t300) ∧ w'.cell? ⟨gb306, 3, none⟩ = some (.int .i64 t301) ∧ w'.cell? ⟨gb306, 4, none⟩ = some (.int .i64 t302) ∧ w'.cell? ⟨gb306, 5, none⟩ = some (.int .i64 t303)) ∧ (Kd.R k25 25 w' w.heap.size (fun k_ => some k_ ≠ (s_.2.2 : Value).ownBlock ∧ some k_ ≠ (.slice Ao19 x3_1.length co19 : Value).ownBlock ∧ k_ ≠ gb306) s_.2.1 y313) ∧ (Kd.R k25 25 w' w.heap.size (fun k_ => some k_ ≠ (s_.2.1 : Value).ownBlock ∧ some k_ ≠ (.slice Ao19 x3_1.length co19 : Value).ownBlock ∧ k_ ≠ gb306) s_.2.2 y316) ∧ (Kd.R k25 25 w' w.heap.size (fun k_ => some k_ ≠ (s_.2.1 : Value).ownBlock ∧ some k_ ≠ (s_.2.2 : Value).ownBlock ∧ k_ ≠ gb306) (.slice Ao19 x3_1.length co19) x3_1) ∧ (w'.heap[gb306]? = some (.cells #[.int .i64 (wrap64 ((wrap64 (x4_1 + 1)) + t307)), .int .i64 t299, .int .i64 t300, .int .i64 t301, .int .i64 t302, .int .i64 t303] 25 (0, 0))) ∧ (I7 w0 w' g s0_0 t308 t309) ∧ (Kq w w' g none) ∧ (Below w0.heap.size w0 w')) ?_ ?_
   rotate_left
   ·intro hCont
    refine two_ (i := 0) (j := 4) (Ni := some 25) (Nj := some 29) (zm 7 11) (zm 7 26) rfl rfl rfl rfl (by kernel_rfl) (by decide) (by decide) (fun K hK => ?_) (fun K hK => ?_)
    ·skip
     refine Kd.R_lit_step k25 _ 25 ?hg (N := 25) ?hd (xs := ([] : List (S25))) (inner := []) (ok := fun _ => True) (okp := fun _ => True) ?hr ?hp (fun _ hk => hk) trivial (Below.refl _ _) (Nat.le_refl _) (by simp) ?_; (case hd => rfl); (case hg => rfl); (case hr => exact zsx); (case hp => exact (Reps.none _ _))
     intro v311 w22 ho23 hb hg_ hnew_
     clear hg_ hnew_
     (first | rw [← Ny310.o] at ho23 | (simp only [Int.reduceToNat] at ho23; rw [← Ny310.o] at ho23))
     have HO312 := am (Kd.R_lower (Kd.R_newB (Kd.R_new' ho23 (Kd.R_lt (zRx HO_3.o))) (g := gb306) (o := .cells #[.int .i64 (wrap64 ((wrap64 (x4_1 + 1)) + t307)), .int .i64 t299, .int .i64 t300, .int .i64 t301, .int .i64 t302, .int .i64 t303] 25 (0, 0)) (zbx BK306.o)) (keep_size (w := w) (g := g) (row := none) (zKy HK.o GW306.o)))
     replace HO_3 := am (Kd.R_elder' (zRx HO_3.o) (Kd.R_base ho23) hb)
     replace BK306 := zbl BK306.o hb
     replace HK := zkq HK hb
     replace HB := am (bsq (by first | exact zBz HB.o (I7.ge HI0.o) GE306.o | exact zBy HB.o GE306.o) hb)
     replace HI0 := am (I7.below (I7.zF HI0.o NB0_306.o) hb)
     clear hb ho23
     refine hK.out _ _ (zb6 BK306) (fun hHd => ?_)
     clear hK K
     refine norm_ (a' := ?_) ?_ ?_
     rotate_left
     ·show Act.put _ (some 25) _ = _
      simp only [Act.put, List.setIfInBounds_toArray, List.set_cons_zero, List.set_cons_succ, i64_w, i32_w]
      rfl
     refine two_ (i := 2) (j := 4) (Ni := some 27) (Nj := some 29) (zm 7 15) (zm 7 27) rfl rfl rfl rfl (by kernel_rfl) (by decide) (by decide) (fun K hK => ?_) (fun K hK => ?_)
     ·skip
      refine Kd.R_append_rows_step k25 w.heap.size (by rfl) (.tmp 25) (.tmp 26) 32 25 (.agg #[(.int .i64 0), (.int .i64 0), (.int .i64 0), (.int .i64 0), (.int .i64 0), (.int .i64 0)]) 48 rfl Tryz.underlying32 info25 rfl (by decide) (by omega) v311 y310 x3_1 _ _ _ (fun k_ => some k_ ≠ (.slice Ao19 x3_1.length co19 : Value).ownBlock ∧ k_ ≠ gb306) (fun _ => False) rfl rfl ?aO ?aR (fun _ _ h => h) (fun _ h => h.elim) ?aF (Below.refl _ _) ?aS ?aL ?_
      (case aR => repeat (first | exact (Kd.R_reads' HO_3.o).2.2 | (with_reducible refine Kd.C_alloc ?_ _) | (with_reducible refine Kd.C_drewN ?_ _) | (with_reducible refine Kd.C_drew ?_)))
      (case aF => exact (fun k_ hk => ⟨Kd.fresh' (Kd.R_lt (zRx HO_3.o)) k_ hk, Kd.freshB (g := gb306) (o := .cells #[.int .i64 (wrap64 ((wrap64 (x4_1 + 1)) + t307)), .int .i64 t299, .int .i64 t300, .int .i64 t301, .int .i64 t302, .int .i64 t303] 25 (0, 0)) (zbx BK306.o) k_ hk⟩))
      (case aO => exact (by refine zDR ?_; exact Kd.R_mono HO312.o (fun _ hk => by first | exact ⟨hk.1.2, hk.2⟩ | exact ⟨hk.2, hk.1.2⟩ | grind)))
      (case aS => exact (keep_size (w := w) (g := g) (row := none) (zKy HK.o GW306.o)))
      (case aL => have := LMc9.o; omega)
      intro v314 w24 ho hb hg hat
      rw [← Ny313.o] at ho
      replace HO_3 := am (Kd.R_after (ok := (fun k_ => k_ ≠ gb306)) (zRx HO_3.o) hg hat)
      replace BK306 := zgr BK306.o hg (Kd.R_away HO312.o (fun _ hk => hk.2))
      replace HB := am (below_weaken (by first | exact zBz HB.o (I7.ge HI0.o) GE306.o | exact zBy HB.o GE306.o) HL.o hb)
      replace HI0 := am (I7.grown (I7.zF HI0.o NB0_306.o) hg (I7.own_ne HI0.o HO312.o (by decide)))
      replace HK := am (Kq.trans (zKy HK.o GW306.o) (Kq.of_grown hg g) (Kd.R_base2 HO312.o))
      have HO315 := am (ho)
      clear HO312
      clear ho hb hg hat
      refine hK.out _ _ (zb6 BK306) (fun hHd => ?_)
      clear hK K
      refine norm_ (a' := ?_) ?_ ?_
      rotate_left
      ·show Act.put _ (some 27) _ = _
       simp only [Act.put, List.setIfInBounds_toArray, List.set_cons_zero, List.set_cons_succ, i64_w, i32_w]
       rfl
      refine one_ (i := 4) (N := some 29) (zm 7 31) rfl rfl (by kernel_rfl) (by decide) (fun K hK => ?_)
      refine Kd.R_lit_step k25 _ 25 ?hg (N := 29) ?hd (xs := ([(⟨wrap64 ((wrap64 (x4_1 + 1)) + t307), t299, t300, t301, t302, t303⟩ : S25)] : List (S25))) (inner := [.int .i64 (wrap64 ((wrap64 (x4_1 + 1)) + t307)), .int .i64 t299, .int .i64 t300, .int .i64 t301, .int .i64 t302, .int .i64 t303]) (ok := fun _ => True) (okp := fun _ => True) ?hr ?hp (fun _ hk => hk) trivial (Below.refl _ _) (Nat.le_refl _) (by simp) ?_; (case hd => rfl); (case hg => rfl); (case hr => exact zsx); (case hp => exact (Reps.c6 (show Kd.M k25 _ _ _ (⟨wrap64 ((wrap64 (x4_1 + 1)) + t307), t299, t300, t301, t302, t303⟩ : S25) [.int .i64 (wrap64 ((wrap64 (x4_1 + 1)) + t307)), .int .i64 t299, .int .i64 t300, .int .i64 t301, .int .i64 t302, .int .i64 t303] from (k25_mkM _ _ _ (⟨wrap64 ((wrap64 (x4_1 + 1)) + t307), t299, t300, t301, t302, t303⟩ : S25) )) (Reps.none _ _)))
      intro v317 w25 ho26 hb hg_ hnew_
      clear hg_ hnew_
      (first | rw [← Ny316.o] at ho26 | (simp only [Int.reduceToNat] at ho26; rw [← Ny316.o] at ho26))
      have HO318 := am (Kd.R_lower (Kd.R_newB (Kd.R_new' (Kd.R_new' ho26 (Kd.R_lt (zRx HO_3.o))) (Kd.R_lt (zRx HO315.o))) (g := gb306) (o := .cells #[.int .i64 (wrap64 ((wrap64 (x4_1 + 1)) + t307)), .int .i64 t299, .int .i64 t300, .int .i64 t301, .int .i64 t302, .int .i64 t303] 25 (0, 0)) (zbx BK306.o)) (keep_size (w := w) (g := g) (row := none) (zKy HK.o GW306.o)))
      replace HO_3 := am (Kd.R_elder' (zRx HO_3.o) (Kd.R_base ho26) hb)
      replace HO315 := am (Kd.R_elder' (zRx HO315.o) (Kd.R_base ho26) hb)
      replace BK306 := zbl BK306.o hb
      replace HK := zkq HK hb
      replace HB := am (bsq (by first | exact zBz HB.o (I7.ge HI0.o) GE306.o | exact zBy HB.o GE306.o) hb)
      replace HI0 := am (I7.below (I7.zF HI0.o NB0_306.o) hb)
      clear hb ho26
      refine hK.out _ _ (zb6 BK306) (fun hHd => ?_)
      clear hK K
      refine norm_ (a' := ?_) ?_ ?_
      rotate_left
      ·show Act.put _ (some 29) _ = _
       simp only [Act.put, List.setIfInBounds_toArray, List.set_cons_zero, List.set_cons_succ, i64_w, i32_w]
       rfl
      exact norm_ (by simp only [putAll, Act.put, List.setIfInBounds_toArray, List.set_cons_zero, List.set_cons_succ]) (hCont (v311, v314, v317) _ ⟨hHd, (by refine zDR ?_; exact Kd.R_mono HO315.o (fun _ hk => ⟨hk.2, ⟨hk.1.1, hk.1.2⟩⟩)), (by refine zDR ?_; exact Kd.R_mono HO318.o (fun _ hk => ⟨hk.1.2, ⟨hk.1.1.2, hk.2⟩⟩)), (by refine zDR ?_; exact Kd.R_mono HO_3.o (fun _ hk => ⟨hk.1.2, ⟨hk.2, hk.1.1⟩⟩)), (zbx BK306.o), (I7.zJ HI0.o NB0_306.o), (zKy HK.o GW306.o), (by first | exact zBz HB.o (I7.ge HI0.o) GE306.o | exact zBy HB.o GE306.o)⟩)
     ·skip
      refine Kd.R_lit_step k25 _ 25 ?hg (N := 29) ?hd (xs := ([(⟨wrap64 ((wrap64 (x4_1 + 1)) + t307), t299, t300, t301, t302, t303⟩ : S25)] : List (S25))) (inner := [.int .i64 (wrap64 ((wrap64 (x4_1 + 1)) + t307)), .int .i64 t299, .int .i64 t300, .int .i64 t301, .int .i64 t302, .int .i64 t303]) (ok := fun _ => True) (okp := fun _ => True) ?hr ?hp (fun _ hk => hk) trivial (Below.refl _ _) (Nat.le_refl _) (by simp) ?_; (case hd => rfl); (case hg => rfl); (case hr => exact zsx); (case hp => exact (Reps.c6 (show Kd.M k25 _ _ _ (⟨wrap64 ((wrap64 (x4_1 + 1)) + t307), t299, t300, t301, t302, t303⟩ : S25) [.int .i64 (wrap64 ((wrap64 (x4_1 + 1)) + t307)), .int .i64 t299, .int .i64 t300, .int .i64 t301, .int .i64 t302, .int .i64 t303] from (k25_mkM _ _ _ (⟨wrap64 ((wrap64 (x4_1 + 1)) + t307), t299, t300, t301, t302, t303⟩ : S25) )) (Reps.none _ _)))
      intro v317 w24 ho25 hb hg_ hnew_
      clear hg_ hnew_
      (first | rw [← Ny316.o] at ho25 | (simp only [Int.reduceToNat] at ho25; rw [← Ny316.o] at ho25))
      have HO318 := am (Kd.R_lower (Kd.R_newB (Kd.R_new' (Kd.R_new' ho25 (Kd.R_lt (zRx HO_3.o))) (Kd.R_lt (zRx HO312.o))) (g := gb306) (o := .cells #[.int .i64 (wrap64 ((wrap64 (x4_1 + 1)) + t307)), .int .i64 t299, .int .i64 t300, .int .i64 t301, .int .i64 t302, .int .i64 t303] 25 (0, 0)) (zbx BK306.o)) (keep_size (w := w) (g := g) (row := none) (zKy HK.o GW306.o)))
      replace HO_3 := am (Kd.R_elder' (zRx HO_3.o) (Kd.R_base ho25) hb)
      replace HO312 := am (Kd.R_elder' (zRx HO312.o) (Kd.R_base ho25) hb)
      replace BK306 := zbl BK306.o hb
      replace HK := zkq HK hb
      replace HB := am (bsq (by first | exact zBz HB.o (I7.ge HI0.o) GE306.o | exact zBy HB.o GE306.o) hb)
      replace HI0 := am (I7.below (I7.zF HI0.o NB0_306.o) hb)
      clear hb ho25
      refine hK.out _ _ (zb6 BK306) (fun hHd => ?_)
      clear hK K
      refine norm_ (a' := ?_) ?_ ?_
      rotate_left
      ·show Act.put _ (some 29) _ = _
       simp only [Act.put, List.setIfInBounds_toArray, List.set_cons_zero, List.set_cons_succ, i64_w, i32_w]
       rfl
      refine one_ (i := 2) (N := some 27) (zm 7 31) rfl rfl (by kernel_rfl) (by decide) (fun K hK => ?_)
      refine Kd.R_append_rows_step k25 w.heap.size (by rfl) (.tmp 25) (.tmp 26) 32 25 (.agg #[(.int .i64 0), (.int .i64 0), (.int .i64 0), (.int .i64 0), (.int .i64 0), (.int .i64 0)]) 48 rfl Tryz.underlying32 info25 rfl (by decide) (by omega) v311 y310 x3_1 _ _ _ (fun k_ => some k_ ≠ (.slice Ao19 x3_1.length co19 : Value).ownBlock ∧ some k_ ≠ (v317 : Value).ownBlock ∧ k_ ≠ gb306) (fun _ => False) rfl rfl ?aO ?aR (fun _ _ h => h) (fun _ h => h.elim) ?aF (Below.refl _ _) ?aS ?aL ?_
      (case aR => repeat (first | exact (Kd.R_reads' HO_3.o).2.2 | (with_reducible refine Kd.C_alloc ?_ _) | (with_reducible refine Kd.C_drewN ?_ _) | (with_reducible refine Kd.C_drew ?_)))
      (case aF => exact (fun k_ hk => ⟨Kd.fresh' (Kd.R_lt (zRx HO_3.o)) k_ hk, Kd.fresh' (Kd.R_lt (zRx HO318.o)) k_ hk, Kd.freshB (g := gb306) (o := .cells #[.int .i64 (wrap64 ((wrap64 (x4_1 + 1)) + t307)), .int .i64 t299, .int .i64 t300, .int .i64 t301, .int .i64 t302, .int .i64 t303] 25 (0, 0)) (zbx BK306.o) k_ hk⟩))
      (case aO => exact (by refine zDR ?_; exact Kd.R_mono HO312.o (fun _ hk => ⟨hk.1.1.2, ⟨hk.2, hk.1.2⟩⟩)))
      (case aS => exact (keep_size (w := w) (g := g) (row := none) (zKy HK.o GW306.o)))
      (case aL => have := LMc9.o; omega)
      intro v314 w26 ho hb hg hat
      rw [← Ny313.o] at ho
      replace HO_3 := am (Kd.R_after (ok := (fun k_ => some k_ ≠ (v317 : Value).ownBlock ∧ k_ ≠ gb306)) (by refine zDR ?_; exact Kd.R_mono HO_3.o (fun _ hk => ⟨⟨hk.2, hk.1.1⟩, hk.1.2⟩)) hg hat)
      replace BK306 := zgr BK306.o hg (Kd.R_away HO312.o (fun _ hk => hk.1.2))
      replace HO318 := am (Kd.R_after (ok := (fun k_ => some k_ ≠ (.slice Ao19 x3_1.length co19 : Value).ownBlock ∧ k_ ≠ gb306)) (by refine zDR ?_; exact Kd.R_mono HO318.o (fun _ hk => ⟨⟨hk.1.1.2, hk.2⟩, hk.1.2⟩)) hg hat)
      replace HB := am (below_weaken (by first | exact zBz HB.o (I7.ge HI0.o) GE306.o | exact zBy HB.o GE306.o) HL.o hb)
      replace HI0 := am (I7.grown (I7.zF HI0.o NB0_306.o) hg (I7.own_ne HI0.o HO312.o (by decide)))
      replace HK := am (Kq.trans (zKy HK.o GW306.o) (Kq.of_grown hg g) (Kd.R_base2 HO312.o))
      have HO315 := am (ho)
      clear HO312
      clear ho hb hg hat
      refine hK.out _ _ (zb6 BK306) (fun hHd => ?_)
      clear hK K
      refine norm_ (a' := ?_) ?_ ?_
      rotate_left
      ·show Act.put _ (some 27) _ = _
       simp only [Act.put, List.setIfInBounds_toArray, List.set_cons_zero, List.set_cons_succ, i64_w, i32_w]
       rfl
      exact norm_ (by simp only [putAll, Act.put, List.setIfInBounds_toArray, List.set_cons_zero, List.set_cons_succ]) (hCont (v311, v314, v317) _ ⟨hHd, (by refine zDR ?_; exact Kd.R_mono HO315.o (fun _ hk => ⟨hk.2.1, ⟨hk.1, hk.2.2⟩⟩)), (by refine zDR ?_; exact Kd.R_mono HO318.o (fun _ hk => ⟨hk.2, ⟨hk.1.1, hk.1.2⟩⟩)), (by refine zDR ?_; exact Kd.R_mono HO_3.o (fun _ hk => ⟨hk.2, ⟨hk.1.1, hk.1.2⟩⟩)), (zbx BK306.o), (I7.zJ HI0.o NB0_306.o), (zKy HK.o GW306.o), (by first | exact zBz HB.o (I7.ge HI0.o) GE306.o | exact zBy HB.o GE306.o)⟩)
    ·skip
     refine Kd.R_lit_step k25 _ 25 ?hg (N := 29) ?hd (xs := ([(⟨wrap64 ((wrap64 (x4_1 + 1)) + t307), t299, t300, t301, t302, t303⟩ : S25)] : List (S25))) (inner := [.int .i64 (wrap64 ((wrap64 (x4_1 + 1)) + t307)), .int .i64 t299, .int .i64 t300, .int .i64 t301, .int .i64 t302, .int .i64 t303]) (ok := fun _ => True) (okp := fun _ => True) ?hr ?hp (fun _ hk => hk) trivial (Below.refl _ _) (Nat.le_refl _) (by simp) ?_; (case hd => rfl); (case hg => rfl); (case hr => exact zsx); (case hp => exact (Reps.c6 (show Kd.M k25 _ _ _ (⟨wrap64 ((wrap64 (x4_1 + 1)) + t307), t299, t300, t301, t302, t303⟩ : S25) [.int .i64 (wrap64 ((wrap64 (x4_1 + 1)) + t307)), .int .i64 t299, .int .i64 t300, .int .i64 t301, .int .i64 t302, .int .i64 t303] from (k25_mkM _ _ _ (⟨wrap64 ((wrap64 (x4_1 + 1)) + t307), t299, t300, t301, t302, t303⟩ : S25) )) (Reps.none _ _)))
     intro v317 w22 ho23 hb hg_ hnew_
     clear hg_ hnew_
     (first | rw [← Ny316.o] at ho23 | (simp only [Int.reduceToNat] at ho23; rw [← Ny316.o] at ho23))
     have HO318 := am (Kd.R_lower (Kd.R_newB (Kd.R_new' ho23 (Kd.R_lt (zRx HO_3.o))) (g := gb306) (o := .cells #[.int .i64 (wrap64 ((wrap64 (x4_1 + 1)) + t307)), .int .i64 t299, .int .i64 t300, .int .i64 t301, .int .i64 t302, .int .i64 t303] 25 (0, 0)) (zbx BK306.o)) (keep_size (w := w) (g := g) (row := none) (zKy HK.o GW306.o)))
     replace HO_3 := am (Kd.R_elder' (zRx HO_3.o) (Kd.R_base ho23) hb)
     replace BK306 := zbl BK306.o hb
     replace HK := zkq HK hb
     replace HB := am (bsq (by first | exact zBz HB.o (I7.ge HI0.o) GE306.o | exact zBy HB.o GE306.o) hb)
     replace HI0 := am (I7.below (I7.zF HI0.o NB0_306.o) hb)
     clear hb ho23
     refine hK.out _ _ (zb6 BK306) (fun hHd => ?_)
     clear hK K
     refine norm_ (a' := ?_) ?_ ?_
     rotate_left
     ·show Act.put _ (some 29) _ = _
      simp only [Act.put, List.setIfInBounds_toArray, List.set_cons_zero, List.set_cons_succ, i64_w, i32_w]
      rfl
     refine one_ (i := 0) (N := some 25) (zm 7 27) rfl rfl (by kernel_rfl) (by decide) (fun K hK => ?_)
     refine Kd.R_lit_step k25 _ 25 ?hg (N := 25) ?hd (xs := ([] : List (S25))) (inner := []) (ok := fun _ => True) (okp := fun _ => True) ?hr ?hp (fun _ hk => hk) trivial (Below.refl _ _) (Nat.le_refl _) (by simp) ?_; (case hd => rfl); (case hg => rfl); (case hr => exact zsx); (case hp => exact (Reps.none _ _))
     intro v311 w24 ho25 hb hg_ hnew_
     clear hg_ hnew_
     (first | rw [← Ny310.o] at ho25 | (simp only [Int.reduceToNat] at ho25; rw [← Ny310.o] at ho25))
     have HO312 := am (Kd.R_lower (Kd.R_newB (Kd.R_new' (Kd.R_new' ho25 (Kd.R_lt (zRx HO_3.o))) (Kd.R_lt (zRx HO318.o))) (g := gb306) (o := .cells #[.int .i64 (wrap64 ((wrap64 (x4_1 + 1)) + t307)), .int .i64 t299, .int .i64 t300, .int .i64 t301, .int .i64 t302, .int .i64 t303] 25 (0, 0)) (zbx BK306.o)) (keep_size (w := w) (g := g) (row := none) (zKy HK.o GW306.o)))
     replace HO_3 := am (Kd.R_elder' (zRx HO_3.o) (Kd.R_base ho25) hb)
     replace HO318 := am (Kd.R_elder' (zRx HO318.o) (Kd.R_base ho25) hb)
     replace BK306 := zbl BK306.o hb
     replace HK := zkq HK hb
     replace HB := am (bsq (by first | exact zBz HB.o (I7.ge HI0.o) GE306.o | exact zBy HB.o GE306.o) hb)
     replace HI0 := am (I7.below (I7.zF HI0.o NB0_306.o) hb)
     clear hb ho25
     refine hK.out _ _ (zb6 BK306) (fun hHd => ?_)
     clear hK K
     refine norm_ (a' := ?_) ?_ ?_
     rotate_left
     ·show Act.put _ (some 25) _ = _
      simp only [Act.put, List.setIfInBounds_toArray, List.set_cons_zero, List.set_cons_succ, i64_w, i32_w]
      rfl
     refine one_ (i := 2) (N := some 27) (zm 7 31) rfl rfl (by kernel_rfl) (by decide) (fun K hK => ?_)
     refine Kd.R_append_rows_step k25 w.heap.size (by rfl) (.tmp 25) (.tmp 26) 32 25 (.agg #[(.int .i64 0), (.int .i64 0), (.int .i64 0), (.int .i64 0), (.int .i64 0), (.int .i64 0)]) 48 rfl Tryz.underlying32 info25 rfl (by decide) (by omega) v311 y310 x3_1 _ _ _ (fun k_ => some k_ ≠ (.slice Ao19 x3_1.length co19 : Value).ownBlock ∧ some k_ ≠ (v317 : Value).ownBlock ∧ k_ ≠ gb306) (fun _ => False) rfl rfl ?aO ?aR (fun _ _ h => h) (fun _ h => h.elim) ?aF (Below.refl _ _) ?aS ?aL ?_
     (case aR => repeat (first | exact (Kd.R_reads' HO_3.o).2.2 | (with_reducible refine Kd.C_alloc ?_ _) | (with_reducible refine Kd.C_drewN ?_ _) | (with_reducible refine Kd.C_drew ?_)))
     (case aF => exact (fun k_ hk => ⟨Kd.fresh' (Kd.R_lt (zRx HO_3.o)) k_ hk, Kd.fresh' (Kd.R_lt (zRx HO318.o)) k_ hk, Kd.freshB (g := gb306) (o := .cells #[.int .i64 (wrap64 ((wrap64 (x4_1 + 1)) + t307)), .int .i64 t299, .int .i64 t300, .int .i64 t301, .int .i64 t302, .int .i64 t303] 25 (0, 0)) (zbx BK306.o) k_ hk⟩))
     (case aO => exact (by refine zDR ?_; exact Kd.R_mono HO312.o (fun _ hk => ⟨hk.1.1.2, ⟨hk.1.2, hk.2⟩⟩)))
     (case aS => exact (keep_size (w := w) (g := g) (row := none) (zKy HK.o GW306.o)))
     (case aL => have := LMc9.o; omega)
     intro v314 w26 ho hb hg hat
     rw [← Ny313.o] at ho
     replace HO_3 := am (Kd.R_after (ok := (fun k_ => some k_ ≠ (v317 : Value).ownBlock ∧ k_ ≠ gb306)) (by refine zDR ?_; exact Kd.R_mono HO_3.o (fun _ hk => ⟨⟨hk.1.2, hk.1.1⟩, hk.2⟩)) hg hat)
     replace BK306 := zgr BK306.o hg (Kd.R_away HO312.o (fun _ hk => hk.2))
     replace HO318 := am (Kd.R_after (ok := (fun k_ => some k_ ≠ (.slice Ao19 x3_1.length co19 : Value).ownBlock ∧ k_ ≠ gb306)) (by refine zDR ?_; exact Kd.R_mono HO318.o (fun _ hk => ⟨⟨hk.1.1.2, hk.1.2⟩, hk.2⟩)) hg hat)
     replace HB := am (below_weaken (by first | exact zBz HB.o (I7.ge HI0.o) GE306.o | exact zBy HB.o GE306.o) HL.o hb)
     replace HI0 := am (I7.grown (I7.zF HI0.o NB0_306.o) hg (I7.own_ne HI0.o HO312.o (by decide)))
     replace HK := am (Kq.trans (zKy HK.o GW306.o) (Kq.of_grown hg g) (Kd.R_base2 HO312.o))
     have HO315 := am (ho)
     clear HO312
     clear ho hb hg hat
     refine hK.out _ _ (zb6 BK306) (fun hHd => ?_)
     clear hK K
     refine norm_ (a' := ?_) ?_ ?_
     rotate_left
     ·show Act.put _ (some 27) _ = _
      simp only [Act.put, List.setIfInBounds_toArray, List.set_cons_zero, List.set_cons_succ, i64_w, i32_w]
      rfl
     exact norm_ (by simp only [putAll, Act.put, List.setIfInBounds_toArray, List.set_cons_zero, List.set_cons_succ]) (hCont (v311, v314, v317) _ ⟨hHd, (by refine zDR ?_; exact Kd.R_mono HO315.o (fun _ hk => ⟨hk.2.1, ⟨hk.1, hk.2.2⟩⟩)), (by refine zDR ?_; exact Kd.R_mono HO318.o (fun _ hk => ⟨hk.2, ⟨hk.1.1, hk.1.2⟩⟩)), (by refine zDR ?_; exact Kd.R_mono HO_3.o (fun _ hk => ⟨hk.2, ⟨hk.1.1, hk.1.2⟩⟩)), (zbx BK306.o), (I7.zJ HI0.o NB0_306.o), (zKy HK.o GW306.o), (by first | exact zBz HB.o (I7.ge HI0.o) GE306.o | exact zBy HB.o GE306.o)⟩)
   rintro ⟨v311, v314, v317⟩ w27 ⟨hS_, h0_, h1_, h2_, h3_, h4_, h5_, h6_⟩
   have HO315 : Aq (Kd.R k25 25 w27 w.heap.size (fun k_ => some k_ ≠ (v317 : Value).ownBlock ∧ some k_ ≠ (.slice Ao19 x3_1.length co19 : Value).ownBlock ∧ k_ ≠ gb306) v314 y313) := ⟨h0_⟩
   have HO318 : Aq (Kd.R k25 25 w27 w.heap.size (fun k_ => some k_ ≠ (v314 : Value).ownBlock ∧ some k_ ≠ (.slice Ao19 x3_1.length co19 : Value).ownBlock ∧ k_ ≠ gb306) v317 y316) := ⟨h1_⟩
   replace HO_3 : Aq (Kd.R k25 25 w27 w.heap.size (fun k_ => some k_ ≠ (v314 : Value).ownBlock ∧ some k_ ≠ (v317 : Value).ownBlock ∧ k_ ≠ gb306) (.slice Ao19 x3_1.length co19) x3_1) := ⟨h2_⟩
   replace BK306 : Aq (w27.heap[gb306]? = some (.cells #[.int .i64 (wrap64 ((wrap64 (x4_1 + 1)) + t307)), .int .i64 t299, .int .i64 t300, .int .i64 t301, .int .i64 t302, .int .i64 t303] 25 (0, 0))) := ⟨h3_⟩
   replace HI0 : Aq (I7 w0 w27 g s0_0 t308 t309) := ⟨h4_⟩
   replace HK : Aq (Kq w w27 g none) := ⟨h5_⟩
   replace HB : Aq (Below w0.heap.size w0 w27) := ⟨h6_⟩
   clear h0_
   clear h1_
   clear h2_
   clear h3_
   clear h4_
   clear h5_
   clear h6_
   have hHd : w27.cell? ⟨gb306, 0, none⟩ = some (.int .i64 (wrap64 ((wrap64 (x4_1 + 1)) + t307))) ∧ w27.cell? ⟨gb306, 1, none⟩ = some (.int .i64 t299) ∧ w27.cell? ⟨gb306, 2, none⟩ = some (.int .i64 t300) ∧ w27.cell? ⟨gb306, 3, none⟩ = some (.int .i64 t301) ∧ w27.cell? ⟨gb306, 4, none⟩ = some (.int .i64 t302) ∧ w27.cell? ⟨gb306, 5, none⟩ = some (.int .i64 t303) := hS_
   obtain ⟨Ao29, co29, eo29⟩ := Kd.R_slice HO318.o
   (first | subst eo29 | (injection eo29 with f1_ f2_ f3_; have f4_ := f1_.symm; have f5_ := f3_.symm; clear f1_ f2_ f3_; subst f4_; subst f5_))
   refine norm_ (a' := ?_) ?_ ?_
   rotate_left
   ·simp only [putAll, Act.put, List.setIfInBounds_toArray, List.set_cons_zero, List.set_cons_succ]
    rfl
   refine one_ (i := 5) (N := some 30) (zm 7 63) rfl rfl (by kernel_rfl) (by decide) (fun K hK => ?_)
   refine Kd.R_append_rows_step k25 w.heap.size (by rfl) (.tmp 27) (.tmp 29) 32 25 (.agg #[(.int .i64 0), (.int .i64 0), (.int .i64 0), (.int .i64 0), (.int .i64 0), (.int .i64 0)]) 48 rfl Tryz.underlying32 info25 rfl (by decide) (by omega) v314 y313 y316 _ _ _ (fun k_ => some k_ ≠ (.slice Ao19 x3_1.length co19 : Value).ownBlock ∧ some k_ ≠ (.slice Ao29 y316.length co29 : Value).ownBlock ∧ k_ ≠ gb306) (fun _ => False) rfl rfl ?aO ?aR (fun _ _ h => h) (fun _ h => h.elim) ?aF (Below.refl _ _) ?aS ?aL ?_
   (case aR => repeat (first | exact (Kd.R_reads' HO318.o).2.2 | (with_reducible refine Kd.C_alloc ?_ _) | (with_reducible refine Kd.C_drewN ?_ _) | (with_reducible refine Kd.C_drew ?_)))
   (case aF => exact (fun k_ hk => ⟨Kd.fresh' (Kd.R_lt (zRx HO_3.o)) k_ hk, Kd.fresh' (Kd.R_lt (zRx HO318.o)) k_ hk, Kd.freshB (g := gb306) (o := .cells #[.int .i64 (wrap64 ((wrap64 (x4_1 + 1)) + t307)), .int .i64 t299, .int .i64 t300, .int .i64 t301, .int .i64 t302, .int .i64 t303] 25 (0, 0)) (zbx BK306.o) k_ hk⟩))
   (case aO => exact (by refine zDR ?_; exact Kd.R_mono HO315.o (fun _ hk => ⟨hk.2.1, ⟨hk.1, hk.2.2⟩⟩)))
   (case aS => exact (keep_size (w := w) (g := g) (row := none) (zKy HK.o GW306.o)))
   (case aL => have := LMc10.o; omega)
   intro v320 w28 ho hb hg hat
   rw [← Ny319.o] at ho
   replace HO_3 := am (Kd.R_after (ok := (fun k_ => some k_ ≠ (.slice Ao29 y316.length co29 : Value).ownBlock ∧ k_ ≠ gb306)) (by refine zDR ?_; exact Kd.R_mono HO_3.o (fun _ hk => ⟨⟨hk.2.1, hk.2.2⟩, hk.1⟩)) hg hat)
   replace BK306 := zgr BK306.o hg (Kd.R_away HO315.o (fun _ hk => hk.2.2))
   replace HO318 := am (Kd.R_after (ok := (fun k_ => some k_ ≠ (.slice Ao19 x3_1.length co19 : Value).ownBlock ∧ k_ ≠ gb306)) (by refine zDR ?_; exact Kd.R_mono HO318.o (fun _ hk => ⟨⟨hk.2.1, hk.2.2⟩, hk.1⟩)) hg hat)
   replace HB := am (below_weaken (by first | exact zBz HB.o (I7.ge HI0.o) GE306.o | exact zBy HB.o GE306.o) HL.o hb)
   replace HI0 := am (I7.grown (I7.zF HI0.o NB0_306.o) hg (I7.own_ne HI0.o HO315.o (by decide)))
   replace HK := am (Kq.trans (zKy HK.o GW306.o) (Kq.of_grown hg g) (Kd.R_base2 HO315.o))
   have HO321 := am (ho)
   clear HO315
   clear ho hb hg hat
   refine hK.out _ _ (zb6 BK306) (fun hHd => ?_)
   clear hK K
   refine norm_ (a' := ?_) ?_ ?_
   rotate_left
   ·show Act.put _ (some 30) _ = _
    simp only [Act.put, List.setIfInBounds_toArray, List.set_cons_zero, List.set_cons_succ, i64_w, i32_w]
    rfl
   refine pure_ (i := 6) (N := some 7) (v := ?_) (a' := ?_) (zm 7 127) rfl rfl (by kernel_rfl) (fun _ _ _ h => h) (Or.inl ⟨by rfl, ?_⟩) ?_ ?_
   rotate_left
   ·exact zwx
   rotate_left
   ·exact zpx
   refine done_ (by kernel_rfl) ?_
   obtain ⟨Ao30, co30, eo30⟩ := Kd.R_slice HO321.o
   subst eo30
   have H := HH_.o
   clear HH_
   by_cases c12 : t322 = true
   ·subst c12
    rw [if_pos rfl] at H
    focus
     have H' := am H
     clear H
     try go_wp2_with (first | ((with_reducible refine zgc 103 rfl ?_); refine zgl 32 Tryz.func103 #[.slice Ao30 y319.length co30] ?_; (with_reducible refine (qj.calls k1 _ _ y319 true _ ?side1 ?side2 A11.o).mono ?_); (case side1 => exact zCx (Kd.R_reads' HO321.o).2.2); (case side2 => exact (Kd.R_reads' HO321.o).2.1); rintro e w31 ⟨rfl, hb⟩; refine ⟨_, rfl, ?_⟩; replace HO_3 := zro HO_3 hb; replace HO318 := zro HO318 hb; replace HO321 := zro HO321 hb; replace BK306 := zbl BK306.o hb; replace HK := zkq HK hb; replace HB := am (bsq (by first | exact zBz HB.o (I7.ge HI0.o) GE306.o | exact zBy HB.o GE306.o) hb); replace HI0 := am (I7.below (I7.zF HI0.o NB0_306.o) hb); clear hb))
     go_roundg k1
     case measure => have := HK1.o; omega
     case rel => exact ⟨(y319), (wrap64 ((wrap64 (x4_1 + 1)) + t307)), (wrap64 (x5_1 - 1)), (t308), (t309), zrx, zrx, H', ⟨by have := HK1.o; omega⟩, ⟨by refine zDR ?_; exact Kd.R_mono HO321.o (fun _ hk => trivial)⟩, ⟨by exact I7.zJ HI0.o NB0_306.o⟩, ⟨by exact zKy HK.o GW306.o⟩, ⟨by exact zBz HB.o (I7.ge HI0.o) GE306.o⟩⟩
   ·replace c12 := Bool.eq_false_iff.mpr c12
    subst c12
    rw [if_neg (show ¬ (false = true) by decide)] at H
    focus
     have H' := am H
     clear H
     try go_wp2_with (first | ((with_reducible refine zgc 103 rfl ?_); refine zgl 32 Tryz.func103 #[.slice Ao30 y319.length co30] ?_; (with_reducible refine (qj.calls k1 _ _ y319 false _ ?side1 ?side2 A11.o).mono ?_); (case side1 => exact zCx (Kd.R_reads' HO321.o).2.2); (case side2 => exact (Kd.R_reads' HO321.o).2.1); rintro e w31 ⟨rfl, hb⟩; refine ⟨_, rfl, ?_⟩; replace HO_3 := zro HO_3 hb; replace HO318 := zro HO318 hb; replace HO321 := zro HO321 hb; replace BK306 := zbl BK306.o hb; replace HK := zkq HK hb; replace HB := am (bsq (by first | exact zBz HB.o (I7.ge HI0.o) GE306.o | exact zBy HB.o GE306.o) hb); replace HI0 := am (I7.below (I7.zF HI0.o NB0_306.o) hb); clear hb))
     go_roundg k1
     case measure => have := HK1.o; omega
     case rel => exact ⟨(x3_1), (wrap64 ((wrap64 (x4_1 + 1)) + t307)), (wrap64 (x5_1 - 1)), (t308), (t309), zrx, zrx, H', ⟨by have := HK1.o; omega⟩, ⟨by refine zDR ?_; exact Kd.R_mono HO_3.o (fun _ hk => trivial)⟩, ⟨by exact I7.zJ HI0.o NB0_306.o⟩, ⟨by exact zKy HK.o GW306.o⟩, ⟨by exact zBz HB.o (I7.ge HI0.o) GE306.o⟩⟩
def qE.f (k : Nat) (s0_0 : List Int) (s0_1 : Int) (s0_2 : Int) : Option (Int × Int × (List (S25)) × Int × Int) := (qb.f s0_0 s0_1 s0_2 9).bind fun bt350 => ((qb.f s0_0 bt350.2.1 bt350.2.2 30).bind fun bt353 => ((qm.f k s0_0 bt353.2.1 bt353.2.2).bind fun bt356 => ((qb.f s0_0 bt356.2.1 bt356.2.2 24).bind fun bt362 => (if bt362.1 = 0 then ((qy.f s0_0 bt362.2.1 bt362.2.2 (([0, 999, 1000] : List Int))).bind fun bt368 => (some (bt368.1, bt353.1, bt356.1, bt368.2.1, bt368.2.2))) else (if bt362.1 = 1 then ((qy.f s0_0 bt362.2.1 bt362.2.2 (([(-1), 240, 241] : List Int))).bind fun bt374 => (some (wrap64 (1 + bt350.1), bt374.1, bt356.1, bt374.2.1, bt374.2.2))) else (some (wrap64 (1 + bt350.1), bt353.1, bt356.1, bt362.2.1, bt362.2.2)))))))
theorem qE.calls (k : Nat) (g : Nat) (s0_0 : List Int) (s0_1 : Int) (s0_2 : Int) (r1 : Int) (r2 : Int) (r3 : List (S25)) (r4 : Int) (r5 : Int) (w0 w : World) (hI : I7 w0 w g s0_0 s0_1 s0_2) (hB : Below w0.heap.size w0 w) (h : qE.f k s0_0 s0_1 s0_2 = some (r1, r2, r3, r4, r5)) :
 Calls Tryz.prog 71 #[.pointer (some ⟨g, 0, none⟩)] w fun e w' => ∃ v2_ : Value, e = .returned (.agg #[.int .i64 r1, .int .i64 r2, v2_]) ∧ Kd.R k25 25 w' w.heap.size (fun _ => True) v2_ r3 ∧ I7 w0 w' g s0_0 r4 r5 ∧ Below w0.heap.size w0 w' ∧ Kq w w' g none := by
 have hu34 := Tryz.underlying34
 have HI0 := am hI
 have HK := am (Kq.refl w g none)
 have HL := am hB.size
 clear hI
 have HW0 := am hB.size
 have HB := am hB
 clear hB
 unfold qE.f at h
 have H := h
 clear h
 obtain ⟨⟨t350, t351, t352⟩, A2, H⟩ := zob H
 try dsimp only at H
 obtain ⟨⟨t353, t354, t355⟩, A3, H⟩ := zob H
 try dsimp only at H
 obtain ⟨⟨t356, t359, t360⟩, A4, H⟩ := zob H
 try dsimp only at H
 obtain ⟨⟨t362, t363, t364⟩, A5, H⟩ := zob H
 try dsimp only at H
 by_cases c6 : t362 = 0
 ·rw [if_pos c6] at H
  have c6b0 := beq_iff_eq.mpr c6
  have c6b1 := bne_eq_false_iff_eq.mpr c6
  clear c6
  obtain ⟨y365, hy365⟩ : ∃ y_ : List Int, y_ = (([0, 999, 1000] : List Int)) := ⟨_, rfl⟩
  replace H : ((qy.f s0_0 t363 t364 y365).bind fun bt368 => (some (bt368.1, t353, t356, bt368.2.1, bt368.2.2))) = some (r1, r2, r3, r4, r5) := by rw [hy365]; exact H
  have Ny365 := am hy365
  clear hy365
  obtain ⟨⟨t368, t369, t370⟩, A7, H⟩ := zob H
  try dsimp only at H
  focus
   simp only [Option.some.injEq, Prod.mk.injEq] at H
   obtain ⟨rfl, rfl, rfl, rfl, rfl⟩ := H
   go_enter Tryz.func71, Tryz.ntmps71
   go_wp2_with (first | ((with_reducible refine zgd 2 rfl ?_); refine zbe 2 #[.int .i64 0, .int .i64 0, .slice none 0 0] 34 ?_; intro gb349 hg w8 hbox hb; replace HB := am (bsq (by first | exact zBy HB.o (I7.ge HI0.o) | exact zBx HB.o) hb); have BK349 := am (hbox); have GW349 := zkw hg HK; have GE349 := zkv HW0 GW349; replace HK := zkq HK hb; have NB0_349 := am ((by rw [hg]; exact Nat.ne_of_lt (I7.lt (show I7 w0 _ g s0_0 s0_1 s0_2 from I7.zI HI0.o)) : g ≠ gb349)); have NB349_0 := am ((by rw [hg]; exact Nat.ne_of_gt (I7.lt (show I7 w0 _ g s0_0 s0_1 s0_2 from I7.zI HI0.o)) : gb349 ≠ g)); replace HI0 := am (I7.below (I7.zI HI0.o) hb); clear hb hbox hg) | ((with_reducible refine zgc 75 rfl ?_); refine zgl 5 Tryz.func75 #[.pointer (some ⟨g, 0, none⟩), .int .i64 9] ?_; (with_reducible refine (qb.calls g s0_0 s0_1 s0_2 9 t350 t351 t352 w0 _ ?side1 ?side2 A2.o).mono ?_); (case side1 => exact I7.zJ HI0.o NB0_349.o); (case side2 => first | exact zBz HB.o (I7.ge HI0.o) GE349.o | exact zBy HB.o GE349.o); rintro e w9 ⟨rfl, hi, hb, hk⟩; refine ⟨_, rfl, ?_⟩; replace BK349 := zkb hk BK349.o NB349_0.o; replace HK := zkt HK hk; replace HB := am (hb); replace HI0 := am (hi); clear hb hk hi) | ((with_reducible refine zgc 75 rfl ?_); refine zgl 8 Tryz.func75 #[.pointer (some ⟨g, 0, none⟩), .int .i64 30] ?_; (with_reducible refine (qb.calls g s0_0 t351 t352 30 t353 t354 t355 w0 _ ?side1 ?side2 A3.o).mono ?_); (case side1 => exact I7.zJ HI0.o NB0_349.o); (case side2 => first | exact zBz HB.o (I7.ge HI0.o) GE349.o | exact zBy HB.o GE349.o); rintro e w10 ⟨rfl, hi, hb, hk⟩; refine ⟨_, rfl, ?_⟩; replace BK349 := zkb hk BK349.o NB349_0.o; replace HK := zkt HK hk; replace HB := am (hb); replace HI0 := am (hi); clear hb hk hi) | ((with_reducible refine zgc 108 rfl ?_); refine zgl 10 Tryz.func108 #[.pointer (some ⟨g, 0, none⟩)] ?_; (with_reducible refine (qm.calls k g s0_0 t354 t355 t356 t359 t360 w0 _ ?side1 ?side2 A4.o).mono ?_); (case side1 => exact I7.zJ HI0.o NB0_349.o); (case side2 => first | exact zBz HB.o (I7.ge HI0.o) GE349.o | exact zBy HB.o GE349.o); rintro e w11 ⟨v357, rfl, ho0, hi, hb, hk⟩; refine ⟨_, rfl, ?_⟩; replace BK349 := zkb hk BK349.o NB349_0.o; have HO358 := am (Kd.R_lower ho0 (keep_size (w := w) (g := g) (row := none) (zKy HK.o GW349.o))); replace HK := zkt HK hk; replace HB := am (hb); replace HI0 := am (hi); clear hb hk hi; (try clear ho0); obtain ⟨Ao12, co12, eo12⟩ := Kd.R_slice HO358.o; subst eo12) | ((with_reducible refine zgd 3 rfl ?_); refine zbe 3 #[.int .i64 0, .int .i64 0, .slice none 0 0] 34 ?_; intro gb361 hg w13 hbox hb; replace HO358 := zro HO358 hb; replace HB := am (bsq (by first | exact zBz HB.o (I7.ge HI0.o) GE349.o | exact zBy HB.o GE349.o) hb); have BK361 := am (hbox); have GW361 := zkw hg HK; have GE361 := zkv HW0 GW361; replace HK := zkq HK hb; have NB349_361 := znl hg BK349.o; have NB361_349 := zng hg BK349.o; replace BK349 := zbl BK349.o hb; have NB0_361 := am ((by rw [hg]; exact Nat.ne_of_lt (I7.lt (show I7 w0 _ g s0_0 t359 t360 from I7.zJ HI0.o NB0_349.o)) : g ≠ gb361)); have NB361_0 := am ((by rw [hg]; exact Nat.ne_of_gt (I7.lt (show I7 w0 _ g s0_0 t359 t360 from I7.zJ HI0.o NB0_349.o)) : gb361 ≠ g)); replace HI0 := am (I7.below (I7.zF HI0.o NB0_349.o) hb); clear hb hbox hg; have hnb14 := NB361_349.o; have hnc14 := NB349_361.o; have hnb15 := NB361_0.o; have hnc15 := NB0_361.o; have hcz16 := zc3 BK361.o) | ((with_reducible refine zgc 75 rfl ?_); refine zgl 13 Tryz.func75 #[.pointer (some ⟨g, 0, none⟩), .int .i64 24] ?_; (with_reducible refine (qb.calls g s0_0 t359 t360 24 t362 t363 t364 w0 _ ?side1 ?side2 A5.o).mono ?_); (case side1 => exact zhI71 HI0.o); (case side2 => exact zhB HB.o); rintro e w17 ⟨rfl, hi, hb, hk⟩; refine ⟨_, rfl, ?_⟩; replace BK349 := zkb hk BK349.o NB349_0.o; replace HO358 := am (Kd.R_mono (Kd.R_keep (I7.apart (show I7 w0 _ g s0_0 t359 t360 from zhI71 HI0.o) (by (with_reducible repeat (first | apply Kd.R_alloc | apply Kd.R_drewN | apply Kd.R_drew)); exact (Kd.R_mono (zRf (Kd.R_types HO358.o BK361.o (by decide))) (fun _ h_ => h_.1))) (by decide)) hk (fun _ h => h.2)) (fun _ h => h.1)); replace BK361 := am (Kq.blk hk (g' := gb361) (o := .cells #[.int .i64 (wrap64 (1 + t350)), .int .i64 t353, .slice Ao12 t356.length co12] 34 (0, 0)) (zbp BK361.o) NB361_0.o (by simp)); replace HK := zkt HK hk; replace HB := am (hb); replace HI0 := am (hi); clear hb hk hi) | ((with_reducible refine zgd 17 rfl ?_); refine Kd.R_lit (Kd.int .i64) _ 3 ?hg (N := 17) ?hd (xs := ([0, 999, 1000] : List Int)) (inner := [.int .i64 0, .int .i64 999, .int .i64 1000]) (ok := fun _ => True) (okp := fun _ => True) ?hr ?hp (fun _ hk => hk) trivial (Below.refl _ _) (Nat.le_refl _) (by simp) ?_; (case hd => rfl); (case hg => rfl); (case hr => exact zsx); (case hp => exact (Reps.one (show Kd.M (Kd.int .i64) _ _ _ 0 [.int .i64 0] from rfl) (Reps.one (show Kd.M (Kd.int .i64) _ _ _ 999 [.int .i64 999] from rfl) (Reps.one (show Kd.M (Kd.int .i64) _ _ _ 1000 [.int .i64 1000] from rfl) (Reps.none _ _))))); intro v366 w18 ho19 hb hg_ hnew_; clear hg_ hnew_; (first | rw [← Ny365.o] at ho19 | (simp only [Int.reduceToNat] at ho19; rw [← Ny365.o] at ho19)); replace HO358 := zro HO358 hb; have HO367 := am (Kd.R_lower ho19 (keep_size (w := w) (g := g) (row := none) (zhK HK.o))); replace HI0 := am (I7.below (zhI71 HI0.o) hb); replace BK349 := zbl BK349.o hb; replace BK361 := zbl BK361.o hb; replace HK := zkq HK hb; replace HB := zhs HB hb; clear hb ho19; obtain ⟨Ao20, co20, eo20⟩ := Kd.R_slice HO367.o; subst eo20) | ((with_reducible refine zgc 96 rfl ?_); refine zgl 18 Tryz.func96 #[.pointer (some ⟨g, 0, none⟩), .slice Ao20 y365.length co20] ?_; (with_reducible refine (qy.calls g s0_0 t363 t364 _ _ y365 t368 t369 t370 w0 _ ?side1 ?side2 ?side3 ?side4 ?side5 A7.o).mono ?_); (case side1 => exact zhI71 HI0.o); (case side2 => exact zhB HB.o); (case side3 => exact zCx (Kd.R_reads' HO367.o).2.2); (case side4 => exact (Kd.R_reads' HO367.o).2.1); (case side5 => exact far_slice (I7.own_ne HI0.o HO367.o (by decide))); rintro e w21 ⟨rfl, hi, hb, hk⟩; refine ⟨_, rfl, ?_⟩; replace BK349 := zkb hk BK349.o NB349_0.o; replace HO358 := am (Kd.R_mono (Kd.R_keep (I7.apart (show I7 w0 _ g s0_0 t363 t364 from zhI71 HI0.o) (zRx HO358.o) (by decide)) hk (fun _ h => h.2)) (fun _ h => h.1)); replace BK361 := zkb hk BK361.o NB361_0.o; replace HO367 := am (Kd.R_mono (Kd.R_keep (I7.apart (show I7 w0 _ g s0_0 t363 t364 from zhI71 HI0.o) (zRx HO367.o) (by decide)) hk (fun _ h => h.2)) (fun _ h => h.1)); replace HK := zkt HK hk; replace HB := am (hb); replace HI0 := am (hi); clear hb hk hi; have hcz22 := zc3 BK361.o; have hnb23 := NB349_0.o; have hnc23 := NB0_349.o; have hcz24 := zc3 BK349.o))
   refine bodyPost_ret (results_cell_row rfl _ _ gb349 34 #[.int .i64 t368, .int .i64 t353, .slice Ao12 t356.length co12] (0, 0) _ rfl (zbp BK349.o) Tryz.underlying34 rfl (by kernel_rfl)) rfl ?_
   exact ⟨_, zew, by refine zDR ?_; exact Kd.R_mono (zRf (Kd.R_far (p := ⟨gb361, 0, none⟩) (Kd.R_types (Kd.R_types HO358.o BK361.o (by decide)) BK349.o (by decide)) (fun _ hk => hk.1.2) (.int .i64 t368))) (fun _ hk => trivial), zhI71 HI0.o, zhB HB.o, zhK HK.o⟩
 rw [if_neg c6] at H
 have c6b0 := beq_eq_false_iff_ne.mpr c6
 have c6b1 := bne_iff_ne.mpr c6
 by_cases c25 : t362 = 1
 rotate_left
 ·rw [if_neg c25] at H
  have c25b0 := beq_eq_false_iff_ne.mpr c25
  have c25b1 := bne_iff_ne.mpr c25
  focus
   simp only [Option.some.injEq, Prod.mk.injEq] at H
   obtain ⟨rfl, rfl, rfl, rfl, rfl⟩ := H
   go_enter Tryz.func71, Tryz.ntmps71
   go_wp2_with (first | ((with_reducible refine zgd 2 rfl ?_); refine zbe 2 #[.int .i64 0, .int .i64 0, .slice none 0 0] 34 ?_; intro gb349 hg w44 hbox hb; replace HB := am (bsq (by first | exact zBy HB.o (I7.ge HI0.o) | exact zBx HB.o) hb); have BK349 := am (hbox); have GW349 := zkw hg HK; have GE349 := zkv HW0 GW349; replace HK := zkq HK hb; have NB0_349 := am ((by rw [hg]; exact Nat.ne_of_lt (I7.lt (show I7 w0 _ g s0_0 s0_1 s0_2 from I7.zI HI0.o)) : g ≠ gb349)); have NB349_0 := am ((by rw [hg]; exact Nat.ne_of_gt (I7.lt (show I7 w0 _ g s0_0 s0_1 s0_2 from I7.zI HI0.o)) : gb349 ≠ g)); replace HI0 := am (I7.below (I7.zI HI0.o) hb); clear hb hbox hg) | ((with_reducible refine zgc 75 rfl ?_); refine zgl 5 Tryz.func75 #[.pointer (some ⟨g, 0, none⟩), .int .i64 9] ?_; (with_reducible refine (qb.calls g s0_0 s0_1 s0_2 9 t350 t351 t352 w0 _ ?side1 ?side2 A2.o).mono ?_); (case side1 => exact I7.zJ HI0.o NB0_349.o); (case side2 => first | exact zBz HB.o (I7.ge HI0.o) GE349.o | exact zBy HB.o GE349.o); rintro e w45 ⟨rfl, hi, hb, hk⟩; refine ⟨_, rfl, ?_⟩; replace BK349 := zkb hk BK349.o NB349_0.o; replace HK := zkt HK hk; replace HB := am (hb); replace HI0 := am (hi); clear hb hk hi) | ((with_reducible refine zgc 75 rfl ?_); refine zgl 8 Tryz.func75 #[.pointer (some ⟨g, 0, none⟩), .int .i64 30] ?_; (with_reducible refine (qb.calls g s0_0 t351 t352 30 t353 t354 t355 w0 _ ?side1 ?side2 A3.o).mono ?_); (case side1 => exact I7.zJ HI0.o NB0_349.o); (case side2 => first | exact zBz HB.o (I7.ge HI0.o) GE349.o | exact zBy HB.o GE349.o); rintro e w46 ⟨rfl, hi, hb, hk⟩; refine ⟨_, rfl, ?_⟩; replace BK349 := zkb hk BK349.o NB349_0.o; replace HK := zkt HK hk; replace HB := am (hb); replace HI0 := am (hi); clear hb hk hi) | ((with_reducible refine zgc 108 rfl ?_); refine zgl 10 Tryz.func108 #[.pointer (some ⟨g, 0, none⟩)] ?_; (with_reducible refine (qm.calls k g s0_0 t354 t355 t356 t359 t360 w0 _ ?side1 ?side2 A4.o).mono ?_); (case side1 => exact I7.zJ HI0.o NB0_349.o); (case side2 => first | exact zBz HB.o (I7.ge HI0.o) GE349.o | exact zBy HB.o GE349.o); rintro e w47 ⟨v357, rfl, ho0, hi, hb, hk⟩; refine ⟨_, rfl, ?_⟩; replace BK349 := zkb hk BK349.o NB349_0.o; have HO358 := am (Kd.R_lower ho0 (keep_size (w := w) (g := g) (row := none) (zKy HK.o GW349.o))); replace HK := zkt HK hk; replace HB := am (hb); replace HI0 := am (hi); clear hb hk hi; (try clear ho0); obtain ⟨Ao48, co48, eo48⟩ := Kd.R_slice HO358.o; subst eo48) | ((with_reducible refine zgd 3 rfl ?_); refine zbe 3 #[.int .i64 0, .int .i64 0, .slice none 0 0] 34 ?_; intro gb361 hg w49 hbox hb; replace HO358 := zro HO358 hb; replace HB := am (bsq (by first | exact zBz HB.o (I7.ge HI0.o) GE349.o | exact zBy HB.o GE349.o) hb); have BK361 := am (hbox); have GW361 := zkw hg HK; have GE361 := zkv HW0 GW361; replace HK := zkq HK hb; have NB349_361 := znl hg BK349.o; have NB361_349 := zng hg BK349.o; replace BK349 := zbl BK349.o hb; have NB0_361 := am ((by rw [hg]; exact Nat.ne_of_lt (I7.lt (show I7 w0 _ g s0_0 t359 t360 from I7.zJ HI0.o NB0_349.o)) : g ≠ gb361)); have NB361_0 := am ((by rw [hg]; exact Nat.ne_of_gt (I7.lt (show I7 w0 _ g s0_0 t359 t360 from I7.zJ HI0.o NB0_349.o)) : gb361 ≠ g)); replace HI0 := am (I7.below (I7.zF HI0.o NB0_349.o) hb); clear hb hbox hg; have hnb50 := NB361_349.o; have hnc50 := NB349_361.o; have hnb51 := NB361_0.o; have hnc51 := NB0_361.o; have hcz52 := zc3 BK361.o) | ((with_reducible refine zgc 75 rfl ?_); refine zgl 13 Tryz.func75 #[.pointer (some ⟨g, 0, none⟩), .int .i64 24] ?_; (with_reducible refine (qb.calls g s0_0 t359 t360 24 t362 t363 t364 w0 _ ?side1 ?side2 A5.o).mono ?_); (case side1 => exact zhI71 HI0.o); (case side2 => exact zhB HB.o); rintro e w53 ⟨rfl, hi, hb, hk⟩; refine ⟨_, rfl, ?_⟩; replace BK349 := zkb hk BK349.o NB349_0.o; replace HO358 := am (Kd.R_mono (Kd.R_keep (I7.apart (show I7 w0 _ g s0_0 t359 t360 from zhI71 HI0.o) (by (with_reducible repeat (first | apply Kd.R_alloc | apply Kd.R_drewN | apply Kd.R_drew)); exact (Kd.R_mono (zRf (Kd.R_types HO358.o BK361.o (by decide))) (fun _ h_ => h_.1))) (by decide)) hk (fun _ h => h.2)) (fun _ h => h.1)); replace BK361 := am (Kq.blk hk (g' := gb361) (o := .cells #[.int .i64 (wrap64 (1 + t350)), .int .i64 t353, .slice Ao48 t356.length co48] 34 (0, 0)) (zbp BK361.o) NB361_0.o (by simp)); replace HK := zkt HK hk; replace HB := am (hb); replace HI0 := am (hi); clear hb hk hi; have hcz54 := zc3 BK361.o; have hnb55 := NB349_0.o; have hnc55 := NB0_349.o; have hcz56 := zc3 BK349.o))
   refine bodyPost_ret (results_cell_row rfl _ _ gb349 34 #[.int .i64 (wrap64 (1 + t350)), .int .i64 t353, .slice Ao48 t356.length co48] (0, 0) _ rfl (zbp BK349.o) Tryz.underlying34 rfl (by kernel_rfl)) rfl ?_
   exact ⟨_, zew, by refine zDR ?_; exact Kd.R_mono (zRf (Kd.R_types HO358.o BK349.o (by decide))) (fun _ hk => trivial), zhI71 HI0.o, zhB HB.o, zhK HK.o⟩
 rw [if_pos c25] at H
 have c25b0 := beq_iff_eq.mpr c25
 have c25b1 := bne_eq_false_iff_eq.mpr c25
 clear c25
 obtain ⟨y371, hy371⟩ : ∃ y_ : List Int, y_ = (([(-1), 240, 241] : List Int)) := ⟨_, rfl⟩
 replace H : ((qy.f s0_0 t363 t364 y371).bind fun bt374 => (some (wrap64 (1 + t350), bt374.1, t356, bt374.2.1, bt374.2.2))) = some (r1, r2, r3, r4, r5) := by rw [hy371]; exact H
 have Ny371 := am hy371
 clear hy371
 obtain ⟨⟨t374, t375, t376⟩, A26, H⟩ := zob H
 try dsimp only at H
 focus
  simp only [Option.some.injEq, Prod.mk.injEq] at H
  obtain ⟨rfl, rfl, rfl, rfl, rfl⟩ := H
  go_enter Tryz.func71, Tryz.ntmps71
  go_wp2_with (first | ((with_reducible refine zgd 2 rfl ?_); refine zbe 2 #[.int .i64 0, .int .i64 0, .slice none 0 0] 34 ?_; intro gb349 hg w27 hbox hb; replace HB := am (bsq (by first | exact zBy HB.o (I7.ge HI0.o) | exact zBx HB.o) hb); have BK349 := am (hbox); have GW349 := zkw hg HK; have GE349 := zkv HW0 GW349; replace HK := zkq HK hb; have NB0_349 := am ((by rw [hg]; exact Nat.ne_of_lt (I7.lt (show I7 w0 _ g s0_0 s0_1 s0_2 from I7.zI HI0.o)) : g ≠ gb349)); have NB349_0 := am ((by rw [hg]; exact Nat.ne_of_gt (I7.lt (show I7 w0 _ g s0_0 s0_1 s0_2 from I7.zI HI0.o)) : gb349 ≠ g)); replace HI0 := am (I7.below (I7.zI HI0.o) hb); clear hb hbox hg) | ((with_reducible refine zgc 75 rfl ?_); refine zgl 5 Tryz.func75 #[.pointer (some ⟨g, 0, none⟩), .int .i64 9] ?_; (with_reducible refine (qb.calls g s0_0 s0_1 s0_2 9 t350 t351 t352 w0 _ ?side1 ?side2 A2.o).mono ?_); (case side1 => exact I7.zJ HI0.o NB0_349.o); (case side2 => first | exact zBz HB.o (I7.ge HI0.o) GE349.o | exact zBy HB.o GE349.o); rintro e w28 ⟨rfl, hi, hb, hk⟩; refine ⟨_, rfl, ?_⟩; replace BK349 := zkb hk BK349.o NB349_0.o; replace HK := zkt HK hk; replace HB := am (hb); replace HI0 := am (hi); clear hb hk hi) | ((with_reducible refine zgc 75 rfl ?_); refine zgl 8 Tryz.func75 #[.pointer (some ⟨g, 0, none⟩), .int .i64 30] ?_; (with_reducible refine (qb.calls g s0_0 t351 t352 30 t353 t354 t355 w0 _ ?side1 ?side2 A3.o).mono ?_); (case side1 => exact I7.zJ HI0.o NB0_349.o); (case side2 => first | exact zBz HB.o (I7.ge HI0.o) GE349.o | exact zBy HB.o GE349.o); rintro e w29 ⟨rfl, hi, hb, hk⟩; refine ⟨_, rfl, ?_⟩; replace BK349 := zkb hk BK349.o NB349_0.o; replace HK := zkt HK hk; replace HB := am (hb); replace HI0 := am (hi); clear hb hk hi) | ((with_reducible refine zgc 108 rfl ?_); refine zgl 10 Tryz.func108 #[.pointer (some ⟨g, 0, none⟩)] ?_; (with_reducible refine (qm.calls k g s0_0 t354 t355 t356 t359 t360 w0 _ ?side1 ?side2 A4.o).mono ?_); (case side1 => exact I7.zJ HI0.o NB0_349.o); (case side2 => first | exact zBz HB.o (I7.ge HI0.o) GE349.o | exact zBy HB.o GE349.o); rintro e w30 ⟨v357, rfl, ho0, hi, hb, hk⟩; refine ⟨_, rfl, ?_⟩; replace BK349 := zkb hk BK349.o NB349_0.o; have HO358 := am (Kd.R_lower ho0 (keep_size (w := w) (g := g) (row := none) (zKy HK.o GW349.o))); replace HK := zkt HK hk; replace HB := am (hb); replace HI0 := am (hi); clear hb hk hi; (try clear ho0); obtain ⟨Ao31, co31, eo31⟩ := Kd.R_slice HO358.o; subst eo31) | ((with_reducible refine zgd 3 rfl ?_); refine zbe 3 #[.int .i64 0, .int .i64 0, .slice none 0 0] 34 ?_; intro gb361 hg w32 hbox hb; replace HO358 := zro HO358 hb; replace HB := am (bsq (by first | exact zBz HB.o (I7.ge HI0.o) GE349.o | exact zBy HB.o GE349.o) hb); have BK361 := am (hbox); have GW361 := zkw hg HK; have GE361 := zkv HW0 GW361; replace HK := zkq HK hb; have NB349_361 := znl hg BK349.o; have NB361_349 := zng hg BK349.o; replace BK349 := zbl BK349.o hb; have NB0_361 := am ((by rw [hg]; exact Nat.ne_of_lt (I7.lt (show I7 w0 _ g s0_0 t359 t360 from I7.zJ HI0.o NB0_349.o)) : g ≠ gb361)); have NB361_0 := am ((by rw [hg]; exact Nat.ne_of_gt (I7.lt (show I7 w0 _ g s0_0 t359 t360 from I7.zJ HI0.o NB0_349.o)) : gb361 ≠ g)); replace HI0 := am (I7.below (I7.zF HI0.o NB0_349.o) hb); clear hb hbox hg; have hnb33 := NB361_349.o; have hnc33 := NB349_361.o; have hnb34 := NB361_0.o; have hnc34 := NB0_361.o; have hcz35 := zc3 BK361.o) | ((with_reducible refine zgc 75 rfl ?_); refine zgl 13 Tryz.func75 #[.pointer (some ⟨g, 0, none⟩), .int .i64 24] ?_; (with_reducible refine (qb.calls g s0_0 t359 t360 24 t362 t363 t364 w0 _ ?side1 ?side2 A5.o).mono ?_); (case side1 => exact zhI71 HI0.o); (case side2 => exact zhB HB.o); rintro e w36 ⟨rfl, hi, hb, hk⟩; refine ⟨_, rfl, ?_⟩; replace BK349 := zkb hk BK349.o NB349_0.o; replace HO358 := am (Kd.R_mono (Kd.R_keep (I7.apart (show I7 w0 _ g s0_0 t359 t360 from zhI71 HI0.o) (by (with_reducible repeat (first | apply Kd.R_alloc | apply Kd.R_drewN | apply Kd.R_drew)); exact (Kd.R_mono (zRf (Kd.R_types HO358.o BK361.o (by decide))) (fun _ h_ => h_.1))) (by decide)) hk (fun _ h => h.2)) (fun _ h => h.1)); replace BK361 := am (Kq.blk hk (g' := gb361) (o := .cells #[.int .i64 (wrap64 (1 + t350)), .int .i64 t353, .slice Ao31 t356.length co31] 34 (0, 0)) (zbp BK361.o) NB361_0.o (by simp)); replace HK := zkt HK hk; replace HB := am (hb); replace HI0 := am (hi); clear hb hk hi) | ((with_reducible refine zgd 23 rfl ?_); refine Kd.R_lit (Kd.int .i64) _ 3 ?hg (N := 23) ?hd (xs := ([(-1), 240, 241] : List Int)) (inner := [.int .i64 (-1), .int .i64 240, .int .i64 241]) (ok := fun _ => True) (okp := fun _ => True) ?hr ?hp (fun _ hk => hk) trivial (Below.refl _ _) (Nat.le_refl _) (by simp) ?_; (case hd => rfl); (case hg => rfl); (case hr => exact zsx); (case hp => exact (Reps.one (show Kd.M (Kd.int .i64) _ _ _ (-1) [.int .i64 (-1)] from rfl) (Reps.one (show Kd.M (Kd.int .i64) _ _ _ 240 [.int .i64 240] from rfl) (Reps.one (show Kd.M (Kd.int .i64) _ _ _ 241 [.int .i64 241] from rfl) (Reps.none _ _))))); intro v372 w37 ho38 hb hg_ hnew_; clear hg_ hnew_; (first | rw [← Ny371.o] at ho38 | (simp only [Int.reduceToNat] at ho38; rw [← Ny371.o] at ho38)); replace HO358 := zro HO358 hb; have HO373 := am (Kd.R_lower ho38 (keep_size (w := w) (g := g) (row := none) (zhK HK.o))); replace HI0 := am (I7.below (zhI71 HI0.o) hb); replace BK349 := zbl BK349.o hb; replace BK361 := zbl BK361.o hb; replace HK := zkq HK hb; replace HB := zhs HB hb; clear hb ho38; obtain ⟨Ao39, co39, eo39⟩ := Kd.R_slice HO373.o; subst eo39) | ((with_reducible refine zgc 96 rfl ?_); refine zgl 24 Tryz.func96 #[.pointer (some ⟨g, 0, none⟩), .slice Ao39 y371.length co39] ?_; (with_reducible refine (qy.calls g s0_0 t363 t364 _ _ y371 t374 t375 t376 w0 _ ?side1 ?side2 ?side3 ?side4 ?side5 A26.o).mono ?_); (case side1 => exact zhI71 HI0.o); (case side2 => exact zhB HB.o); (case side3 => exact zCx (Kd.R_reads' HO373.o).2.2); (case side4 => exact (Kd.R_reads' HO373.o).2.1); (case side5 => exact far_slice (I7.own_ne HI0.o HO373.o (by decide))); rintro e w40 ⟨rfl, hi, hb, hk⟩; refine ⟨_, rfl, ?_⟩; replace BK349 := zkb hk BK349.o NB349_0.o; replace HO358 := am (Kd.R_mono (Kd.R_keep (I7.apart (show I7 w0 _ g s0_0 t363 t364 from zhI71 HI0.o) (zRx HO358.o) (by decide)) hk (fun _ h => h.2)) (fun _ h => h.1)); replace BK361 := zkb hk BK361.o NB361_0.o; replace HO373 := am (Kd.R_mono (Kd.R_keep (I7.apart (show I7 w0 _ g s0_0 t363 t364 from zhI71 HI0.o) (zRx HO373.o) (by decide)) hk (fun _ h => h.2)) (fun _ h => h.1)); replace HK := zkt HK hk; replace HB := am (hb); replace HI0 := am (hi); clear hb hk hi; have hcz41 := zc3 BK361.o; have hnb42 := NB349_0.o; have hnc42 := NB0_349.o; have hcz43 := zc3 BK349.o))
  refine bodyPost_ret (results_cell_row rfl _ _ gb349 34 #[.int .i64 (wrap64 (1 + t350)), .int .i64 t374, .slice Ao31 t356.length co31] (0, 0) _ rfl (zbp BK349.o) Tryz.underlying34 rfl (by kernel_rfl)) rfl ?_
  exact ⟨_, zew, by refine zDR ?_; exact Kd.R_mono (zRf (Kd.R_far (p := ⟨gb361, 1, none⟩) (Kd.R_types (Kd.R_types HO358.o BK361.o (by decide)) BK349.o (by decide)) (fun _ hk => hk.1.2) (.int .i64 t374))) (fun _ hk => trivial), zhI71 HI0.o, zhB HB.o, zhK HK.o⟩
def spec_DrawIsValidBulletin.f (k : Nat) (l0 : List Int) : Option (Int × Int × (List (S25))) := (qE.f k l0 0 0).bind fun bt379 => (some (bt379.1, bt379.2.1, bt379.2.2.1))
theorem spec_DrawIsValidBulletin.calls (k : Nat) (A0 : Option Addr) (c0 : Nat) (l0 : List Int) (r1 : Int) (r2 : Int) (r3 : List (S25)) (w : World) (hr0 : Kd.C (Kd.int .u8) w A0 l0.length l0) (hc0 : l0.length ≤ c0) (h : spec_DrawIsValidBulletin.f k l0 = some (r1, r2, r3)) :
 Calls Tryz.prog 66 #[.slice A0 l0.length c0] w fun e w' => ∃ v2_ : Value, e = .returned (.agg #[.int .i64 r1, .int .i64 r2, v2_]) ∧ Kd.R k25 25 w' w.heap.size (fun _ => True) v2_ r3 ∧ Below w.heap.size w w' := by
 have hu34 := Tryz.underlying34
 have hu71 := Tryz.underlying71
 have HR0 := am hr0
 have HC0 := am hc0
 clear hr0 hc0
 have HB := am (Below.refl w.heap.size w)
 unfold spec_DrawIsValidBulletin.f at h
 have H := h
 clear h
 obtain ⟨⟨t379, t380, t381, t384, t385⟩, A2, H⟩ := zob H
 try dsimp only at H
 focus
  simp only [Option.some.injEq, Prod.mk.injEq] at H
  obtain ⟨rfl, rfl, rfl⟩ := H
  go_enter Tryz.func66, Tryz.ntmps66
  go_wp2_with (first | ((with_reducible refine zgd 2 rfl ?_); refine zbe 2 #[.int .i64 0, .int .i64 0, .slice none 0 0] 34 ?_; intro gb377 hg w3 hbox hb; have BK377 := am (hbox); have GW377 := zns hg HB.o; have GE377 := zns hg HB.o; replace HB := zhs HB hb; clear hb hbox hg) | ((with_reducible refine zgd 6 rfl ?_); refine zbe 6 #[.slice A0 l0.length c0, .int .i64 0, .int .u64 0] 71 ?_; intro gb378 hg w4 hbox hb; have BK378 := am (hbox); have GW378 := zns hg HB.o; have GE378 := zns hg HB.o; replace HB := zhs HB hb; have NB377_378 := znl hg BK377.o; have NB378_377 := zng hg BK377.o; replace BK377 := zbl BK377.o hb; clear hb hbox hg) | ((with_reducible refine zgc 71 rfl ?_); refine zgl 8 Tryz.func71 #[.pointer (some ⟨gb378, 0, none⟩)] ?_; (with_reducible refine (qE.calls k gb378 l0 0 0 t379 t380 t381 t384 t385 w _ ?side1 ?side2 A2.o).mono ?_); (case side1 => first | exact ⟨_, _, (zbx BK378.o), GE378.o, HR0.o⟩); (case side2 => first | exact zBz HB.o (I7.ge HI378.o) GE377.o | exact zBy HB.o GE377.o); rintro e w5 ⟨v382, rfl, ho0, hi, hb, hk⟩; refine ⟨_, rfl, ?_⟩; replace BK377 := zkb hk BK377.o NB377_378.o; have HO383 := am (Kd.R_lower ho0 (below_size (by first | exact zBz HB.o (I7.ge HI378.o) GE377.o | exact zBy HB.o GE377.o))); replace HB := am (hb); have HI378 := am (hi); clear hb hk hi; (try clear ho0); have hnb6 := NB377_378.o; have hnc6 := NB378_377.o; have hcz7 := zc3 BK377.o; obtain ⟨Ao8, co8, eo8⟩ := Kd.R_slice HO383.o; subst eo8))
  refine bodyPost_ret (results_cell_row rfl _ _ gb377 34 #[.int .i64 t379, .int .i64 t380, .slice Ao8 t381.length co8] (0, 0) _ rfl (zbp BK377.o) Tryz.underlying34 rfl (by kernel_rfl)) rfl ?_
  exact ⟨_, zew, by refine zDR ?_; exact Kd.R_mono (zRf (Kd.R_types HO383.o BK377.o (by decide))) (fun _ hk => trivial), by exact zBz HB.o (I7.ge HI378.o) GE377.o⟩
def spec_DrawFormatBulletin.f (k : Nat) (l0 : List Int) : Option (Int × Int × (List (S25))) := (spec_DrawIsValidBulletin.f k l0).bind fun bt387 => (some (bt387.1, bt387.2.1, bt387.2.2))
theorem spec_DrawFormatBulletin.calls (k : Nat) (A0 : Option Addr) (c0 : Nat) (l0 : List Int) (r1 : Int) (r2 : Int) (r3 : List (S25)) (w : World) (hr0 : Kd.C (Kd.int .u8) w A0 l0.length l0) (hc0 : l0.length ≤ c0) (h : spec_DrawFormatBulletin.f k l0 = some (r1, r2, r3)) :
 Calls Tryz.prog 21 #[.slice A0 l0.length c0] w fun e w' => ∃ v2_ : Value, e = .returned (.agg #[.int .i64 r1, .int .i64 r2, v2_]) ∧ Kd.R k25 25 w' w.heap.size (fun _ => True) v2_ r3 ∧ Below w.heap.size w w' := by
 have hu34 := Tryz.underlying34
 have HR0 := am hr0
 have HC0 := am hc0
 clear hr0 hc0
 have HB := am (Below.refl w.heap.size w)
 unfold spec_DrawFormatBulletin.f at h
 have H := h
 clear h
 obtain ⟨⟨t387, t388, t389⟩, A2, H⟩ := zob H
 try dsimp only at H
 focus
  simp only [Option.some.injEq, Prod.mk.injEq] at H
  obtain ⟨rfl, rfl, rfl⟩ := H
  go_enter Tryz.func21, Tryz.ntmps21
  go_wp2_with (first | ((with_reducible refine zgd 2 rfl ?_); refine zbe 2 #[.int .i64 0, .int .i64 0, .slice none 0 0] 34 ?_; intro gb386 hg w3 hbox hb; have BK386 := am (hbox); have GW386 := zns hg HB.o; have GE386 := zns hg HB.o; replace HB := zhs HB hb; clear hb hbox hg) | ((with_reducible refine zgc 66 rfl ?_); refine zgl 4 Tryz.func66 #[.slice A0 l0.length c0] ?_; (with_reducible refine (spec_DrawIsValidBulletin.calls k _ _ l0 t387 t388 t389 _ ?side1 ?side2 A2.o).mono ?_); (case side1 => exact zCx (Kd.C_below HR0.o HB.o)); (case side2 => exact HC0.o); rintro e w4 ⟨v390, rfl, ho0, hb⟩; refine ⟨_, rfl, ?_⟩; have HO391 := am (Kd.R_lower ho0 (below_size (zBy HB.o GE386.o))); replace BK386 := zbl BK386.o hb; replace HB := zhs HB hb; clear hb; (try clear ho0); have hcz5 := zc3 BK386.o; obtain ⟨Ao6, co6, eo6⟩ := Kd.R_slice HO391.o; subst eo6))
  refine bodyPost_ret (results_cell_row rfl _ _ gb386 34 #[.int .i64 t387, .int .i64 t388, .slice Ao6 t389.length co6] (0, 0) _ rfl (zbp BK386.o) Tryz.underlying34 rfl (by kernel_rfl)) rfl ?_
  exact ⟨_, zew, by refine zDR ?_; exact Kd.R_mono (zRf (Kd.R_types HO391.o BK386.o (by decide))) (fun _ hk => trivial), zBy HB.o GE386.o⟩
def qM.f (k : Nat) (a0_0 : Int) (a0_1 : Int) (l0_2 : List (S25)) : Option (ByteArray × Bool) := (qr.f k a0_0 a0_1 l0_2).bind fun t393 => (if t393 = true then ((qq.f k a0_0 a0_1 l0_2).bind fun t394 => (some (t394, true))) else (some ((⟨#[]⟩ : ByteArray), false)))
theorem qM.calls (k : Nat) (a0_0 : Int) (a0_1 : Int) (A0_2 : Option Addr) (c0_2 : Nat) (l0_2 : List (S25)) (r1 : ByteArray) (r2 : Bool) (w : World) (hr0_2 : Kd.C k25 w A0_2 l0_2.length l0_2) (hc0_2 : l0_2.length ≤ c0_2) (hL : Laid w) (h : qM.f k a0_0 a0_1 l0_2 = some (r1, r2)) :
 Calls Tryz.prog 22 #[.agg #[.int .i64 a0_0, .int .i64 a0_1, .slice A0_2 l0_2.length c0_2]] w fun e w' => e = .returned (.tuple #[.string r1, .bool r2]) ∧ Below w.heap.size w w' := by
 have hu34 := Tryz.underlying34
 have HR0_2 := am hr0_2
 have HC0_2 := am hc0_2
 clear hr0_2 hc0_2
 have HL := am hL
 clear hL
 have HB := am (Below.refl w.heap.size w)
 unfold qM.f at h
 have H := h
 clear h
 obtain ⟨t393, A2, H⟩ := zob H
 try dsimp only at H
 by_cases c3 : t393 = true
 ·subst c3
  rw [if_pos rfl] at H
  obtain ⟨t394, A4, H⟩ := zob H
  try dsimp only at H
  focus
   simp only [Option.some.injEq, Prod.mk.injEq] at H
   obtain ⟨rfl, rfl⟩ := H
   go_enter Tryz.func22, Tryz.ntmps22
   go_wp2_with (first | ((with_reducible refine zgd 1 rfl ?_); refine zbe 1 #[.int .i64 a0_0, .int .i64 a0_1, .slice A0_2 l0_2.length c0_2] 34 ?_; intro gb392 hg w5 hbox hb; have BK392 := am (hbox); have GW392 := zns hg HB.o; have GE392 := zns hg HB.o; replace HB := zhs HB hb; clear hb hbox hg; have hcz6 := zc3 BK392.o) | ((with_reducible refine zgc 24 rfl ?_); refine zgl 5 Tryz.func24 #[.agg #[.int .i64 a0_0, .int .i64 a0_1, .slice A0_2 l0_2.length c0_2]] ?_; (with_reducible refine (qr.calls k a0_0 a0_1 _ _ l0_2 true _ ?side1 ?side2 A2.o).mono ?_); (case side1 => exact zCx (Kd.C_below HR0_2.o HB.o)); (case side2 => exact HC0_2.o); rintro e w7 ⟨rfl, hb⟩; refine ⟨_, rfl, ?_⟩; replace BK392 := zbl BK392.o hb; replace HB := zhs HB hb; clear hb; have hcz8 := zc3 BK392.o) | ((with_reducible refine zgc 62 rfl ?_); refine zgl 8 Tryz.func62 #[.agg #[.int .i64 a0_0, .int .i64 a0_1, .slice A0_2 l0_2.length c0_2]] ?_; (with_reducible refine (qq.calls k a0_0 a0_1 _ _ l0_2 t394 _ ?side1 ?side2 ?sideL A4.o).mono ?_); (case sideL => exact Laid.below HL.o (zBy HB.o GE392.o)); (case side1 => exact zCx (Kd.C_below HR0_2.o HB.o)); (case side2 => exact HC0_2.o); rintro e w9 ⟨rfl, hb⟩; refine ⟨_, rfl, ?_⟩; replace BK392 := zbl BK392.o hb; replace HB := zhs HB hb; clear hb))
   go_ret2
   exact ⟨zew, zBy HB.o GE392.o⟩
 ·replace c3 := Bool.eq_false_iff.mpr c3
  subst c3
  rw [if_neg (show ¬ (false = true) by decide)] at H
  focus
   simp only [Option.some.injEq, Prod.mk.injEq] at H
   obtain ⟨rfl, rfl⟩ := H
   go_enter Tryz.func22, Tryz.ntmps22
   go_wp2_with (first | ((with_reducible refine zgd 1 rfl ?_); refine zbe 1 #[.int .i64 a0_0, .int .i64 a0_1, .slice A0_2 l0_2.length c0_2] 34 ?_; intro gb392 hg w10 hbox hb; have BK392 := am (hbox); have GW392 := zns hg HB.o; have GE392 := zns hg HB.o; replace HB := zhs HB hb; clear hb hbox hg; have hcz11 := zc3 BK392.o) | ((with_reducible refine zgc 24 rfl ?_); refine zgl 5 Tryz.func24 #[.agg #[.int .i64 a0_0, .int .i64 a0_1, .slice A0_2 l0_2.length c0_2]] ?_; (with_reducible refine (qr.calls k a0_0 a0_1 _ _ l0_2 false _ ?side1 ?side2 A2.o).mono ?_); (case side1 => exact zCx (Kd.C_below HR0_2.o HB.o)); (case side2 => exact HC0_2.o); rintro e w12 ⟨rfl, hb⟩; refine ⟨_, rfl, ?_⟩; replace BK392 := zbl BK392.o hb; replace HB := zhs HB hb; clear hb))
   go_ret2
   exact ⟨zew, zBy HB.o GE392.o⟩
def qN.f (k : Nat) (a0_0 : Int) (a0_1 : Int) (l0_2 : List (S25)) : Option (Bool) := (qO.f a0_0 1 999).bind fun t396 => (if t396 = true then ((qO.f a0_1 0 240).bind fun t397 => (if t397 = true then ((qj.f k l0_2).bind fun t398 => (some t398)) else (some false))) else (some false))
theorem zendBulletinsx10_0 {P_ : Prop} (h_ : P_ := by
  obtain rfl := Option.some.inj H
  go_enter Tryz.func67, Tryz.ntmps67
  go_wp2_with (first | ((with_reducible refine zgd 1 rfl ?_); refine zbe 1 #[.int .i64 a0_0, .int .i64 a0_1, .slice A0_2 l0_2.length c0_2] 34 ?_; intro gb395 hg w7 hbox hb; have BK395 := am (hbox); have GW395 := zns hg HB.o; have GE395 := zns hg HB.o; replace HB := zhs HB hb; clear hb hbox hg; have hcz8 := zc3 BK395.o) | ((with_reducible refine zgc 53 rfl ?_); refine zgl 5 Tryz.func53 #[.int .i64 a0_0, .int .i64 1, .int .i64 999] ?_; (with_reducible refine (qO.calls a0_0 1 999 _ _ A2.o).mono ?_); rintro e w' ⟨rfl, ⟨nd, rfl⟩⟩; refine ⟨_, rfl, ?_⟩) | (go_at_call 53; (with_reducible refine (qO.calls a0_1 0 240 _ _ A4.o).mono ?_); rintro e w' ⟨rfl, ⟨nd, rfl⟩⟩) | (go_at_call 103; (with_reducible refine (qj.calls k _ _ l0_2 t398 _ ?side1 ?side2 A6.o).mono ?_); (case side1 => repeat (first | exact (Kd.C_below HR0_2.o (zBy HB.o GE395.o)) | (with_reducible refine Kd.C_alloc ?_ _) | (with_reducible refine Kd.C_drewN ?_ _) | (with_reducible refine Kd.C_drew ?_))); (case side2 => exact HC0_2.o); rintro e w9 ⟨rfl, hb⟩; replace BK395 := zbl BK395.o hb; replace HB := zhs HB hb; clear hb))
  go_ret
  exact ⟨zew, zBy HB.o GE395.o⟩) : P_ := h_
theorem qN.calls (k : Nat) (a0_0 : Int) (a0_1 : Int) (A0_2 : Option Addr) (c0_2 : Nat) (l0_2 : List (S25)) (r : Bool) (w : World) (hr0_2 : Kd.C k25 w A0_2 l0_2.length l0_2) (hc0_2 : l0_2.length ≤ c0_2) (h : qN.f k a0_0 a0_1 l0_2 = some r) :
 Calls Tryz.prog 67 #[.agg #[.int .i64 a0_0, .int .i64 a0_1, .slice A0_2 l0_2.length c0_2]] w fun e w' => e = .returned (.bool r) ∧ Below w.heap.size w w' := by
 have hu34 := Tryz.underlying34
 have HR0_2 := am hr0_2
 have HC0_2 := am hc0_2
 clear hr0_2 hc0_2
 have HB := am (Below.refl w.heap.size w)
 unfold qN.f at h
 have H := h
 clear h
 obtain ⟨t396, A2, H⟩ := zob H
 try dsimp only at H
 by_cases c3 : t396 = true
 rotate_left
 ·replace c3 := Bool.eq_false_iff.mpr c3
  subst c3
  rw [if_neg (show ¬ (false = true) by decide)] at H
  focus
   exact zendBulletinsx10_0
 subst c3
 rw [if_pos rfl] at H
 obtain ⟨t397, A4, H⟩ := zob H
 try dsimp only at H
 by_cases c5 : t397 = true
 ·subst c5
  rw [if_pos rfl] at H
  obtain ⟨t398, A6, H⟩ := zob H
  try dsimp only at H
  focus
   exact zendBulletinsx10_0
 ·replace c5 := Bool.eq_false_iff.mpr c5
  subst c5
  rw [if_neg (show ¬ (false = true) by decide)] at H
  focus
   exact zendBulletinsx10_0
def qB.f : Nat → Int → Option (ByteArray)
 | 0, _ => none
 | k + 1, a0 => if a0 < 0 then ((qB.f k (wrap64 (-a0))).bind fun t399 => (if 1 + t399.size ≤ 9223372036854775807 then (some ((⟨#[45]⟩ : ByteArray) ++ t399)) else (none))) else (if a0 < 10 then (if 0 ≤ a0 then (if a0 ≤ (wrap64 (a0 + 1)) then (if (wrap64 (a0 + 1)) ≤ 10 then (some ((⟨#[48, 49, 50, 51, 52, 53, 54, 55, 56, 57]⟩ : ByteArray).extract (a0 : Int).toNat ((wrap64 (a0 + 1)) : Int).toNat)) else (none)) else (none)) else (none)) else ((qB.f k (wrap64 (Int.tdiv a0 10))).bind fun t400 => (if 0 ≤ (Int.tmod a0 10) then (if (Int.tmod a0 10) ≤ (wrap64 ((Int.tmod a0 10) + 1)) then (if (wrap64 ((Int.tmod a0 10) + 1)) ≤ 10 then (if t400.size + ((⟨#[48, 49, 50, 51, 52, 53, 54, 55, 56, 57]⟩ : ByteArray).extract ((Int.tmod a0 10) : Int).toNat ((wrap64 ((Int.tmod a0 10) + 1)) : Int).toNat).size ≤ 9223372036854775807 then (some (t400 ++ ((⟨#[48, 49, 50, 51, 52, 53, 54, 55, 56, 57]⟩ : ByteArray).extract ((Int.tmod a0 10) : Int).toNat ((wrap64 ((Int.tmod a0 10) + 1)) : Int).toNat))) else (none)) else (none)) else (none)) else (none))))
def qB.T5 : Bool × List (List Nat × List Nat) := (true, [([], []), ([0], [0]), ([1], [1]), ([], []), ([3], [3]), ([], []), ([5], [5]), ([6], [6]), ([4, 7], [4, 7]), ([2, 8], [2, 8]), ([9, 2, 0, 1, 2, 3, 4, 5, 6, 7, 8, 9], [9])])
def qB.B5 : List Nat := [0, 1, 3, 0, 8, 0, 32, 96, 248, 511, 1023]
theorem qB.tab5 : rtab .any (opsOf Tryz.f93 5) = qB.T5 := by kernel_rfl
theorem qB.bits5 : waitsOk qB.T5.2 qB.B5 = true := by kernel_rfl
theorem qB.calls (k : Nat) : ∀ (a0 : Int) (r : ByteArray) (w : World) (h : qB.f k a0 = some r),
 Calls Tryz.prog 93 #[.int .i64 a0] w fun e w' => e = .returned (.string r) ∧ Below w.heap.size w w' := by
 induction k using Nat.strongRecOn with
 | _ k ih =>
 intro a0 r w h
 cases k with
 | zero => exact absurd h (by simp [qB.f])
 | succ k =>
 simp only [qB.f] at h
 have HB := am (Below.refl w.heap.size w)
 have H : (if a0 < 0 then ((qB.f k (wrap64 (-a0))).bind fun t399 => (if 1 + t399.size ≤ 9223372036854775807 then (some ((⟨#[45]⟩ : ByteArray) ++ t399)) else (none))) else (if a0 < 10 then (if 0 ≤ a0 then (if a0 ≤ (wrap64 (a0 + 1)) then (if (wrap64 (a0 + 1)) ≤ 10 then (some ((⟨#[48, 49, 50, 51, 52, 53, 54, 55, 56, 57]⟩ : ByteArray).extract (a0 : Int).toNat ((wrap64 (a0 + 1)) : Int).toNat)) else (none)) else (none)) else (none)) else ((qB.f k (wrap64 (Int.tdiv a0 10))).bind fun t400 => (if 0 ≤ (Int.tmod a0 10) then (if (Int.tmod a0 10) ≤ (wrap64 ((Int.tmod a0 10) + 1)) then (if (wrap64 ((Int.tmod a0 10) + 1)) ≤ 10 then (if t400.size + ((⟨#[48, 49, 50, 51, 52, 53, 54, 55, 56, 57]⟩ : ByteArray).extract ((Int.tmod a0 10) : Int).toNat ((wrap64 ((Int.tmod a0 10) + 1)) : Int).toNat).size ≤ 9223372036854775807 then (some (t400 ++ ((⟨#[48, 49, 50, 51, 52, 53, 54, 55, 56, 57]⟩ : ByteArray).extract ((Int.tmod a0 10) : Int).toNat ((wrap64 ((Int.tmod a0 10) + 1)) : Int).toNat))) else (none)) else (none)) else (none)) else (none))))) = some r := h
 clear h
 by_cases c2 : a0 < 0
 ·rw [if_pos c2] at H
  have c2b0 := decide_eq_true c2
  clear c2
  obtain ⟨t399, A3, H⟩ := zob H
  try dsimp only at H
  by_cases c4 : 1 + t399.size ≤ 9223372036854775807
  ·rw [if_pos c4] at H
   have c4b0 := eq_true c4
   have c4b1 := decide_eq_true c4
   try have c4b2 : (9223372036854775807 < 1 + t399.size) = False := eq_false (Nat.not_lt.2 c4)
   focus
    obtain rfl := Option.some.inj H
    go_enter Tryz.func93, Tryz.ntmps93
    go_wp2_with (first | ((with_reducible refine zgc 93 rfl ?_); refine zgl 7 Tryz.func93 #[.int .i64 (wrap64 (-a0))] ?_; (with_reducible refine (ih k (by omega) (wrap64 (-a0)) t399 _ A3.o).mono ?_); rintro e w5 ⟨rfl, hb⟩; refine ⟨_, rfl, ?_⟩; replace HB := zhs HB hb; clear hb))
    go_ret
    exact ⟨zew, zBx HB.o⟩
  ·rw [if_neg c4] at H
   exact absurd H (by simp)
 rw [if_neg c2] at H
 have c2b0 := decide_eq_false c2
 clear c2
 by_cases c6 : a0 < 10
 ·rw [if_pos c6] at H
  have c6b0 := decide_eq_true c6
  clear c6
  obtain ⟨c7, H⟩ := zin H
  have c7b0 := eq_true c7
  have c7b1 := decide_eq_true c7
  clear c7
  obtain ⟨c8, H⟩ := zin H
  have c8b0 := eq_true c8
  have c8b1 := decide_eq_true c8
  by_cases c9 : (wrap64 (a0 + 1)) ≤ 10
  ·rw [if_pos c9] at H
   have c9b0 := eq_true c9
   have c9b1 := decide_eq_true c9
   focus
    obtain rfl := Option.some.inj H
    go_enter Tryz.func93, Tryz.ntmps93
    go_wp2
    go_ret
    exact ⟨zew, zBx HB.o⟩
  ·rw [if_neg c9] at H
   exact absurd H (by simp)
 rw [if_neg c6] at H
 have c6b0 := decide_eq_false c6
 clear c6
 obtain ⟨t400, A10, H⟩ := zob H
 try dsimp only at H
 obtain ⟨ji11, hji11⟩ : ∃ j_ : Int, (Int.tmod a0 10) = j_ := ⟨_, rfl⟩
 replace H : (if 0 ≤ (ji11) then (if (ji11) ≤ (wrap64 ((ji11) + 1)) then (if (wrap64 ((ji11) + 1)) ≤ 10 then (if t400.size + ((⟨#[48, 49, 50, 51, 52, 53, 54, 55, 56, 57]⟩ : ByteArray).extract ((ji11) : Int).toNat ((wrap64 ((ji11) + 1)) : Int).toNat).size ≤ 9223372036854775807 then (some (t400 ++ ((⟨#[48, 49, 50, 51, 52, 53, 54, 55, 56, 57]⟩ : ByteArray).extract ((ji11) : Int).toNat ((wrap64 ((ji11) + 1)) : Int).toNat))) else (none)) else (none)) else (none)) else (none)) = some r := by first | (rw [hji11] at H; exact H) | (simp only [hji11] at H ⊢; exact H)
 (try rw [hji11] at A10)
 by_cases c12 : 0 ≤ (ji11)
 rotate_left
 ·rw [if_neg c12] at H
  exact absurd H (by simp)
 rw [if_pos c12] at H
 have c12b0 := eq_true c12
 have c12b1 := decide_eq_true c12
 clear c12
 obtain ⟨c13, H⟩ := zin H
 have c13b0 := eq_true c13
 have c13b1 := decide_eq_true c13
 obtain ⟨c14, H⟩ := zin H
 have c14b0 := eq_true c14
 have c14b1 := decide_eq_true c14
 obtain ⟨c15, H⟩ := zin H
 have c15b0 := eq_true c15
 have c15b1 := decide_eq_true c15
 try have c15b2 : (9223372036854775807 < t400.size + ((⟨#[48, 49, 50, 51, 52, 53, 54, 55, 56, 57]⟩ : ByteArray).extract ((ji11) : Int).toNat ((wrap64 ((ji11) + 1)) : Int).toNat).size) = False := eq_false (Nat.not_lt.2 c15)
 have c15b3 : (9223372036854775807 < t400.size + ((wrap64 ((ji11) + 1)).toNat - ji11.toNat)) = False := eq_false (Nat.not_lt.2 (by have h_ := c15; simp only [ByteArray.size_append, ByteArray.size_extract] at h_; (try simp only [ByteArray.size_append, ByteArray.size_extract, decide_eq_true_eq, eq_iff_iff, iff_true] at *); have e0_ : (⟨#[48, 49, 50, 51, 52, 53, 54, 55, 56, 57]⟩ : ByteArray).size = 10 := rfl; omega))
 focus
  obtain rfl := Option.some.inj H
  go_enter Tryz.func93, Tryz.ntmps93
  try go_wp2
  replace HB := am (below_drew1 HB.o)
  refine start_ (n := 11) (S := fun w' => True) (ds := []) (zm 11 0) (by kernel_rfl) rfl rfl trivial (fun hHd => ?_); refine with_tabW qB.tab5 qB.bits5 (fun Tq Wq => ?_)
  generalize w.drew = w16 at HB hHd ⊢
  refine zpu 0 15 (zm 11 1) Tq.o ?_
  refine zpu 1 16 (zm 11 3) Tq.o ?_
  refine zpu 3 18 (zm 11 11) Tq.o ?_
  refine zpu 4 19 (zm 11 27) Tq.o ?_
  refine zpu 5 20 (zm 11 59) Tq.o ?_
  refine zpu 6 21 (zm 11 123) Tq.o ?_
  refine zpu 7 22 (zm 11 251) Tq.o ?_
  refine zpu 8 23 (zm 11 507) Tq.o ?_
  refine one_ (i := 2) (N := some 17) (zm 11 511) rfl rfl (one_of Tq.o (by kernel_rfl)) (by decide) (fun K hK => ?_)
  refine goes_ Tryz.func93 (by kernel_rfl) rfl #[.int .i64 (wrap64 (Int.tdiv a0 10))] (by rfl) rfl rfl zlx ?_
  with_reducible refine (ih k (by omega) (wrap64 (Int.tdiv a0 10)) t400 _ A10.o).mono ?_
  rintro e w17 ⟨rfl, hb⟩
  refine ⟨_, rfl, ?_⟩
  replace HB := zhs HB hb
  (try clear hb)
  (try clear hb2)
  (try clear hk)
  (try clear hi)
  refine hK.out _ _ trivial (fun hHd => ?_)
  clear hK K
  refine norm_ (a' := ?_) ?_ ?_
  rotate_left
  ·show Act.put _ (some 17) _ = _
   simp only [Act.put, List.setIfInBounds_toArray, List.set_cons_zero, List.set_cons_succ, i64_w, i32_w]
   rfl
  refine zpu 9 24 (zm 11 1023) Tq.o ?_
  refine zpu 10 2 (zm 11 2047) Tq.o ?_
  refine done_ (done_of Tq.o (by kernel_rfl)) ?_
  try go_wp2
  go_ret
  exact ⟨by first | rfl | (simp [errW_none, errW_some] <;> rfl) | (simp only [← hji11]; first | rfl | (simp [errW_none, errW_some] <;> rfl)) | (simp [*, errW_none, errW_some] <;> rfl), zBx HB.o⟩
def spec_l17Levels.f  : Option (List ByteArray) := some (([(⟨#[]⟩ : ByteArray), (⟨#[121, 101, 108, 108, 111, 119]⟩ : ByteArray), (⟨#[111, 114, 97, 110, 103, 101]⟩ : ByteArray), (⟨#[114, 101, 100]⟩ : ByteArray)] : List ByteArray))
theorem spec_l17Levels.calls  (r : List ByteArray) (w : World) (h : spec_l17Levels.f  = some r) :
 Calls Tryz.prog 94 #[] w fun e w' => ∃ v0_ : Value, e = .returned (v0_) ∧ Kd.R Kd.string 9 w' w.heap.size (fun _ => True) v0_ r ∧ Below w.heap.size w w' := by
 have HB := am (Below.refl w.heap.size w)
 unfold spec_l17Levels.f at h
 have H := h
 clear h
 obtain ⟨y401, hy401⟩ : ∃ y_ : List ByteArray, y_ = (([(⟨#[]⟩ : ByteArray), (⟨#[121, 101, 108, 108, 111, 119]⟩ : ByteArray), (⟨#[111, 114, 97, 110, 103, 101]⟩ : ByteArray), (⟨#[114, 101, 100]⟩ : ByteArray)] : List ByteArray)) := ⟨_, rfl⟩
 replace H : (some y401) = some r := by rw [hy401]; exact H
 have Ny401 := am hy401
 clear hy401
 focus
  obtain rfl := Option.some.inj H
  go_enter Tryz.func94, Tryz.ntmps94
  go_wp2_with (first | ((with_reducible refine zgd 1 rfl ?_); refine Kd.R_lit Kd.string _ 9 ?hg (N := 1) ?hd (xs := ([(⟨#[]⟩ : ByteArray), (⟨#[121, 101, 108, 108, 111, 119]⟩ : ByteArray), (⟨#[111, 114, 97, 110, 103, 101]⟩ : ByteArray), (⟨#[114, 101, 100]⟩ : ByteArray)] : List ByteArray)) (inner := [.string (⟨#[]⟩ : ByteArray), .string (⟨#[121, 101, 108, 108, 111, 119]⟩ : ByteArray), .string (⟨#[111, 114, 97, 110, 103, 101]⟩ : ByteArray), .string (⟨#[114, 101, 100]⟩ : ByteArray)]) (ok := fun _ => True) (okp := fun _ => True) ?hr ?hp (fun _ hk => hk) trivial (Below.refl _ _) (Nat.le_refl _) (by simp) ?_; (case hd => rfl); (case hg => rfl); (case hr => exact zsx); (case hp => exact (Reps.one (show Kd.M Kd.string _ _ _ (⟨#[]⟩ : ByteArray) [.string (⟨#[]⟩ : ByteArray)] from rfl) (Reps.one (show Kd.M Kd.string _ _ _ (⟨#[121, 101, 108, 108, 111, 119]⟩ : ByteArray) [.string (⟨#[121, 101, 108, 108, 111, 119]⟩ : ByteArray)] from rfl) (Reps.one (show Kd.M Kd.string _ _ _ (⟨#[111, 114, 97, 110, 103, 101]⟩ : ByteArray) [.string (⟨#[111, 114, 97, 110, 103, 101]⟩ : ByteArray)] from rfl) (Reps.one (show Kd.M Kd.string _ _ _ (⟨#[114, 101, 100]⟩ : ByteArray) [.string (⟨#[114, 101, 100]⟩ : ByteArray)] from rfl) (Reps.none _ _)))))); intro v402 w1 ho2 hb hg_ hnew_; clear hg_ hnew_; (first | rw [← Ny401.o] at ho2 | (simp only [Int.reduceToNat] at ho2; rw [← Ny401.o] at ho2)); have HO403 := am (Kd.R_lower ho2 (below_size (zBx HB.o))); replace HB := zhs HB hb; clear hb ho2))
  go_ret
  exact ⟨_, zew, zDR HO403.o, zBx HB.o⟩
def spec_l17Topics.f  : Option (List ByteArray) := some (([(⟨#[]⟩ : ByteArray), (⟨#[119, 105, 110, 100]⟩ : ByteArray), (⟨#[114, 97, 105, 110]⟩ : ByteArray), (⟨#[115, 110, 111, 119]⟩ : ByteArray), (⟨#[104, 101, 97, 116]⟩ : ByteArray), (⟨#[115, 116, 111, 114, 109]⟩ : ByteArray)] : List ByteArray))
theorem spec_l17Topics.calls  (r : List ByteArray) (w : World) (h : spec_l17Topics.f  = some r) :
 Calls Tryz.prog 95 #[] w fun e w' => ∃ v0_ : Value, e = .returned (v0_) ∧ Kd.R Kd.string 9 w' w.heap.size (fun _ => True) v0_ r ∧ Below w.heap.size w w' := by
 have HB := am (Below.refl w.heap.size w)
 unfold spec_l17Topics.f at h
 have H := h
 clear h
 obtain ⟨y404, hy404⟩ : ∃ y_ : List ByteArray, y_ = (([(⟨#[]⟩ : ByteArray), (⟨#[119, 105, 110, 100]⟩ : ByteArray), (⟨#[114, 97, 105, 110]⟩ : ByteArray), (⟨#[115, 110, 111, 119]⟩ : ByteArray), (⟨#[104, 101, 97, 116]⟩ : ByteArray), (⟨#[115, 116, 111, 114, 109]⟩ : ByteArray)] : List ByteArray)) := ⟨_, rfl⟩
 replace H : (some y404) = some r := by rw [hy404]; exact H
 have Ny404 := am hy404
 clear hy404
 focus
  obtain rfl := Option.some.inj H
  go_enter Tryz.func95, Tryz.ntmps95
  go_wp2_with (first | ((with_reducible refine zgd 1 rfl ?_); refine Kd.R_lit Kd.string _ 9 ?hg (N := 1) ?hd (xs := ([(⟨#[]⟩ : ByteArray), (⟨#[119, 105, 110, 100]⟩ : ByteArray), (⟨#[114, 97, 105, 110]⟩ : ByteArray), (⟨#[115, 110, 111, 119]⟩ : ByteArray), (⟨#[104, 101, 97, 116]⟩ : ByteArray), (⟨#[115, 116, 111, 114, 109]⟩ : ByteArray)] : List ByteArray)) (inner := [.string (⟨#[]⟩ : ByteArray), .string (⟨#[119, 105, 110, 100]⟩ : ByteArray), .string (⟨#[114, 97, 105, 110]⟩ : ByteArray), .string (⟨#[115, 110, 111, 119]⟩ : ByteArray), .string (⟨#[104, 101, 97, 116]⟩ : ByteArray), .string (⟨#[115, 116, 111, 114, 109]⟩ : ByteArray)]) (ok := fun _ => True) (okp := fun _ => True) ?hr ?hp (fun _ hk => hk) trivial (Below.refl _ _) (Nat.le_refl _) (by simp) ?_; (case hd => rfl); (case hg => rfl); (case hr => exact zsx); (case hp => exact (Reps.one (show Kd.M Kd.string _ _ _ (⟨#[]⟩ : ByteArray) [.string (⟨#[]⟩ : ByteArray)] from rfl) (Reps.one (show Kd.M Kd.string _ _ _ (⟨#[119, 105, 110, 100]⟩ : ByteArray) [.string (⟨#[119, 105, 110, 100]⟩ : ByteArray)] from rfl) (Reps.one (show Kd.M Kd.string _ _ _ (⟨#[114, 97, 105, 110]⟩ : ByteArray) [.string (⟨#[114, 97, 105, 110]⟩ : ByteArray)] from rfl) (Reps.one (show Kd.M Kd.string _ _ _ (⟨#[115, 110, 111, 119]⟩ : ByteArray) [.string (⟨#[115, 110, 111, 119]⟩ : ByteArray)] from rfl) (Reps.one (show Kd.M Kd.string _ _ _ (⟨#[104, 101, 97, 116]⟩ : ByteArray) [.string (⟨#[104, 101, 97, 116]⟩ : ByteArray)] from rfl) (Reps.one (show Kd.M Kd.string _ _ _ (⟨#[115, 116, 111, 114, 109]⟩ : ByteArray) [.string (⟨#[115, 116, 111, 114, 109]⟩ : ByteArray)] from rfl) (Reps.none _ _)))))))); intro v405 w1 ho2 hb hg_ hnew_; clear hg_ hnew_; (first | rw [← Ny404.o] at ho2 | (simp only [Int.reduceToNat] at ho2; rw [← Ny404.o] at ho2)); have HO406 := am (Kd.R_lower ho2 (below_size (zBx HB.o))); replace HB := zhs HB hb; clear hb ho2))
  go_ret
  exact ⟨_, zew, zDR HO406.o, zBx HB.o⟩
def qQ.f (k : Nat) (a0_0 : Int) (a0_1 : Int) (a0_2 : Int) (a0_3 : Int) (a0_4 : Int) (a0_5 : Int) : Option (ByteArray) := (qB.f k a0_0).bind fun t408 => (if t408.size + 2 ≤ 9223372036854775807 then ((spec_l17Levels.f).bind fun t409 => (if 0 ≤ a0_2 then (if a0_2 < (t409.length : Int) then (if (t408 ++ (⟨#[58, 32]⟩ : ByteArray)).size + (rdOf ByteArray.empty t409 a0_2).size ≤ 9223372036854775807 then (if ((t408 ++ (⟨#[58, 32]⟩ : ByteArray)) ++ (rdOf ByteArray.empty t409 a0_2)).size + 1 ≤ 9223372036854775807 then ((spec_l17Topics.f).bind fun t413 => (if 0 ≤ a0_1 then (if a0_1 < (t413.length : Int) then (if (((t408 ++ (⟨#[58, 32]⟩ : ByteArray)) ++ (rdOf ByteArray.empty t409 a0_2)) ++ (⟨#[32]⟩ : ByteArray)).size + (rdOf ByteArray.empty t413 a0_1).size ≤ 9223372036854775807 then (if ((((t408 ++ (⟨#[58, 32]⟩ : ByteArray)) ++ (rdOf ByteArray.empty t409 a0_2)) ++ (⟨#[32]⟩ : ByteArray)) ++ (rdOf ByteArray.empty t413 a0_1)).size + 7 ≤ 9223372036854775807 then ((qB.f k a0_3).bind fun t417 => (if (((((t408 ++ (⟨#[58, 32]⟩ : ByteArray)) ++ (rdOf ByteArray.empty t409 a0_2)) ++ (⟨#[32]⟩ : ByteArray)) ++ (rdOf ByteArray.empty t413 a0_1)) ++ (⟨#[44, 32, 97, 114, 101, 97, 32]⟩ : ByteArray)).size + t417.size ≤ 9223372036854775807 then (if ((((((t408 ++ (⟨#[58, 32]⟩ : ByteArray)) ++ (rdOf ByteArray.empty t409 a0_2)) ++ (⟨#[32]⟩ : ByteArray)) ++ (rdOf ByteArray.empty t413 a0_1)) ++ (⟨#[44, 32, 97, 114, 101, 97, 32]⟩ : ByteArray)) ++ t417).size + 8 ≤ 9223372036854775807 then ((qB.f k a0_4).bind fun t418 => (if (((((((t408 ++ (⟨#[58, 32]⟩ : ByteArray)) ++ (rdOf ByteArray.empty t409 a0_2)) ++ (⟨#[32]⟩ : ByteArray)) ++ (rdOf ByteArray.empty t413 a0_1)) ++ (⟨#[44, 32, 97, 114, 101, 97, 32]⟩ : ByteArray)) ++ t417) ++ (⟨#[44, 32, 104, 111, 117, 114, 115, 32]⟩ : ByteArray)).size + t418.size ≤ 9223372036854775807 then (if ((((((((t408 ++ (⟨#[58, 32]⟩ : ByteArray)) ++ (rdOf ByteArray.empty t409 a0_2)) ++ (⟨#[32]⟩ : ByteArray)) ++ (rdOf ByteArray.empty t413 a0_1)) ++ (⟨#[44, 32, 97, 114, 101, 97, 32]⟩ : ByteArray)) ++ t417) ++ (⟨#[44, 32, 104, 111, 117, 114, 115, 32]⟩ : ByteArray)) ++ t418).size + 1 ≤ 9223372036854775807 then ((qB.f k a0_5).bind fun t419 => (if (((((((((t408 ++ (⟨#[58, 32]⟩ : ByteArray)) ++ (rdOf ByteArray.empty t409 a0_2)) ++ (⟨#[32]⟩ : ByteArray)) ++ (rdOf ByteArray.empty t413 a0_1)) ++ (⟨#[44, 32, 97, 114, 101, 97, 32]⟩ : ByteArray)) ++ t417) ++ (⟨#[44, 32, 104, 111, 117, 114, 115, 32]⟩ : ByteArray)) ++ t418) ++ (⟨#[45]⟩ : ByteArray)).size + t419.size ≤ 9223372036854775807 then (some ((((((((((t408 ++ (⟨#[58, 32]⟩ : ByteArray)) ++ (rdOf ByteArray.empty t409 a0_2)) ++ (⟨#[32]⟩ : ByteArray)) ++ (rdOf ByteArray.empty t413 a0_1)) ++ (⟨#[44, 32, 97, 114, 101, 97, 32]⟩ : ByteArray)) ++ t417) ++ (⟨#[44, 32, 104, 111, 117, 114, 115, 32]⟩ : ByteArray)) ++ t418) ++ (⟨#[45]⟩ : ByteArray)) ++ t419)) else (none))) else (none)) else (none))) else (none)) else (none))) else (none)) else (none)) else (none)) else (none))) else (none)) else (none)) else (none)) else (none))) else (none))
def qQ.T1 : Bool × List (List Nat × List Nat) := (true, [([], []), ([0], [0]), ([1], [1]), ([2], [2]), ([2], []), ([], []), ([5], [5]), ([4, 6], [4, 6]), ([7], [7]), ([3, 8], [3, 8]), ([9], [9]), ([4], []), ([], []), ([12], [12]), ([11, 13], [11, 13]), ([14], [14]), ([10, 15], [10, 15]), ([16], [16]), ([], []), ([18], [18]), ([19, 11], [19]), ([17, 20], [17, 20]), ([21], [21]), ([], []), ([23], [23]), ([24, 20], [24]), ([22, 25], [22, 25]), ([26], [26]), ([], []), ([28], [28]), ([29, 25], [29]), ([27, 30], [27, 30]), ([31, 30, 0, 1, 2, 3, 4, 5, 6, 7, 8, 9, 10, 11, 12, 13, 14, 15, 16, 17, 18, 19, 20, 21, 22, 23, 24, 25, 26, 27, 28, 29, 30, 31], [31])])
def qQ.B1 : List Nat := [0, 1, 3, 7, 7, 0, 32, 119, 247, 511, 1023, 23, 0, 4096, 14359, 30743, 65535, 131071, 0, 262144, 788503, 2097151, 4194303, 0, 8388608, 27002903, 67108863, 134217727, 0, 268435456, 865863703, 2147483647, 4294967295]
theorem qQ.tab1 : rtab .any (opsOf Tryz.f48 1) = qQ.T1 := by kernel_rfl
theorem qQ.bits1 : waitsOk qQ.T1.2 qQ.B1 = true := by kernel_rfl
theorem qQ.calls (k : Nat) (a0_0 : Int) (a0_1 : Int) (a0_2 : Int) (a0_3 : Int) (a0_4 : Int) (a0_5 : Int) (r : ByteArray) (w : World) (h : qQ.f k a0_0 a0_1 a0_2 a0_3 a0_4 a0_5 = some r) :
 Calls Tryz.prog 48 #[.agg #[.int .i64 a0_0, .int .i64 a0_1, .int .i64 a0_2, .int .i64 a0_3, .int .i64 a0_4, .int .i64 a0_5]] w fun e w' => e = .returned (.string r) ∧ Below w.heap.size w w' := by
 have hu25 := Tryz.underlying25
 have HB := am (Below.refl w.heap.size w)
 unfold qQ.f at h
 have H := h
 clear h
 obtain ⟨t408, A2, H⟩ := zob H
 try dsimp only at H
 by_cases c3 : t408.size + 2 ≤ 9223372036854775807
 rotate_left
 ·rw [if_neg c3] at H
  exact absurd H (by simp)
 rw [if_pos c3] at H
 have c3b0 := eq_true c3
 have c3b1 := decide_eq_true c3
 try have c3b2 : (9223372036854775807 < t408.size + 2) = False := eq_false (Nat.not_lt.2 c3)
 obtain ⟨t409, A4, H⟩ := zob H
 try dsimp only at H
 obtain ⟨c5, H⟩ := zin H
 have c5b0 := decide_eq_true c5
 clear c5
 obtain ⟨c6, H⟩ := zin H
 have c6b0 := decide_eq_true c6
 clear c6
 obtain ⟨c7, H⟩ := zin H
 have c7b0 := eq_true c7
 have c7b1 := decide_eq_true c7
 try have c7b2 : (9223372036854775807 < (t408 ++ (⟨#[58, 32]⟩ : ByteArray)).size + (rdOf ByteArray.empty t409 a0_2).size) = False := eq_false (Nat.not_lt.2 c7)
 have c7b3 : (9223372036854775807 < t408.size + 2 + (rdOf ByteArray.empty t409 a0_2).size) = False := eq_false (Nat.not_lt.2 (by have h_ := c7; simp only [ByteArray.size_append] at h_; exact h_))
 obtain ⟨c8, H⟩ := zin H
 have c8b0 := eq_true c8
 have c8b1 := decide_eq_true c8
 try have c8b2 : (9223372036854775807 < ((t408 ++ (⟨#[58, 32]⟩ : ByteArray)) ++ (rdOf ByteArray.empty t409 a0_2)).size + 1) = False := eq_false (Nat.not_lt.2 c8)
 have c8b3 : (9223372036854775807 < t408.size + 2 + (rdOf ByteArray.empty t409 a0_2).size + 1) = False := eq_false (Nat.not_lt.2 (by have h_ := c8; simp only [ByteArray.size_append] at h_; exact h_))
 obtain ⟨t413, A9, H⟩ := zob H
 try dsimp only at H
 obtain ⟨c10, H⟩ := zin H
 have c10b0 := decide_eq_true c10
 clear c10
 obtain ⟨c11, H⟩ := zin H
 have c11b0 := decide_eq_true c11
 clear c11
 obtain ⟨c12, H⟩ := zin H
 have c12b0 := eq_true c12
 have c12b1 := decide_eq_true c12
 try have c12b2 : (9223372036854775807 < (((t408 ++ (⟨#[58, 32]⟩ : ByteArray)) ++ (rdOf ByteArray.empty t409 a0_2)) ++ (⟨#[32]⟩ : ByteArray)).size + (rdOf ByteArray.empty t413 a0_1).size) = False := eq_false (Nat.not_lt.2 c12)
 have c12b3 : (9223372036854775807 < t408.size + 2 + (rdOf ByteArray.empty t409 a0_2).size + 1 + (rdOf ByteArray.empty t413 a0_1).size) = False := eq_false (Nat.not_lt.2 (by have h_ := c12; simp only [ByteArray.size_append] at h_; exact h_))
 obtain ⟨c13, H⟩ := zin H
 have c13b0 := eq_true c13
 have c13b1 := decide_eq_true c13
 try have c13b2 : (9223372036854775807 < ((((t408 ++ (⟨#[58, 32]⟩ : ByteArray)) ++ (rdOf ByteArray.empty t409 a0_2)) ++ (⟨#[32]⟩ : ByteArray)) ++ (rdOf ByteArray.empty t413 a0_1)).size + 7) = False := eq_false (Nat.not_lt.2 c13)
 have c13b3 : (9223372036854775807 < t408.size + 2 + (rdOf ByteArray.empty t409 a0_2).size + 1 + (rdOf ByteArray.empty t413 a0_1).size + 7) = False := eq_false (Nat.not_lt.2 (by have h_ := c13; simp only [ByteArray.size_append] at h_; exact h_))
 obtain ⟨t417, A14, H⟩ := zob H
 try dsimp only at H
 obtain ⟨c15, H⟩ := zin H
 have c15b0 := eq_true c15
 have c15b1 := decide_eq_true c15
 try have c15b2 : (9223372036854775807 < (((((t408 ++ (⟨#[58, 32]⟩ : ByteArray)) ++ (rdOf ByteArray.empty t409 a0_2)) ++ (⟨#[32]⟩ : ByteArray)) ++ (rdOf ByteArray.empty t413 a0_1)) ++ (⟨#[44, 32, 97, 114, 101, 97, 32]⟩ : ByteArray)).size + t417.size) = False := eq_false (Nat.not_lt.2 c15)
 have c15b3 : (9223372036854775807 < t408.size + 2 + (rdOf ByteArray.empty t409 a0_2).size + 1 + (rdOf ByteArray.empty t413 a0_1).size + 7 + t417.size) = False := eq_false (Nat.not_lt.2 (by have h_ := c15; simp only [ByteArray.size_append] at h_; exact h_))
 obtain ⟨c16, H⟩ := zin H
 have c16b0 := eq_true c16
 have c16b1 := decide_eq_true c16
 try have c16b2 : (9223372036854775807 < ((((((t408 ++ (⟨#[58, 32]⟩ : ByteArray)) ++ (rdOf ByteArray.empty t409 a0_2)) ++ (⟨#[32]⟩ : ByteArray)) ++ (rdOf ByteArray.empty t413 a0_1)) ++ (⟨#[44, 32, 97, 114, 101, 97, 32]⟩ : ByteArray)) ++ t417).size + 8) = False := eq_false (Nat.not_lt.2 c16)
 have c16b3 : (9223372036854775807 < t408.size + 2 + (rdOf ByteArray.empty t409 a0_2).size + 1 + (rdOf ByteArray.empty t413 a0_1).size + 7 + t417.size + 8) = False := eq_false (Nat.not_lt.2 (by have h_ := c16; simp only [ByteArray.size_append] at h_; exact h_))
 obtain ⟨t418, A17, H⟩ := zob H
 try dsimp only at H
 obtain ⟨c18, H⟩ := zin H
 have c18b0 := eq_true c18
 have c18b1 := decide_eq_true c18
 try have c18b2 : (9223372036854775807 < (((((((t408 ++ (⟨#[58, 32]⟩ : ByteArray)) ++ (rdOf ByteArray.empty t409 a0_2)) ++ (⟨#[32]⟩ : ByteArray)) ++ (rdOf ByteArray.empty t413 a0_1)) ++ (⟨#[44, 32, 97, 114, 101, 97, 32]⟩ : ByteArray)) ++ t417) ++ (⟨#[44, 32, 104, 111, 117, 114, 115, 32]⟩ : ByteArray)).size + t418.size) = False := eq_false (Nat.not_lt.2 c18)
 have c18b3 : (9223372036854775807 < t408.size + 2 + (rdOf ByteArray.empty t409 a0_2).size + 1 + (rdOf ByteArray.empty t413 a0_1).size + 7 + t417.size + 8 + t418.size) = False := eq_false (Nat.not_lt.2 (by have h_ := c18; simp only [ByteArray.size_append] at h_; exact h_))
 obtain ⟨c19, H⟩ := zin H
 have c19b0 := eq_true c19
 have c19b1 := decide_eq_true c19
 try have c19b2 : (9223372036854775807 < ((((((((t408 ++ (⟨#[58, 32]⟩ : ByteArray)) ++ (rdOf ByteArray.empty t409 a0_2)) ++ (⟨#[32]⟩ : ByteArray)) ++ (rdOf ByteArray.empty t413 a0_1)) ++ (⟨#[44, 32, 97, 114, 101, 97, 32]⟩ : ByteArray)) ++ t417) ++ (⟨#[44, 32, 104, 111, 117, 114, 115, 32]⟩ : ByteArray)) ++ t418).size + 1) = False := eq_false (Nat.not_lt.2 c19)
 have c19b3 : (9223372036854775807 < t408.size + 2 + (rdOf ByteArray.empty t409 a0_2).size + 1 + (rdOf ByteArray.empty t413 a0_1).size + 7 + t417.size + 8 + t418.size + 1) = False := eq_false (Nat.not_lt.2 (by have h_ := c19; simp only [ByteArray.size_append] at h_; exact h_))
 obtain ⟨t419, A20, H⟩ := zob H
 try dsimp only at H
 obtain ⟨c21, H⟩ := zin H
 have c21b0 := eq_true c21
 have c21b1 := decide_eq_true c21
 try have c21b2 : (9223372036854775807 < (((((((((t408 ++ (⟨#[58, 32]⟩ : ByteArray)) ++ (rdOf ByteArray.empty t409 a0_2)) ++ (⟨#[32]⟩ : ByteArray)) ++ (rdOf ByteArray.empty t413 a0_1)) ++ (⟨#[44, 32, 97, 114, 101, 97, 32]⟩ : ByteArray)) ++ t417) ++ (⟨#[44, 32, 104, 111, 117, 114, 115, 32]⟩ : ByteArray)) ++ t418) ++ (⟨#[45]⟩ : ByteArray)).size + t419.size) = False := eq_false (Nat.not_lt.2 c21)
 have c21b3 : (9223372036854775807 < t408.size + 2 + (rdOf ByteArray.empty t409 a0_2).size + 1 + (rdOf ByteArray.empty t413 a0_1).size + 7 + t417.size + 8 + t418.size + 1 + t419.size) = False := eq_false (Nat.not_lt.2 (by have h_ := c21; simp only [ByteArray.size_append] at h_; exact h_))
 focus
  obtain rfl := Option.some.inj H
  go_enter Tryz.func48, Tryz.ntmps48
  try go_wp2_with (first | ((with_reducible refine zgd 1 rfl ?_); refine zbe 1 #[.int .i64 a0_0, .int .i64 a0_1, .int .i64 a0_2, .int .i64 a0_3, .int .i64 a0_4, .int .i64 a0_5] 25 ?_; intro gb407 hg w22 hbox hb; have BK407 := am (hbox); have GW407 := zns hg HB.o; have GE407 := zns hg HB.o; replace HB := zhs HB hb; clear hb hbox hg))
  replace BK407 := am (blk_drew BK407.o)
  replace HB := am (below_drew1 HB.o)
  refine start_ (n := 33) (S := fun w' => w'.cell? ⟨gb407, 0, none⟩ = some (.int .i64 a0_0) ∧ w'.cell? ⟨gb407, 1, none⟩ = some (.int .i64 a0_1) ∧ w'.cell? ⟨gb407, 2, none⟩ = some (.int .i64 a0_2) ∧ w'.cell? ⟨gb407, 3, none⟩ = some (.int .i64 a0_3) ∧ w'.cell? ⟨gb407, 4, none⟩ = some (.int .i64 a0_4) ∧ w'.cell? ⟨gb407, 5, none⟩ = some (.int .i64 a0_5)) (ds := []) (zm 33 0) (by kernel_rfl) rfl rfl ⟨(bkc BK407.o 0).trans rfl, (bkc BK407.o 1).trans rfl, (bkc BK407.o 2).trans rfl, (bkc BK407.o 3).trans rfl, (bkc BK407.o 4).trans rfl, (bkc BK407.o 5).trans rfl⟩ (fun hHd => ?_); refine with_tabW qQ.tab1 qQ.bits1 (fun Tq Wq => ?_)
  generalize w22.drew = w23 at BK407 HB hHd ⊢
  refine zpu 0 3 (zm 33 1) Tq.o ?_
  refine zpu 5 8 (zm 33 33) Tq.o ?_
  refine zpu 12 15 (zm 33 4129) Tq.o ?_
  refine zpu 18 21 (zm 33 266273) Tq.o ?_
  refine zpu 23 26 (zm 33 8654881) Tq.o ?_
  refine zpu 28 31 (zm 33 277090337) Tq.o ?_
  refine take_ (i := 1) (N := some 4) (v := ?_) (a' := ?_) (zm 33 277090339) rfl rfl (take_ofW Tq.o Wq.o (by kernel_rfl)) (fun _ _ _ h => h) (Or.inl ⟨by rfl, ?_⟩) hHd ?_ ?_
  rotate_left
  ·rintro w' ⟨s0, s1, s2, s3, s4, s5⟩
   go_simp
   with_reducible rfl
  rotate_left
  ·exact zpx
  refine take_ (i := 6) (N := some 9) (v := ?_) (a' := ?_) (zm 33 277090403) rfl rfl (take_ofW Tq.o Wq.o (by kernel_rfl)) (fun _ _ _ h => h) (Or.inl ⟨by rfl, ?_⟩) hHd ?_ ?_
  rotate_left
  ·rintro w' ⟨s0, s1, s2, s3, s4, s5⟩
   go_simp
   with_reducible rfl
  rotate_left
  ·exact zpx
  refine take_ (i := 13) (N := some 16) (v := ?_) (a' := ?_) (zm 33 277098595) rfl rfl (take_ofW Tq.o Wq.o (by kernel_rfl)) (fun _ _ _ h => h) (Or.inl ⟨by rfl, ?_⟩) hHd ?_ ?_
  rotate_left
  ·rintro w' ⟨s0, s1, s2, s3, s4, s5⟩
   go_simp
   with_reducible rfl
  rotate_left
  ·exact zpx
  refine take_ (i := 19) (N := some 22) (v := ?_) (a' := ?_) (zm 33 277622883) rfl rfl (take_ofW Tq.o Wq.o (by kernel_rfl)) (fun _ _ _ h => h) (Or.inl ⟨by rfl, ?_⟩) hHd ?_ ?_
  rotate_left
  ·rintro w' ⟨s0, s1, s2, s3, s4, s5⟩
   go_simp
   with_reducible rfl
  rotate_left
  ·exact zpx
  refine take_ (i := 24) (N := some 27) (v := ?_) (a' := ?_) (zm 33 294400099) rfl rfl (take_ofW Tq.o Wq.o (by kernel_rfl)) (fun _ _ _ h => h) (Or.inl ⟨by rfl, ?_⟩) hHd ?_ ?_
  rotate_left
  ·rintro w' ⟨s0, s1, s2, s3, s4, s5⟩
   go_simp
   with_reducible rfl
  rotate_left
  ·exact zpx
  refine take_ (i := 29) (N := some 32) (v := ?_) (a' := ?_) (zm 33 831271011) rfl rfl (take_ofW Tq.o Wq.o (by kernel_rfl)) (fun _ _ _ h => h) (Or.inl ⟨by rfl, ?_⟩) hHd ?_ ?_
  rotate_left
  ·rintro w' ⟨s0, s1, s2, s3, s4, s5⟩
   go_simp
   with_reducible rfl
  rotate_left
  ·exact zpx
  refine one_ (i := 2) (N := some 5) (zm 33 831271015) rfl rfl (one_of Tq.o (by kernel_rfl)) (by decide) (fun K hK => ?_)
  refine goes_ Tryz.func93 (by kernel_rfl) rfl #[.int .i64 a0_0] (by rfl) rfl rfl zlx ?_
  with_reducible refine (qB.calls k a0_0 t408 _ A2.o).mono ?_
  rintro e w24 ⟨rfl, hb⟩
  refine ⟨_, rfl, ?_⟩
  replace BK407 := zbl BK407.o hb
  replace HB := zhs HB hb
  (try clear hb)
  (try clear hb2)
  (try clear hk)
  (try clear hi)
  refine hK.out _ _ ⟨(bkc BK407.o 0).trans rfl, (bkc BK407.o 1).trans rfl, (bkc BK407.o 2).trans rfl, (bkc BK407.o 3).trans rfl, (bkc BK407.o 4).trans rfl, (bkc BK407.o 5).trans rfl⟩ (fun hHd => ?_)
  clear hK K
  refine norm_ (a' := ?_) ?_ ?_
  rotate_left
  ·show Act.put _ (some 5) _ = _
   simp only [Act.put, List.setIfInBounds_toArray, List.set_cons_zero, List.set_cons_succ, i64_w, i32_w]
   rfl
  refine zpu 3 6 (zm 33 831271023) Tq.o ?_
  refine one_ (i := 4) (N := some 7) (zm 33 831271039) rfl rfl (one_of Tq.o (by kernel_rfl)) (by decide) (fun K hK => ?_)
  refine goes_ Tryz.func94 (by kernel_rfl) rfl #[] (by rfl) rfl rfl zlx ?_
  with_reducible refine (spec_l17Levels.calls  t409 _ A4.o).mono ?_
  rintro e w25 ⟨v410, rfl, ho0, hb⟩
  refine ⟨_, rfl, ?_⟩
  have HO411 := am (Kd.R_lower ho0 (below_size (zBy HB.o GE407.o)))
  replace BK407 := zbl BK407.o hb
  replace HB := zhs HB hb
  (try clear hb)
  (try clear hb2)
  (try clear hk)
  (try clear hi)
  (try clear ho0)
  obtain ⟨Ao26, co26, eo26⟩ := Kd.R_slice HO411.o
  (first | subst eo26 | (injection eo26 with f1_ f2_ f3_; have f4_ := f1_.symm; have f5_ := f3_.symm; clear f1_ f2_ f3_; subst f4_; subst f5_))
  have p412 : 0 ≤ (a0_2 : Int) := zod
  have q412 : a0_2 < (t409.length : Int) := zod
  obtain ⟨ad412, e412, hx412_0⟩ := Kd.at_string (Kd.R_reads' HO411.o).2.2 a0_2 p412 q412
  cases e412
  replace p412 := eq_true p412
  replace q412 := eq_true q412
  refine hK.out _ _ ⟨(bkc BK407.o 0).trans rfl, (bkc BK407.o 1).trans rfl, (bkc BK407.o 2).trans rfl, (bkc BK407.o 3).trans rfl, (bkc BK407.o 4).trans rfl, (bkc BK407.o 5).trans rfl⟩ (fun hHd => ?_)
  replace hHd := (And.intro (hHd.1) (And.intro (hHd.2.1) (And.intro (hHd.2.2.1) (And.intro (hHd.2.2.2.1) (And.intro (hHd.2.2.2.2.1) (And.intro (hHd.2.2.2.2.2) (hx412_0)))))))
  refine more_ (S' := fun (w' : World) => w'.cell? ⟨gb407, 0, none⟩ = some (.int .i64 a0_0) ∧ w'.cell? ⟨gb407, 1, none⟩ = some (.int .i64 a0_1) ∧ w'.cell? ⟨gb407, 2, none⟩ = some (.int .i64 a0_2) ∧ w'.cell? ⟨gb407, 3, none⟩ = some (.int .i64 a0_3) ∧ w'.cell? ⟨gb407, 4, none⟩ = some (.int .i64 a0_4) ∧ w'.cell? ⟨gb407, 5, none⟩ = some (.int .i64 a0_5) ∧ w'.cell? (ad412.add (a0_2).toNat) = some (.string (rdOf ByteArray.empty t409 a0_2))) (fun w' h_ => ⟨h_.1, h_.2.1, h_.2.2.1, h_.2.2.2.1, h_.2.2.2.2.1, h_.2.2.2.2.2.1⟩) _ _ _ _ hHd ?_
  clear hK K
  refine norm_ (a' := ?_) ?_ ?_
  rotate_left
  ·show Act.put _ (some 7) _ = _
   simp only [Act.put, List.setIfInBounds_toArray, List.set_cons_zero, List.set_cons_succ, i64_w, i32_w]
   rfl
  refine zpu 7 10 (zm 33 831271167) Tq.o ?_
  refine take_ (i := 8) (N := some 11) (v := ?_) (a' := ?_) (zm 33 831271423) rfl rfl (take_ofW Tq.o Wq.o (by kernel_rfl)) (fun _ _ _ h => h) (Or.inl ⟨by rfl, ?_⟩) hHd ?_ ?_
  rotate_left
  ·rintro w' ⟨s0, s1, s2, s3, s4, s5, s6⟩
   go_simp
   with_reducible rfl
  rotate_left
  ·exact zpx
  refine zpu 9 12 (zm 33 831271935) Tq.o ?_
  refine zpu 10 13 (zm 33 831272959) Tq.o ?_
  refine one_ (i := 11) (N := some 14) (zm 33 831275007) rfl rfl (one_of Tq.o (by kernel_rfl)) (by decide) (fun K hK => ?_)
  refine goes_ Tryz.func95 (by kernel_rfl) rfl #[] (by rfl) rfl rfl zlx ?_
  with_reducible refine (spec_l17Topics.calls  t413 _ A9.o).mono ?_
  rintro e w27 ⟨v414, rfl, ho0, hb⟩
  have HS6_ := (hb.cell (World.block_lt_of_cell? _ _ (hHd.2.2.2.2.2.2))).trans (hHd.2.2.2.2.2.2)
  refine ⟨_, rfl, ?_⟩
  have HO415 := am (Kd.R_lower (Kd.R_new' ho0 (Kd.R_lt (zRx HO411.o))) (below_size (zBy HB.o GE407.o)))
  replace HO411 := am (Kd.R_elder' (zRx HO411.o) (Kd.R_base ho0) hb)
  replace BK407 := zbl BK407.o hb
  replace HB := zhs HB hb
  (try clear hb)
  (try clear hb2)
  (try clear hk)
  (try clear hi)
  (try clear ho0)
  obtain ⟨Ao28, co28, eo28⟩ := Kd.R_slice HO415.o
  (first | subst eo28 | (injection eo28 with f1_ f2_ f3_; have f4_ := f1_.symm; have f5_ := f3_.symm; clear f1_ f2_ f3_; subst f4_; subst f5_))
  have p416 : 0 ≤ (a0_1 : Int) := zod
  have q416 : a0_1 < (t413.length : Int) := zod
  obtain ⟨ad416, e416, hx416_0⟩ := Kd.at_string (Kd.R_reads' HO415.o).2.2 a0_1 p416 q416
  cases e416
  replace p416 := eq_true p416
  replace q416 := eq_true q416
  refine hK.out _ _ ⟨(bkc BK407.o 0).trans rfl, (bkc BK407.o 1).trans rfl, (bkc BK407.o 2).trans rfl, (bkc BK407.o 3).trans rfl, (bkc BK407.o 4).trans rfl, (bkc BK407.o 5).trans rfl, HS6_⟩ (fun hHd => ?_)
  replace hHd := (And.intro (hHd.1) (And.intro (hHd.2.1) (And.intro (hHd.2.2.1) (And.intro (hHd.2.2.2.1) (And.intro (hHd.2.2.2.2.1) (And.intro (hHd.2.2.2.2.2.1) (And.intro (hHd.2.2.2.2.2.2) (hx416_0))))))))
  refine more_ (S' := fun (w' : World) => w'.cell? ⟨gb407, 0, none⟩ = some (.int .i64 a0_0) ∧ w'.cell? ⟨gb407, 1, none⟩ = some (.int .i64 a0_1) ∧ w'.cell? ⟨gb407, 2, none⟩ = some (.int .i64 a0_2) ∧ w'.cell? ⟨gb407, 3, none⟩ = some (.int .i64 a0_3) ∧ w'.cell? ⟨gb407, 4, none⟩ = some (.int .i64 a0_4) ∧ w'.cell? ⟨gb407, 5, none⟩ = some (.int .i64 a0_5) ∧ w'.cell? (ad412.add (a0_2).toNat) = some (.string (rdOf ByteArray.empty t409 a0_2)) ∧ w'.cell? (ad416.add (a0_1).toNat) = some (.string (rdOf ByteArray.empty t413 a0_1))) (fun w' h_ => ⟨h_.1, h_.2.1, h_.2.2.1, h_.2.2.2.1, h_.2.2.2.2.1, h_.2.2.2.2.2.1, h_.2.2.2.2.2.2.1⟩) _ _ _ _ hHd ?_
  clear hK K
  refine norm_ (a' := ?_) ?_ ?_
  rotate_left
  ·show Act.put _ (some 14) _ = _
   simp only [Act.put, List.setIfInBounds_toArray, List.set_cons_zero, List.set_cons_succ, i64_w, i32_w]
   rfl
  refine zpu 14 17 (zm 33 831291391) Tq.o ?_
  refine take_ (i := 15) (N := some 18) (v := ?_) (a' := ?_) (zm 33 831324159) rfl rfl (take_ofW Tq.o Wq.o (by kernel_rfl)) (fun _ _ _ h => h) (Or.inl ⟨by rfl, ?_⟩) hHd ?_ ?_
  rotate_left
  ·rintro w' ⟨s0, s1, s2, s3, s4, s5, s6, s7⟩
   go_simp
   with_reducible rfl
  rotate_left
  ·exact zpx
  refine zpu 16 19 (zm 33 831389695) Tq.o ?_
  refine zpu 17 20 (zm 33 831520767) Tq.o ?_
  refine one_ (i := 20) (N := some 23) (zm 33 832569343) rfl rfl (one_of Tq.o (by kernel_rfl)) (by decide) (fun K hK => ?_)
  refine goes_ Tryz.func93 (by kernel_rfl) rfl #[.int .i64 a0_3] (by rfl) rfl rfl zlx ?_
  with_reducible refine (qB.calls k a0_3 t417 _ A14.o).mono ?_
  rintro e w29 ⟨rfl, hb⟩
  have HS6_ := (hb.cell (World.block_lt_of_cell? _ _ (hHd.2.2.2.2.2.2.1))).trans (hHd.2.2.2.2.2.2.1)
  have HS7_ := (hb.cell (World.block_lt_of_cell? _ _ (hHd.2.2.2.2.2.2.2))).trans (hHd.2.2.2.2.2.2.2)
  refine ⟨_, rfl, ?_⟩
  replace HO411 := zro HO411 hb
  replace HO415 := zro HO415 hb
  replace BK407 := zbl BK407.o hb
  replace HB := zhs HB hb
  (try clear hb)
  (try clear hb2)
  (try clear hk)
  (try clear hi)
  refine hK.out _ _ ⟨(bkc BK407.o 0).trans rfl, (bkc BK407.o 1).trans rfl, (bkc BK407.o 2).trans rfl, (bkc BK407.o 3).trans rfl, (bkc BK407.o 4).trans rfl, (bkc BK407.o 5).trans rfl, HS6_, HS7_⟩ (fun hHd => ?_)
  clear hK K
  refine norm_ (a' := ?_) ?_ ?_
  rotate_left
  ·show Act.put _ (some 23) _ = _
   simp only [Act.put, List.setIfInBounds_toArray, List.set_cons_zero, List.set_cons_succ, i64_w, i32_w]
   rfl
  refine zpu 21 24 (zm 33 834666495) Tq.o ?_
  refine zpu 22 25 (zm 33 838860799) Tq.o ?_
  refine one_ (i := 25) (N := some 28) (zm 33 872415231) rfl rfl (one_of Tq.o (by kernel_rfl)) (by decide) (fun K hK => ?_)
  refine goes_ Tryz.func93 (by kernel_rfl) rfl #[.int .i64 a0_4] (by rfl) rfl rfl zlx ?_
  with_reducible refine (qB.calls k a0_4 t418 _ A17.o).mono ?_
  rintro e w30 ⟨rfl, hb⟩
  have HS6_ := (hb.cell (World.block_lt_of_cell? _ _ (hHd.2.2.2.2.2.2.1))).trans (hHd.2.2.2.2.2.2.1)
  have HS7_ := (hb.cell (World.block_lt_of_cell? _ _ (hHd.2.2.2.2.2.2.2))).trans (hHd.2.2.2.2.2.2.2)
  refine ⟨_, rfl, ?_⟩
  replace HO411 := zro HO411 hb
  replace HO415 := zro HO415 hb
  replace BK407 := zbl BK407.o hb
  replace HB := zhs HB hb
  (try clear hb)
  (try clear hb2)
  (try clear hk)
  (try clear hi)
  refine hK.out _ _ ⟨(bkc BK407.o 0).trans rfl, (bkc BK407.o 1).trans rfl, (bkc BK407.o 2).trans rfl, (bkc BK407.o 3).trans rfl, (bkc BK407.o 4).trans rfl, (bkc BK407.o 5).trans rfl, HS6_, HS7_⟩ (fun hHd => ?_)
  clear hK K
  refine norm_ (a' := ?_) ?_ ?_
  rotate_left
  ·show Act.put _ (some 28) _ = _
   simp only [Act.put, List.setIfInBounds_toArray, List.set_cons_zero, List.set_cons_succ, i64_w, i32_w]
   rfl
  refine zpu 26 29 (zm 33 939524095) Tq.o ?_
  refine zpu 27 30 (zm 33 1073741823) Tq.o ?_
  refine one_ (i := 30) (N := some 33) (zm 33 2147483647) rfl rfl (one_of Tq.o (by kernel_rfl)) (by decide) (fun K hK => ?_)
  refine goes_ Tryz.func93 (by kernel_rfl) rfl #[.int .i64 a0_5] (by rfl) rfl rfl zlx ?_
  with_reducible refine (qB.calls k a0_5 t419 _ A20.o).mono ?_
  rintro e w31 ⟨rfl, hb⟩
  have HS6_ := (hb.cell (World.block_lt_of_cell? _ _ (hHd.2.2.2.2.2.2.1))).trans (hHd.2.2.2.2.2.2.1)
  have HS7_ := (hb.cell (World.block_lt_of_cell? _ _ (hHd.2.2.2.2.2.2.2))).trans (hHd.2.2.2.2.2.2.2)
  refine ⟨_, rfl, ?_⟩
  replace HO411 := zro HO411 hb
  replace HO415 := zro HO415 hb
  replace BK407 := zbl BK407.o hb
  replace HB := zhs HB hb
  (try clear hb)
  (try clear hb2)
  (try clear hk)
  (try clear hi)
  refine hK.out _ _ ⟨(bkc BK407.o 0).trans rfl, (bkc BK407.o 1).trans rfl, (bkc BK407.o 2).trans rfl, (bkc BK407.o 3).trans rfl, (bkc BK407.o 4).trans rfl, (bkc BK407.o 5).trans rfl, HS6_, HS7_⟩ (fun hHd => ?_)
  clear hK K
  refine norm_ (a' := ?_) ?_ ?_
  rotate_left
  ·show Act.put _ (some 33) _ = _
   simp only [Act.put, List.setIfInBounds_toArray, List.set_cons_zero, List.set_cons_succ, i64_w, i32_w]
   rfl
  refine zpu 31 34 (zm 33 4294967295) Tq.o ?_
  refine zpu 32 2 (zm 33 8589934591) Tq.o ?_
  refine done_ (done_of Tq.o (by kernel_rfl)) ?_
  try go_wp2
  go_ret
  exact ⟨zew, zBy HB.o GE407.o⟩
def qS.l0 : Nat → ByteArray → Int → Int → Option (Int)
 | 0, _, _, _ => none
 | k + 1, x0, x3, x4 => if x4 < (x0.size : Int) then (if 0 ≤ x4 then (qS.l0 k x0 (Int.tmod (wrap64 ((wrap64 ((wrap64 (41 * x3)) + (wrap64 (bt x0 x4)))) + 1)) 999979) (wrap64 (x4 + 1))) else (none)) else (some x3)
def qS.f (k : Nat) (a0 : ByteArray) : Option (Int) := qS.l0 k a0 7 0
theorem qS.calls (k : Nat) (a0 : ByteArray) (r : Int) (w : World) (h : qS.f k a0 = some r) :
 Calls Tryz.prog 109 #[.string a0] w fun e w' => e = .returned (.int .i64 r) ∧ Dq w w' := by
 unfold qS.f at h
 have H := h
 clear h
 have H' := am H
 clear H
 go_enter Tryz.func109, Tryz.ntmps109
 go_wp2
 go_loopg [3, 4] k (fun kq v3 v4 w' => ∃ (x3_1 : Int) (x4_1 : Int), v3 = .int .i64 x3_1 ∧ v4 = .int .i64 x4_1 ∧ Aq (qS.l0 kq a0 x3_1 x4_1 = some r) ∧ Aq (kq ≤ k) ∧ Dq w w')
 case atStart => exact ⟨(7), (0), zrx, zrx, H', ⟨Nat.le_refl _⟩, by repeat (first | exact Dq.refl _ | apply Dq.step)⟩
 case round =>
  clear H'
  obtain ⟨x3_1, x4_1, rfl, rfl, HA, HK1, ⟨m1, rfl⟩⟩ := hrel
  cases gk with
  | zero => exact absurd HA.o (by simp [qS.l0])
  | succ k1 =>
   have H := HA.o
   clear HA
   simp only [qS.l0] at H
   by_cases c2 : x4_1 < (a0.size : Int)
   rotate_left
   ·rw [if_neg c2] at H
    have c2b0 := decide_eq_false c2
    clear c2
    focus
     obtain rfl := Option.some.inj H
     go_wp2
     go_ret
     exact ⟨by first | rfl | (simp; done) | (simp [*]; done), by repeat (first | exact Dq.refl _ | apply Dq.step)⟩
   rw [if_pos c2] at H
   have c2b0 := decide_eq_true c2
   clear c2
   obtain ⟨c3, H⟩ := zin H
   have c3b0 := decide_eq_true c3
   clear c3
   focus
    have H' := am H
    clear H
    have p4 : 0 ≤ (x4_1 : Int) := zod
    have q4 : x4_1 < (a0.size : Int) := zod
    have hx4 := bt_at a0 x4_1
    replace p4 := eq_true p4
    replace q4 := eq_true q4
    go_wp2
    go_roundg k1
    case measure => have := HK1.o; omega
    case rel => exact ⟨(Int.tmod (wrap64 ((wrap64 ((wrap64 (41 * x3_1)) + (wrap64 (bt a0 x4_1)))) + 1)) 999979), (wrap64 (x4_1 + 1)), zrx, zrx, H', ⟨by have := HK1.o; omega⟩, by repeat (first | exact Dq.refl _ | apply Dq.step)⟩
def qV.f (k : Nat) (a0 : ByteArray) : Option (ByteArray) := if a0.size + 1 ≤ 9223372036854775807 then ((qS.f k a0).bind fun t420 => ((qB.f k t420).bind fun t421 => (if (a0 ++ (⟨#[35]⟩ : ByteArray)).size + t421.size ≤ 9223372036854775807 then (some ((a0 ++ (⟨#[35]⟩ : ByteArray)) ++ t421)) else (none)))) else (none)
theorem qV.calls (k : Nat) (a0 : ByteArray) (r : ByteArray) (w : World) (h : qV.f k a0 = some r) :
 Calls Tryz.prog 74 #[.string a0] w fun e w' => e = .returned (.string r) ∧ Below w.heap.size w w' := by
 have HB := am (Below.refl w.heap.size w)
 unfold qV.f at h
 have H := h
 clear h
 by_cases c2 : a0.size + 1 ≤ 9223372036854775807
 rotate_left
 ·rw [if_neg c2] at H
  exact absurd H (by simp)
 rw [if_pos c2] at H
 have c2b0 := eq_true c2
 have c2b1 := decide_eq_true c2
 try have c2b2 : (9223372036854775807 < a0.size + 1) = False := eq_false (Nat.not_lt.2 c2)
 obtain ⟨t420, A3, H⟩ := zob H
 try dsimp only at H
 obtain ⟨t421, A4, H⟩ := zob H
 try dsimp only at H
 by_cases c5 : (a0 ++ (⟨#[35]⟩ : ByteArray)).size + t421.size ≤ 9223372036854775807
 ·rw [if_pos c5] at H
  have c5b0 := eq_true c5
  have c5b1 := decide_eq_true c5
  try have c5b2 : (9223372036854775807 < (a0 ++ (⟨#[35]⟩ : ByteArray)).size + t421.size) = False := eq_false (Nat.not_lt.2 c5)
  have c5b3 : (9223372036854775807 < a0.size + 1 + t421.size) = False := eq_false (Nat.not_lt.2 (by have h_ := c5; simp only [ByteArray.size_append] at h_; exact h_))
  focus
   obtain rfl := Option.some.inj H
   go_enter Tryz.func74, Tryz.ntmps74
   go_wp2_with (first | ((with_reducible refine zgc 109 rfl ?_); refine zgl 6 Tryz.func109 #[.string a0] ?_; (with_reducible refine (qS.calls k a0 t420 _ A3.o).mono ?_); rintro e w' ⟨rfl, ⟨nd, rfl⟩⟩; refine ⟨_, rfl, ?_⟩) | ((with_reducible refine zgc 93 rfl ?_); refine zgl 7 Tryz.func93 #[.int .i64 t420] ?_; (with_reducible refine (qB.calls k t420 t421 _ A4.o).mono ?_); rintro e w6 ⟨rfl, hb⟩; refine ⟨_, rfl, ?_⟩; replace HB := zhs HB hb; clear hb))
   go_ret
   exact ⟨zew, zBx HB.o⟩
 ·rw [if_neg c5] at H
  exact absurd H (by simp)
end Go.Proofs.YtlfoojgbiafffaaGreatDoor.XFnBulletins
