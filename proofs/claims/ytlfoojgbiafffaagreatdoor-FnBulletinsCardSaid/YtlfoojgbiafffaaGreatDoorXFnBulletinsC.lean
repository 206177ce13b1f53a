-- written by wip/tools/xprint.py (a program of this project) out of the translation
import Derived.Test.YtlfoojgbiafffaaGreatDoorXFnBulletinsA
import Derived.Test.YtlfoojgbiafffaaGreatDoorStrsE
import Derived.Test.YtlfoojgbiafffaaGreatDoorXFnBulletinsB
namespace Go.Proofs.YtlfoojgbiafffaaGreatDoor.XFnBulletins
open Go.RowKit Go.Proofs.YtlfoojgbiafffaaGreatDoorW.PrintWords Go.Proofs.YtlfoojgbiafffaaGreatDoorW.PrintLast Go.Proofs.YtlfoojgbiafffaaGreatDoorW.PrintMore
open Go.Proofs.YtlfoojgbiafffaaGreatDoor.Strs
attribute [local go_sem] max2_int min2_int max_two min_two max_three min_three max_four min_four
set_option linter.unusedVariables false
set_option linter.unusedSimpArgs false
set_option maxHeartbeats 8000000
set_option maxRecDepth 100000
attribute [local go_sem high] eqA25
def qA.l0 : Nat → ByteArray → Int → Int → Int → List (S25) → Option (ByteArray)
 | 0, _, _, _, _, _ => none
 | k + 1, x3, x4, x423000, x423001, x423002 => if x4 < (x423002.length : Int) then (if 0 ≤ x4 then ((qQ.f k ((qa x423002 x4).f0) ((qa x423002 x4).f1) ((qa x423002 x4).f2) ((qa x423002 x4).f3) ((qa x423002 x4).f4) ((qa x423002 x4).f5)).bind fun t426 => (if x3.size + t426.size ≤ 9223372036854775807 then (if (x3 ++ t426).size + 1 ≤ 9223372036854775807 then (qA.l0 k ((x3 ++ t426) ++ (⟨#[10]⟩ : ByteArray)) (wrap64 (x4 + 1)) x423000 x423001 x423002) else (none)) else (none))) else (none)) else ((qV.f k x3).bind fun t427 => (some t427))
def qA.f (k : Nat) (a0_0 : Int) (a0_1 : Int) (l0_2 : List (S25)) : Option (ByteArray) := (qB.f k a0_0).bind fun t423 => (if 9 + t423.size ≤ 9223372036854775807 then (if ((⟨#[98, 117, 108, 108, 101, 116, 105, 110, 32]⟩ : ByteArray) ++ t423).size + 9 ≤ 9223372036854775807 then ((qB.f k a0_1).bind fun t424 => (if (((⟨#[98, 117, 108, 108, 101, 116, 105, 110, 32]⟩ : ByteArray) ++ t423) ++ (⟨#[32, 97, 116, 32, 104, 111, 117, 114, 32]⟩ : ByteArray)).size + t424.size ≤ 9223372036854775807 then (if ((((⟨#[98, 117, 108, 108, 101, 116, 105, 110, 32]⟩ : ByteArray) ++ t423) ++ (⟨#[32, 97, 116, 32, 104, 111, 117, 114, 32]⟩ : ByteArray)) ++ t424).size + 1 ≤ 9223372036854775807 then (qA.l0 k (((((⟨#[98, 117, 108, 108, 101, 116, 105, 110, 32]⟩ : ByteArray) ++ t423) ++ (⟨#[32, 97, 116, 32, 104, 111, 117, 114, 32]⟩ : ByteArray)) ++ t424) ++ (⟨#[10]⟩ : ByteArray)) 0 a0_0 a0_1 l0_2) else (none)) else (none))) else (none)) else (none))
def qA.T1 : Bool × List (List Nat × List Nat) := (true, [([], []), ([0], [0]), ([1], [1]), ([2], [2]), ([3], [3]), ([], []), ([5], [5]), ([6, 2], [6]), ([4, 7], [4, 7]), ([8], [8]), ([9, 7, 0, 1, 2, 3, 4, 5, 6, 7, 8, 9], [9])])
def qA.B1 : List Nat := [0, 1, 3, 7, 15, 0, 32, 103, 255, 511, 1023]
theorem qA.tab1 : rtab .any (opsOf Tryz.f68 1) = qA.T1 := by kernel_rfl
theorem qA.bits1 : waitsOk qA.T1.2 qA.B1 = true := by kernel_rfl
theorem qA.calls (k : Nat) (a0_0 : Int) (a0_1 : Int) (A0_2 : Option Addr) (c0_2 : Nat) (l0_2 : List (S25)) (r : ByteArray) (w : World) (hr0_2 : Kd.C k25 w A0_2 l0_2.length l0_2) (hc0_2 : l0_2.length ≤ c0_2) (h : qA.f k a0_0 a0_1 l0_2 = some r) :
 Calls Tryz.prog 68 #[.agg #[.int .i64 a0_0, .int .i64 a0_1, .slice A0_2 l0_2.length c0_2]] w fun e w' => e = .returned (.string r) ∧ Below w.heap.size w w' := by
 have hu34 := Tryz.underlying34
 have hu25 := Tryz.underlying25
 have HR0_2 := am hr0_2
 have HC0_2 := am hc0_2
 clear hr0_2 hc0_2
 have HB := am (Below.refl w.heap.size w)
 unfold qA.f at h
 have H := h
 clear h
 obtain ⟨t423, A2, H⟩ := zob H
 try dsimp only at H
 by_cases c3 : 9 + t423.size ≤ 9223372036854775807
 rotate_left
 ·rw [if_neg c3] at H
  exact absurd H (by simp)
 rw [if_pos c3] at H
 have c3b0 := eq_true c3
 have c3b1 := decide_eq_true c3
 try have c3b2 : (9223372036854775807 < 9 + t423.size) = False := eq_false (Nat.not_lt.2 c3)
 obtain ⟨c4, H⟩ := zin H
 have c4b0 := eq_true c4
 have c4b1 := decide_eq_true c4
 try have c4b2 : (9223372036854775807 < ((⟨#[98, 117, 108, 108, 101, 116, 105, 110, 32]⟩ : ByteArray) ++ t423).size + 9) = False := eq_false (Nat.not_lt.2 c4)
 have c4b3 : (9223372036854775807 < 9 + t423.size + 9) = False := eq_false (Nat.not_lt.2 (by have h_ := c4; simp only [ByteArray.size_append] at h_; exact h_))
 obtain ⟨t424, A5, H⟩ := zob H
 try dsimp only at H
 obtain ⟨c6, H⟩ := zin H
 have c6b0 := eq_true c6
 have c6b1 := decide_eq_true c6
 try have c6b2 : (9223372036854775807 < (((⟨#[98, 117, 108, 108, 101, 116, 105, 110, 32]⟩ : ByteArray) ++ t423) ++ (⟨#[32, 97, 116, 32, 104, 111, 117, 114, 32]⟩ : ByteArray)).size + t424.size) = False := eq_false (Nat.not_lt.2 c6)
 have c6b3 : (9223372036854775807 < 9 + t423.size + 9 + t424.size) = False := eq_false (Nat.not_lt.2 (by have h_ := c6; simp only [ByteArray.size_append] at h_; exact h_))
 obtain ⟨c7, H⟩ := zin H
 have c7b0 := eq_true c7
 have c7b1 := decide_eq_true c7
 try have c7b2 : (9223372036854775807 < ((((⟨#[98, 117, 108, 108, 101, 116, 105, 110, 32]⟩ : ByteArray) ++ t423) ++ (⟨#[32, 97, 116, 32, 104, 111, 117, 114, 32]⟩ : ByteArray)) ++ t424).size + 1) = False := eq_false (Nat.not_lt.2 c7)
 have c7b3 : (9223372036854775807 < 9 + t423.size + 9 + t424.size + 1) = False := eq_false (Nat.not_lt.2 (by have h_ := c7; simp only [ByteArray.size_append] at h_; exact h_))
 have H' := am H
 clear H
 go_enter Tryz.func68, Tryz.ntmps68
 try go_wp2_with (first | ((with_reducible refine zgd 1 rfl ?_); refine zbe 1 #[.int .i64 a0_0, .int .i64 a0_1, .slice A0_2 l0_2.length c0_2] 34 ?_; intro gb422 hg w8 hbox hb; have BK422 := am (hbox); have GW422 := zns hg HB.o; have GE422 := zns hg HB.o; replace HB := zhs HB hb; clear hb hbox hg))
 replace BK422 := am (blk_drew BK422.o)
 replace HB := am (below_drew1 HB.o)
 refine start_ (n := 11) (S := fun w' => zB3 w' gb422 (.int .i64 a0_0) (.int .i64 a0_1) (.slice A0_2 l0_2.length c0_2)) (ds := []) (zm 11 0) (by kernel_rfl) rfl rfl (zb3 BK422) (fun hHd => ?_); refine with_tabW qA.tab1 qA.bits1 (fun Tq Wq => ?_)
 generalize w8.drew = w9 at BK422 HB hHd ⊢
 refine zpu 0 5 (zm 11 1) Tq.o ?_
 refine zpu 5 10 (zm 11 33) Tq.o ?_
 refine take_ (i := 1) (N := some 6) (v := ?_) (a' := ?_) (zm 11 35) rfl rfl (take_ofW Tq.o Wq.o (by kernel_rfl)) (fun _ _ _ h => h) (Or.inl ⟨by rfl, ?_⟩) hHd ?_ ?_
 rotate_left
 ·rintro w' ⟨s0, s1, s2⟩
  go_simp
  with_reducible rfl
 rotate_left
 ·exact zpx
 refine take_ (i := 6) (N := some 11) (v := ?_) (a' := ?_) (zm 11 99) rfl rfl (take_ofW Tq.o Wq.o (by kernel_rfl)) (fun _ _ _ h => h) (Or.inl ⟨by rfl, ?_⟩) hHd ?_ ?_
 rotate_left
 ·rintro w' ⟨s0, s1, s2⟩
  go_simp
  with_reducible rfl
 rotate_left
 ·exact zpx
 refine one_ (i := 2) (N := some 7) (zm 11 103) rfl rfl (one_of Tq.o (by kernel_rfl)) (by decide) (fun K hK => ?_)
 refine goes_ Tryz.func93 (by kernel_rfl) rfl #[.int .i64 a0_0] (by rfl) rfl rfl zlx ?_
 with_reducible refine (qB.calls k a0_0 t423 _ A2.o).mono ?_
 rintro e w10 ⟨rfl, hb⟩
 refine ⟨_, rfl, ?_⟩
 replace BK422 := zbl BK422.o hb
 replace HB := zhs HB hb
 (try clear hb)
 (try clear hb2)
 (try clear hk)
 (try clear hi)
 refine hK.out _ _ (zb3 BK422) (fun hHd => ?_)
 clear hK K
 refine norm_ (a' := ?_) ?_ ?_
 rotate_left
 ·show Act.put _ (some 7) _ = _
  simp only [Act.put, List.setIfInBounds_toArray, List.set_cons_zero, List.set_cons_succ, i64_w, i32_w]
  rfl
 refine zpu 3 8 (zm 11 111) Tq.o ?_
 refine zpu 4 9 (zm 11 127) Tq.o ?_
 refine one_ (i := 7) (N := some 12) (zm 11 255) rfl rfl (one_of Tq.o (by kernel_rfl)) (by decide) (fun K hK => ?_)
 refine goes_ Tryz.func93 (by kernel_rfl) rfl #[.int .i64 a0_1] (by rfl) rfl rfl zlx ?_
 with_reducible refine (qB.calls k a0_1 t424 _ A5.o).mono ?_
 rintro e w11 ⟨rfl, hb⟩
 refine ⟨_, rfl, ?_⟩
 replace BK422 := zbl BK422.o hb
 replace HB := zhs HB hb
 (try clear hb)
 (try clear hb2)
 (try clear hk)
 (try clear hi)
 refine hK.out _ _ (zb3 BK422) (fun hHd => ?_)
 clear hK K
 refine norm_ (a' := ?_) ?_ ?_
 rotate_left
 ·show Act.put _ (some 12) _ = _
  simp only [Act.put, List.setIfInBounds_toArray, List.set_cons_zero, List.set_cons_succ, i64_w, i32_w]
  rfl
 refine zpu 8 13 (zm 11 511) Tq.o ?_
 refine zpu 9 14 (zm 11 1023) Tq.o ?_
 refine zpu 10 3 (zm 11 2047) Tq.o ?_
 refine done_ (done_of Tq.o (by kernel_rfl)) ?_
 try go_wp2
 go_loopg [3, 4] k (fun kq v3 v4 w' => ∃ (x3_1 : ByteArray) (x4_1 : Int), v3 = .string x3_1 ∧ v4 = .int .i64 x4_1 ∧ Aq (qA.l0 kq x3_1 x4_1 a0_0 a0_1 l0_2 = some r) ∧ Aq (kq ≤ k) ∧ Aq (w'.heap[gb422]? = some (.cells #[.int .i64 a0_0, .int .i64 a0_1, (.slice A0_2 l0_2.length c0_2)] 34 (0, 0))) ∧ Aq (Below w.heap.size w w'))
 case atStart => exact ⟨(((((⟨#[98, 117, 108, 108, 101, 116, 105, 110, 32]⟩ : ByteArray) ++ t423) ++ (⟨#[32, 97, 116, 32, 104, 111, 117, 114, 32]⟩ : ByteArray)) ++ t424) ++ (⟨#[10]⟩ : ByteArray)), (0), zrx, zrx, H', ⟨Nat.le_refl _⟩, ⟨zbx BK422.o⟩, ⟨zBy HB.o GE422.o⟩⟩
 case round =>
  clear H'
  try clear c3
  try clear c3b0
  try clear c3b1
  try clear c3b2
  try clear c4
  try clear c4b0
  try clear c4b1
  try clear c4b2
  try clear c6
  try clear c6b0
  try clear c6b1
  try clear c6b2
  try clear c7
  try clear c7b0
  try clear c7b1
  try clear c7b2
  obtain ⟨x3_1, x4_1, rfl, rfl, HA, HK1, BK422, HB⟩ := hrel
  cases gk with
  | zero => exact absurd HA.o (by simp [qA.l0])
  | succ k1 =>
   have H := HA.o
   clear HA
   simp only [qA.l0] at H
   by_cases c12 : x4_1 < (l0_2.length : Int)
   rotate_left
   ·rw [if_neg c12] at H
    have c12b0 := decide_eq_false c12
    clear c12
    obtain ⟨t427, A19, H⟩ := zob H
    try dsimp only at H
    focus
     obtain rfl := Option.some.inj H
     have hcz20 := zc3 BK422.o
     go_wp2_with (first | ((with_reducible refine zgc 74 rfl ?_); refine zgl 32 Tryz.func74 #[.string x3_1] ?_; (with_reducible refine (qV.calls k1 x3_1 t427 _ A19.o).mono ?_); rintro e w21 ⟨rfl, hb⟩; refine ⟨_, rfl, ?_⟩; replace BK422 := zbl BK422.o hb; replace HB := zhs HB hb; clear hb))
     go_ret
     exact ⟨zew, zBy HB.o GE422.o⟩
   rw [if_pos c12] at H
   have c12b0 := decide_eq_true c12
   clear c12
   obtain ⟨c13, H⟩ := zin H
   have c13b0 := decide_eq_true c13
   clear c13
   obtain ⟨t426, A14, H⟩ := zob H
   try dsimp only at H
   obtain ⟨c15, H⟩ := zin H
   have c15b0 := eq_true c15
   have c15b1 := decide_eq_true c15
   try have c15b2 : (9223372036854775807 < x3_1.size + t426.size) = False := eq_false (Nat.not_lt.2 c15)
   obtain ⟨c16, H⟩ := zin H
   have c16b0 := eq_true c16
   have c16b1 := decide_eq_true c16
   try have c16b2 : (9223372036854775807 < (x3_1 ++ t426).size + 1) = False := eq_false (Nat.not_lt.2 c16)
   have c16b3 : (9223372036854775807 < x3_1.size + t426.size + 1) = False := eq_false (Nat.not_lt.2 (by have h_ := c16; simp only [ByteArray.size_append] at h_; exact h_))
   focus
    have H' := am H
    clear H
    have hcz17 := zc3 BK422.o
    have p425 : 0 ≤ (x4_1 : Int) := zod
    have q425 : x4_1 < (l0_2.length : Int) := zod
    obtain ⟨ad425, e425, hx425_0, hx425_1, hx425_2, hx425_3, hx425_4, hx425_5⟩ := at_T25 HR0_2.o x4_1 p425 q425
    cases e425
    obtain ⟨hx425_0, hx425_1, hx425_2, hx425_3, hx425_4, hx425_5⟩ := zh6 HB hx425_0 hx425_1 hx425_2 hx425_3 hx425_4 hx425_5
    replace p425 := eq_true p425
    replace q425 := eq_true q425
    go_wp2_with (first | ((with_reducible refine zgc 48 rfl ?_); refine zgl 28 Tryz.func48 #[.agg #[.int .i64 ((qa l0_2 x4_1).f0), .int .i64 ((qa l0_2 x4_1).f1), .int .i64 ((qa l0_2 x4_1).f2), .int .i64 ((qa l0_2 x4_1).f3), .int .i64 ((qa l0_2 x4_1).f4), .int .i64 ((qa l0_2 x4_1).f5)]] ?_; (with_reducible refine (qQ.calls k1 ((qa l0_2 x4_1).f0) ((qa l0_2 x4_1).f1) ((qa l0_2 x4_1).f2) ((qa l0_2 x4_1).f3) ((qa l0_2 x4_1).f4) ((qa l0_2 x4_1).f5) t426 _ A14.o).mono ?_); rintro e w18 ⟨rfl, hb⟩; refine ⟨_, rfl, ?_⟩; replace BK422 := zbl BK422.o hb; replace HB := zhs HB hb; clear hb))
    go_roundg k1
    case measure => have := HK1.o; omega
    case rel => exact ⟨((x3_1 ++ t426) ++ (⟨#[10]⟩ : ByteArray)), (wrap64 (x4_1 + 1)), zrx, zrx, H', ⟨by have := HK1.o; omega⟩, ⟨zbx BK422.o⟩, ⟨zBy HB.o GE422.o⟩⟩
def spec_FormatBulletin.f (k : Nat) (a0_0 : Int) (a0_1 : Int) (l0_2 : List (S25)) : Option (ByteArray × Bool) := (qN.f k a0_0 a0_1 l0_2).bind fun t429 => (if t429 = true then ((qA.f k a0_0 a0_1 l0_2).bind fun t430 => (some (t430, true))) else (some ((⟨#[]⟩ : ByteArray), false)))
theorem spec_FormatBulletin.calls (k : Nat) (a0_0 : Int) (a0_1 : Int) (A0_2 : Option Addr) (c0_2 : Nat) (l0_2 : List (S25)) (r1 : ByteArray) (r2 : Bool) (w : World) (hr0_2 : Kd.C k25 w A0_2 l0_2.length l0_2) (hc0_2 : l0_2.length ≤ c0_2) (h : spec_FormatBulletin.f k a0_0 a0_1 l0_2 = some (r1, r2)) :
 Calls Tryz.prog 23 #[.agg #[.int .i64 a0_0, .int .i64 a0_1, .slice A0_2 l0_2.length c0_2]] w fun e w' => e = .returned (.tuple #[.string r1, .bool r2]) ∧ Below w.heap.size w w' := by
 have hu34 := Tryz.underlying34
 have HR0_2 := am hr0_2
 have HC0_2 := am hc0_2
 clear hr0_2 hc0_2
 have HB := am (Below.refl w.heap.size w)
 unfold spec_FormatBulletin.f at h
 have H := h
 clear h
 obtain ⟨t429, A2, H⟩ := zob H
 try dsimp only at H
 by_cases c3 : t429 = true
 ·subst c3
  rw [if_pos rfl] at H
  obtain ⟨t430, A4, H⟩ := zob H
  try dsimp only at H
  focus
   simp only [Option.some.injEq, Prod.mk.injEq] at H
   obtain ⟨rfl, rfl⟩ := H
   go_enter Tryz.func23, Tryz.ntmps23
   go_wp2_with (first | ((with_reducible refine zgd 1 rfl ?_); refine zbe 1 #[.int .i64 a0_0, .int .i64 a0_1, .slice A0_2 l0_2.length c0_2] 34 ?_; intro gb428 hg w5 hbox hb; have BK428 := am (hbox); have GW428 := zns hg HB.o; have GE428 := zns hg HB.o; replace HB := zhs HB hb; clear hb hbox hg; have hcz6 := zc3 BK428.o) | ((with_reducible refine zgc 67 rfl ?_); refine zgl 5 Tryz.func67 #[.agg #[.int .i64 a0_0, .int .i64 a0_1, .slice A0_2 l0_2.length c0_2]] ?_; (with_reducible refine (qN.calls k a0_0 a0_1 _ _ l0_2 true _ ?side1 ?side2 A2.o).mono ?_); (case side1 => exact zCx (Kd.C_below HR0_2.o HB.o)); (case side2 => exact HC0_2.o); rintro e w7 ⟨rfl, hb⟩; refine ⟨_, rfl, ?_⟩; replace BK428 := zbl BK428.o hb; replace HB := zhs HB hb; clear hb; have hcz8 := zc3 BK428.o) | ((with_reducible refine zgc 68 rfl ?_); refine zgl 8 Tryz.func68 #[.agg #[.int .i64 a0_0, .int .i64 a0_1, .slice A0_2 l0_2.length c0_2]] ?_; (with_reducible refine (qA.calls k a0_0 a0_1 _ _ l0_2 t430 _ ?side1 ?side2 A4.o).mono ?_); (case side1 => exact zCx (Kd.C_below HR0_2.o HB.o)); (case side2 => exact HC0_2.o); rintro e w9 ⟨rfl, hb⟩; refine ⟨_, rfl, ?_⟩; replace BK428 := zbl BK428.o hb; replace HB := zhs HB hb; clear hb))
   go_ret2
   exact ⟨zew, zBy HB.o GE428.o⟩
 ·replace c3 := Bool.eq_false_iff.mpr c3
  subst c3
  rw [if_neg (show ¬ (false = true) by decide)] at H
  focus
   simp only [Option.some.injEq, Prod.mk.injEq] at H
   obtain ⟨rfl, rfl⟩ := H
   go_enter Tryz.func23, Tryz.ntmps23
   go_wp2_with (first | ((with_reducible refine zgd 1 rfl ?_); refine zbe 1 #[.int .i64 a0_0, .int .i64 a0_1, .slice A0_2 l0_2.length c0_2] 34 ?_; intro gb428 hg w10 hbox hb; have BK428 := am (hbox); have GW428 := zns hg HB.o; have GE428 := zns hg HB.o; replace HB := zhs HB hb; clear hb hbox hg; have hcz11 := zc3 BK428.o) | ((with_reducible refine zgc 67 rfl ?_); refine zgl 5 Tryz.func67 #[.agg #[.int .i64 a0_0, .int .i64 a0_1, .slice A0_2 l0_2.length c0_2]] ?_; (with_reducible refine (qN.calls k a0_0 a0_1 _ _ l0_2 false _ ?side1 ?side2 A2.o).mono ?_); (case side1 => exact zCx (Kd.C_below HR0_2.o HB.o)); (case side2 => exact HC0_2.o); rintro e w12 ⟨rfl, hb⟩; refine ⟨_, rfl, ?_⟩; replace BK428 := zbl BK428.o hb; replace HB := zhs HB hb; clear hb))
   go_ret2
   exact ⟨zew, zBy HB.o GE428.o⟩
def qH.l0 : Nat → List (S25) → List (S25) → Int → Option (Bool)
 | 0, _, _, _ => none
 | k + 1, x0, x1, x5 => if x5 < (x0.length : Int) then (if 0 ≤ x5 then (if x5 < (x1.length : Int) then (if (!(((qa x0 x5).f0) == ((qa x1 x5).f0)) || (!(((qa x0 x5).f1) == ((qa x1 x5).f1)) || (!(((qa x0 x5).f2) == ((qa x1 x5).f2)) || (!(((qa x0 x5).f3) == ((qa x1 x5).f3)) || (!(((qa x0 x5).f4) == ((qa x1 x5).f4)) || (!(((qa x0 x5).f5) == ((qa x1 x5).f5)))))))) = true then (some false) else (qH.l0 k x0 x1 (wrap64 (x5 + 1)))) else (none)) else (none)) else (some true)
def qH.f (k : Nat) (l0 : List (S25)) (l1 : List (S25)) : Option (Bool) := if (l0.length : Int) = (l1.length : Int) then (qH.l0 k l0 l1 0) else (some false)
theorem qH.calls (k : Nat) (A0 : Option Addr) (c0 : Nat) (l0 : List (S25)) (A1 : Option Addr) (c1 : Nat) (l1 : List (S25)) (r : Bool) (w : World) (hr0 : Kd.C k25 w A0 l0.length l0) (hc0 : l0.length ≤ c0) (hr1 : Kd.C k25 w A1 l1.length l1) (hc1 : l1.length ≤ c1) (h : qH.f k l0 l1 = some r) :
 Calls Tryz.prog 34 #[.slice A0 l0.length c0, .slice A1 l1.length c1] w fun e w' => e = .returned (.bool r) ∧ Dq w w' := by
 have hu25 := Tryz.underlying25
 have HR0 := am hr0
 have HC0 := am hc0
 clear hr0 hc0
 have HR1 := am hr1
 have HC1 := am hc1
 clear hr1 hc1
 unfold qH.f at h
 have H := h
 clear h
 by_cases c3 : (l0.length : Int) = (l1.length : Int)
 rotate_left
 ·rw [if_neg c3] at H
  have c3b0 := beq_eq_false_iff_ne.mpr c3
  have c3b1 := bne_iff_ne.mpr c3
  have c3b2 : (l0.length == l1.length) = false := by first | simpa using c3 | (simp at c3 ⊢; omega)
  focus
   obtain rfl := Option.some.inj H
   go_enter Tryz.func34, Tryz.ntmps34
   go_wp2
   repeat (go_quiet (fail); try go_wp2)
   go_ret
   exact ⟨by first | rfl | (simp; done) | (simp [*]; done), by repeat (first | exact Dq.refl _ | apply Dq.step)⟩
 rw [if_pos c3] at H
 have c3b0 := beq_iff_eq.mpr c3
 have c3b1 := bne_eq_false_iff_eq.mpr c3
 have c3b2 : (l0.length == l1.length) = true := by first | simpa using c3 | (simp at c3 ⊢; omega)
 clear c3
 have H' := am H
 clear H
 go_enter Tryz.func34, Tryz.ntmps34
 go_wp2
 repeat (go_quiet (fail); try go_wp2)
 go_loopg [5] k (fun kq v5 w' => ∃ (x5_1 : Int), v5 = .int .i64 x5_1 ∧ Aq (qH.l0 kq l0 l1 x5_1 = some r) ∧ Aq (kq ≤ k) ∧ Dq w w')
 case atStart => exact ⟨(0), zrx, H', ⟨Nat.le_refl _⟩, by repeat (first | exact Dq.refl _ | apply Dq.step)⟩
 case round =>
  clear H'
  try clear c3
  try clear c3b0
  try clear c3b1
  try clear c3b2
  obtain ⟨x5_1, rfl, HA, HK1, ⟨m1, rfl⟩⟩ := hrel
  cases gk with
  | zero => exact absurd HA.o (by simp [qH.l0])
  | succ k1 =>
   have H := HA.o
   clear HA
   simp only [qH.l0] at H
   by_cases c4 : x5_1 < (l0.length : Int)
   rotate_left
   ·rw [if_neg c4] at H
    have c4b0 := decide_eq_false c4
    clear c4
    focus
     obtain rfl := Option.some.inj H
     go_wp2
     repeat (go_quiet (fail); try go_wp2)
     go_ret
     exact ⟨by first | rfl | (simp; done) | (simp [*]; done), by repeat (first | exact Dq.refl _ | apply Dq.step)⟩
   rw [if_pos c4] at H
   have c4b0 := decide_eq_true c4
   clear c4
   obtain ⟨c5, H⟩ := zin H
   have c5b0 := decide_eq_true c5
   clear c5
   obtain ⟨c6, H⟩ := zin H
   have c6b0 := decide_eq_true c6
   clear c6
   by_cases c7 : (!(((qa l0 x5_1).f0) == ((qa l1 x5_1).f0)) || (!(((qa l0 x5_1).f1) == ((qa l1 x5_1).f1)) || (!(((qa l0 x5_1).f2) == ((qa l1 x5_1).f2)) || (!(((qa l0 x5_1).f3) == ((qa l1 x5_1).f3)) || (!(((qa l0 x5_1).f4) == ((qa l1 x5_1).f4)) || (!(((qa l0 x5_1).f5) == ((qa l1 x5_1).f5)))))))) = true
   ·rw [if_pos c7] at H
    have c7b0 : (!(((qa l0 x5_1).f0) == ((qa l1 x5_1).f0)) || (!(((qa l0 x5_1).f1) == ((qa l1 x5_1).f1)) || (!(((qa l0 x5_1).f2) == ((qa l1 x5_1).f2)) || (!(((qa l0 x5_1).f3) == ((qa l1 x5_1).f3)) || (!(((qa l0 x5_1).f4) == ((qa l1 x5_1).f4)) || (!(((qa l0 x5_1).f5) == ((qa l1 x5_1).f5)))))))) = true := c7
    clear c7
    focus
     obtain rfl := Option.some.inj H
     have p431 : 0 ≤ (x5_1 : Int) := zod
     have q431 : x5_1 < (l0.length : Int) := zod
     obtain ⟨ad431, e431, hx431_0, hx431_1, hx431_2, hx431_3, hx431_4, hx431_5⟩ := at_T25 HR0.o x5_1 p431 q431
     cases e431
     replace p431 := eq_true p431
     replace q431 := eq_true q431
     have p432 : 0 ≤ (x5_1 : Int) := zod
     have q432 : x5_1 < (l1.length : Int) := zod
     obtain ⟨ad432, e432, hx432_0, hx432_1, hx432_2, hx432_3, hx432_4, hx432_5⟩ := at_T25 HR1.o x5_1 p432 q432
     cases e432
     replace p432 := eq_true p432
     replace q432 := eq_true q432
     go_wp2
     repeat (go_quiet (fail); try go_wp2)
     go_ret
     exact ⟨by first | rfl | (simp; done) | (simp [*]; done), by repeat (first | exact Dq.refl _ | apply Dq.step)⟩
   rw [if_neg c7] at H
   have c7b0 : (!(((qa l0 x5_1).f0) == ((qa l1 x5_1).f0)) || (!(((qa l0 x5_1).f1) == ((qa l1 x5_1).f1)) || (!(((qa l0 x5_1).f2) == ((qa l1 x5_1).f2)) || (!(((qa l0 x5_1).f3) == ((qa l1 x5_1).f3)) || (!(((qa l0 x5_1).f4) == ((qa l1 x5_1).f4)) || (!(((qa l0 x5_1).f5) == ((qa l1 x5_1).f5)))))))) = false := by simpa using c7
   clear c7
   focus
    have H' := am H
    clear H
    have p431 : 0 ≤ (x5_1 : Int) := zod
    have q431 : x5_1 < (l0.length : Int) := zod
    obtain ⟨ad431, e431, hx431_0, hx431_1, hx431_2, hx431_3, hx431_4, hx431_5⟩ := at_T25 HR0.o x5_1 p431 q431
    cases e431
    replace p431 := eq_true p431
    replace q431 := eq_true q431
    have p432 : 0 ≤ (x5_1 : Int) := zod
    have q432 : x5_1 < (l1.length : Int) := zod
    obtain ⟨ad432, e432, hx432_0, hx432_1, hx432_2, hx432_3, hx432_4, hx432_5⟩ := at_T25 HR1.o x5_1 p432 q432
    cases e432
    replace p432 := eq_true p432
    replace q432 := eq_true q432
    go_wp2
    repeat (go_quiet (fail); try go_wp2)
    go_roundg k1
    case measure => have := HK1.o; omega
    case rel => exact ⟨(wrap64 (x5_1 + 1)), zrx, H', ⟨by have := HK1.o; omega⟩, by repeat (first | exact Dq.refl _ | apply Dq.step)⟩
def laws_vBulletin.f (k : Nat) (a0_0 : Int) (a0_1 : Int) (l0_2 : List (S25)) (a1_0 : Int) (a1_1 : Int) (l1_2 : List (S25)) : Option (Bool) := if a0_0 = a1_0 then (if a0_1 = a1_1 then ((qH.f k l0_2 l1_2).bind fun t435 => (some t435)) else (some false)) else (some false)
theorem zendBulletinsx12_0 {P_ : Prop} (h_ : P_ := by
  obtain rfl := Option.some.inj H
  go_enter Tryz.func25, Tryz.ntmps25
  go_wp2_with (first | ((with_reducible refine zgd 2 rfl ?_); refine zbe 2 #[.int .i64 a0_0, .int .i64 a0_1, .slice A0_2 l0_2.length c0_2] 34 ?_; intro gb433 hg w6 hbox hb; have BK433 := am (hbox); have GW433 := zns hg HB.o; have GE433 := zns hg HB.o; replace HB := zhs HB hb; clear hb hbox hg) | ((with_reducible refine zgd 3 rfl ?_); refine zbe 3 #[.int .i64 a1_0, .int .i64 a1_1, .slice A1_2 l1_2.length c1_2] 34 ?_; intro gb434 hg w7 hbox hb; have BK434 := am (hbox); have GW434 := zns hg HB.o; have GE434 := zns hg HB.o; replace HB := zhs HB hb; have NB433_434 := znl hg BK433.o; have NB434_433 := zng hg BK433.o; replace BK433 := zbl BK433.o hb; clear hb hbox hg; have hnb8 := NB433_434.o; have hnc8 := NB434_433.o; have hcz9 := zc3 BK433.o; have hcz10 := zc3 BK434.o) | (go_at_call 34; (with_reducible refine (qH.calls k _ _ l0_2 _ _ l1_2 t435 _ ?side1 ?side2 ?side3 ?side4 A5.o).mono ?_); (case side1 => exact zCx (Kd.C_below HR0_2.o HB.o)); (case side2 => exact HC0_2.o); (case side3 => exact zCx (Kd.C_below HR1_2.o HB.o)); (case side4 => exact HC1_2.o); rintro e w' ⟨rfl, ⟨nd, rfl⟩⟩))
  go_ret
  exact ⟨zew, zBz HB.o GE433.o GE434.o⟩) : P_ := h_
theorem laws_vBulletin.calls (k : Nat) (a0_0 : Int) (a0_1 : Int) (A0_2 : Option Addr) (c0_2 : Nat) (l0_2 : List (S25)) (a1_0 : Int) (a1_1 : Int) (A1_2 : Option Addr) (c1_2 : Nat) (l1_2 : List (S25)) (r : Bool) (w : World) (hr0_2 : Kd.C k25 w A0_2 l0_2.length l0_2) (hc0_2 : l0_2.length ≤ c0_2) (hr1_2 : Kd.C k25 w A1_2 l1_2.length l1_2) (hc1_2 : l1_2.length ≤ c1_2) (h : laws_vBulletin.f k a0_0 a0_1 l0_2 a1_0 a1_1 l1_2 = some r) :
 Calls Tryz.prog 25 #[.agg #[.int .i64 a0_0, .int .i64 a0_1, .slice A0_2 l0_2.length c0_2], .agg #[.int .i64 a1_0, .int .i64 a1_1, .slice A1_2 l1_2.length c1_2]] w fun e w' => e = .returned (.bool r) ∧ Below w.heap.size w w' := by
 have hu34 := Tryz.underlying34
 have HR0_2 := am hr0_2
 have HC0_2 := am hc0_2
 clear hr0_2 hc0_2
 have HR1_2 := am hr1_2
 have HC1_2 := am hc1_2
 clear hr1_2 hc1_2
 have HB := am (Below.refl w.heap.size w)
 unfold laws_vBulletin.f at h
 have H := h
 clear h
 by_cases c3 : a0_0 = a1_0
 rotate_left
 ·rw [if_neg c3] at H
  have c3b0 := beq_eq_false_iff_ne.mpr c3
  have c3b1 := bne_iff_ne.mpr c3
  focus
   exact zendBulletinsx12_0
 rw [if_pos c3] at H
 have c3b0 := beq_iff_eq.mpr c3
 have c3b1 := bne_eq_false_iff_eq.mpr c3
 clear c3
 by_cases c4 : a0_1 = a1_1
 ·rw [if_pos c4] at H
  have c4b0 := beq_iff_eq.mpr c4
  have c4b1 := bne_eq_false_iff_eq.mpr c4
  clear c4
  obtain ⟨t435, A5, H⟩ := zob H
  try dsimp only at H
  focus
   exact zendBulletinsx12_0
 ·rw [if_neg c4] at H
  have c4b0 := beq_eq_false_iff_ne.mpr c4
  have c4b1 := bne_iff_ne.mpr c4
  focus
   exact zendBulletinsx12_0
def qC.f (s0_0 : List Int) (s0_1 : Int) (s0_2 : Int) (a1 : Int) : Option (Bool × Int × Int) := (qb.f s0_0 s0_1 s0_2 a1).bind fun bt436 => (some ((bt436.1 == 0), bt436.2.1, bt436.2.2))
theorem qC.calls (g : Nat) (s0_0 : List Int) (s0_1 : Int) (s0_2 : Int) (a1 : Int) (r1 : Bool) (r2 : Int) (r3 : Int) (w0 w : World) (hI : I7 w0 w g s0_0 s0_1 s0_2) (hB : Below w0.heap.size w0 w) (h : qC.f s0_0 s0_1 s0_2 a1 = some (r1, r2, r3)) :
 Calls Tryz.prog 50 #[.pointer (some ⟨g, 0, none⟩), .int .i64 a1] w fun e w' => e = .returned (.bool r1) ∧ I7 w0 w' g s0_0 r2 r3 ∧ Below w0.heap.size w0 w' ∧ Kq w w' g none := by
 have HI0 := am hI
 have HK := am (Kq.refl w g none)
 have HL := am hB.size
 clear hI
 have HW0 := am hB.size
 have HB := am hB
 clear hB
 unfold qC.f at h
 have H := h
 clear h
 obtain ⟨⟨t436, t437, t438⟩, A3, H⟩ := zob H
 try dsimp only at H
 focus
  simp only [Option.some.injEq, Prod.mk.injEq] at H
  obtain ⟨rfl, rfl, rfl⟩ := H
  go_enter Tryz.func50, Tryz.ntmps50
  go_wp2_with (first | ((with_reducible refine zgc 75 rfl ?_); refine zgl 7 Tryz.func75 #[.pointer (some ⟨g, 0, none⟩), .int .i64 a1] ?_; (with_reducible refine (qb.calls g s0_0 s0_1 s0_2 a1 t436 t437 t438 w0 _ ?side1 ?side2 A3.o).mono ?_); (case side1 => exact I7.zI HI0.o); (case side2 => first | exact zBy HB.o (I7.ge HI0.o) | exact zBx HB.o); rintro e w4 ⟨rfl, hi, hb, hk⟩; refine ⟨_, rfl, ?_⟩; replace HK := zkt HK hk; replace HB := am (hb); replace HI0 := am (hi); clear hb hk hi))
  go_ret
  exact ⟨zew, by exact I7.zI HI0.o, by first | exact zBy HB.o (I7.ge HI0.o) | exact zBx HB.o, by exact zKx HK.o⟩
def spec_l1Cur_spoilt.f (s0_0 : List Int) (s0_1 : Int) (s0_2 : Int) (a1 : ByteArray) (a2 : ByteArray) : Option (ByteArray × Int × Int) := if a1.toList = ([] : List UInt8) then (if 0 ≤ 1 then (if 1 ≤ (a2.size : Int) then (some (a2.extract 0 1, s0_1, s0_2)) else (none)) else (none)) else ((qb.f s0_0 s0_1 s0_2 (a1.size : Int)).bind fun bt439 => ((qb.f s0_0 bt439.2.1 bt439.2.2 (a2.size : Int)).bind fun bt442 => (if 0 ≤ bt442.1 then (if bt442.1 ≤ (a2.size : Int) then (if 0 ≤ 1 then (if 1 ≤ ((a2.extract (bt442.1 : Int).toNat a2.size).size : Int) then ((qb.f s0_0 bt442.2.1 bt442.2.2 3).bind fun bt445 => (if bt445.1 = 0 then (if 0 ≤ bt439.1 then (if bt439.1 ≤ (a1.size : Int) then (if (a1.extract 0 (bt439.1 : Int).toNat).size + ((a2.extract (bt442.1 : Int).toNat a2.size).extract 0 1).size ≤ 9223372036854775807 then (if ((a1.extract 0 (bt439.1 : Int).toNat) ++ ((a2.extract (bt442.1 : Int).toNat a2.size).extract 0 1)).size + (a1.extract (bt439.1 : Int).toNat a1.size).size ≤ 9223372036854775807 then (some (((a1.extract 0 (bt439.1 : Int).toNat) ++ ((a2.extract (bt442.1 : Int).toNat a2.size).extract 0 1)) ++ (a1.extract (bt439.1 : Int).toNat a1.size), bt445.2.1, bt445.2.2)) else (none)) else (none)) else (none)) else (none)) else (if bt445.1 = 1 then (if 0 ≤ bt439.1 then (if bt439.1 ≤ (a1.size : Int) then (if (a1.extract 0 (bt439.1 : Int).toNat).size + ((a2.extract (bt442.1 : Int).toNat a2.size).extract 0 1).size ≤ 9223372036854775807 then (if 0 ≤ (wrap64 (bt439.1 + 1)) then (if (wrap64 (bt439.1 + 1)) ≤ (a1.size : Int) then (if ((a1.extract 0 (bt439.1 : Int).toNat) ++ ((a2.extract (bt442.1 : Int).toNat a2.size).extract 0 1)).size + (a1.extract ((wrap64 (bt439.1 + 1)) : Int).toNat a1.size).size ≤ 9223372036854775807 then (some (((a1.extract 0 (bt439.1 : Int).toNat) ++ ((a2.extract (bt442.1 : Int).toNat a2.size).extract 0 1)) ++ (a1.extract ((wrap64 (bt439.1 + 1)) : Int).toNat a1.size), bt445.2.1, bt445.2.2)) else (none)) else (none)) else (none)) else (none)) else (none)) else (none)) else (if 0 ≤ bt439.1 then (if bt439.1 ≤ (a1.size : Int) then (if 0 ≤ (wrap64 (bt439.1 + 1)) then (if (wrap64 (bt439.1 + 1)) ≤ (a1.size : Int) then (if (a1.extract 0 (bt439.1 : Int).toNat).size + (a1.extract ((wrap64 (bt439.1 + 1)) : Int).toNat a1.size).size ≤ 9223372036854775807 then (some ((a1.extract 0 (bt439.1 : Int).toNat) ++ (a1.extract ((wrap64 (bt439.1 + 1)) : Int).toNat a1.size), bt445.2.1, bt445.2.2)) else (none)) else (none)) else (none)) else (none)) else (none))))) else (none)) else (none)) else (none)) else (none))))
theorem spec_l1Cur_spoilt.calls (g : Nat) (s0_0 : List Int) (s0_1 : Int) (s0_2 : Int) (a1 : ByteArray) (a2 : ByteArray) (r1 : ByteArray) (r2 : Int) (r3 : Int) (w0 w : World) (hI : I7 w0 w g s0_0 s0_1 s0_2) (hB : Below w0.heap.size w0 w) (h : spec_l1Cur_spoilt.f s0_0 s0_1 s0_2 a1 a2 = some (r1, r2, r3)) :
 Calls Tryz.prog 51 #[.pointer (some ⟨g, 0, none⟩), .string a1, .string a2] w fun e w' => e = .returned (.string r1) ∧ I7 w0 w' g s0_0 r2 r3 ∧ Below w0.heap.size w0 w' ∧ Kq w w' g none := by
 have HI0 := am hI
 have HK := am (Kq.refl w g none)
 have HL := am hB.size
 clear hI
 have HW0 := am hB.size
 have HB := am hB
 clear hB
 unfold spec_l1Cur_spoilt.f at h
 have H := h
 clear h
 by_cases c4 : a1.toList = ([] : List UInt8)
 ·rw [if_pos c4] at H
  have c4b0 := beq_iff_eq.mpr c4
  have c4b1 := bne_eq_false_iff_eq.mpr c4
  clear c4
  obtain ⟨c5, H⟩ := zin H
  have c5b0 := eq_true c5
  have c5b1 := decide_eq_true c5
  clear c5
  by_cases c6 : 1 ≤ (a2.size : Int)
  ·rw [if_pos c6] at H
   have c6b0 := eq_true c6
   have c6b1 := decide_eq_true c6
   clear c6
   focus
    simp only [Option.some.injEq, Prod.mk.injEq] at H
    obtain ⟨rfl, rfl, rfl⟩ := H
    go_enter Tryz.func51, Tryz.ntmps51
    go_wp2
    repeat (go_quiet (fail); try go_wp2)
    go_ret
    exact ⟨zew, by exact I7.zI HI0.o, by first | exact zBy HB.o (I7.ge HI0.o) | exact zBx HB.o, by exact zKx HK.o⟩
  ·rw [if_neg c6] at H
   exact absurd H (by simp)
 rw [if_neg c4] at H
 have c4b0 := beq_eq_false_iff_ne.mpr c4
 have c4b1 := bne_iff_ne.mpr c4
 obtain ⟨⟨t439, t440, t441⟩, A7, H⟩ := zob H
 try dsimp only at H
 obtain ⟨⟨t442, t443, t444⟩, A8, H⟩ := zob H
 try dsimp only at H
 by_cases c9 : 0 ≤ t442
 rotate_left
 ·rw [if_neg c9] at H
  exact absurd H (by simp)
 rw [if_pos c9] at H
 have c9b0 := eq_true c9
 have c9b1 := decide_eq_true c9
 clear c9
 obtain ⟨c10, H⟩ := zin H
 have c10b0 := eq_true c10
 have c10b1 := decide_eq_true c10
 clear c10
 obtain ⟨c11, H⟩ := zin H
 have c11b0 := eq_true c11
 have c11b1 := decide_eq_true c11
 clear c11
 obtain ⟨c12, H⟩ := zin H
 have c12b0 := eq_true c12
 have c12b3 : (1 ≤ ((a2.size - (t442 : Int).toNat : Nat) : Int)) = True := eq_true (by have h_ := c12; simp only [ByteArray.size_extract] at h_; omega)
 have c12b1 := decide_eq_true c12
 clear c12
 obtain ⟨⟨t445, t446, t447⟩, A13, H⟩ := zob H
 try dsimp only at H
 by_cases c14 : t445 = 0
 ·rw [if_pos c14] at H
  have c14b0 := beq_iff_eq.mpr c14
  have c14b1 := bne_eq_false_iff_eq.mpr c14
  clear c14
  obtain ⟨c15, H⟩ := zin H
  have c15b0 := eq_true c15
  have c15b1 := decide_eq_true c15
  clear c15
  obtain ⟨c16, H⟩ := zin H
  have c16b0 := eq_true c16
  have c16b1 := decide_eq_true c16
  clear c16
  obtain ⟨c17, H⟩ := zin H
  have c17b0 := eq_true c17
  have c17b1 := decide_eq_true c17
  try have c17b2 : (9223372036854775807 < (a1.extract 0 (t439 : Int).toNat).size + ((a2.extract (t442 : Int).toNat a2.size).extract 0 1).size) = False := eq_false (Nat.not_lt.2 c17)
  have c17b3 : (9223372036854775807 < t439.toNat + 1) = False := eq_false (Nat.not_lt.2 (by have h_ := c17; simp only [ByteArray.size_append, ByteArray.size_extract] at h_; (try simp only [ByteArray.size_append, ByteArray.size_extract, decide_eq_true_eq, eq_iff_iff, iff_true] at *); omega))
  have c18b0 := eq_true (of_decide_eq_true zax : 0 ≤ t439)
  have c19b0 := eq_true (of_decide_eq_true zax : t439 ≤ (a1.size : Int))
  by_cases c20 : ((a1.extract 0 (t439 : Int).toNat) ++ ((a2.extract (t442 : Int).toNat a2.size).extract 0 1)).size + (a1.extract (t439 : Int).toNat a1.size).size ≤ 9223372036854775807
  ·rw [if_pos c20] at H
   have c20b0 := eq_true c20
   have c20b1 := decide_eq_true c20
   try have c20b2 : (9223372036854775807 < ((a1.extract 0 (t439 : Int).toNat) ++ ((a2.extract (t442 : Int).toNat a2.size).extract 0 1)).size + (a1.extract (t439 : Int).toNat a1.size).size) = False := eq_false (Nat.not_lt.2 c20)
   have c20b3 : (9223372036854775807 < t439.toNat + 1 + (a1.size - t439.toNat)) = False := eq_false (Nat.not_lt.2 (by have h_ := c20; simp only [ByteArray.size_append, ByteArray.size_extract] at h_; (try simp only [ByteArray.size_append, ByteArray.size_extract, decide_eq_true_eq, eq_iff_iff, iff_true] at *); omega))
   focus
    simp only [Option.some.injEq, Prod.mk.injEq] at H
    obtain ⟨rfl, rfl, rfl⟩ := H
    go_enter Tryz.func51, Tryz.ntmps51
    go_wp2_with (first | (go_at_call 75; (with_reducible refine (qb.calls g s0_0 s0_1 s0_2 (a1.size : Int) t439 t440 t441 w0 _ ?side1 ?side2 A7.o).mono ?_); (case side1 => exact I7.zI HI0.o); (case side2 => first | exact zBy HB.o (I7.ge HI0.o) | exact zBx HB.o); rintro e w21 ⟨rfl, hi, hb, hk⟩; replace HK := zkt HK hk; replace HB := am (hb); replace HI0 := am (hi); clear hb hk hi) | (go_at_call 75; (with_reducible refine (qb.calls g s0_0 t440 t441 (a2.size : Int) t442 t443 t444 w0 _ ?side1 ?side2 A8.o).mono ?_); (case side1 => exact I7.zI HI0.o); (case side2 => first | exact zBy HB.o (I7.ge HI0.o) | exact zBx HB.o); rintro e w22 ⟨rfl, hi, hb, hk⟩; replace HK := zkt HK hk; replace HB := am (hb); replace HI0 := am (hi); clear hb hk hi) | (go_at_call 75; (with_reducible refine (qb.calls g s0_0 t443 t444 3 t445 t446 t447 w0 _ ?side1 ?side2 A13.o).mono ?_); (case side1 => exact I7.zI HI0.o); (case side2 => first | exact zBy HB.o (I7.ge HI0.o) | exact zBx HB.o); rintro e w23 ⟨rfl, hi, hb, hk⟩; replace HK := zkt HK hk; replace HB := am (hb); replace HI0 := am (hi); clear hb hk hi))
    repeat (go_quiet (first | (go_at_call 75; (with_reducible refine (qb.calls g s0_0 s0_1 s0_2 (a1.size : Int) t439 t440 t441 w0 _ ?side1 ?side2 A7.o).mono ?_); (case side1 => exact I7.zI HI0.o); (case side2 => first | exact zBy HB.o (I7.ge HI0.o) | exact zBx HB.o); rintro e w21 ⟨rfl, hi, hb, hk⟩; replace HK := zkt HK hk; replace HB := am (hb); replace HI0 := am (hi); clear hb hk hi) | (go_at_call 75; (with_reducible refine (qb.calls g s0_0 t440 t441 (a2.size : Int) t442 t443 t444 w0 _ ?side1 ?side2 A8.o).mono ?_); (case side1 => exact I7.zI HI0.o); (case side2 => first | exact zBy HB.o (I7.ge HI0.o) | exact zBx HB.o); rintro e w22 ⟨rfl, hi, hb, hk⟩; replace HK := zkt HK hk; replace HB := am (hb); replace HI0 := am (hi); clear hb hk hi) | (go_at_call 75; (with_reducible refine (qb.calls g s0_0 t443 t444 3 t445 t446 t447 w0 _ ?side1 ?side2 A13.o).mono ?_); (case side1 => exact I7.zI HI0.o); (case side2 => first | exact zBy HB.o (I7.ge HI0.o) | exact zBx HB.o); rintro e w23 ⟨rfl, hi, hb, hk⟩; replace HK := zkt HK hk; replace HB := am (hb); replace HI0 := am (hi); clear hb hk hi)); try go_wp2_with (first | (go_at_call 75; (with_reducible refine (qb.calls g s0_0 s0_1 s0_2 (a1.size : Int) t439 t440 t441 w0 _ ?side1 ?side2 A7.o).mono ?_); (case side1 => exact I7.zI HI0.o); (case side2 => first | exact zBy HB.o (I7.ge HI0.o) | exact zBx HB.o); rintro e w21 ⟨rfl, hi, hb, hk⟩; replace HK := zkt HK hk; replace HB := am (hb); replace HI0 := am (hi); clear hb hb2 hk hi) | (go_at_call 75; (with_reducible refine (qb.calls g s0_0 t440 t441 (a2.size : Int) t442 t443 t444 w0 _ ?side1 ?side2 A8.o).mono ?_); (case side1 => exact I7.zI HI0.o); (case side2 => first | exact zBy HB.o (I7.ge HI0.o) | exact zBx HB.o); rintro e w22 ⟨rfl, hi, hb, hk⟩; replace HK := zkt HK hk; replace HB := am (hb); replace HI0 := am (hi); clear hb hb2 hk hi) | (go_at_call 75; (with_reducible refine (qb.calls g s0_0 t443 t444 3 t445 t446 t447 w0 _ ?side1 ?side2 A13.o).mono ?_); (case side1 => exact I7.zI HI0.o); (case side2 => first | exact zBy HB.o (I7.ge HI0.o) | exact zBx HB.o); rintro e w23 ⟨rfl, hi, hb, hk⟩; replace HK := zkt HK hk; replace HB := am (hb); replace HI0 := am (hi); clear hb hb2 hk hi)))
    go_ret
    exact ⟨zew, by exact I7.zI HI0.o, by first | exact zBy HB.o (I7.ge HI0.o) | exact zBx HB.o, by exact zKx HK.o⟩
  ·rw [if_neg c20] at H
   exact absurd H (by simp)
 rw [if_neg c14] at H
 have c14b0 := beq_eq_false_iff_ne.mpr c14
 have c14b1 := bne_iff_ne.mpr c14
 by_cases c24 : t445 = 1
 rotate_left
 ·rw [if_neg c24] at H
  have c24b0 := beq_eq_false_iff_ne.mpr c24
  have c24b1 := bne_iff_ne.mpr c24
  obtain ⟨c35, H⟩ := zin H
  have c35b0 := eq_true c35
  have c35b1 := decide_eq_true c35
  clear c35
  obtain ⟨c36, H⟩ := zin H
  have c36b0 := eq_true c36
  have c36b1 := decide_eq_true c36
  clear c36
  obtain ⟨ji37, hji37⟩ : ∃ j_ : Int, (wrap64 (t439 + 1)) = j_ := ⟨_, rfl⟩
  replace H : (if 0 ≤ (ji37) then (if (ji37) ≤ (a1.size : Int) then (if (a1.extract 0 (t439 : Int).toNat).size + (a1.extract ((ji37) : Int).toNat a1.size).size ≤ 9223372036854775807 then (some ((a1.extract 0 (t439 : Int).toNat) ++ (a1.extract ((ji37) : Int).toNat a1.size), t446, t447)) else (none)) else (none)) else (none)) = some (r1, r2, r3) := by first | (rw [hji37] at H; exact H) | (simp only [hji37] at H ⊢; exact H)
  (try rw [hji37] at A7)
  (try rw [hji37] at A8)
  (try rw [hji37] at A13)
  have hji37w : (IntKind.i64.wrap (t439 + 1)) = ji37 := (i64_w _).trans hji37
  obtain ⟨c38, H⟩ := zin H
  have c38b0 := eq_true c38
  have c38b1 := decide_eq_true c38
  clear c38
  obtain ⟨c39, H⟩ := zin H
  have c39b0 := eq_true c39
  have c39b1 := decide_eq_true c39
  clear c39
  by_cases c40 : (a1.extract 0 (t439 : Int).toNat).size + (a1.extract ((ji37) : Int).toNat a1.size).size ≤ 9223372036854775807
  ·rw [if_pos c40] at H
   have c40b0 := eq_true c40
   have c40b1 := decide_eq_true c40
   try have c40b2 : (9223372036854775807 < (a1.extract 0 (t439 : Int).toNat).size + (a1.extract ((ji37) : Int).toNat a1.size).size) = False := eq_false (Nat.not_lt.2 c40)
   have c40b3 : (9223372036854775807 < t439.toNat + (a1.size - ji37.toNat)) = False := eq_false (Nat.not_lt.2 (by have h_ := c40; simp only [ByteArray.size_append, ByteArray.size_extract] at h_; (try simp only [ByteArray.size_append, ByteArray.size_extract, decide_eq_true_eq, eq_iff_iff, iff_true] at *); omega))
   focus
    simp only [Option.some.injEq, Prod.mk.injEq] at H
    obtain ⟨rfl, rfl, rfl⟩ := H
    go_enter Tryz.func51, Tryz.ntmps51
    go_wp2_with (first | (go_at_call 75; (with_reducible refine (qb.calls g s0_0 s0_1 s0_2 (a1.size : Int) t439 t440 t441 w0 _ ?side1 ?side2 A7.o).mono ?_); (case side1 => exact I7.zI HI0.o); (case side2 => first | exact zBy HB.o (I7.ge HI0.o) | exact zBx HB.o); rintro e w41 ⟨rfl, hi, hb, hk⟩; replace HK := zkt HK hk; replace HB := am (hb); replace HI0 := am (hi); clear hb hk hi) | (go_at_call 75; (with_reducible refine (qb.calls g s0_0 t440 t441 (a2.size : Int) t442 t443 t444 w0 _ ?side1 ?side2 A8.o).mono ?_); (case side1 => exact I7.zI HI0.o); (case side2 => first | exact zBy HB.o (I7.ge HI0.o) | exact zBx HB.o); rintro e w42 ⟨rfl, hi, hb, hk⟩; replace HK := zkt HK hk; replace HB := am (hb); replace HI0 := am (hi); clear hb hk hi) | (go_at_call 75; (with_reducible refine (qb.calls g s0_0 t443 t444 3 t445 t446 t447 w0 _ ?side1 ?side2 A13.o).mono ?_); (case side1 => exact I7.zI HI0.o); (case side2 => first | exact zBy HB.o (I7.ge HI0.o) | exact zBx HB.o); rintro e w43 ⟨rfl, hi, hb, hk⟩; replace HK := zkt HK hk; replace HB := am (hb); replace HI0 := am (hi); clear hb hk hi))
    repeat (go_quiet (first | (go_at_call 75; (with_reducible refine (qb.calls g s0_0 s0_1 s0_2 (a1.size : Int) t439 t440 t441 w0 _ ?side1 ?side2 A7.o).mono ?_); (case side1 => exact I7.zI HI0.o); (case side2 => first | exact zBy HB.o (I7.ge HI0.o) | exact zBx HB.o); rintro e w41 ⟨rfl, hi, hb, hk⟩; replace HK := zkt HK hk; replace HB := am (hb); replace HI0 := am (hi); clear hb hk hi) | (go_at_call 75; (with_reducible refine (qb.calls g s0_0 t440 t441 (a2.size : Int) t442 t443 t444 w0 _ ?side1 ?side2 A8.o).mono ?_); (case side1 => exact I7.zI HI0.o); (case side2 => first | exact zBy HB.o (I7.ge HI0.o) | exact zBx HB.o); rintro e w42 ⟨rfl, hi, hb, hk⟩; replace HK := zkt HK hk; replace HB := am (hb); replace HI0 := am (hi); clear hb hk hi) | (go_at_call 75; (with_reducible refine (qb.calls g s0_0 t443 t444 3 t445 t446 t447 w0 _ ?side1 ?side2 A13.o).mono ?_); (case side1 => exact I7.zI HI0.o); (case side2 => first | exact zBy HB.o (I7.ge HI0.o) | exact zBx HB.o); rintro e w43 ⟨rfl, hi, hb, hk⟩; replace HK := zkt HK hk; replace HB := am (hb); replace HI0 := am (hi); clear hb hk hi)); try go_wp2_with (first | (go_at_call 75; (with_reducible refine (qb.calls g s0_0 s0_1 s0_2 (a1.size : Int) t439 t440 t441 w0 _ ?side1 ?side2 A7.o).mono ?_); (case side1 => exact I7.zI HI0.o); (case side2 => first | exact zBy HB.o (I7.ge HI0.o) | exact zBx HB.o); rintro e w41 ⟨rfl, hi, hb, hk⟩; replace HK := zkt HK hk; replace HB := am (hb); replace HI0 := am (hi); clear hb hb2 hk hi) | (go_at_call 75; (with_reducible refine (qb.calls g s0_0 t440 t441 (a2.size : Int) t442 t443 t444 w0 _ ?side1 ?side2 A8.o).mono ?_); (case side1 => exact I7.zI HI0.o); (case side2 => first | exact zBy HB.o (I7.ge HI0.o) | exact zBx HB.o); rintro e w42 ⟨rfl, hi, hb, hk⟩; replace HK := zkt HK hk; replace HB := am (hb); replace HI0 := am (hi); clear hb hb2 hk hi) | (go_at_call 75; (with_reducible refine (qb.calls g s0_0 t443 t444 3 t445 t446 t447 w0 _ ?side1 ?side2 A13.o).mono ?_); (case side1 => exact I7.zI HI0.o); (case side2 => first | exact zBy HB.o (I7.ge HI0.o) | exact zBx HB.o); rintro e w43 ⟨rfl, hi, hb, hk⟩; replace HK := zkt HK hk; replace HB := am (hb); replace HI0 := am (hi); clear hb hb2 hk hi)))
    go_ret
    exact ⟨by first | rfl | (simp [errW_none, errW_some] <;> rfl) | (simp only [← hji37]; first | rfl | (simp [errW_none, errW_some] <;> rfl)) | (simp [*, errW_none, errW_some] <;> rfl), by exact I7.zI HI0.o, by first | exact zBy HB.o (I7.ge HI0.o) | exact zBx HB.o, by exact zKx HK.o⟩
  ·rw [if_neg c40] at H
   exact absurd H (by simp)
 rw [if_pos c24] at H
 have c24b0 := beq_iff_eq.mpr c24
 have c24b1 := bne_eq_false_iff_eq.mpr c24
 clear c24
 obtain ⟨c25, H⟩ := zin H
 have c25b0 := eq_true c25
 have c25b1 := decide_eq_true c25
 clear c25
 obtain ⟨c26, H⟩ := zin H
 have c26b0 := eq_true c26
 have c26b1 := decide_eq_true c26
 clear c26
 obtain ⟨c27, H⟩ := zin H
 have c27b0 := eq_true c27
 have c27b1 := decide_eq_true c27
 try have c27b2 : (9223372036854775807 < (a1.extract 0 (t439 : Int).toNat).size + ((a2.extract (t442 : Int).toNat a2.size).extract 0 1).size) = False := eq_false (Nat.not_lt.2 c27)
 have c27b3 : (9223372036854775807 < t439.toNat + 1) = False := eq_false (Nat.not_lt.2 (by have h_ := c27; simp only [ByteArray.size_append, ByteArray.size_extract] at h_; (try simp only [ByteArray.size_append, ByteArray.size_extract, decide_eq_true_eq, eq_iff_iff, iff_true] at *); omega))
 obtain ⟨ji28, hji28⟩ : ∃ j_ : Int, (wrap64 (t439 + 1)) = j_ := ⟨_, rfl⟩
 replace H : (if 0 ≤ (ji28) then (if (ji28) ≤ (a1.size : Int) then (if ((a1.extract 0 (t439 : Int).toNat) ++ ((a2.extract (t442 : Int).toNat a2.size).extract 0 1)).size + (a1.extract ((ji28) : Int).toNat a1.size).size ≤ 9223372036854775807 then (some (((a1.extract 0 (t439 : Int).toNat) ++ ((a2.extract (t442 : Int).toNat a2.size).extract 0 1)) ++ (a1.extract ((ji28) : Int).toNat a1.size), t446, t447)) else (none)) else (none)) else (none)) = some (r1, r2, r3) := by first | (rw [hji28] at H; exact H) | (simp only [hji28] at H ⊢; exact H)
 (try rw [hji28] at A7)
 (try rw [hji28] at A8)
 (try rw [hji28] at A13)
 have hji28w : (IntKind.i64.wrap (t439 + 1)) = ji28 := (i64_w _).trans hji28
 obtain ⟨c29, H⟩ := zin H
 have c29b0 := eq_true c29
 have c29b1 := decide_eq_true c29
 clear c29
 obtain ⟨c30, H⟩ := zin H
 have c30b0 := eq_true c30
 have c30b1 := decide_eq_true c30
 clear c30
 by_cases c31 : ((a1.extract 0 (t439 : Int).toNat) ++ ((a2.extract (t442 : Int).toNat a2.size).extract 0 1)).size + (a1.extract ((ji28) : Int).toNat a1.size).size ≤ 9223372036854775807
 ·rw [if_pos c31] at H
  have c31b0 := eq_true c31
  have c31b1 := decide_eq_true c31
  try have c31b2 : (9223372036854775807 < ((a1.extract 0 (t439 : Int).toNat) ++ ((a2.extract (t442 : Int).toNat a2.size).extract 0 1)).size + (a1.extract ((ji28) : Int).toNat a1.size).size) = False := eq_false (Nat.not_lt.2 c31)
  have c31b3 : (9223372036854775807 < t439.toNat + 1 + (a1.size - ji28.toNat)) = False := eq_false (Nat.not_lt.2 (by have h_ := c31; simp only [ByteArray.size_append, ByteArray.size_extract] at h_; (try simp only [ByteArray.size_append, ByteArray.size_extract, decide_eq_true_eq, eq_iff_iff, iff_true] at *); omega))
  focus
   simp only [Option.some.injEq, Prod.mk.injEq] at H
   obtain ⟨rfl, rfl, rfl⟩ := H
   go_enter Tryz.func51, Tryz.ntmps51
   go_wp2_with (first | (go_at_call 75; (with_reducible refine (qb.calls g s0_0 s0_1 s0_2 (a1.size : Int) t439 t440 t441 w0 _ ?side1 ?side2 A7.o).mono ?_); (case side1 => exact I7.zI HI0.o); (case side2 => first | exact zBy HB.o (I7.ge HI0.o) | exact zBx HB.o); rintro e w32 ⟨rfl, hi, hb, hk⟩; replace HK := zkt HK hk; replace HB := am (hb); replace HI0 := am (hi); clear hb hk hi) | (go_at_call 75; (with_reducible refine (qb.calls g s0_0 t440 t441 (a2.size : Int) t442 t443 t444 w0 _ ?side1 ?side2 A8.o).mono ?_); (case side1 => exact I7.zI HI0.o); (case side2 => first | exact zBy HB.o (I7.ge HI0.o) | exact zBx HB.o); rintro e w33 ⟨rfl, hi, hb, hk⟩; replace HK := zkt HK hk; replace HB := am (hb); replace HI0 := am (hi); clear hb hk hi) | (go_at_call 75; (with_reducible refine (qb.calls g s0_0 t443 t444 3 t445 t446 t447 w0 _ ?side1 ?side2 A13.o).mono ?_); (case side1 => exact I7.zI HI0.o); (case side2 => first | exact zBy HB.o (I7.ge HI0.o) | exact zBx HB.o); rintro e w34 ⟨rfl, hi, hb, hk⟩; replace HK := zkt HK hk; replace HB := am (hb); replace HI0 := am (hi); clear hb hk hi))
   repeat (go_quiet (first | (go_at_call 75; (with_reducible refine (qb.calls g s0_0 s0_1 s0_2 (a1.size : Int) t439 t440 t441 w0 _ ?side1 ?side2 A7.o).mono ?_); (case side1 => exact I7.zI HI0.o); (case side2 => first | exact zBy HB.o (I7.ge HI0.o) | exact zBx HB.o); rintro e w32 ⟨rfl, hi, hb, hk⟩; replace HK := zkt HK hk; replace HB := am (hb); replace HI0 := am (hi); clear hb hk hi) | (go_at_call 75; (with_reducible refine (qb.calls g s0_0 t440 t441 (a2.size : Int) t442 t443 t444 w0 _ ?side1 ?side2 A8.o).mono ?_); (case side1 => exact I7.zI HI0.o); (case side2 => first | exact zBy HB.o (I7.ge HI0.o) | exact zBx HB.o); rintro e w33 ⟨rfl, hi, hb, hk⟩; replace HK := zkt HK hk; replace HB := am (hb); replace HI0 := am (hi); clear hb hk hi) | (go_at_call 75; (with_reducible refine (qb.calls g s0_0 t443 t444 3 t445 t446 t447 w0 _ ?side1 ?side2 A13.o).mono ?_); (case side1 => exact I7.zI HI0.o); (case side2 => first | exact zBy HB.o (I7.ge HI0.o) | exact zBx HB.o); rintro e w34 ⟨rfl, hi, hb, hk⟩; replace HK := zkt HK hk; replace HB := am (hb); replace HI0 := am (hi); clear hb hk hi)); try go_wp2_with (first | (go_at_call 75; (with_reducible refine (qb.calls g s0_0 s0_1 s0_2 (a1.size : Int) t439 t440 t441 w0 _ ?side1 ?side2 A7.o).mono ?_); (case side1 => exact I7.zI HI0.o); (case side2 => first | exact zBy HB.o (I7.ge HI0.o) | exact zBx HB.o); rintro e w32 ⟨rfl, hi, hb, hk⟩; replace HK := zkt HK hk; replace HB := am (hb); replace HI0 := am (hi); clear hb hb2 hk hi) | (go_at_call 75; (with_reducible refine (qb.calls g s0_0 t440 t441 (a2.size : Int) t442 t443 t444 w0 _ ?side1 ?side2 A8.o).mono ?_); (case side1 => exact I7.zI HI0.o); (case side2 => first | exact zBy HB.o (I7.ge HI0.o) | exact zBx HB.o); rintro e w33 ⟨rfl, hi, hb, hk⟩; replace HK := zkt HK hk; replace HB := am (hb); replace HI0 := am (hi); clear hb hb2 hk hi) | (go_at_call 75; (with_reducible refine (qb.calls g s0_0 t443 t444 3 t445 t446 t447 w0 _ ?side1 ?side2 A13.o).mono ?_); (case side1 => exact I7.zI HI0.o); (case side2 => first | exact zBy HB.o (I7.ge HI0.o) | exact zBx HB.o); rintro e w34 ⟨rfl, hi, hb, hk⟩; replace HK := zkt HK hk; replace HB := am (hb); replace HI0 := am (hi); clear hb hb2 hk hi)))
   go_ret
   exact ⟨by first | rfl | (simp [errW_none, errW_some] <;> rfl) | (simp only [← hji28]; first | rfl | (simp [errW_none, errW_some] <;> rfl)) | (simp [*, errW_none, errW_some] <;> rfl), by exact I7.zI HI0.o, by first | exact zBy HB.o (I7.ge HI0.o) | exact zBx HB.o, by exact zKx HK.o⟩
 ·rw [if_neg c31] at H
  exact absurd H (by simp)
def qG.l0 : Nat → ByteArray → Int → List ByteArray → Int → Int → Option (List ByteArray)
 | 0, _, _, _, _, _ => none
 | k + 1, x0, x1, x5, x6, x7 => if x7 < (x0.size : Int) then (if 0 ≤ x7 then (if (bt x0 x7) = x1 then (if 0 ≤ x6 then (if x6 ≤ x7 then (if x7 ≤ (x0.size : Int) then (if x5.length < 8796093022208 then (qG.l0 k x0 x1 (x5 ++ [x0.extract (x6 : Int).toNat (x7 : Int).toNat]) (wrap64 (x7 + 1)) (wrap64 (x7 + 1))) else (none)) else (none)) else (none)) else (none)) else (qG.l0 k x0 x1 x5 x6 (wrap64 (x7 + 1)))) else (none)) else (if 0 ≤ x6 then (if x6 ≤ (x0.size : Int) then (if x5.length < 8796093022208 then (some (x5 ++ [x0.extract (x6 : Int).toNat x0.size])) else (none)) else (none)) else (none))
def qG.f (k : Nat) (a0 : ByteArray) (a1 : Int) : Option (List ByteArray) := qG.l0 k a0 a1 (([] : List ByteArray)) 0 0
theorem qG.calls (k : Nat) (a0 : ByteArray) (a1 : Int) (r : List ByteArray) (w : World) (h : qG.f k a0 a1 = some r) :
 Calls Tryz.prog 54 #[.string a0, .int .u8 a1] w fun e w' => ∃ v0_ : Value, e = .returned (v0_) ∧ Kd.R Kd.string 9 w' w.heap.size (fun _ => True) v0_ r ∧ Below w.heap.size w w' := by
 have HB := am (Below.refl w.heap.size w)
 unfold qG.f at h
 have H := h
 clear h
 obtain ⟨y448, hy448⟩ : ∃ y_ : List ByteArray, y_ = (([] : List ByteArray)) := ⟨_, rfl⟩
 replace H : (qG.l0 k a0 a1 y448 0 0) = some r := by rw [hy448]; exact H
 have Ny448 := am hy448
 clear hy448
 have H' := am H
 clear H
 go_enter Tryz.func54, Tryz.ntmps54
 go_wp2_with (first | ((with_reducible refine zgd 8 rfl ?_); refine Kd.R_lit Kd.string _ 9 ?hg (N := 8) ?hd (xs := ([] : List ByteArray)) (inner := []) (ok := fun _ => True) (okp := fun _ => True) ?hr ?hp (fun _ hk => hk) trivial (Below.refl _ _) (Nat.le_refl _) (by simp) ?_; (case hd => rfl); (case hg => rfl); (case hr => exact zsx); (case hp => exact (Reps.none _ _)); intro v449 w3 ho4 hb hg_ hnew_; clear hg_ hnew_; (first | rw [← Ny448.o] at ho4 | (simp only [Int.reduceToNat] at ho4; rw [← Ny448.o] at ho4)); have HO450 := am (Kd.R_lower ho4 (below_size (zBx HB.o))); replace HB := zhs HB hb; clear hb ho4))
 go_loopg [5, 6, 7] k (fun kq v5 v6 v7 w' => ∃ (x5_1 : List ByteArray) (x6_1 : Int) (x7_1 : Int), v6 = .int .i64 x6_1 ∧ v7 = .int .i64 x7_1 ∧ Aq (qG.l0 kq a0 a1 x5_1 x6_1 x7_1 = some r) ∧ Aq (kq ≤ k) ∧ Aq (Kd.R Kd.string 9 w' w.heap.size (fun _ => True) v5 x5_1) ∧ Aq (Below w.heap.size w w'))
 case atStart => exact ⟨(y448), (0), (0), zrx, zrx, H', ⟨Nat.le_refl _⟩, ⟨zDR HO450.o⟩, ⟨zBx HB.o⟩⟩
 case round =>
  clear H'
  obtain ⟨x5_1, x6_1, x7_1, rfl, rfl, HA, HK1, HO_5, HB⟩ := hrel
  cases gk with
  | zero => exact absurd HA.o (by simp [qG.l0])
  | succ k1 =>
   have H := HA.o
   clear HA
   simp only [qG.l0] at H
   by_cases c5 : x7_1 < (a0.size : Int)
   rotate_left
   ·rw [if_neg c5] at H
    have c5b0 := decide_eq_false c5
    clear c5
    by_cases c14 : 0 ≤ x6_1
    rotate_left
    ·rw [if_neg c14] at H
     exact absurd H (by simp)
    rw [if_pos c14] at H
    have c14b0 := eq_true c14
    have c14b1 := decide_eq_true c14
    clear c14
    obtain ⟨c15, H⟩ := zin H
    have c15b0 := eq_true c15
    have c15b1 := decide_eq_true c15
    clear c15
    by_cases c16 : x5_1.length < 8796093022208
    ·rw [if_pos c16] at H
     have LMc16 := am c16
     clear c16
     obtain ⟨y454, hy454⟩ : ∃ y_ : List ByteArray, y_ = (x5_1 ++ [a0.extract (x6_1 : Int).toNat a0.size]) := ⟨_, rfl⟩
     replace H : (some y454) = some r := by rw [hy454]; exact H
     have Ny454 := am hy454
     clear hy454
     focus
      obtain rfl := Option.some.inj H
      go_wp2_with (first | ((with_reducible refine gate_builtin (b := .append) (xs := #[.tmp 29, .tmp 33]) rfl ?_); at_builtin; refine Kd.R_append Kd.string (w0 := w) w.heap.size rfl (.tmp 29) (.tmp 33) 60 9 (.string ⟨#[]⟩) 16 rfl Tryz.underlying60 info9 rfl (by decide) (by omega) u5 x5_1 (a0.extract (x6_1 : Int).toNat a0.size) [.string (a0.extract (x6_1 : Int).toNat a0.size)] (fun _ => True) (fun _ => False) rfl rfl ?aP (fun _ hk => hk.elim) ?aF ?aO ?aB ?aS ?aL ?_; (case aP => exact rfl); (case aB => exact (zBx HB.o)); (case aF => exact (fun _ _ => trivial)); (case aO => exact (zRx HO_5.o)); (case aS => exact (below_size (zBx HB.o))); (case aL => have := LMc16.o; omega); intro v455 w17 ho hb hg hat; rw [← Ny454.o] at ho; replace HB := am (hb); have HO456 := am (ho); clear HO_5; clear ho hb hg hat))
      go_ret
      exact ⟨_, zew, zDR HO456.o, zBx HB.o⟩
    ·rw [if_neg c16] at H
     exact absurd H (by simp)
   rw [if_pos c5] at H
   have c5b0 := decide_eq_true c5
   clear c5
   obtain ⟨c6, H⟩ := zin H
   have c6b0 := decide_eq_true c6
   clear c6
   by_cases c8 : (bt a0 x7_1) = a1
   rotate_left
   ·rw [if_neg c8] at H
    have c8b0 := beq_eq_false_iff_ne.mpr c8
    have c8b1 := bne_iff_ne.mpr c8
    focus
     have H' := am H
     clear H
     have p7 : 0 ≤ (x7_1 : Int) := zod
     have q7 : x7_1 < (a0.size : Int) := zod
     have hx7 := bt_at a0 x7_1
     replace p7 := eq_true p7
     replace q7 := eq_true q7
     go_wp2
     go_roundg k1
     case measure => have := HK1.o; omega
     case rel => exact ⟨(x5_1), (x6_1), (wrap64 (x7_1 + 1)), zrx, zrx, H', ⟨by have := HK1.o; omega⟩, ⟨zDR HO_5.o⟩, ⟨zBx HB.o⟩⟩
   rw [if_pos c8] at H
   have c8b0 := beq_iff_eq.mpr c8
   have c8b1 := bne_eq_false_iff_eq.mpr c8
   clear c8
   obtain ⟨c9, H⟩ := zin H
   have c9b0 := eq_true c9
   have c9b1 := decide_eq_true c9
   clear c9
   obtain ⟨c10, H⟩ := zin H
   have c10b0 := eq_true c10
   have c10b1 := decide_eq_true c10
   clear c10
   obtain ⟨c11, H⟩ := zin H
   have c11b0 := eq_true c11
   have c11b1 := decide_eq_true c11
   clear c11
   obtain ⟨c12, H⟩ := zin H
   have LMc12 := am c12
   clear c12
   obtain ⟨y451, hy451⟩ : ∃ y_ : List ByteArray, y_ = (x5_1 ++ [a0.extract (x6_1 : Int).toNat (x7_1 : Int).toNat]) := ⟨_, rfl⟩
   replace H : (qG.l0 k1 a0 a1 y451 (wrap64 (x7_1 + 1)) (wrap64 (x7_1 + 1))) = some r := by rw [hy451]; exact H
   have Ny451 := am hy451
   clear hy451
   focus
    have H' := am H
    clear H
    have p7 : 0 ≤ (x7_1 : Int) := zod
    have q7 : x7_1 < (a0.size : Int) := zod
    have hx7 := bt_at a0 x7_1
    replace p7 := eq_true p7
    replace q7 := eq_true q7
    go_wp2_with (first | ((with_reducible refine gate_builtin (b := .append) (xs := #[.tmp 20, .tmp 25]) rfl ?_); at_builtin; refine Kd.R_append Kd.string (w0 := w) w.heap.size rfl (.tmp 20) (.tmp 25) 60 9 (.string ⟨#[]⟩) 16 rfl Tryz.underlying60 info9 rfl (by decide) (by omega) u5 x5_1 (a0.extract (x6_1 : Int).toNat (x7_1 : Int).toNat) [.string (a0.extract (x6_1 : Int).toNat (x7_1 : Int).toNat)] (fun _ => True) (fun _ => False) rfl rfl ?aP (fun _ hk => hk.elim) ?aF ?aO ?aB ?aS ?aL ?_; (case aP => exact rfl); (case aB => exact (zBx HB.o)); (case aF => exact (fun _ _ => trivial)); (case aO => exact (zRx HO_5.o)); (case aS => exact (below_size (zBx HB.o))); (case aL => have := LMc12.o; omega); intro v452 w13 ho hb hg hat; rw [← Ny451.o] at ho; replace HB := am (hb); have HO453 := am (ho); clear HO_5; clear ho hb hg hat))
    go_roundg k1
    case measure => have := HK1.o; omega
    case rel => exact ⟨(y451), (wrap64 (x7_1 + 1)), (wrap64 (x7_1 + 1)), zrx, zrx, H', ⟨by have := HK1.o; omega⟩, ⟨zDR HO453.o⟩, ⟨zBx HB.o⟩⟩
def spec_VerifyChecksum.f (k : Nat) (a0 : ByteArray) : Option (ByteArray × Bool) := if (a0.size : Int) > 4000 then (some ((⟨#[]⟩ : ByteArray), false)) else ((qG.f k a0 35).bind fun t457 => (if 0 < (t457.length : Int) then ((qV.f k (rdOf ByteArray.empty t457 0)).bind fun t461 => (if t461.toList = a0.toList then (some (rdOf ByteArray.empty t457 0, true)) else (some ((⟨#[]⟩ : ByteArray), false)))) else (none)))
theorem spec_VerifyChecksum.calls (k : Nat) (a0 : ByteArray) (r1 : ByteArray) (r2 : Bool) (w : World) (h : spec_VerifyChecksum.f k a0 = some (r1, r2)) :
 Calls Tryz.prog 72 #[.string a0] w fun e w' => e = .returned (.tuple #[.string r1, .bool r2]) ∧ Below w.heap.size w w' := by
 have HB := am (Below.refl w.heap.size w)
 unfold spec_VerifyChecksum.f at h
 have H := h
 clear h
 by_cases c2 : (a0.size : Int) > 4000
 ·rw [if_pos c2] at H
  have c2b0 := decide_eq_true c2
  have c2b1 : decide (4000 < a0.size) = true := decide_eq_true (by omega)
  clear c2
  focus
   simp only [Option.some.injEq, Prod.mk.injEq] at H
   obtain ⟨rfl, rfl⟩ := H
   go_enter Tryz.func72, Tryz.ntmps72
   go_wp2
   go_ret2
   exact ⟨zew, zBx HB.o⟩
 rw [if_neg c2] at H
 have c2b0 := decide_eq_false c2
 have c2b1 : decide (4000 < a0.size) = false := decide_eq_false (by omega)
 clear c2
 obtain ⟨t457, A3, H⟩ := zob H
 try dsimp only at H
 by_cases c4 : 0 < (t457.length : Int)
 rotate_left
 ·rw [if_neg c4] at H
  exact absurd H (by simp)
 rw [if_pos c4] at H
 have c4b0 := decide_eq_true c4
 have c4b1 : decide (0 < t457.length) = true := decide_eq_true (by omega)
 clear c4
 obtain ⟨t461, A5, H⟩ := zob H
 try dsimp only at H
 by_cases c6 : t461.toList = a0.toList
 ·rw [if_pos c6] at H
  have c6b0 := beq_iff_eq.mpr c6
  have c6b1 := bne_eq_false_iff_eq.mpr c6
  clear c6
  focus
   simp only [Option.some.injEq, Prod.mk.injEq] at H
   obtain ⟨rfl, rfl⟩ := H
   go_enter Tryz.func72, Tryz.ntmps72
   go_wp2_with (first | ((with_reducible refine zgc 54 rfl ?_); refine zgl 9 Tryz.func54 #[.string a0, .int .u8 35] ?_; (with_reducible refine (qG.calls k a0 35 t457 _ A3.o).mono ?_); rintro e w7 ⟨v458, rfl, ho0, hb⟩; refine ⟨_, rfl, ?_⟩; have HO459 := am (Kd.R_lower ho0 (below_size (zBx HB.o))); replace HB := zhs HB hb; clear hb; (try clear ho0); obtain ⟨Ao8, co8, eo8⟩ := Kd.R_slice HO459.o; subst eo8; have p460 : 0 ≤ (0 : Int) := (by omega); have q460 : 0 < (t457.length : Int) := of_decide_eq_true zax; obtain ⟨ad460, e460, hx460_0⟩ := Kd.at_string (Kd.R_reads' HO459.o).2.2 0 p460 q460; cases e460; have qi460 : (0 < t457.length) = True := eq_true (by omega); (try rw [show ((0 : Int)).toNat = 0 from rfl] at hx460_0); (try rw [Addr.add_zero'] at hx460_0); replace p460 := eq_true p460; replace q460 := eq_true q460) | ((with_reducible refine zgc 74 rfl ?_); refine zgl 13 Tryz.func74 #[.string (rdOf ByteArray.empty t457 0)] ?_; (with_reducible refine (qV.calls k (rdOf ByteArray.empty t457 0) t461 _ A5.o).mono ?_); rintro e w9 ⟨rfl, hb⟩; refine ⟨_, rfl, ?_⟩; replace HO459 := zro HO459 hb; replace HB := zhs HB hb; clear hb))
   go_ret2
   exact ⟨zew, zBx HB.o⟩
 ·rw [if_neg c6] at H
  have c6b0 := beq_eq_false_iff_ne.mpr c6
  have c6b1 := bne_iff_ne.mpr c6
  focus
   simp only [Option.some.injEq, Prod.mk.injEq] at H
   obtain ⟨rfl, rfl⟩ := H
   go_enter Tryz.func72, Tryz.ntmps72
   go_wp2_with (first | ((with_reducible refine zgc 54 rfl ?_); refine zgl 9 Tryz.func54 #[.string a0, .int .u8 35] ?_; (with_reducible refine (qG.calls k a0 35 t457 _ A3.o).mono ?_); rintro e w10 ⟨v458, rfl, ho0, hb⟩; refine ⟨_, rfl, ?_⟩; have HO459 := am (Kd.R_lower ho0 (below_size (zBx HB.o))); replace HB := zhs HB hb; clear hb; (try clear ho0); obtain ⟨Ao11, co11, eo11⟩ := Kd.R_slice HO459.o; subst eo11; have p460 : 0 ≤ (0 : Int) := (by omega); have q460 : 0 < (t457.length : Int) := of_decide_eq_true zax; obtain ⟨ad460, e460, hx460_0⟩ := Kd.at_string (Kd.R_reads' HO459.o).2.2 0 p460 q460; cases e460; have qi460 : (0 < t457.length) = True := eq_true (by omega); (try rw [show ((0 : Int)).toNat = 0 from rfl] at hx460_0); (try rw [Addr.add_zero'] at hx460_0); replace p460 := eq_true p460; replace q460 := eq_true q460) | ((with_reducible refine zgc 74 rfl ?_); refine zgl 13 Tryz.func74 #[.string (rdOf ByteArray.empty t457 0)] ?_; (with_reducible refine (qV.calls k (rdOf ByteArray.empty t457 0) t461 _ A5.o).mono ?_); rintro e w12 ⟨rfl, hb⟩; refine ⟨_, rfl, ?_⟩; replace HO459 := zro HO459 hb; replace HB := zhs HB hb; clear hb))
   go_ret2
   exact ⟨zew, zBx HB.o⟩
def qI.l0 : Nat → ByteArray → Int → Int → Option (Bool)
 | 0, _, _, _ => none
 | k + 1, x0, x1, x5 => if x5 < (x0.size : Int) then (if 0 ≤ x5 then (if (bt x0 x5) = x1 then (some true) else (qI.l0 k x0 x1 (wrap64 (x5 + 1)))) else (none)) else (some false)
def qI.f (k : Nat) (a0 : ByteArray) (a1 : Int) : Option (Bool) := qI.l0 k a0 a1 0
theorem qI.calls (k : Nat) (a0 : ByteArray) (a1 : Int) (r : Bool) (w : World) (h : qI.f k a0 a1 = some r) :
 Calls Tryz.prog 73 #[.string a0, .int .u8 a1] w fun e w' => e = .returned (.bool r) ∧ Dq w w' := by
 unfold qI.f at h
 have H := h
 clear h
 have H' := am H
 clear H
 go_enter Tryz.func73, Tryz.ntmps73
 go_wp2
 go_loopg [5] k (fun kq v5 w' => ∃ (x5_1 : Int), v5 = .int .i64 x5_1 ∧ Aq (qI.l0 kq a0 a1 x5_1 = some r) ∧ Aq (kq ≤ k) ∧ Dq w w')
 case atStart => exact ⟨(0), zrx, H', ⟨Nat.le_refl _⟩, by repeat (first | exact Dq.refl _ | apply Dq.step)⟩
 case round =>
  clear H'
  obtain ⟨x5_1, rfl, HA, HK1, ⟨m1, rfl⟩⟩ := hrel
  cases gk with
  | zero => exact absurd HA.o (by simp [qI.l0])
  | succ k1 =>
   have H := HA.o
   clear HA
   simp only [qI.l0] at H
   by_cases c3 : x5_1 < (a0.size : Int)
   rotate_left
   ·rw [if_neg c3] at H
    have c3b0 := decide_eq_false c3
    clear c3
    focus
     obtain rfl := Option.some.inj H
     go_wp2
     go_ret
     exact ⟨by first | rfl | (simp; done) | (simp [*]; done), by repeat (first | exact Dq.refl _ | apply Dq.step)⟩
   rw [if_pos c3] at H
   have c3b0 := decide_eq_true c3
   clear c3
   obtain ⟨c4, H⟩ := zin H
   have c4b0 := decide_eq_true c4
   clear c4
   by_cases c6 : (bt a0 x5_1) = a1
   ·rw [if_pos c6] at H
    have c6b0 := beq_iff_eq.mpr c6
    have c6b1 := bne_eq_false_iff_eq.mpr c6
    clear c6
    focus
     obtain rfl := Option.some.inj H
     have p5 : 0 ≤ (x5_1 : Int) := zod
     have q5 : x5_1 < (a0.size : Int) := zod
     have hx5 := bt_at a0 x5_1
     replace p5 := eq_true p5
     replace q5 := eq_true q5
     go_wp2
     go_ret
     exact ⟨by first | rfl | (simp; done) | (simp [*]; done), by repeat (first | exact Dq.refl _ | apply Dq.step)⟩
   rw [if_neg c6] at H
   have c6b0 := beq_eq_false_iff_ne.mpr c6
   have c6b1 := bne_iff_ne.mpr c6
   focus
    have H' := am H
    clear H
    have p5 : 0 ≤ (x5_1 : Int) := zod
    have q5 : x5_1 < (a0.size : Int) := zod
    have hx5 := bt_at a0 x5_1
    replace p5 := eq_true p5
    replace q5 := eq_true q5
    go_wp2
    go_roundg k1
    case measure => have := HK1.o; omega
    case rel => exact ⟨(wrap64 (x5_1 + 1)), zrx, H', ⟨by have := HK1.o; omega⟩, by repeat (first | exact Dq.refl _ | apply Dq.step)⟩
def qz.j0 : Nat → List Int → Int → Int → Int → Int → List (S25) → Option (ByteArray)
 | 0, _, _, _, _, _, _ => none
 | k + 1, x463000, x463001, x463002, x471000, x471001, x471002 => (qA.f k x471000 x471001 x471002).bind fun t475 => ((qC.f x463000 x463001 x463002 4).bind fun bt476 => (if bt476.1 = true then ((spec_VerifyChecksum.f k t475).bind fun bt479 => ((spec_l1Cur_spoilt.f x463000 bt476.2.1 bt476.2.2 bt479.1 (⟨#[49, 32, 97, 10, 58]⟩ : ByteArray)).bind fun bt481 => ((qC.f x463000 bt481.2.1 bt481.2.2 2).bind fun bt484 => (if bt484.1 = true then ((qI.f k bt481.1 35).bind fun t487 => (if t487 = true then (some bt481.1) else ((qV.f k bt481.1).bind fun t488 => (some t488)))) else (some bt481.1))))) else (some t475)))
def qz.f (k : Nat) (l0 : List Int) : Option (ByteArray) := (qE.f k l0 0 0).bind fun bt463 => ((qN.f k bt463.1 bt463.2.1 bt463.2.2.1).bind fun t471 => (if t471 = true then (qz.j0 k l0 bt463.2.2.2.1 bt463.2.2.2.2 bt463.1 bt463.2.1 bt463.2.2.1) else (qz.j0 k l0 bt463.2.2.2.1 bt463.2.2.2.2 1 0 (([] : List (S25))))))
theorem qz.calls (k : Nat) (A0 : Option Addr) (c0 : Nat) (l0 : List Int) (r : ByteArray) (w : World) (hr0 : Kd.C (Kd.int .u8) w A0 l0.length l0) (hc0 : l0.length ≤ c0) (h : qz.f k l0 = some r) :
 Calls Tryz.prog 26 #[.slice A0 l0.length c0] w fun e w' => e = .returned (.string r) ∧ Below w.heap.size w w' := by
 have hu71 := Tryz.underlying71
 have hu34 := Tryz.underlying34
 have HR0 := am hr0
 have HC0 := am hc0
 clear hr0 hc0
 have HB := am (Below.refl w.heap.size w)
 unfold qz.f at h
 have H := h
 clear h
 obtain ⟨⟨t463, t464, t465, t468, t469⟩, A2, H⟩ := zob H
 try dsimp only at H
 obtain ⟨t471, A3, H⟩ := zob H
 try dsimp only at H
 have HC4 := am H
 clear H
 go_enter Tryz.func26, Tryz.ntmps26
 go_upto_if 15 with (first | ((with_reducible refine zgd 10 rfl ?_); refine zbe 10 #[.slice A0 l0.length c0, .int .i64 0, .int .u64 0] 71 ?_; intro gb462 hg w5 hbox hb; have BK462 := am (hbox); have GW462 := zns hg HB.o; have GE462 := zns hg HB.o; replace HB := zhs HB hb; clear hb hbox hg) | ((with_reducible refine zgc 71 rfl ?_); refine zgl 12 Tryz.func71 #[.pointer (some ⟨gb462, 0, none⟩)] ?_; (with_reducible refine (qE.calls k gb462 l0 0 0 t463 t464 t465 t468 t469 w _ ?side1 ?side2 A2.o).mono ?_); (case side1 => first | exact ⟨_, _, (zbx BK462.o), GE462.o, HR0.o⟩); (case side2 => first | exact zBy HB.o (I7.ge HI462.o) | exact zBx HB.o); rintro e w6 ⟨v466, rfl, ho0, hi, hb, hk⟩; refine ⟨_, rfl, ?_⟩; have HO467 := am (Kd.R_lower ho0 (below_size (by first | exact zBy HB.o (I7.ge HI462.o) | exact zBx HB.o))); replace HB := am (hb); have HI462 := am (hi); clear hb hk hi; (try clear ho0)) | ((with_reducible refine zgd 4 rfl ?_); refine zbe 4 #[.int .i64 0, .int .i64 0, .slice none 0 0] 34 ?_; intro gb470 hg w7 hbox hb; replace HO467 := zro HO467 hb; have BK470 := am (hbox); have GW470 := am ((by rw [hg]; exact (below_size (by first | exact zBy HB.o (I7.ge HI462.o) | exact zBx HB.o)) : w.heap.size ≤ gb470)); have GE470 := am ((by rw [hg]; exact (below_size (by first | exact zBy HB.o (I7.ge HI462.o) | exact zBx HB.o)) : w.heap.size ≤ gb470)); replace HB := am (bsq (by first | exact zBy HB.o (I7.ge HI462.o) | exact zBx HB.o) hb); have NB462_470 := am ((by rw [hg]; exact Nat.ne_of_lt (I7.lt (show I7 w _ gb462 l0 t468 t469 from I7.zI HI462.o)) : gb462 ≠ gb470)); have NB470_462 := am ((by rw [hg]; exact Nat.ne_of_gt (I7.lt (show I7 w _ gb462 l0 t468 t469 from I7.zI HI462.o)) : gb470 ≠ gb462)); replace HI462 := am (I7.below (I7.zI HI462.o) hb); clear hb hbox hg; have hnb8 := NB470_462.o; have hnc8 := NB462_470.o; have hcz9 := zc3 BK470.o; obtain ⟨Ao10, co10, eo10⟩ := Kd.R_slice HO467.o; subst eo10) | ((with_reducible refine zgc 67 rfl ?_); refine zgl 14 Tryz.func67 #[.agg #[.int .i64 t463, .int .i64 t464, .slice Ao10 t465.length co10]] ?_; (with_reducible refine (qN.calls k t463 t464 _ _ t465 t471 _ ?side1 ?side2 A3.o).mono ?_); (case side1 => refine (Kd.R_reads' (e := 25) (base := w.heap.size) (ok := fun k_ => True) (n := t465.length) (c := co10) ?_).2.2; exact (by (with_reducible repeat (first | apply Kd.R_alloc | apply Kd.R_drewN | apply Kd.R_drew)); exact (Kd.R_mono (zRf (Kd.R_types HO467.o BK470.o (by decide))) (fun _ h_ => h_.1)))); (case side2 => exact (Kd.R_reads' HO467.o).2.1); rintro e w11 ⟨rfl, hb⟩; refine ⟨_, rfl, ?_⟩; replace HO467 := am (Kd.R_below (by (with_reducible repeat (first | apply Kd.R_alloc | apply Kd.R_drewN | apply Kd.R_drew)); exact (Kd.R_mono (zRf (Kd.R_types HO467.o BK470.o (by decide))) (fun _ h_ => h_.1))) hb); replace BK470 := am (blk_below (g := gb470) (o := .cells #[.int .i64 t463, .int .i64 t464, .slice Ao10 t465.length co10] 34 (0, 0)) (zbp BK470.o) hb); replace HB := am (bsq (by first | exact zBz HB.o (I7.ge HI462.o) GE470.o | exact zBy HB.o GE470.o) hb); replace HI462 := am (I7.below (show I7 w (((w7.setCell ⟨gb470, 0, none⟩ (.int .i64 t463)).setCell ⟨gb470, 1, none⟩ (.int .i64 t464)).setCell ⟨gb470, 2, none⟩ (.slice Ao10 t465.length co10)) gb462 l0 t468 t469 from I7.zJ HI462.o NB462_470.o) hb); clear hb))
 (try simp only [Act.put, List.setIfInBounds_toArray, List.set_cons_zero, List.set_cons_succ])
 go_cut [] (fun wc => ∃ (kq : Nat) (x471000_3 : Int) (x471001_3 : Int) (x471002_3 : List (S25)) (u471002 : Value), Aq (qz.j0 kq l0 t468 t469 x471000_3 x471001_3 x471002_3 = some r) ∧ Aq (kq ≤ k) ∧ Aq (Kd.R k25 25 wc w.heap.size (fun _ => True) u471002 x471002_3) ∧ Aq (wc.heap[gb470]? = some (.cells #[.int .i64 x471000_3, .int .i64 x471001_3, u471002] 34 (0, 0))) ∧ Aq (I7 w wc gb462 l0 t468 t469) ∧ Aq (Below w.heap.size w wc))
 case first =>
  have H := HC4.o
  clear HC4
  by_cases c12 : t471 = true
  ·subst c12
   rw [if_pos rfl] at H
   focus
    have H' := am H
    clear H
    go_wp2
    go_meet
    case rel => exact ⟨_, (t463), (t464), (t465), (.slice Ao10 t465.length co10), H', ⟨by first | omega | exact Nat.le_refl _⟩, ⟨zDR HO467.o⟩, ⟨zbx BK470.o⟩, ⟨by exact I7.zJ HI462.o NB462_470.o⟩, ⟨by exact zBz HB.o (I7.ge HI462.o) GE470.o⟩⟩
  ·replace c12 := Bool.eq_false_iff.mpr c12
   subst c12
   rw [if_neg (show ¬ (false = true) by decide)] at H
   obtain ⟨y472, hy472⟩ : ∃ y_ : List (S25), y_ = (([] : List (S25))) := ⟨_, rfl⟩
   replace H : (qz.j0 k l0 t468 t469 1 0 y472) = some r := by rw [hy472]; exact H
   have Ny472 := am hy472
   clear hy472
   focus
    have H' := am H
    clear H
    go_wp2_with (first | ((with_reducible refine zgd 16 rfl ?_); refine Kd.R_lit k25 _ 25 ?hg (N := 16) ?hd (xs := ([] : List (S25))) (inner := []) (ok := fun _ => True) (okp := fun _ => True) ?hr ?hp (fun _ hk => hk) trivial (Below.refl _ _) (Nat.le_refl _) (by simp) ?_; (case hd => rfl); (case hg => rfl); (case hr => exact zsx); (case hp => exact (Reps.none _ _)); intro v473 w13 ho14 hb hg_ hnew_; clear hg_ hnew_; (first | rw [← Ny472.o] at ho14 | (simp only [Int.reduceToNat] at ho14; rw [← Ny472.o] at ho14)); have HO474 := am (Kd.R_lower (Kd.R_new' ho14 (Kd.R_lt (zRx HO467.o))) (below_size (by first | exact zBz HB.o (I7.ge HI462.o) GE470.o | exact zBy HB.o GE470.o))); replace HO467 := am (Kd.R_elder' (zRx HO467.o) (Kd.R_base ho14) hb); replace BK470 := zbl BK470.o hb; replace HB := am (bsq (by first | exact zBz HB.o (I7.ge HI462.o) GE470.o | exact zBy HB.o GE470.o) hb); replace HI462 := am (I7.below (I7.zF HI462.o NB462_470.o) hb); clear hb ho14; obtain ⟨Ao15, co15, eo15⟩ := Kd.R_slice HO474.o; subst eo15; have hnb16 := NB470_462.o; have hnc16 := NB462_470.o; have hcz17 := zc3 BK470.o))
    go_meet
    case rel => exact ⟨_, (1), (0), (y472), (.slice Ao15 y472.length co15), H', ⟨by first | omega | exact Nat.le_refl _⟩, ⟨by refine zDR ?_; exact Kd.R_mono (zRf (Kd.R_types HO474.o BK470.o (by decide))) (fun _ hk => trivial)⟩, ⟨zbp BK470.o⟩, ⟨by exact I7.zJ HI462.o NB462_470.o⟩, ⟨by exact zBz HB.o (I7.ge HI462.o) GE470.o⟩⟩
 case rest =>
  clear HC4
  try clear hcz9
  obtain ⟨kq, x471000_3, x471001_3, x471002_3, u471002, HA, HJ3, HO_471002, BK470, HI462, HB⟩ := hcut
  cases kq with
  | zero => exact absurd HA.o (by simp [qz.j0])
  | succ kj3 =>
   have H := HA.o
   clear HA
   simp only [qz.j0] at H
   obtain ⟨t475, A18, H⟩ := zob H
   try dsimp only at H
   obtain ⟨⟨t476, t477, t478⟩, A19, H⟩ := zob H
   try dsimp only at H
   by_cases c20 : t476 = true
   rotate_left
   ·replace c20 := Bool.eq_false_iff.mpr c20
    subst c20
    rw [if_neg (show ¬ (false = true) by decide)] at H
    focus
     obtain rfl := Option.some.inj H
     have hnb53 := NB470_462.o
     have hnc53 := NB462_470.o
     have hcz54 := zc3 BK470.o
     obtain ⟨Ao55, co55, eo55⟩ := Kd.R_slice HO_471002.o
     subst eo55
     go_wp2_with (first | ((with_reducible refine zgc 68 rfl ?_); refine zgl 19 Tryz.func68 #[.agg #[.int .i64 x471000_3, .int .i64 x471001_3, .slice Ao55 x471002_3.length co55]] ?_; (with_reducible refine (qA.calls kj3 x471000_3 x471001_3 _ _ x471002_3 t475 _ ?side1 ?side2 A18.o).mono ?_); (case side1 => exact zCx (Kd.R_reads' HO_471002.o).2.2); (case side2 => exact (Kd.R_reads' HO_471002.o).2.1); rintro e w56 ⟨rfl, hb⟩; refine ⟨_, rfl, ?_⟩; replace HO_471002 := zro HO_471002 hb; replace BK470 := zbl BK470.o hb; replace HB := am (bsq (by first | exact zBz HB.o (I7.ge HI462.o) GE470.o | exact zBy HB.o GE470.o) hb); replace HI462 := am (I7.below (I7.zF HI462.o NB462_470.o) hb); clear hb) | ((with_reducible refine zgc 50 rfl ?_); refine zgl 21 Tryz.func50 #[.pointer (some ⟨gb462, 0, none⟩), .int .i64 4] ?_; (with_reducible refine (qC.calls gb462 l0 t468 t469 4 false t477 t478 w _ ?side1 ?side2 A19.o).mono ?_); (case side1 => exact I7.zJ HI462.o NB462_470.o); (case side2 => first | exact zBz HB.o (I7.ge HI462.o) GE470.o | exact zBy HB.o GE470.o); rintro e w57 ⟨rfl, hi, hb, hk⟩; refine ⟨_, rfl, ?_⟩; replace HO_471002 := am (Kd.R_mono (Kd.R_keep (I7.apart (show I7 w _ gb462 l0 t468 t469 from I7.zJ HI462.o NB462_470.o) (zRx HO_471002.o) (by decide)) hk (fun _ h => h.2)) (fun _ h => h.1)); replace BK470 := zkb hk BK470.o NB470_462.o; replace HB := am (hb); replace HI462 := am (hi); clear hb hk hi))
     go_ret
     exact ⟨zew, by exact zBz HB.o (I7.ge HI462.o) GE470.o⟩
   subst c20
   rw [if_pos rfl] at H
   obtain ⟨⟨t479, t480⟩, A21, H⟩ := zob H
   try dsimp only at H
   obtain ⟨⟨t481, t482, t483⟩, A22, H⟩ := zob H
   try dsimp only at H
   obtain ⟨⟨t484, t485, t486⟩, A23, H⟩ := zob H
   try dsimp only at H
   by_cases c24 : t484 = true
   rotate_left
   ·replace c24 := Bool.eq_false_iff.mpr c24
    subst c24
    rw [if_neg (show ¬ (false = true) by decide)] at H
    focus
     obtain rfl := Option.some.inj H
     have hnb45 := NB470_462.o
     have hnc45 := NB462_470.o
     have hcz46 := zc3 BK470.o
     obtain ⟨Ao47, co47, eo47⟩ := Kd.R_slice HO_471002.o
     subst eo47
     go_wp2_with (first | ((with_reducible refine zgc 68 rfl ?_); refine zgl 19 Tryz.func68 #[.agg #[.int .i64 x471000_3, .int .i64 x471001_3, .slice Ao47 x471002_3.length co47]] ?_; (with_reducible refine (qA.calls kj3 x471000_3 x471001_3 _ _ x471002_3 t475 _ ?side1 ?side2 A18.o).mono ?_); (case side1 => exact zCx (Kd.R_reads' HO_471002.o).2.2); (case side2 => exact (Kd.R_reads' HO_471002.o).2.1); rintro e w48 ⟨rfl, hb⟩; refine ⟨_, rfl, ?_⟩; replace HO_471002 := zro HO_471002 hb; replace BK470 := zbl BK470.o hb; replace HB := am (bsq (by first | exact zBz HB.o (I7.ge HI462.o) GE470.o | exact zBy HB.o GE470.o) hb); replace HI462 := am (I7.below (I7.zF HI462.o NB462_470.o) hb); clear hb) | ((with_reducible refine zgc 50 rfl ?_); refine zgl 21 Tryz.func50 #[.pointer (some ⟨gb462, 0, none⟩), .int .i64 4] ?_; (with_reducible refine (qC.calls gb462 l0 t468 t469 4 true t477 t478 w _ ?side1 ?side2 A19.o).mono ?_); (case side1 => exact I7.zJ HI462.o NB462_470.o); (case side2 => first | exact zBz HB.o (I7.ge HI462.o) GE470.o | exact zBy HB.o GE470.o); rintro e w49 ⟨rfl, hi, hb, hk⟩; refine ⟨_, rfl, ?_⟩; replace HO_471002 := am (Kd.R_mono (Kd.R_keep (I7.apart (show I7 w _ gb462 l0 t468 t469 from I7.zJ HI462.o NB462_470.o) (zRx HO_471002.o) (by decide)) hk (fun _ h => h.2)) (fun _ h => h.1)); replace BK470 := zkb hk BK470.o NB470_462.o; replace HB := am (hb); replace HI462 := am (hi); clear hb hk hi) | ((with_reducible refine zgc 72 rfl ?_); refine zgl 24 Tryz.func72 #[.string t475] ?_; (with_reducible refine (spec_VerifyChecksum.calls kj3 t475 t479 t480 _ A21.o).mono ?_); rintro e w50 ⟨rfl, hb⟩; refine ⟨_, rfl, ?_⟩; replace HO_471002 := zro HO_471002 hb; replace BK470 := zbl BK470.o hb; replace HB := am (bsq (by first | exact zBz HB.o (I7.ge HI462.o) GE470.o | exact zBy HB.o GE470.o) hb); replace HI462 := am (I7.below (I7.zF HI462.o NB462_470.o) hb); clear hb) | ((with_reducible refine zgc 51 rfl ?_); refine zgl 29 Tryz.func51 #[.pointer (some ⟨gb462, 0, none⟩), .string t479, .string (⟨#[49, 32, 97, 10, 58]⟩ : ByteArray)] ?_; (with_reducible refine (spec_l1Cur_spoilt.calls gb462 l0 t477 t478 t479 (⟨#[49, 32, 97, 10, 58]⟩ : ByteArray) t481 t482 t483 w _ ?side1 ?side2 A22.o).mono ?_); (case side1 => exact I7.zJ HI462.o NB462_470.o); (case side2 => first | exact zBz HB.o (I7.ge HI462.o) GE470.o | exact zBy HB.o GE470.o); rintro e w51 ⟨rfl, hi, hb, hk⟩; refine ⟨_, rfl, ?_⟩; replace HO_471002 := am (Kd.R_mono (Kd.R_keep (I7.apart (show I7 w _ gb462 l0 t477 t478 from I7.zJ HI462.o NB462_470.o) (zRx HO_471002.o) (by decide)) hk (fun _ h => h.2)) (fun _ h => h.1)); replace BK470 := zkb hk BK470.o NB470_462.o; replace HB := am (hb); replace HI462 := am (hi); clear hb hk hi) | ((with_reducible refine zgc 50 rfl ?_); refine zgl 31 Tryz.func50 #[.pointer (some ⟨gb462, 0, none⟩), .int .i64 2] ?_; (with_reducible refine (qC.calls gb462 l0 t482 t483 2 false t485 t486 w _ ?side1 ?side2 A23.o).mono ?_); (case side1 => exact I7.zJ HI462.o NB462_470.o); (case side2 => first | exact zBz HB.o (I7.ge HI462.o) GE470.o | exact zBy HB.o GE470.o); rintro e w52 ⟨rfl, hi, hb, hk⟩; refine ⟨_, rfl, ?_⟩; replace HO_471002 := am (Kd.R_mono (Kd.R_keep (I7.apart (show I7 w _ gb462 l0 t482 t483 from I7.zJ HI462.o NB462_470.o) (zRx HO_471002.o) (by decide)) hk (fun _ h => h.2)) (fun _ h => h.1)); replace BK470 := zkb hk BK470.o NB470_462.o; replace HB := am (hb); replace HI462 := am (hi); clear hb hk hi))
     go_ret
     exact ⟨zew, by exact zBz HB.o (I7.ge HI462.o) GE470.o⟩
   subst c24
   rw [if_pos rfl] at H
   obtain ⟨t487, A25, H⟩ := zob H
   try dsimp only at H
   by_cases c26 : t487 = true
   ·subst c26
    rw [if_pos rfl] at H
    focus
     obtain rfl := Option.some.inj H
     have hnb27 := NB470_462.o
     have hnc27 := NB462_470.o
     have hcz28 := zc3 BK470.o
     obtain ⟨Ao29, co29, eo29⟩ := Kd.R_slice HO_471002.o
     subst eo29
     go_wp2_with (first | ((with_reducible refine zgc 68 rfl ?_); refine zgl 19 Tryz.func68 #[.agg #[.int .i64 x471000_3, .int .i64 x471001_3, .slice Ao29 x471002_3.length co29]] ?_; (with_reducible refine (qA.calls kj3 x471000_3 x471001_3 _ _ x471002_3 t475 _ ?side1 ?side2 A18.o).mono ?_); (case side1 => exact zCx (Kd.R_reads' HO_471002.o).2.2); (case side2 => exact (Kd.R_reads' HO_471002.o).2.1); rintro e w30 ⟨rfl, hb⟩; refine ⟨_, rfl, ?_⟩; replace HO_471002 := zro HO_471002 hb; replace BK470 := zbl BK470.o hb; replace HB := am (bsq (by first | exact zBz HB.o (I7.ge HI462.o) GE470.o | exact zBy HB.o GE470.o) hb); replace HI462 := am (I7.below (I7.zF HI462.o NB462_470.o) hb); clear hb) | ((with_reducible refine zgc 50 rfl ?_); refine zgl 21 Tryz.func50 #[.pointer (some ⟨gb462, 0, none⟩), .int .i64 4] ?_; (with_reducible refine (qC.calls gb462 l0 t468 t469 4 true t477 t478 w _ ?side1 ?side2 A19.o).mono ?_); (case side1 => exact I7.zJ HI462.o NB462_470.o); (case side2 => first | exact zBz HB.o (I7.ge HI462.o) GE470.o | exact zBy HB.o GE470.o); rintro e w31 ⟨rfl, hi, hb, hk⟩; refine ⟨_, rfl, ?_⟩; replace HO_471002 := am (Kd.R_mono (Kd.R_keep (I7.apart (show I7 w _ gb462 l0 t468 t469 from I7.zJ HI462.o NB462_470.o) (zRx HO_471002.o) (by decide)) hk (fun _ h => h.2)) (fun _ h => h.1)); replace BK470 := zkb hk BK470.o NB470_462.o; replace HB := am (hb); replace HI462 := am (hi); clear hb hk hi) | ((with_reducible refine zgc 72 rfl ?_); refine zgl 24 Tryz.func72 #[.string t475] ?_; (with_reducible refine (spec_VerifyChecksum.calls kj3 t475 t479 t480 _ A21.o).mono ?_); rintro e w32 ⟨rfl, hb⟩; refine ⟨_, rfl, ?_⟩; replace HO_471002 := zro HO_471002 hb; replace BK470 := zbl BK470.o hb; replace HB := am (bsq (by first | exact zBz HB.o (I7.ge HI462.o) GE470.o | exact zBy HB.o GE470.o) hb); replace HI462 := am (I7.below (I7.zF HI462.o NB462_470.o) hb); clear hb) | ((with_reducible refine zgc 51 rfl ?_); refine zgl 29 Tryz.func51 #[.pointer (some ⟨gb462, 0, none⟩), .string t479, .string (⟨#[49, 32, 97, 10, 58]⟩ : ByteArray)] ?_; (with_reducible refine (spec_l1Cur_spoilt.calls gb462 l0 t477 t478 t479 (⟨#[49, 32, 97, 10, 58]⟩ : ByteArray) t481 t482 t483 w _ ?side1 ?side2 A22.o).mono ?_); (case side1 => exact I7.zJ HI462.o NB462_470.o); (case side2 => first | exact zBz HB.o (I7.ge HI462.o) GE470.o | exact zBy HB.o GE470.o); rintro e w33 ⟨rfl, hi, hb, hk⟩; refine ⟨_, rfl, ?_⟩; replace HO_471002 := am (Kd.R_mono (Kd.R_keep (I7.apart (show I7 w _ gb462 l0 t477 t478 from I7.zJ HI462.o NB462_470.o) (zRx HO_471002.o) (by decide)) hk (fun _ h => h.2)) (fun _ h => h.1)); replace BK470 := zkb hk BK470.o NB470_462.o; replace HB := am (hb); replace HI462 := am (hi); clear hb hk hi) | ((with_reducible refine zgc 50 rfl ?_); refine zgl 31 Tryz.func50 #[.pointer (some ⟨gb462, 0, none⟩), .int .i64 2] ?_; (with_reducible refine (qC.calls gb462 l0 t482 t483 2 true t485 t486 w _ ?side1 ?side2 A23.o).mono ?_); (case side1 => exact I7.zJ HI462.o NB462_470.o); (case side2 => first | exact zBz HB.o (I7.ge HI462.o) GE470.o | exact zBy HB.o GE470.o); rintro e w34 ⟨rfl, hi, hb, hk⟩; refine ⟨_, rfl, ?_⟩; replace HO_471002 := am (Kd.R_mono (Kd.R_keep (I7.apart (show I7 w _ gb462 l0 t482 t483 from I7.zJ HI462.o NB462_470.o) (zRx HO_471002.o) (by decide)) hk (fun _ h => h.2)) (fun _ h => h.1)); replace BK470 := zkb hk BK470.o NB470_462.o; replace HB := am (hb); replace HI462 := am (hi); clear hb hk hi) | (go_at_call 73; (with_reducible refine (qI.calls kj3 t481 35 true _ A25.o).mono ?_); rintro e w' ⟨rfl, ⟨nd, rfl⟩⟩))
     go_ret
     exact ⟨zew, by exact zBz HB.o (I7.ge HI462.o) GE470.o⟩
   replace c26 := Bool.eq_false_iff.mpr c26
   subst c26
   rw [if_neg (show ¬ (false = true) by decide)] at H
   obtain ⟨t488, A35, H⟩ := zob H
   try dsimp only at H
   focus
    obtain rfl := Option.some.inj H
    have hnb36 := NB470_462.o
    have hnc36 := NB462_470.o
    have hcz37 := zc3 BK470.o
    obtain ⟨Ao38, co38, eo38⟩ := Kd.R_slice HO_471002.o
    subst eo38
    go_wp2_with (first | ((with_reducible refine zgc 68 rfl ?_); refine zgl 19 Tryz.func68 #[.agg #[.int .i64 x471000_3, .int .i64 x471001_3, .slice Ao38 x471002_3.length co38]] ?_; (with_reducible refine (qA.calls kj3 x471000_3 x471001_3 _ _ x471002_3 t475 _ ?side1 ?side2 A18.o).mono ?_); (case side1 => exact zCx (Kd.R_reads' HO_471002.o).2.2); (case side2 => exact (Kd.R_reads' HO_471002.o).2.1); rintro e w39 ⟨rfl, hb⟩; refine ⟨_, rfl, ?_⟩; replace HO_471002 := zro HO_471002 hb; replace BK470 := zbl BK470.o hb; replace HB := am (bsq (by first | exact zBz HB.o (I7.ge HI462.o) GE470.o | exact zBy HB.o GE470.o) hb); replace HI462 := am (I7.below (I7.zF HI462.o NB462_470.o) hb); clear hb) | ((with_reducible refine zgc 50 rfl ?_); refine zgl 21 Tryz.func50 #[.pointer (some ⟨gb462, 0, none⟩), .int .i64 4] ?_; (with_reducible refine (qC.calls gb462 l0 t468 t469 4 true t477 t478 w _ ?side1 ?side2 A19.o).mono ?_); (case side1 => exact I7.zJ HI462.o NB462_470.o); (case side2 => first | exact zBz HB.o (I7.ge HI462.o) GE470.o | exact zBy HB.o GE470.o); rintro e w40 ⟨rfl, hi, hb, hk⟩; refine ⟨_, rfl, ?_⟩; replace HO_471002 := am (Kd.R_mono (Kd.R_keep (I7.apart (show I7 w _ gb462 l0 t468 t469 from I7.zJ HI462.o NB462_470.o) (zRx HO_471002.o) (by decide)) hk (fun _ h => h.2)) (fun _ h => h.1)); replace BK470 := zkb hk BK470.o NB470_462.o; replace HB := am (hb); replace HI462 := am (hi); clear hb hk hi) | ((with_reducible refine zgc 72 rfl ?_); refine zgl 24 Tryz.func72 #[.string t475] ?_; (with_reducible refine (spec_VerifyChecksum.calls kj3 t475 t479 t480 _ A21.o).mono ?_); rintro e w41 ⟨rfl, hb⟩; refine ⟨_, rfl, ?_⟩; replace HO_471002 := zro HO_471002 hb; replace BK470 := zbl BK470.o hb; replace HB := am (bsq (by first | exact zBz HB.o (I7.ge HI462.o) GE470.o | exact zBy HB.o GE470.o) hb); replace HI462 := am (I7.below (I7.zF HI462.o NB462_470.o) hb); clear hb) | ((with_reducible refine zgc 51 rfl ?_); refine zgl 29 Tryz.func51 #[.pointer (some ⟨gb462, 0, none⟩), .string t479, .string (⟨#[49, 32, 97, 10, 58]⟩ : ByteArray)] ?_; (with_reducible refine (spec_l1Cur_spoilt.calls gb462 l0 t477 t478 t479 (⟨#[49, 32, 97, 10, 58]⟩ : ByteArray) t481 t482 t483 w _ ?side1 ?side2 A22.o).mono ?_); (case side1 => exact I7.zJ HI462.o NB462_470.o); (case side2 => first | exact zBz HB.o (I7.ge HI462.o) GE470.o | exact zBy HB.o GE470.o); rintro e w42 ⟨rfl, hi, hb, hk⟩; refine ⟨_, rfl, ?_⟩; replace HO_471002 := am (Kd.R_mono (Kd.R_keep (I7.apart (show I7 w _ gb462 l0 t477 t478 from I7.zJ HI462.o NB462_470.o) (zRx HO_471002.o) (by decide)) hk (fun _ h => h.2)) (fun _ h => h.1)); replace BK470 := zkb hk BK470.o NB470_462.o; replace HB := am (hb); replace HI462 := am (hi); clear hb hk hi) | ((with_reducible refine zgc 50 rfl ?_); refine zgl 31 Tryz.func50 #[.pointer (some ⟨gb462, 0, none⟩), .int .i64 2] ?_; (with_reducible refine (qC.calls gb462 l0 t482 t483 2 true t485 t486 w _ ?side1 ?side2 A23.o).mono ?_); (case side1 => exact I7.zJ HI462.o NB462_470.o); (case side2 => first | exact zBz HB.o (I7.ge HI462.o) GE470.o | exact zBy HB.o GE470.o); rintro e w43 ⟨rfl, hi, hb, hk⟩; refine ⟨_, rfl, ?_⟩; replace HO_471002 := am (Kd.R_mono (Kd.R_keep (I7.apart (show I7 w _ gb462 l0 t482 t483 from I7.zJ HI462.o NB462_470.o) (zRx HO_471002.o) (by decide)) hk (fun _ h => h.2)) (fun _ h => h.1)); replace BK470 := zkb hk BK470.o NB470_462.o; replace HB := am (hb); replace HI462 := am (hi); clear hb hk hi) | (go_at_call 73; (with_reducible refine (qI.calls kj3 t481 35 false _ A25.o).mono ?_); rintro e w' ⟨rfl, ⟨nd, rfl⟩⟩) | ((with_reducible refine zgc 74 rfl ?_); refine zgl 38 Tryz.func74 #[.string t481] ?_; (with_reducible refine (qV.calls kj3 t481 t488 _ A35.o).mono ?_); rintro e w44 ⟨rfl, hb⟩; refine ⟨_, rfl, ?_⟩; replace HO_471002 := zro HO_471002 hb; replace BK470 := zbl BK470.o hb; replace HB := am (bsq (by first | exact zBz HB.o (I7.ge HI462.o) GE470.o | exact zBy HB.o GE470.o) hb); replace HI462 := am (I7.below (I7.zF HI462.o NB462_470.o) hb); clear hb))
    go_ret
    exact ⟨zew, by exact zBz HB.o (I7.ge HI462.o) GE470.o⟩
mutual
def qc.j0 : Nat → Bool → List Int → Int → Int → Int → Int → List (S25) → Int → Int → List (S25) → Option (Int × Int × (List (S25)) × Int × Int × (List (S25)))
 | 0, _, _, _, _, _, _, _, _, _, _ => none
 | k + 1, x31, x492000, x492001, x492002, x500000, x500001, x500002, x507000, x507001, x507002 => if x31 = true then ((qb.f x492000 x492001 x492002 (x507002.length : Int)).bind fun bt510 => (if 0 ≤ bt510.1 then (if bt510.1 < (x507002.length : Int) then (qc.j1 k x492000 bt510.2.1 bt510.2.2 x500000 x500001 x500002 x507000 x507001 (x507002.set (bt510.1 : Int).toNat (⟨(qa x507002 bt510.1).f0, (qa x507002 bt510.1).f1, wrap64 (1 + (Int.tmod ((qa x507002 bt510.1).f2) 3)), (qa x507002 bt510.1).f3, (qa x507002 bt510.1).f4, (qa x507002 bt510.1).f5⟩ : S25))) else (none)) else (none))) else (qc.j1 k x492000 x492001 x492002 x500000 x500001 x500002 x507000 x507001 x507002)
def qc.j1 : Nat → List Int → Int → Int → Int → Int → List (S25) → Int → Int → List (S25) → Option (Int × Int × (List (S25)) × Int × Int × (List (S25)))
 | 0, _, _, _, _, _, _, _, _, _ => none
 | k + 1, x492000, x492001, x492002, x500000, x500001, x500002, x507000, x507001, x507002 => if (x507002.length : Int) > 0 then ((qC.f x492000 x492001 x492002 3).bind fun bt516 => (qc.j2 k bt516.1 x492000 bt516.2.1 bt516.2.2 x500000 x500001 x500002 x507000 x507001 x507002)) else (qc.j2 k false x492000 x492001 x492002 x500000 x500001 x500002 x507000 x507001 x507002)
def qc.j2 : Nat → Bool → List Int → Int → Int → Int → Int → List (S25) → Int → Int → List (S25) → Option (Int × Int × (List (S25)) × Int × Int × (List (S25)))
 | 0, _, _, _, _, _, _, _, _, _, _ => none
 | k + 1, x59, x492000, x492001, x492002, x500000, x500001, x500002, x507000, x507001, x507002 => if x59 = true then (if 1 ≤ (x507002.length : Int) then (qc.j3 k x492000 x492001 x492002 x500000 x500001 x500002 x507000 x507001 (x507002.drop (1 : Int).toNat)) else (none)) else (qc.j3 k x492000 x492001 x492002 x500000 x500001 x500002 x507000 x507001 x507002)
def qc.j3 : Nat → List Int → Int → Int → Int → Int → List (S25) → Int → Int → List (S25) → Option (Int × Int × (List (S25)) × Int × Int × (List (S25)))
 | 0, _, _, _, _, _, _, _, _, _ => none
 | k + 1, x492000, x492001, x492002, x500000, x500001, x500002, x507000, x507001, x507002 => (qC.f x492000 x492001 x492002 3).bind fun bt522 => (if bt522.1 = true then ((qE.f k x492000 bt522.2.1 bt522.2.2).bind fun bt525 => (some (x500000, x500001, x500002, bt525.1, bt525.2.1, bt525.2.2.1))) else (some (x500000, x500001, x500002, x507000, x507001, x507002)))
end
def qc.f (k : Nat) (l0 : List Int) : Option (Int × Int × (List (S25)) × Int × Int × (List (S25))) := (qE.f k l0 0 0).bind fun bt492 => ((some (([] : List (S25)) : List (S25))).bind fun y500 => (if y500.length + bt492.2.2.1.length < 2932031007402 then ((some (y500 ++ bt492.2.2.1 : List (S25))).bind fun y503 => (if (y503.length : Int) > 0 then ((qC.f l0 bt492.2.2.2.1 bt492.2.2.2.2 2).bind fun bt507 => (qc.j0 k bt507.1 l0 bt507.2.1 bt507.2.2 bt492.1 bt492.2.1 bt492.2.2.1 (wrap64 (bt492.1 + 1)) bt492.2.1 y503)) else (qc.j0 k false l0 bt492.2.2.2.1 bt492.2.2.2.2 bt492.1 bt492.2.1 bt492.2.2.1 (wrap64 (bt492.1 + 1)) bt492.2.1 y503))) else (none)))
def qc.T3 : Bool × List (List Nat × List Nat) := (true, [([], []), ([0], [0]), ([1], [1]), ([], []), ([3], [3]), ([], []), ([], []), ([6], [6]), ([5, 7], [5, 7]), ([2, 4, 8], [2, 4, 8]), ([], []), ([10, 9, 8, 0, 1, 2, 3, 4, 5, 6, 7, 8, 9, 10], [9, 10])])
def qc.B3 : List Nat := [0, 1, 3, 0, 8, 0, 0, 64, 224, 511, 0, 2047]
theorem qc.tab3 : rtab .any (opsOf Tryz.f27 3) = qc.T3 := by kernel_rfl
theorem qc.bits3 : waitsOk qc.T3.2 qc.B3 = true := by kernel_rfl
theorem qc.calls (k : Nat) (A0 : Option Addr) (c0 : Nat) (l0 : List Int) (r1 : Int) (r2 : Int) (r3 : List (S25)) (r4 : Int) (r5 : Int) (r6 : List (S25)) (w : World) (hr0 : Kd.C (Kd.int .u8) w A0 l0.length l0) (hc0 : l0.length ≤ c0) (h : qc.f k l0 = some (r1, r2, r3, r4, r5, r6)) :
 Calls Tryz.prog 27 #[.slice A0 l0.length c0] w fun e w' => ∃ v2_ v5_ : Value, e = .returned (.tuple #[.agg #[.int .i64 r1, .int .i64 r2, v2_], .agg #[.int .i64 r4, .int .i64 r5, v5_]]) ∧ Kd.Q k25 25 w' w.heap.size (fun k_ => some k_ ≠ (v5_ : Value).ownBlock) v2_ r3 ∧ Kd.Q k25 25 w' w.heap.size (fun k_ => some k_ ≠ (v2_ : Value).ownBlock) v5_ r6 ∧ Below w.heap.size w w' := by
 have hu34 := Tryz.underlying34
 have hu71 := Tryz.underlying71
 have hu25 := Tryz.underlying25
 have HR0 := am hr0
 have HC0 := am hc0
 clear hr0 hc0
 have HB := am (Below.refl w.heap.size w)
 unfold qc.f at h
 have H := h
 clear h
 obtain ⟨⟨t492, t493, t494, t497, t498⟩, A2, H⟩ := zob H
 try dsimp only at H
 obtain ⟨y500, hy500⟩ : ∃ y_ : List (S25), y_ = (([] : List (S25))) := ⟨_, rfl⟩
 replace H := zyb hy500 H
 have Ny500 := am hy500
 clear hy500
 by_cases c3 : y500.length + t494.length < 2932031007402
 rotate_left
 ·rw [if_neg c3] at H
  exact absurd H (by simp)
 rw [if_pos c3] at H
 have LMc3 := am c3
 clear c3
 obtain ⟨y503, hy503⟩ : ∃ y_ : List (S25), y_ = (y500 ++ t494) := ⟨_, rfl⟩
 replace H := zyb hy503 H
 have Ny503 := am hy503
 clear hy503
 have HC4 := am H
 clear H
 go_enter Tryz.func27, Tryz.ntmps27
 try go_wp2_with (first | ((with_reducible refine zgd 2 rfl ?_); refine zbe 2 #[.int .i64 0, .int .i64 0, .slice none 0 0] 34 ?_; intro gb489 hg w5 hbox hb; have BK489 := am (hbox); have GW489 := zns hg HB.o; have GE489 := zns hg HB.o; replace HB := zhs HB hb; clear hb hbox hg) | ((with_reducible refine zgd 3 rfl ?_); refine zbe 3 #[.int .i64 0, .int .i64 0, .slice none 0 0] 34 ?_; intro gb490 hg w6 hbox hb; have BK490 := am (hbox); have GW490 := zns hg HB.o; have GE490 := zns hg HB.o; replace HB := zhs HB hb; have NB489_490 := znl hg BK489.o; have NB490_489 := zng hg BK489.o; replace BK489 := zbl BK489.o hb; clear hb hbox hg) | ((with_reducible refine zgd 11 rfl ?_); refine zbe 11 #[.slice A0 l0.length c0, .int .i64 0, .int .u64 0] 71 ?_; intro gb491 hg w7 hbox hb; have BK491 := am (hbox); have GW491 := zns hg HB.o; have GE491 := zns hg HB.o; replace HB := zhs HB hb; have NB489_491 := znl hg BK489.o; have NB491_489 := zng hg BK489.o; replace BK489 := zbl BK489.o hb; have NB490_491 := znl hg BK490.o; have NB491_490 := zng hg BK490.o; replace BK490 := zbl BK490.o hb; clear hb hbox hg) | ((with_reducible refine zgc 71 rfl ?_); refine zgl 13 Tryz.func71 #[.pointer (some ⟨gb491, 0, none⟩)] ?_; (with_reducible refine (qE.calls k gb491 l0 0 0 t492 t493 t494 t497 t498 w _ ?side1 ?side2 A2.o).mono ?_); (case side1 => first | exact ⟨_, _, (zbx BK491.o), GE491.o, HR0.o⟩); (case side2 => exact zhB HB.o); rintro e w8 ⟨v495, rfl, ho0, hi, hb, hk⟩; refine ⟨_, rfl, ?_⟩; replace BK489 := zkb hk BK489.o NB489_491.o; replace BK490 := zkb hk BK490.o NB490_491.o; have HO496 := am (Kd.R_lower ho0 (below_size (zhB HB.o))); replace HB := am (hb); have HI491 := am (hi); clear hb hk hi; (try clear ho0)) | ((with_reducible refine zgd 5 rfl ?_); refine zbe 5 #[.int .i64 0, .int .i64 0, .slice none 0 0] 34 ?_; intro gb499 hg w9 hbox hb; replace HO496 := zro HO496 hb; have BK499 := am (hbox); have GW499 := zns hg HB.o; have GE499 := zns hg HB.o; replace HB := zhs HB hb; have NB489_499 := znl hg BK489.o; have NB499_489 := zng hg BK489.o; replace BK489 := zbl BK489.o hb; have NB490_499 := znl hg BK490.o; have NB499_490 := zng hg BK490.o; replace BK490 := zbl BK490.o hb; have NB491_499 := am ((by rw [hg]; exact Nat.ne_of_lt (I7.lt (show I7 w _ gb491 l0 t497 t498 from zhI71 HI491.o)) : gb491 ≠ gb499)); have NB499_491 := am ((by rw [hg]; exact Nat.ne_of_gt (I7.lt (show I7 w _ gb491 l0 t497 t498 from zhI71 HI491.o)) : gb499 ≠ gb491)); replace HI491 := am (I7.below (zhI71 HI491.o) hb); clear hb hbox hg; have hnb10 := NB499_489.o; have hnc10 := NB489_499.o; have hnb11 := NB499_490.o; have hnc11 := NB490_499.o; have hnb12 := NB499_491.o; have hnc12 := NB491_499.o; have hcz13 := zc3 BK499.o; obtain ⟨Ao14, co14, eo14⟩ := Kd.R_slice HO496.o; subst eo14))
 have n0_ : Aq (Kd.R k25 25 (((w9.setCell ⟨gb499, 0, none⟩ (.int .i64 t492)).setCell ⟨gb499, 1, none⟩ (.int .i64 t493)).setCell ⟨gb499, 2, none⟩ (.slice Ao14 t494.length co14)) w.heap.size (fun _ => True) (.slice Ao14 t494.length co14) t494) := ⟨by refine zDR ?_; exact Kd.R_mono (zRf (Kd.R_types HO496.o BK499.o (by decide))) (fun _ hk => trivial)⟩
 have n1_ : Aq ((((w9.setCell ⟨gb499, 0, none⟩ (.int .i64 t492)).setCell ⟨gb499, 1, none⟩ (.int .i64 t493)).setCell ⟨gb499, 2, none⟩ (.slice Ao14 t494.length co14)).heap[gb489]? = some (.cells #[.int .i64 0, .int .i64 0, .slice none 0 0] 34 (0, 0))) := ⟨zbp BK489.o⟩
 have n2_ : Aq ((((w9.setCell ⟨gb499, 0, none⟩ (.int .i64 t492)).setCell ⟨gb499, 1, none⟩ (.int .i64 t493)).setCell ⟨gb499, 2, none⟩ (.slice Ao14 t494.length co14)).heap[gb490]? = some (.cells #[.int .i64 0, .int .i64 0, .slice none 0 0] 34 (0, 0))) := ⟨zbp BK490.o⟩
 have n3_ : Aq ((((w9.setCell ⟨gb499, 0, none⟩ (.int .i64 t492)).setCell ⟨gb499, 1, none⟩ (.int .i64 t493)).setCell ⟨gb499, 2, none⟩ (.slice Ao14 t494.length co14)).heap[gb499]? = some (.cells #[.int .i64 t492, .int .i64 t493, .slice Ao14 t494.length co14] 34 (0, 0))) := ⟨zbp BK499.o⟩
 have n4_ : Aq (I7 w (((w9.setCell ⟨gb499, 0, none⟩ (.int .i64 t492)).setCell ⟨gb499, 1, none⟩ (.int .i64 t493)).setCell ⟨gb499, 2, none⟩ (.slice Ao14 t494.length co14)) gb491 l0 t497 t498) := ⟨zhI71 HI491.o⟩
 have n5_ : Aq (Below w.heap.size w (((w9.setCell ⟨gb499, 0, none⟩ (.int .i64 t492)).setCell ⟨gb499, 1, none⟩ (.int .i64 t493)).setCell ⟨gb499, 2, none⟩ (.slice Ao14 t494.length co14))) := ⟨zhB HB.o⟩
 (try clear HO496)
 (try clear BK489)
 (try clear BK490)
 (try clear BK499)
 (try clear HI491)
 (try clear HB)
 generalize (((w9.setCell ⟨gb499, 0, none⟩ (.int .i64 t492)).setCell ⟨gb499, 1, none⟩ (.int .i64 t493)).setCell ⟨gb499, 2, none⟩ (.slice Ao14 t494.length co14)) = w15 at n0_ n1_ n2_ n3_ n4_ n5_ ⊢
 have HO496 := n0_
 have BK489 := n1_
 have BK490 := n2_
 have BK499 := n3_
 have HI491 := n4_
 have HB := n5_
 clear n0_ n1_ n2_ n3_ n4_ n5_
 replace HO496 := am (Kd.R_drew HO496.o)
 replace BK489 := am (blk_drew BK489.o)
 replace BK490 := am (blk_drew BK490.o)
 replace BK499 := am (blk_drew BK499.o)
 replace HI491 := am (I7.drew HI491.o)
 replace HB := am (below_drew1 HB.o)
 refine start_ (n := 12) (S := fun w' => zB3 w' gb499 (.int .i64 t492) (.int .i64 t493) (.slice Ao14 t494.length co14)) (ds := []) (zm 12 0) (by kernel_rfl) rfl rfl (zb3 BK499) (fun hHd => ?_); refine with_tabW qc.tab3 qc.bits3 (fun Tq Wq => ?_)
 generalize w15.drew = w16 at HO496 BK489 BK490 BK499 HI491 HB hHd ⊢
 refine zpu 0 14 (zm 12 1) Tq.o ?_
 refine zpu 3 17 (zm 12 9) Tq.o ?_
 refine zpu 6 20 (zm 12 73) Tq.o ?_
 refine take_ (i := 1) (N := some 15) (v := ?_) (a' := ?_) (zm 12 75) rfl rfl (take_ofW Tq.o Wq.o (by kernel_rfl)) (fun _ _ _ h => h) (Or.inl ⟨by rfl, ?_⟩) hHd ?_ ?_
 rotate_left
 ·rintro w' ⟨s0, s1, s2⟩
  go_simp
  with_reducible rfl
 rotate_left
 ·exact zpx
 refine zpu 2 16 (zm 12 79) Tq.o ?_
 refine take_ (i := 4) (N := some 18) (v := ?_) (a' := ?_) (zm 12 95) rfl rfl (take_ofW Tq.o Wq.o (by kernel_rfl)) (fun _ _ _ h => h) (Or.inl ⟨by rfl, ?_⟩) hHd ?_ ?_
 rotate_left
 ·rintro w' ⟨s0, s1, s2⟩
  go_simp
  with_reducible rfl
 rotate_left
 ·exact zpx
 refine take_ (i := 7) (N := some 21) (v := ?_) (a' := ?_) (zm 12 223) rfl rfl (take_ofW Tq.o Wq.o (by kernel_rfl)) (fun _ _ _ h => h) (Or.inl ⟨by rfl, ?_⟩) hHd ?_ ?_
 rotate_left
 ·rintro w' ⟨s0, s1, s2⟩
  go_simp
  with_reducible rfl
 rotate_left
 ·exact zpx
 refine join_ (σ := Value × Value × Nat) 1 (zm 12 2047) (fun s_ => [(19, s_.1), (22, s_.2.1), (6, .pointer (some ⟨s_.2.2, 0, none⟩)), (23, .agg #[.int .i64 (wrap64 (t492 + 1)), .int .i64 t493, s_.2.1])]) (fun s_ w' => (w'.cell? ⟨gb499, 0, none⟩ = some (.int .i64 t492) ∧ w'.cell? ⟨gb499, 1, none⟩ = some (.int .i64 t493) ∧ w'.cell? ⟨gb499, 2, none⟩ = some (.slice Ao14 t494.length co14)) ∧ (Kd.R k25 25 w' w.heap.size (fun k_ => some k_ ≠ (s_.2.1 : Value).ownBlock) (.slice Ao14 t494.length co14) t494) ∧ (Kd.R k25 25 w' w.heap.size (fun k_ => some k_ ≠ (.slice Ao14 t494.length co14 : Value).ownBlock) s_.2.1 y503) ∧ (w'.heap[gb489]? = some (.cells #[.int .i64 0, .int .i64 0, .slice none 0 0] 34 (0, 0))) ∧ (w'.heap[gb490]? = some (.cells #[.int .i64 0, .int .i64 0, .slice none 0 0] 34 (0, 0))) ∧ (w'.heap[gb499]? = some (.cells #[.int .i64 t492, .int .i64 t493, .slice Ao14 t494.length co14] 34 (0, 0))) ∧ (w'.heap[s_.2.2]? = some (.cells #[.int .i64 0, .int .i64 0, .slice none 0 0] 34 (0, 0))) ∧ (w.heap.size ≤ s_.2.2) ∧ (w.heap.size ≤ s_.2.2) ∧ (gb491 ≠ s_.2.2) ∧ (s_.2.2 ≠ gb491) ∧ (gb489 ≠ s_.2.2) ∧ (s_.2.2 ≠ gb489) ∧ (gb490 ≠ s_.2.2) ∧ (s_.2.2 ≠ gb490) ∧ (gb499 ≠ s_.2.2) ∧ (s_.2.2 ≠ gb499) ∧ (I7 w w' gb491 l0 t497 t498) ∧ (Below w.heap.size w w')) ?_ ?_
 rotate_left
 ·intro hCont
  refine two_ (i := 5) (j := 10) (Ni := some 19) (Nj := some 6) (zm 12 255) (zm 12 1247) rfl rfl rfl rfl (two_of Tq.o (by kernel_rfl)) (by decide) (by decide) (fun K hK => ?_) (fun K hK => ?_)
  ·skip
   refine Kd.R_lit_step k25 _ 25 ?hg (N := 19) ?hd (xs := ([] : List (S25))) (inner := []) (ok := fun _ => True) (okp := fun _ => True) ?hr ?hp (fun _ hk => hk) trivial (Below.refl _ _) (Nat.le_refl _) (by simp) ?_; (case hd => rfl); (case hg => rfl); (case hr => exact zsx); (case hp => exact (Reps.none _ _))
   intro v501 w17 ho18 hb hg_ hnew_
   clear hg_ hnew_
   (first | rw [← Ny500.o] at ho18 | (simp only [Int.reduceToNat] at ho18; rw [← Ny500.o] at ho18))
   have HO502 := am (Kd.R_lower (Kd.R_new' ho18 (Kd.R_lt (zRx HO496.o))) (below_size (zhB HB.o)))
   replace HO496 := am (Kd.R_elder' (zRx HO496.o) (Kd.R_base ho18) hb)
   replace BK489 := zbl BK489.o hb
   replace BK490 := zbl BK490.o hb
   replace HI491 := am (I7.below (zhI71 HI491.o) hb)
   replace BK499 := zbl BK499.o hb
   replace HB := zhs HB hb
   clear hb ho18
   refine hK.out _ _ (zb3 BK499) (fun hHd => ?_)
   clear hK K
   refine norm_ (a' := ?_) ?_ ?_
   rotate_left
   ·show Act.put _ (some 19) _ = _
    simp only [Act.put, List.setIfInBounds_toArray, List.set_cons_zero, List.set_cons_succ, i64_w, i32_w]
    rfl
   refine two_ (i := 8) (j := 10) (Ni := some 22) (Nj := some 6) (zm 12 511) (zm 12 1279) rfl rfl rfl rfl (two_of Tq.o (by kernel_rfl)) (by decide) (by decide) (fun K hK => ?_) (fun K hK => ?_)
   ·skip
    refine Kd.R_append_rows_step k25 (w0 := w) w.heap.size (by rfl) (.tmp 19) (.tmp 21) 32 25 (.agg #[(.int .i64 0), (.int .i64 0), (.int .i64 0), (.int .i64 0), (.int .i64 0), (.int .i64 0)]) 48 rfl Tryz.underlying32 info25 rfl (by decide) (by omega) v501 y500 t494 _ _ _ (fun k_ => some k_ ≠ (.slice Ao14 t494.length co14 : Value).ownBlock) (fun _ => False) rfl rfl ?aO ?aR (fun _ _ h => h) (fun _ h => h.elim) ?aF ?aB ?aS ?aL ?_
    (case aR => repeat (first | exact (Kd.R_reads' HO496.o).2.2 | (with_reducible refine Kd.C_alloc ?_ _) | (with_reducible refine Kd.C_drewN ?_ _) | (with_reducible refine Kd.C_drew ?_)))
    (case aB => exact (zhB HB.o))
    (case aF => exact (fun k_ hk => Kd.fresh' (Kd.R_lt (zRx HO496.o)) k_ hk))
    (case aO => exact (by refine zDR ?_; exact Kd.R_mono HO502.o (fun _ hk => hk.2)))
    (case aS => exact (below_size (zhB HB.o)))
    (case aL => have := LMc3.o; omega)
    intro v504 w19 ho hb hg hat
    rw [← Ny503.o] at ho
    replace BK489 := zgr BK489.o hg (Kd.R_ne HO502.o BK489.o (by decide))
    replace BK490 := zgr BK490.o hg (Kd.R_ne HO502.o BK490.o (by decide))
    replace HI491 := am (I7.grown (zhI71 HI491.o) hg (I7.own_ne HI491.o HO502.o (by decide)))
    replace HO496 := am (Kd.R_after (ok := (fun _ => True)) (zRx HO496.o) hg hat)
    replace BK499 := zgr BK499.o hg (Kd.R_ne HO502.o BK499.o (by decide))
    replace HB := am (hb)
    have HO505 := am (ho)
    clear HO502
    clear ho hb hg hat
    obtain ⟨Ao20, co20, eo20⟩ := Kd.R_slice HO505.o
    (first | subst eo20 | (injection eo20 with f1_ f2_ f3_; have f4_ := f1_.symm; have f5_ := f3_.symm; clear f1_ f2_ f3_; subst f4_; subst f5_))
    refine hK.out _ _ (zb3 BK499) (fun hHd => ?_)
    clear hK K
    refine norm_ (a' := ?_) ?_ ?_
    rotate_left
    ·show Act.put _ (some 22) _ = _
     simp only [Act.put, List.setIfInBounds_toArray, List.set_cons_zero, List.set_cons_succ, i64_w, i32_w]
     rfl
    refine zpu 9 23 (zm 12 1023) Tq.o ?_
    refine one_ (i := 10) (N := some 6) (zm 12 2047) rfl rfl (one_of Tq.o (by kernel_rfl)) (by decide) (fun K hK => ?_)
    refine box_step ?hg (N := 6) ?hd (cs := #[.int .i64 0, .int .i64 0, .slice none 0 0]) (t := 34) ?hr ?_; (case hd => rfl); (case hg => rfl); (case hr => exact zsx)
    intro gb506 hg w21 hbox hb
    replace HO496 := zro HO496 hb
    replace HO505 := zro HO505 hb
    have BK506 := am (hbox)
    have GW506 := zns hg HB.o
    have GE506 := zns hg HB.o
    replace HB := zhs HB hb
    have NB489_506 := znl hg BK489.o
    have NB506_489 := zng hg BK489.o
    replace BK489 := zbl BK489.o hb
    have NB490_506 := znl hg BK490.o
    have NB506_490 := zng hg BK490.o
    replace BK490 := zbl BK490.o hb
    have NB499_506 := znl hg BK499.o
    have NB506_499 := zng hg BK499.o
    replace BK499 := zbl BK499.o hb
    have NB491_506 := am ((by rw [hg]; exact Nat.ne_of_lt (I7.lt (show I7 w _ gb491 l0 t497 t498 from zhI71 HI491.o)) : gb491 ≠ gb506))
    have NB506_491 := am ((by rw [hg]; exact Nat.ne_of_gt (I7.lt (show I7 w _ gb491 l0 t497 t498 from zhI71 HI491.o)) : gb506 ≠ gb491))
    replace HI491 := am (I7.below (zhI71 HI491.o) hb)
    clear hb hbox hg
    refine hK.out _ _ (zb3 BK499) (fun hHd => ?_)
    clear hK K
    refine norm_ (a' := ?_) ?_ ?_
    rotate_left
    ·show Act.put _ (some 6) _ = _
     simp only [Act.put, List.setIfInBounds_toArray, List.set_cons_zero, List.set_cons_succ, i64_w, i32_w]
     rfl
    exact norm_ (by simp only [putAll, Act.put, List.setIfInBounds_toArray, List.set_cons_zero, List.set_cons_succ]) (hCont (v501, .slice Ao20 y503.length co20, gb506) _ ⟨hHd, (by refine zDR ?_; exact Kd.R_mono HO496.o (fun _ hk => hk.2)), (zRx HO505.o), (zbx BK489.o), (zbx BK490.o), (zbx BK499.o), (zbx BK506.o), GW506.o, GE506.o, NB491_506.o, NB506_491.o, NB489_506.o, NB506_489.o, NB490_506.o, NB506_490.o, NB499_506.o, NB506_499.o, (zhI71 HI491.o), (zhB HB.o)⟩)
   ·skip
    refine box_step ?hg (N := 6) ?hd (cs := #[.int .i64 0, .int .i64 0, .slice none 0 0]) (t := 34) ?hr ?_; (case hd => rfl); (case hg => rfl); (case hr => exact zsx)
    intro gb506 hg w19 hbox hb
    replace HO496 := zro HO496 hb
    replace HO502 := zro HO502 hb
    have BK506 := am (hbox)
    have GW506 := zns hg HB.o
    have GE506 := zns hg HB.o
    replace HB := zhs HB hb
    have NB489_506 := znl hg BK489.o
    have NB506_489 := zng hg BK489.o
    replace BK489 := zbl BK489.o hb
    have NB490_506 := znl hg BK490.o
    have NB506_490 := zng hg BK490.o
    replace BK490 := zbl BK490.o hb
    have NB499_506 := znl hg BK499.o
    have NB506_499 := zng hg BK499.o
    replace BK499 := zbl BK499.o hb
    have NB491_506 := am ((by rw [hg]; exact Nat.ne_of_lt (I7.lt (show I7 w _ gb491 l0 t497 t498 from zhI71 HI491.o)) : gb491 ≠ gb506))
    have NB506_491 := am ((by rw [hg]; exact Nat.ne_of_gt (I7.lt (show I7 w _ gb491 l0 t497 t498 from zhI71 HI491.o)) : gb506 ≠ gb491))
    replace HI491 := am (I7.below (zhI71 HI491.o) hb)
    clear hb hbox hg
    refine hK.out _ _ (zb3 BK499) (fun hHd => ?_)
    clear hK K
    refine norm_ (a' := ?_) ?_ ?_
    rotate_left
    ·show Act.put _ (some 6) _ = _
     simp only [Act.put, List.setIfInBounds_toArray, List.set_cons_zero, List.set_cons_succ, i64_w, i32_w]
     rfl
    refine one_ (i := 8) (N := some 22) (zm 12 1535) rfl rfl (one_of Tq.o (by kernel_rfl)) (by decide) (fun K hK => ?_)
    refine Kd.R_append_rows_step k25 (w0 := w) w.heap.size (by rfl) (.tmp 19) (.tmp 21) 32 25 (.agg #[(.int .i64 0), (.int .i64 0), (.int .i64 0), (.int .i64 0), (.int .i64 0), (.int .i64 0)]) 48 rfl Tryz.underlying32 info25 rfl (by decide) (by omega) v501 y500 t494 _ _ _ (fun k_ => some k_ ≠ (.slice Ao14 t494.length co14 : Value).ownBlock) (fun _ => False) rfl rfl ?aO ?aR (fun _ _ h => h) (fun _ h => h.elim) ?aF ?aB ?aS ?aL ?_
    (case aR => repeat (first | exact (Kd.R_reads' HO496.o).2.2 | (with_reducible refine Kd.C_alloc ?_ _) | (with_reducible refine Kd.C_drewN ?_ _) | (with_reducible refine Kd.C_drew ?_)))
    (case aB => exact (zhB HB.o))
    (case aF => exact (fun k_ hk => Kd.fresh' (Kd.R_lt (zRx HO496.o)) k_ hk))
    (case aO => exact (by refine zDR ?_; exact Kd.R_mono HO502.o (fun _ hk => hk.2)))
    (case aS => exact (below_size (zhB HB.o)))
    (case aL => have := LMc3.o; omega)
    intro v504 w20 ho hb hg hat
    rw [← Ny503.o] at ho
    replace BK489 := zgr BK489.o hg (Kd.R_ne HO502.o BK489.o (by decide))
    replace BK490 := zgr BK490.o hg (Kd.R_ne HO502.o BK490.o (by decide))
    replace HI491 := am (I7.grown (zhI71 HI491.o) hg (I7.own_ne HI491.o HO502.o (by decide)))
    replace HO496 := am (Kd.R_after (ok := (fun _ => True)) (zRx HO496.o) hg hat)
    replace BK499 := zgr BK499.o hg (Kd.R_ne HO502.o BK499.o (by decide))
    replace BK506 := zgr BK506.o hg (Kd.R_ne HO502.o BK506.o (by decide))
    replace HB := am (hb)
    have HO505 := am (ho)
    clear HO502
    clear ho hb hg hat
    obtain ⟨Ao21, co21, eo21⟩ := Kd.R_slice HO505.o
    (first | subst eo21 | (injection eo21 with f1_ f2_ f3_; have f4_ := f1_.symm; have f5_ := f3_.symm; clear f1_ f2_ f3_; subst f4_; subst f5_))
    refine hK.out _ _ (zb3 BK499) (fun hHd => ?_)
    clear hK K
    refine norm_ (a' := ?_) ?_ ?_
    rotate_left
    ·show Act.put _ (some 22) _ = _
     simp only [Act.put, List.setIfInBounds_toArray, List.set_cons_zero, List.set_cons_succ, i64_w, i32_w]
     rfl
    refine zpu 9 23 (zm 12 2047) Tq.o ?_
    exact norm_ (by simp only [putAll, Act.put, List.setIfInBounds_toArray, List.set_cons_zero, List.set_cons_succ]) (hCont (v501, .slice Ao21 y503.length co21, gb506) _ ⟨hHd, (by refine zDR ?_; exact Kd.R_mono HO496.o (fun _ hk => hk.2)), (zRx HO505.o), (zbx BK489.o), (zbx BK490.o), (zbx BK499.o), (zbx BK506.o), GW506.o, GE506.o, NB491_506.o, NB506_491.o, NB489_506.o, NB506_489.o, NB490_506.o, NB506_490.o, NB499_506.o, NB506_499.o, (zhI71 HI491.o), (zhB HB.o)⟩)
  ·skip
   refine box_step ?hg (N := 6) ?hd (cs := #[.int .i64 0, .int .i64 0, .slice none 0 0]) (t := 34) ?hr ?_; (case hd => rfl); (case hg => rfl); (case hr => exact zsx)
   intro gb506 hg w17 hbox hb
   replace HO496 := zro HO496 hb
   have BK506 := am (hbox)
   have GW506 := zns hg HB.o
   have GE506 := zns hg HB.o
   replace HB := zhs HB hb
   have NB489_506 := znl hg BK489.o
   have NB506_489 := zng hg BK489.o
   replace BK489 := zbl BK489.o hb
   have NB490_506 := znl hg BK490.o
   have NB506_490 := zng hg BK490.o
   replace BK490 := zbl BK490.o hb
   have NB499_506 := znl hg BK499.o
   have NB506_499 := zng hg BK499.o
   replace BK499 := zbl BK499.o hb
   have NB491_506 := am ((by rw [hg]; exact Nat.ne_of_lt (I7.lt (show I7 w _ gb491 l0 t497 t498 from zhI71 HI491.o)) : gb491 ≠ gb506))
   have NB506_491 := am ((by rw [hg]; exact Nat.ne_of_gt (I7.lt (show I7 w _ gb491 l0 t497 t498 from zhI71 HI491.o)) : gb506 ≠ gb491))
   replace HI491 := am (I7.below (zhI71 HI491.o) hb)
   clear hb hbox hg
   refine hK.out _ _ (zb3 BK499) (fun hHd => ?_)
   clear hK K
   refine norm_ (a' := ?_) ?_ ?_
   rotate_left
   ·show Act.put _ (some 6) _ = _
    simp only [Act.put, List.setIfInBounds_toArray, List.set_cons_zero, List.set_cons_succ, i64_w, i32_w]
    rfl
   refine one_ (i := 5) (N := some 19) (zm 12 1279) rfl rfl (one_of Tq.o (by kernel_rfl)) (by decide) (fun K hK => ?_)
   refine Kd.R_lit_step k25 _ 25 ?hg (N := 19) ?hd (xs := ([] : List (S25))) (inner := []) (ok := fun _ => True) (okp := fun _ => True) ?hr ?hp (fun _ hk => hk) trivial (Below.refl _ _) (Nat.le_refl _) (by simp) ?_; (case hd => rfl); (case hg => rfl); (case hr => exact zsx); (case hp => exact (Reps.none _ _))
   intro v501 w18 ho19 hb hg_ hnew_
   clear hg_ hnew_
   (first | rw [← Ny500.o] at ho19 | (simp only [Int.reduceToNat] at ho19; rw [← Ny500.o] at ho19))
   have HO502 := am (Kd.R_lower (Kd.R_new' ho19 (Kd.R_lt (zRx HO496.o))) (below_size (zhB HB.o)))
   replace HO496 := am (Kd.R_elder' (zRx HO496.o) (Kd.R_base ho19) hb)
   replace BK489 := zbl BK489.o hb
   replace BK490 := zbl BK490.o hb
   replace HI491 := am (I7.below (zhI71 HI491.o) hb)
   replace BK499 := zbl BK499.o hb
   replace BK506 := zbl BK506.o hb
   replace HB := zhs HB hb
   clear hb ho19
   refine hK.out _ _ (zb3 BK499) (fun hHd => ?_)
   clear hK K
   refine norm_ (a' := ?_) ?_ ?_
   rotate_left
   ·show Act.put _ (some 19) _ = _
    simp only [Act.put, List.setIfInBounds_toArray, List.set_cons_zero, List.set_cons_succ, i64_w, i32_w]
    rfl
   refine one_ (i := 8) (N := some 22) (zm 12 1535) rfl rfl (one_of Tq.o (by kernel_rfl)) (by decide) (fun K hK => ?_)
   refine Kd.R_append_rows_step k25 (w0 := w) w.heap.size (by rfl) (.tmp 19) (.tmp 21) 32 25 (.agg #[(.int .i64 0), (.int .i64 0), (.int .i64 0), (.int .i64 0), (.int .i64 0), (.int .i64 0)]) 48 rfl Tryz.underlying32 info25 rfl (by decide) (by omega) v501 y500 t494 _ _ _ (fun k_ => some k_ ≠ (.slice Ao14 t494.length co14 : Value).ownBlock) (fun _ => False) rfl rfl ?aO ?aR (fun _ _ h => h) (fun _ h => h.elim) ?aF ?aB ?aS ?aL ?_
   (case aR => repeat (first | exact (Kd.R_reads' HO496.o).2.2 | (with_reducible refine Kd.C_alloc ?_ _) | (with_reducible refine Kd.C_drewN ?_ _) | (with_reducible refine Kd.C_drew ?_)))
   (case aB => exact (zhB HB.o))
   (case aF => exact (fun k_ hk => Kd.fresh' (Kd.R_lt (zRx HO496.o)) k_ hk))
   (case aO => exact (by refine zDR ?_; exact Kd.R_mono HO502.o (fun _ hk => hk.2)))
   (case aS => exact (below_size (zhB HB.o)))
   (case aL => have := LMc3.o; omega)
   intro v504 w20 ho hb hg hat
   rw [← Ny503.o] at ho
   replace BK489 := zgr BK489.o hg (Kd.R_ne HO502.o BK489.o (by decide))
   replace BK490 := zgr BK490.o hg (Kd.R_ne HO502.o BK490.o (by decide))
   replace HI491 := am (I7.grown (zhI71 HI491.o) hg (I7.own_ne HI491.o HO502.o (by decide)))
   replace HO496 := am (Kd.R_after (ok := (fun _ => True)) (zRx HO496.o) hg hat)
   replace BK499 := zgr BK499.o hg (Kd.R_ne HO502.o BK499.o (by decide))
   replace BK506 := zgr BK506.o hg (Kd.R_ne HO502.o BK506.o (by decide))
   replace HB := am (hb)
   have HO505 := am (ho)
   clear HO502
   clear ho hb hg hat
   obtain ⟨Ao21, co21, eo21⟩ := Kd.R_slice HO505.o
   (first | subst eo21 | (injection eo21 with f1_ f2_ f3_; have f4_ := f1_.symm; have f5_ := f3_.symm; clear f1_ f2_ f3_; subst f4_; subst f5_))
   refine hK.out _ _ (zb3 BK499) (fun hHd => ?_)
   clear hK K
   refine norm_ (a' := ?_) ?_ ?_
   rotate_left
   ·show Act.put _ (some 22) _ = _
    simp only [Act.put, List.setIfInBounds_toArray, List.set_cons_zero, List.set_cons_succ, i64_w, i32_w]
    rfl
   refine zpu 9 23 (zm 12 2047) Tq.o ?_
   exact norm_ (by simp only [putAll, Act.put, List.setIfInBounds_toArray, List.set_cons_zero, List.set_cons_succ]) (hCont (v501, .slice Ao21 y503.length co21, gb506) _ ⟨hHd, (by refine zDR ?_; exact Kd.R_mono HO496.o (fun _ hk => hk.2)), (zRx HO505.o), (zbx BK489.o), (zbx BK490.o), (zbx BK499.o), (zbx BK506.o), GW506.o, GE506.o, NB491_506.o, NB506_491.o, NB489_506.o, NB506_489.o, NB490_506.o, NB506_490.o, NB499_506.o, NB506_499.o, (zhI71 HI491.o), (zhB HB.o)⟩)
 rintro ⟨v501, v504, gb506⟩ w22 ⟨hS_, h0_, h1_, h2_, h3_, h4_, h5_, h6_, h7_, h8_, h9_, h10_, h11_, h12_, h13_, h14_, h15_, h16_, h17_⟩
 replace HO496 : Aq (Kd.R k25 25 w22 w.heap.size (fun k_ => some k_ ≠ (v504 : Value).ownBlock) (.slice Ao14 t494.length co14) t494) := ⟨h0_⟩
 have HO505 : Aq (Kd.R k25 25 w22 w.heap.size (fun k_ => some k_ ≠ (.slice Ao14 t494.length co14 : Value).ownBlock) v504 y503) := ⟨h1_⟩
 replace BK489 : Aq (w22.heap[gb489]? = some (.cells #[.int .i64 0, .int .i64 0, .slice none 0 0] 34 (0, 0))) := ⟨h2_⟩
 replace BK490 : Aq (w22.heap[gb490]? = some (.cells #[.int .i64 0, .int .i64 0, .slice none 0 0] 34 (0, 0))) := ⟨h3_⟩
 replace BK499 : Aq (w22.heap[gb499]? = some (.cells #[.int .i64 t492, .int .i64 t493, .slice Ao14 t494.length co14] 34 (0, 0))) := ⟨h4_⟩
 have BK506 : Aq (w22.heap[gb506]? = some (.cells #[.int .i64 0, .int .i64 0, .slice none 0 0] 34 (0, 0))) := ⟨h5_⟩
 have GW506 : Aq (w.heap.size ≤ gb506) := ⟨h6_⟩
 have GE506 : Aq (w.heap.size ≤ gb506) := ⟨h7_⟩
 have NB491_506 : Aq (gb491 ≠ gb506) := ⟨h8_⟩
 have NB506_491 : Aq (gb506 ≠ gb491) := ⟨h9_⟩
 have NB489_506 : Aq (gb489 ≠ gb506) := ⟨h10_⟩
 have NB506_489 : Aq (gb506 ≠ gb489) := ⟨h11_⟩
 have NB490_506 : Aq (gb490 ≠ gb506) := ⟨h12_⟩
 have NB506_490 : Aq (gb506 ≠ gb490) := ⟨h13_⟩
 have NB499_506 : Aq (gb499 ≠ gb506) := ⟨h14_⟩
 have NB506_499 : Aq (gb506 ≠ gb499) := ⟨h15_⟩
 replace HI491 : Aq (I7 w w22 gb491 l0 t497 t498) := ⟨h16_⟩
 replace HB : Aq (Below w.heap.size w w22) := ⟨h17_⟩
 clear h0_
 clear h1_
 clear h2_
 clear h3_
 clear h4_
 clear h5_
 clear h6_
 clear h7_
 clear h8_
 clear h9_
 clear h10_
 clear h11_
 clear h12_
 clear h13_
 clear h14_
 clear h15_
 clear h16_
 clear h17_
 have hHd : w22.cell? ⟨gb499, 0, none⟩ = some (.int .i64 t492) ∧ w22.cell? ⟨gb499, 1, none⟩ = some (.int .i64 t493) ∧ w22.cell? ⟨gb499, 2, none⟩ = some (.slice Ao14 t494.length co14) := hS_
 obtain ⟨Ao23, co23, eo23⟩ := Kd.R_slice HO505.o
 (first | subst eo23 | (injection eo23 with f1_ f2_ f3_; have f4_ := f1_.symm; have f5_ := f3_.symm; clear f1_ f2_ f3_; subst f4_; subst f5_))
 refine norm_ (a' := ?_) ?_ ?_
 rotate_left
 ·simp only [putAll, Act.put, List.setIfInBounds_toArray, List.set_cons_zero, List.set_cons_succ]
  rfl
 refine one_ (i := 11) (N := none) (zm 12 4095) rfl rfl (one_of Tq.o (by kernel_rfl)) (by decide) (fun K hK => ?_)
 have hs24 : w22.cell? ⟨gb506, 0, none⟩ = some (.int .i64 0) := (bkc BK506.o 0).trans rfl
 have hfs24 := bkf BK506.o 0
 have hns24_0 := NB489_506.o
 have hns24_1 := NB490_506.o
 have hns24_2 := NB499_506.o
 have hms24_0 := NB506_489.o
 have hms24_1 := NB506_490.o
 have hms24_2 := NB506_499.o
 have hs25 : w22.cell? ⟨gb506, 1, none⟩ = some (.int .i64 0) := (bkc BK506.o 1).trans rfl
 have hfs25 := bkf BK506.o 1
 have hns25_0 := NB489_506.o
 have hns25_1 := NB490_506.o
 have hns25_2 := NB499_506.o
 have hms25_0 := NB506_489.o
 have hms25_1 := NB506_490.o
 have hms25_2 := NB506_499.o
 have hs26 : w22.cell? ⟨gb506, 2, none⟩ = some (.slice none 0 0) := (bkc BK506.o 2).trans rfl
 have hfs26 := bkf BK506.o 2
 have hns26_0 := NB489_506.o
 have hns26_1 := NB490_506.o
 have hns26_2 := NB499_506.o
 have hms26_0 := NB506_489.o
 have hms26_1 := NB506_490.o
 have hms26_2 := NB506_499.o
 refine skip_ (w1 := ?_) (by rfl) rfl ?_ ?_
 rotate_left
 ·go_simp
  rfl
 refine hK.out _ _ ⟨((cell_far (p := ⟨gb506, _, none⟩) NB499_506.o _).trans (((cell_far (p := ⟨gb506, _, none⟩) NB499_506.o _).trans (((cell_far (p := ⟨gb506, _, none⟩) NB499_506.o _).trans (hHd.1)))))), ((cell_far (p := ⟨gb506, _, none⟩) NB499_506.o _).trans (((cell_far (p := ⟨gb506, _, none⟩) NB499_506.o _).trans (((cell_far (p := ⟨gb506, _, none⟩) NB499_506.o _).trans (hHd.2.1)))))), ((cell_far (p := ⟨gb506, _, none⟩) NB499_506.o _).trans (((cell_far (p := ⟨gb506, _, none⟩) NB499_506.o _).trans (((cell_far (p := ⟨gb506, _, none⟩) NB499_506.o _).trans (hHd.2.2))))))⟩ (fun hHd => ?_)
 clear hK K
 refine done_ (done_of Tq.o (by kernel_rfl)) ?_
 go_upto_region 4 with (fail)
 go_cut [31] (fun v31 wc => ∃ (kq : Nat) (x31_3 : Bool) (x492001_3 : Int) (x492002_3 : Int), v31 = .bool x31_3 ∧ Aq (qc.j0 kq x31_3 l0 x492001_3 x492002_3 t492 t493 t494 (wrap64 (t492 + 1)) t493 y503 = some (r1, r2, r3, r4, r5, r6)) ∧ Aq (kq ≤ k) ∧ Aq (Kd.Q k25 25 wc w.heap.size (fun k_ => some k_ ≠ ((.slice Ao23 y503.length co23) : Value).ownBlock) (.slice Ao14 t494.length co14) t494) ∧ Aq (Kd.Q k25 25 wc w.heap.size (fun k_ => some k_ ≠ ((.slice Ao14 t494.length co14) : Value).ownBlock) (.slice Ao23 y503.length co23) y503) ∧ Aq (wc.heap[gb489]? = some (.cells #[.int .i64 0, .int .i64 0, (.slice none 0 0)] 34 (0, 0))) ∧ Aq (wc.heap[gb490]? = some (.cells #[.int .i64 0, .int .i64 0, (.slice none 0 0)] 34 (0, 0))) ∧ Aq (wc.heap[gb499]? = some (.cells #[.int .i64 t492, .int .i64 t493, (.slice Ao14 t494.length co14)] 34 (0, 0))) ∧ Aq (wc.heap[gb506]? = some (.cells #[.int .i64 (wrap64 (t492 + 1)), .int .i64 t493, (.slice Ao23 y503.length co23)] 34 (0, 0))) ∧ Aq (I7 w wc gb491 l0 x492001_3 x492002_3) ∧ Aq (Below w.heap.size w wc))
 case first =>
  have H := HC4.o
  clear HC4
  by_cases c27 : (y503.length : Int) > 0
  rotate_left
  ·rw [if_neg c27] at H
   have c27b0 := decide_eq_false c27
   have c27b1 : decide (0 < y503.length) = false := decide_eq_false (by omega)
   clear c27
   (first | rw [c27b0] | (simp only [i64_w, i32_w]; rw [c27b0]) | skip)
   focus
    have H' := am H
    clear H
    have hnb35 := NB506_489.o
    have hnc35 := NB489_506.o
    have hnb36 := NB506_490.o
    have hnc36 := NB490_506.o
    have hnb37 := NB506_499.o
    have hnc37 := NB499_506.o
    have hnb38 := NB506_491.o
    have hnc38 := NB491_506.o
    have hcz39 := zc3 BK506.o
    go_wp2
    go_meet
    case rel => exact ⟨_, (false), (t497), (t498), zrx, H', ⟨by first | omega | exact Nat.le_refl _⟩, ⟨Kd.Q_of_R (by refine zDR ?_; exact Kd.R_mono (zRf (Kd.R_types HO496.o BK506.o (by decide))) (fun _ hk => hk.1))⟩, ⟨Kd.Q_of_R (by refine zDR ?_; exact Kd.R_mono (zRf (Kd.R_types HO505.o BK506.o (by decide))) (fun _ hk => hk.1))⟩, ⟨zbp BK489.o⟩, ⟨zbp BK490.o⟩, ⟨zbp BK499.o⟩, ⟨zbp BK506.o⟩, ⟨zhI71 HI491.o⟩, ⟨zhB HB.o⟩⟩
  rw [if_pos c27] at H
  have c27b0 := decide_eq_true c27
  have c27b1 : decide (0 < y503.length) = true := decide_eq_true (by omega)
  clear c27
  (first | rw [c27b0] | (simp only [i64_w, i32_w]; rw [c27b0]) | skip)
  obtain ⟨⟨t507, t508, t509⟩, A28, H⟩ := zob H
  try dsimp only at H
  focus
   have H' := am H
   clear H
   have hnb29 := NB506_489.o
   have hnc29 := NB489_506.o
   have hnb30 := NB506_490.o
   have hnc30 := NB490_506.o
   have hnb31 := NB506_499.o
   have hnc31 := NB499_506.o
   have hnb32 := NB506_491.o
   have hnc32 := NB491_506.o
   have hcz33 := zc3 BK506.o
   go_wp2_with (first | (go_at_call 50; (with_reducible refine (qC.calls gb491 l0 t497 t498 2 t507 t508 t509 w _ ?side1 ?side2 A28.o).mono ?_); (case side1 => exact zhI71 HI491.o); (case side2 => exact zhB HB.o); rintro e w34 ⟨rfl, hi, hb, hk⟩; replace BK489 := zkb hk BK489.o NB489_491.o; replace BK490 := zkb hk BK490.o NB490_491.o; replace HO496 := am (Kd.R_mono (Kd.R_keep (I7.apart (show I7 w _ gb491 l0 t497 t498 from zhI71 HI491.o) (by (with_reducible repeat (first | apply Kd.R_alloc | apply Kd.R_drewN | apply Kd.R_drew)); exact (Kd.R_mono (zRf (Kd.R_types HO496.o BK506.o (by decide))) (fun _ h_ => h_.1))) (by decide)) hk (fun _ h => h.2)) (fun _ h => h.1)); replace BK499 := zkb hk BK499.o NB499_491.o; replace HO505 := am (Kd.R_mono (Kd.R_keep (I7.apart (show I7 w _ gb491 l0 t497 t498 from zhI71 HI491.o) (by (with_reducible repeat (first | apply Kd.R_alloc | apply Kd.R_drewN | apply Kd.R_drew)); exact (Kd.R_mono (zRf (Kd.R_types HO505.o BK506.o (by decide))) (fun _ h_ => h_.1))) (by decide)) hk (fun _ h => h.2)) (fun _ h => h.1)); replace BK506 := am (Kq.blk hk (g' := gb506) (o := .cells #[.int .i64 (wrap64 (t492 + 1)), .int .i64 t493, .slice Ao23 y503.length co23] 34 (0, 0)) (zbp BK506.o) NB506_491.o (by simp)); replace HB := am (hb); replace HI491 := am (hi); clear hb hk hi))
   go_meet
   case rel => exact ⟨_, (t507), (t508), (t509), zrx, H', ⟨by first | omega | exact Nat.le_refl _⟩, ⟨Kd.Q_of_R (zRx HO496.o)⟩, ⟨Kd.Q_of_R (zRx HO505.o)⟩, ⟨zbx BK489.o⟩, ⟨zbx BK490.o⟩, ⟨zbx BK499.o⟩, ⟨zbx BK506.o⟩, ⟨zhI71 HI491.o⟩, ⟨zhB HB.o⟩⟩
 case rest =>
  clear HC4
  try clear c3
  obtain ⟨kq, x31_3, x492001_3, x492002_3, rfl, HA, HJ3, HO_500002, HO_507002, BK489, BK490, BK499, BK506, HI491, HB⟩ := hcut
  cases kq with
  | zero => exact absurd HA.o (by simp [qc.j0])
  | succ kj3 =>
   have H := HA.o
   clear HA
   simp only [qc.j0] at H
   have HC40 := am H
   clear H
   go_upto_if 31 with (fail)
   go_cut [] (fun wc => ∃ (kq : Nat) (x492001_39 : Int) (x492002_39 : Int) (x500002_39 : List (S25)) (x507002_39 : List (S25)) (u500002 : Value) (u507002 : Value), Aq (qc.j1 kq l0 x492001_39 x492002_39 t492 t493 x500002_39 (wrap64 (t492 + 1)) t493 x507002_39 = some (r1, r2, r3, r4, r5, r6)) ∧ Aq (kq ≤ kj3) ∧ Aq (Kd.Q k25 25 wc w.heap.size (fun k_ => some k_ ≠ (u507002 : Value).ownBlock) u500002 x500002_39) ∧ Aq (Kd.Q k25 25 wc w.heap.size (fun k_ => some k_ ≠ (u500002 : Value).ownBlock) u507002 x507002_39) ∧ Aq (wc.heap[gb489]? = some (.cells #[.int .i64 0, .int .i64 0, (.slice none 0 0)] 34 (0, 0))) ∧ Aq (wc.heap[gb490]? = some (.cells #[.int .i64 0, .int .i64 0, (.slice none 0 0)] 34 (0, 0))) ∧ Aq (wc.heap[gb499]? = some (.cells #[.int .i64 t492, .int .i64 t493, u500002] 34 (0, 0))) ∧ Aq (wc.heap[gb506]? = some (.cells #[.int .i64 (wrap64 (t492 + 1)), .int .i64 t493, u507002] 34 (0, 0))) ∧ Aq (I7 w wc gb491 l0 x492001_39 x492002_39) ∧ Aq (Below w.heap.size w wc))
   case first =>
    have H := HC40.o
    clear HC40
    by_cases c41 : x31_3 = true
    rotate_left
    ·replace c41 := Bool.eq_false_iff.mpr c41
     subst c41
     rw [if_neg (show ¬ (false = true) by decide)] at H
     focus
      have H' := am H
      clear H
      go_wp2
      go_meet
      case rel => exact ⟨_, (x492001_3), (x492002_3), (t494), (y503), (.slice Ao14 t494.length co14), (.slice Ao23 y503.length co23), H', ⟨by have := HJ3.o; first | omega | exact Nat.le_refl _⟩, ⟨zDQ HO_500002.o⟩, ⟨zDQ HO_507002.o⟩, ⟨zbx BK489.o⟩, ⟨zbx BK490.o⟩, ⟨zbx BK499.o⟩, ⟨zbx BK506.o⟩, ⟨zhI71 HI491.o⟩, ⟨zhB HB.o⟩⟩
    subst c41
    rw [if_pos rfl] at H
    obtain ⟨⟨t510, t511, t512⟩, A42, H⟩ := zob H
    try dsimp only at H
    obtain ⟨c43, H⟩ := zin H
    have c43b0 := decide_eq_true c43
    clear c43
    (first | rw [c43b0] | (simp only [i64_w, i32_w]; rw [c43b0]) | skip)
    obtain ⟨c44, H⟩ := zin H
    have c44b0 := decide_eq_true c44
    clear c44
    obtain ⟨y515, hy515⟩ : ∃ y_ : List (S25), y_ = (y503.set (t510 : Int).toNat (⟨(qa y503 t510).f0, (qa y503 t510).f1, wrap64 (1 + (Int.tmod ((qa y503 t510).f2) 3)), (qa y503 t510).f3, (qa y503 t510).f4, (qa y503 t510).f5⟩ : S25)) := ⟨_, rfl⟩
    replace H : (qc.j1 kj3 l0 t511 t512 t492 t493 t494 (wrap64 (t492 + 1)) t493 y515) = some (r1, r2, r3, r4, r5, r6) := by rw [hy515]; exact H
    have Ny515 := am hy515
    clear hy515
    focus
     have H' := am H
     clear H
     have hnb46 := NB506_489.o
     have hnc46 := NB489_506.o
     have hnb47 := NB506_490.o
     have hnc47 := NB490_506.o
     have hnb48 := NB506_499.o
     have hnc48 := NB499_506.o
     have hnb49 := NB506_491.o
     have hnc49 := NB491_506.o
     have hcz50 := zc3 BK506.o
     go_wp2_with (first | ((with_reducible refine zgc 75 rfl ?_); refine zgl 36 Tryz.func75 #[.pointer (some ⟨gb491, 0, none⟩), .int .i64 (y503.length : Int)] ?_; (with_reducible refine (qb.calls gb491 l0 x492001_3 x492002_3 (y503.length : Int) t510 t511 t512 w _ ?side1 ?side2 A42.o).mono ?_); (case side1 => exact zhI71 HI491.o); (case side2 => exact zhB HB.o); rintro e w51 ⟨rfl, hi, hb, hk⟩; refine ⟨_, rfl, ?_⟩; replace HO_500002 := am (Kd.Q_mono (Kd.Q_keep (I7.apartQ (show I7 w _ gb491 l0 x492001_3 x492002_3 from zhI71 HI491.o) (zDQ HO_500002.o) (by decide)) hk (fun _ h => h.2)) (fun _ h => h.1)); replace HO_507002 := am (Kd.Q_mono (Kd.Q_keep (I7.apartQ (show I7 w _ gb491 l0 x492001_3 x492002_3 from zhI71 HI491.o) (zDQ HO_507002.o) (by decide)) hk (fun _ h => h.2)) (fun _ h => h.1)); replace BK489 := zkb hk BK489.o NB489_491.o; replace BK490 := zkb hk BK490.o NB490_491.o; replace BK499 := zkb hk BK499.o NB499_491.o; replace BK506 := zkb hk BK506.o NB506_491.o; replace HB := am (hb); replace HI491 := am (hi); clear hb hk hi; have hcz52 := zc3 BK506.o; have p513 : 0 ≤ (t510 : Int) := of_decide_eq_true zax; have q513 : t510 < (y503.length : Int) := of_decide_eq_true zax; obtain ⟨ad513, e513, hx513_0, hx513_1, hx513_2, hx513_3, hx513_4, hx513_5⟩ := at_T25 (Kd.Q_reads' HO_507002.o).2.2 t510 p513 q513; cases e513; replace p513 := eq_true p513; replace q513 := eq_true q513) | ((with_reducible refine zgd 8 rfl ?_); refine zbe 8 #[.int .i64 0, .int .i64 0, .int .i64 0, .int .i64 0, .int .i64 0, .int .i64 0] 25 ?_; intro gb514 hg w53 hbox hb; replace HO_500002 := am (Kd.Q_below (Kd.Q_elderB (zDQ HO_500002.o) gb514 (Nat.le_of_eq hg.symm)) hb); replace HO_507002 := am (Kd.Q_below (Kd.Q_elderB (zDQ HO_507002.o) gb514 (Nat.le_of_eq hg.symm)) hb); have BK514 := am (hbox); have GW514 := zns hg HB.o; have GE514 := zns hg HB.o; replace HB := zhs HB hb; have NB489_514 := znl hg BK489.o; have NB514_489 := zng hg BK489.o; replace BK489 := zbl BK489.o hb; have NB490_514 := znl hg BK490.o; have NB514_490 := zng hg BK490.o; replace BK490 := zbl BK490.o hb; have NB499_514 := znl hg BK499.o; have NB514_499 := zng hg BK499.o; replace BK499 := zbl BK499.o hb; have NB506_514 := znl hg BK506.o; have NB514_506 := zng hg BK506.o; replace BK506 := zbl BK506.o hb; have NB491_514 := am ((by rw [hg]; exact Nat.ne_of_lt (I7.lt (show I7 w _ gb491 l0 t511 t512 from zhI71 HI491.o)) : gb491 ≠ gb514)); have NB514_491 := am ((by rw [hg]; exact Nat.ne_of_gt (I7.lt (show I7 w _ gb491 l0 t511 t512 from zhI71 HI491.o)) : gb514 ≠ gb491)); replace HI491 := am (I7.below (zhI71 HI491.o) hb); clear hb hbox hg; have hnb54 := NB514_489.o; have hnc54 := NB489_514.o; have hnb55 := NB514_490.o; have hnc55 := NB490_514.o; have hnb56 := NB514_499.o; have hnc56 := NB499_514.o; have hnb57 := NB514_506.o; have hnc57 := NB506_514.o; have hnb58 := NB514_491.o; have hnc58 := NB491_514.o; have hcz59 := zc6 BK514.o) | ((with_reducible refine gate_store (t := 25) (p := 8) rfl ?_); refine store_event (t := 25) (p := 8) (v := ?vo_w60) (w1 := ((((((w53.setCell ⟨gb514, 0, none⟩ (.int .i64 ((qa y503 t510).f0))).setCell ⟨gb514, 1, none⟩ (.int .i64 ((qa y503 t510).f1))).setCell ⟨gb514, 2, none⟩ (.int .i64 ((qa y503 t510).f2))).setCell ⟨gb514, 3, none⟩ (.int .i64 ((qa y503 t510).f3))).setCell ⟨gb514, 4, none⟩ (.int .i64 ((qa y503 t510).f4))).setCell ⟨gb514, 5, none⟩ (.int .i64 ((qa y503 t510).f5)))) ?hg ?ho ?hn ?hr ?_; (case ho => rfl); (case hg => rfl); (case hn => rfl); (case hr => exact zsx); intro w60 hw; replace HO_500002 : Aq (Kd.Q k25 25 w60 w.heap.size (fun k_ => some k_ ≠ (.slice (some ad513) y503.length co23 : Value).ownBlock ∧ k_ ≠ gb514) (.slice Ao14 t494.length co14) t494) := ⟨(by rw [hw]; exact (by refine zDQ ?_; exact Kd.Q_mono (zQf (Kd.Q_mono HO_500002.o (fun k_ hk => (⟨hk, hk.2⟩ : _ ∧ k_ ≠ gb514)))) (fun _ hk => by first | exact ⟨hk.1.1, hk.1.2⟩ | exact ⟨hk.1.2, hk.1.1⟩ | grind)))⟩; replace HO_507002 : Aq (Kd.Q k25 25 w60 w.heap.size (fun k_ => some k_ ≠ (.slice Ao14 t494.length co14 : Value).ownBlock ∧ k_ ≠ gb514) (.slice (some ad513) y503.length co23) y503) := ⟨(by rw [hw]; exact (by refine zDQ ?_; exact Kd.Q_mono (zQf (Kd.Q_mono HO_507002.o (fun k_ hk => (⟨hk, hk.2⟩ : _ ∧ k_ ≠ gb514)))) (fun _ hk => by first | exact ⟨hk.1.1, hk.1.2⟩ | exact ⟨hk.1.2, hk.1.1⟩ | grind)))⟩; replace BK489 : Aq (w60.heap[gb489]? = some (.cells #[.int .i64 0, .int .i64 0, .slice none 0 0] 34 (0, 0))) := ⟨(by rw [hw]; exact (zbq BK489.o))⟩; replace BK490 : Aq (w60.heap[gb490]? = some (.cells #[.int .i64 0, .int .i64 0, .slice none 0 0] 34 (0, 0))) := ⟨(by rw [hw]; exact (zbq BK490.o))⟩; replace BK499 : Aq (w60.heap[gb499]? = some (.cells #[.int .i64 t492, .int .i64 t493, .slice Ao14 t494.length co14] 34 (0, 0))) := ⟨(by rw [hw]; exact (zbq BK499.o))⟩; replace BK506 : Aq (w60.heap[gb506]? = some (.cells #[.int .i64 (wrap64 (t492 + 1)), .int .i64 t493, .slice (some ad513) y503.length co23] 34 (0, 0))) := ⟨(by rw [hw]; exact (zbq BK506.o))⟩; replace BK514 : Aq (w60.heap[gb514]? = some (.cells #[.int .i64 ((qa y503 t510).f0), .int .i64 ((qa y503 t510).f1), .int .i64 ((qa y503 t510).f2), .int .i64 ((qa y503 t510).f3), .int .i64 ((qa y503 t510).f4), .int .i64 ((qa y503 t510).f5)] 25 (0, 0))) := ⟨(by rw [hw]; exact (zbp BK514.o))⟩; replace HI491 : Aq (I7 w w60 gb491 l0 t511 t512) := ⟨(by rw [hw]; exact (zhI71 HI491.o))⟩; replace HB : Aq (Below w.heap.size w w60) := ⟨(by rw [hw]; exact (zhB HB.o))⟩; clear hw; have hcz61 := zc6 BK514.o) | ((with_reducible refine gate_store (t := 3) (p := 46) rfl ?_); refine store_event (t := 3) (p := 46) (v := ?vo_w62) (w1 := (w60.setCell ⟨gb514, 2, none⟩ (.int .i64 (wrap64 (1 + (Int.tmod ((qa y503 t510).f2) 3)))))) ?hg ?ho ?hn ?hr ?_; (case ho => rfl); (case hg => rfl); (case hn => rfl); (case hr => exact zsx); intro w62 hw; replace HO_500002 : Aq (Kd.Q k25 25 w62 w.heap.size (fun k_ => some k_ ≠ (.slice (some ad513) y503.length co23 : Value).ownBlock ∧ k_ ≠ gb514) (.slice Ao14 t494.length co14) t494) := ⟨(by rw [hw]; exact (by refine zDQ ?_; exact Kd.Q_mono (Kd.Q_far (p := ⟨gb514, 2, none⟩) (Kd.Q_mono HO_500002.o (fun k_ hk => (⟨hk, hk.2⟩ : _ ∧ k_ ≠ gb514))) (fun _ hk => hk.2) (.int .i64 (wrap64 (1 + (Int.tmod ((qa y503 t510).f2) 3))))) (fun _ hk => by first | exact ⟨hk.1.1, hk.1.2⟩ | exact ⟨hk.1.2, hk.1.1⟩ | grind)))⟩; replace HO_507002 : Aq (Kd.Q k25 25 w62 w.heap.size (fun k_ => some k_ ≠ (.slice Ao14 t494.length co14 : Value).ownBlock ∧ k_ ≠ gb514) (.slice (some ad513) y503.length co23) y503) := ⟨(by rw [hw]; exact (by refine zDQ ?_; exact Kd.Q_mono (Kd.Q_far (p := ⟨gb514, 2, none⟩) (Kd.Q_mono HO_507002.o (fun k_ hk => (⟨hk, hk.2⟩ : _ ∧ k_ ≠ gb514))) (fun _ hk => hk.2) (.int .i64 (wrap64 (1 + (Int.tmod ((qa y503 t510).f2) 3))))) (fun _ hk => by first | exact ⟨hk.1.1, hk.1.2⟩ | exact ⟨hk.1.2, hk.1.1⟩ | grind)))⟩; replace BK489 : Aq (w62.heap[gb489]? = some (.cells #[.int .i64 0, .int .i64 0, .slice none 0 0] 34 (0, 0))) := ⟨(by rw [hw]; exact (zbq BK489.o))⟩; replace BK490 : Aq (w62.heap[gb490]? = some (.cells #[.int .i64 0, .int .i64 0, .slice none 0 0] 34 (0, 0))) := ⟨(by rw [hw]; exact (zbq BK490.o))⟩; replace BK499 : Aq (w62.heap[gb499]? = some (.cells #[.int .i64 t492, .int .i64 t493, .slice Ao14 t494.length co14] 34 (0, 0))) := ⟨(by rw [hw]; exact (zbq BK499.o))⟩; replace BK506 : Aq (w62.heap[gb506]? = some (.cells #[.int .i64 (wrap64 (t492 + 1)), .int .i64 t493, .slice (some ad513) y503.length co23] 34 (0, 0))) := ⟨(by rw [hw]; exact (zbq BK506.o))⟩; replace BK514 : Aq (w62.heap[gb514]? = some (.cells #[.int .i64 ((qa y503 t510).f0), .int .i64 ((qa y503 t510).f1), .int .i64 (wrap64 (1 + (Int.tmod ((qa y503 t510).f2) 3))), .int .i64 ((qa y503 t510).f3), .int .i64 ((qa y503 t510).f4), .int .i64 ((qa y503 t510).f5)] 25 (0, 0))) := ⟨(by rw [hw]; exact (zbp BK514.o))⟩; replace HI491 : Aq (I7 w w62 gb491 l0 t511 t512) := ⟨(by rw [hw]; exact (zhI71 HI491.o))⟩; replace HB : Aq (Below w.heap.size w w62) := ⟨(by rw [hw]; exact (zhB HB.o))⟩; clear hw; have hcz63 := zc3 BK506.o; have hcz64 := zc6 BK514.o; have p45 : 0 ≤ (t510 : Int) := of_decide_eq_true zax; have q45 : (t510 : Int) < ((y503.length : Int) : Int) := of_decide_eq_true zax; obtain ⟨go45, oo45, co45, eo45, gb45, gl45, cl45, HG45⟩ := Kd.Q_form HO_507002.o (by omega); (first | cases eo45 | (injection eo45 with ea_ en_ ec_; (first | subst ea_ | (injection ea_ with ea_; subst ea_)); subst ec_; clear en_)); have GB45 := am gb45; have GG45 := am HG45; clear gb45 gl45 HG45; (first | simp only [add_at] at hx513_0 | skip); (first | simp only [add_at] at hx513_1 | skip); (first | simp only [add_at] at hx513_2 | skip); (first | simp only [add_at] at hx513_3 | skip); (first | simp only [add_at] at hx513_4 | skip); (first | simp only [add_at] at hx513_5 | skip); obtain ⟨ce45, hcl45, hM45, hcc45, hfr45⟩ := Kd.Q_elem HO_507002.o z25 (t510 : Int) p45 q45; obtain rfl := k25_openM hM45; have hx45_0 : w62.cell? ⟨go45, oo45 + (t510 : Int).toNat * 6, none⟩ = some (.int .i64 ((qa y503 t510).f0)) := hcc45 0 _ rfl; have hx45_1 : w62.cell? ⟨go45, oo45 + (t510 : Int).toNat * 6 + 1, none⟩ = some (.int .i64 ((qa y503 t510).f1)) := hcc45 1 _ rfl; have hx45_2 : w62.cell? ⟨go45, oo45 + (t510 : Int).toNat * 6 + 2, none⟩ = some (.int .i64 ((qa y503 t510).f2)) := hcc45 2 _ rfl; have hx45_3 : w62.cell? ⟨go45, oo45 + (t510 : Int).toNat * 6 + 3, none⟩ = some (.int .i64 ((qa y503 t510).f3)) := hcc45 3 _ rfl; have hx45_4 : w62.cell? ⟨go45, oo45 + (t510 : Int).toNat * 6 + 4, none⟩ = some (.int .i64 ((qa y503 t510).f4)) := hcc45 4 _ rfl; have hx45_5 : w62.cell? ⟨go45, oo45 + (t510 : Int).toNat * 6 + 5, none⟩ = some (.int .i64 ((qa y503 t510).f5)) := hcc45 5 _ rfl; have hf45_0 : w62.frozen? ⟨go45, oo45 + (t510 : Int).toNat * 6, none⟩ = false := hfr45 0; have hf45_1 : w62.frozen? ⟨go45, oo45 + (t510 : Int).toNat * 6 + 1, none⟩ = false := hfr45 1; have hf45_2 : w62.frozen? ⟨go45, oo45 + (t510 : Int).toNat * 6 + 2, none⟩ = false := hfr45 2; have hf45_3 : w62.frozen? ⟨go45, oo45 + (t510 : Int).toNat * 6 + 3, none⟩ = false := hfr45 3; have hf45_4 : w62.frozen? ⟨go45, oo45 + (t510 : Int).toNat * 6 + 4, none⟩ = false := hfr45 4; have hf45_5 : w62.frozen? ⟨go45, oo45 + (t510 : Int).toNat * 6 + 5, none⟩ = false := hfr45 5; clear hcl45 hcc45 hfr45 hM45; replace p45 := eq_true p45; replace q45 := eq_true q45; have HX65 := am (show Kd.Q k25 25 w62 w.heap.size (fun k_ => some k_ ≠ (.slice Ao14 t494.length co14 : Value).ownBlock ∧ k_ ≠ gb514) (.slice (some ⟨go45, oo45, none⟩) y503.length co23) y503 from (zDQ HO_507002.o)); obtain ⟨ce65, hcl65, hM65, hcc65, hfr65⟩ := Kd.Q_elem HX65.o z25 (t510 : Int) (of_decide_eq_true zax) (by have h_ : (t510 : Int) < ((y503.length : Int) : Int) := of_decide_eq_true zax; first | exact h_ | (have e_ := (Kd.Q_reads' HO_507002.o).1; omega) | simpa using h_); obtain rfl := k25_openM hM65; have HP65 := Kd.Q_seg HX65.o (t510 : Int) (of_decide_eq_true zax) (by have h_ : (t510 : Int) < ((y503.length : Int) : Int) := of_decide_eq_true zax; first | exact h_ | (have e_ := (Kd.Q_reads' HO_507002.o).1; omega) | simpa using h_) (seg := [.int .i64 ((qa y503 t510).f0), .int .i64 ((qa y503 t510).f1), .int .i64 (wrap64 (1 + (Int.tmod ((qa y503 t510).f2) 3))), .int .i64 ((qa y503 t510).f3), .int .i64 ((qa y503 t510).f4), .int .i64 ((qa y503 t510).f5)]) (j := 0) hcl65 hcc65 (show 6 ≤ 6 from by decide) (x' := (⟨(qa y503 t510).f0, (qa y503 t510).f1, wrap64 (1 + (Int.tmod ((qa y503 t510).f2) 3)), (qa y503 t510).f3, (qa y503 t510).f4, (qa y503 t510).f5⟩ : S25)) (k25_mkM _ _ _ (⟨(qa y503 t510).f0, (qa y503 t510).f1, wrap64 (1 + (Int.tmod ((qa y503 t510).f2) 3)), (qa y503 t510).f3, (qa y503 t510).f4, (qa y503 t510).f5⟩ : S25) ) (fun _ hk => hk); have hx65_0 := hcc65 0 _ rfl; (try simp only [show (k25).sz = 6 from rfl, Nat.mul_one, Nat.add_zero] at hx65_0); have hf65_0 := hfr65 0; (try simp only [show (k25).sz = 6 from rfl, Nat.mul_one, Nat.add_zero] at hf65_0); have hx65_1 := hcc65 1 _ rfl; (try simp only [show (k25).sz = 6 from rfl, Nat.mul_one, Nat.add_zero] at hx65_1); have hf65_1 := hfr65 1; (try simp only [show (k25).sz = 6 from rfl, Nat.mul_one, Nat.add_zero] at hf65_1); have hx65_2 := hcc65 2 _ rfl; (try simp only [show (k25).sz = 6 from rfl, Nat.mul_one, Nat.add_zero] at hx65_2); have hf65_2 := hfr65 2; (try simp only [show (k25).sz = 6 from rfl, Nat.mul_one, Nat.add_zero] at hf65_2); have hx65_3 := hcc65 3 _ rfl; (try simp only [show (k25).sz = 6 from rfl, Nat.mul_one, Nat.add_zero] at hx65_3); have hf65_3 := hfr65 3; (try simp only [show (k25).sz = 6 from rfl, Nat.mul_one, Nat.add_zero] at hf65_3); have hx65_4 := hcc65 4 _ rfl; (try simp only [show (k25).sz = 6 from rfl, Nat.mul_one, Nat.add_zero] at hx65_4); have hf65_4 := hfr65 4; (try simp only [show (k25).sz = 6 from rfl, Nat.mul_one, Nat.add_zero] at hf65_4); have hx65_5 := hcc65 5 _ rfl; (try simp only [show (k25).sz = 6 from rfl, Nat.mul_one, Nat.add_zero] at hx65_5); have hf65_5 := hfr65 5; (try simp only [show (k25).sz = 6 from rfl, Nat.mul_one, Nat.add_zero] at hf65_5); clear hcl65 hcc65 hfr65 hM65) | ((with_reducible refine gate_store (t := 25) (p := 51) rfl ?_); refine store_event (t := 25) (p := 51) (v := ?vo_w66) (w1 := ((((((w62.setCell ⟨go45, oo45 + (t510 : Int).toNat * 6, none⟩ (.int .i64 ((qa y503 t510).f0))).setCell ⟨go45, oo45 + (t510 : Int).toNat * 6 + 1, none⟩ (.int .i64 ((qa y503 t510).f1))).setCell ⟨go45, oo45 + (t510 : Int).toNat * 6 + 2, none⟩ (.int .i64 (wrap64 (1 + (Int.tmod ((qa y503 t510).f2) 3))))).setCell ⟨go45, oo45 + (t510 : Int).toNat * 6 + 3, none⟩ (.int .i64 ((qa y503 t510).f3))).setCell ⟨go45, oo45 + (t510 : Int).toNat * 6 + 4, none⟩ (.int .i64 ((qa y503 t510).f4))).setCell ⟨go45, oo45 + (t510 : Int).toNat * 6 + 5, none⟩ (.int .i64 ((qa y503 t510).f5)))) ?hg ?ho ?hn ?hr ?_; (case ho => rfl); (case hg => rfl); (case hn => rfl); (case hr => exact zsx); intro w66 hw; have hg : w62.grownBy w66 (some go45) := (by rw [hw]; exact HP65.2); have hp_ : Kd.Q k25 25 w66 w.heap.size (fun k_ => some k_ ≠ (.slice Ao14 t494.length co14 : Value).ownBlock ∧ k_ ≠ gb514) (.slice (some ⟨go45, oo45, none⟩) y503.length co23) y515 := (by rw [hw, Ny515.o]; exact HP65.1); clear HP65; replace HO_500002 := am (Kd.Q_after (v := (.slice (some ⟨go45, oo45, none⟩) y503.length co23)) (v1 := (.slice (some ⟨go45, oo45, none⟩) y503.length co23)) (ok := (fun k_ => k_ ≠ gb514)) (by refine zDQ ?_; exact Kd.Q_mono HO_500002.o (fun _ hk => by first | exact ⟨hk.2, hk.1⟩ | exact ⟨hk.1, hk.2⟩ | grind)) hg (.inl rfl)); replace BK489 := zgr BK489.o hg (Kd.Q_ne HO_507002.o BK489.o (by decide)); replace BK490 := zgr BK490.o hg (Kd.Q_ne HO_507002.o BK490.o (by decide)); replace BK499 := zgr BK499.o hg (Kd.Q_ne HO_507002.o BK499.o (by decide)); replace BK506 := zgr BK506.o hg (Kd.Q_ne HO_507002.o BK506.o (by decide)); replace HI491 := am (I7.grown (zhI71 HI491.o) hg (I7.own_neQ HI491.o HO_507002.o (by decide))); replace BK514 := zgr BK514.o hg (Kd.Q_away HO_507002.o (fun _ hk => hk.2)); replace HO_507002 := am (hp_); replace HB := am ((by rw [hw]; exact below_set (below_set (below_set (below_set (below_set (below_set (HB.o) GB45.o) GB45.o) GB45.o) GB45.o) GB45.o) GB45.o : Below w.heap.size w w66)); clear hg hw hp_))
     go_meet
     case rel => exact ⟨_, (t511), (t512), (t494), (y515), (.slice Ao14 t494.length co14), (.slice (some ⟨go45, oo45, none⟩) y503.length co23), H', ⟨by have := HJ3.o; first | omega | exact Nat.le_refl _⟩, ⟨by refine zDQ ?_; exact Kd.Q_mono HO_500002.o (fun _ hk => hk.2)⟩, ⟨by refine zDQ ?_; exact Kd.Q_mono HO_507002.o (fun _ hk => hk.1)⟩, ⟨zbx BK489.o⟩, ⟨zbx BK490.o⟩, ⟨zbx BK499.o⟩, ⟨zbx BK506.o⟩, ⟨zhI71 HI491.o⟩, ⟨zhB HB.o⟩⟩
   case rest =>
    clear HC40
    try clear c3
    obtain ⟨kq, x492001_39, x492002_39, x500002_39, x507002_39, u500002, u507002, HA, HJ39, HO_500002, HO_507002, BK489, BK490, BK499, BK506, HI491, HB⟩ := hcut
    cases kq with
    | zero => exact absurd HA.o (by simp [qc.j1])
    | succ kj39 =>
     have H := HA.o
     clear HA
     simp only [qc.j1] at H
     have HC67 := am H
     clear H
     go_upto_region 9 with (fail)
     go_cut [59] (fun v59 wc => ∃ (kq : Nat) (x59_66 : Bool) (x492001_66 : Int) (x492002_66 : Int), v59 = .bool x59_66 ∧ Aq (qc.j2 kq x59_66 l0 x492001_66 x492002_66 t492 t493 x500002_39 (wrap64 (t492 + 1)) t493 x507002_39 = some (r1, r2, r3, r4, r5, r6)) ∧ Aq (kq ≤ kj39) ∧ Aq (Kd.Q k25 25 wc w.heap.size (fun k_ => some k_ ≠ (u507002 : Value).ownBlock) u500002 x500002_39) ∧ Aq (Kd.Q k25 25 wc w.heap.size (fun k_ => some k_ ≠ (u500002 : Value).ownBlock) u507002 x507002_39) ∧ Aq (wc.heap[gb489]? = some (.cells #[.int .i64 0, .int .i64 0, (.slice none 0 0)] 34 (0, 0))) ∧ Aq (wc.heap[gb490]? = some (.cells #[.int .i64 0, .int .i64 0, (.slice none 0 0)] 34 (0, 0))) ∧ Aq (wc.heap[gb499]? = some (.cells #[.int .i64 t492, .int .i64 t493, u500002] 34 (0, 0))) ∧ Aq (wc.heap[gb506]? = some (.cells #[.int .i64 (wrap64 (t492 + 1)), .int .i64 t493, u507002] 34 (0, 0))) ∧ Aq (I7 w wc gb491 l0 x492001_66 x492002_66) ∧ Aq (Below w.heap.size w wc))
     case first =>
      have H := HC67.o
      clear HC67
      by_cases c68 : (x507002_39.length : Int) > 0
      rotate_left
      ·rw [if_neg c68] at H
       have c68b0 := decide_eq_false c68
       have c68b1 : decide (0 < x507002_39.length) = false := decide_eq_false (by omega)
       clear c68
       (first | rw [c68b0] | (simp only [i64_w, i32_w]; rw [c68b0]) | skip)
       focus
        have H' := am H
        clear H
        have hnb77 := NB506_489.o
        have hnc77 := NB489_506.o
        have hnb78 := NB506_490.o
        have hnc78 := NB490_506.o
        have hnb79 := NB506_499.o
        have hnc79 := NB499_506.o
        have hnb80 := NB506_491.o
        have hnc80 := NB491_506.o
        have hcz81 := zc3 BK506.o
        obtain ⟨Ao82, co82, eo82, _⟩ := Kd.Q_slice HO_507002.o
        subst eo82
        go_wp2
        go_meet
        case rel => exact ⟨_, (false), (x492001_39), (x492002_39), zrx, H', ⟨by have := HJ3.o; have := HJ39.o; first | omega | exact Nat.le_refl _⟩, ⟨zDQ HO_500002.o⟩, ⟨zDQ HO_507002.o⟩, ⟨zbx BK489.o⟩, ⟨zbx BK490.o⟩, ⟨zbx BK499.o⟩, ⟨zbx BK506.o⟩, ⟨zhI71 HI491.o⟩, ⟨zhB HB.o⟩⟩
      rw [if_pos c68] at H
      have c68b0 := decide_eq_true c68
      have c68b1 : decide (0 < x507002_39.length) = true := decide_eq_true (by omega)
      clear c68
      (first | rw [c68b0] | (simp only [i64_w, i32_w]; rw [c68b0]) | skip)
      obtain ⟨⟨t516, t517, t518⟩, A69, H⟩ := zob H
      try dsimp only at H
      focus
       have H' := am H
       clear H
       have hnb70 := NB506_489.o
       have hnc70 := NB489_506.o
       have hnb71 := NB506_490.o
       have hnc71 := NB490_506.o
       have hnb72 := NB506_499.o
       have hnc72 := NB499_506.o
       have hnb73 := NB506_491.o
       have hnc73 := NB491_506.o
       have hcz74 := zc3 BK506.o
       obtain ⟨Ao75, co75, eo75, _⟩ := Kd.Q_slice HO_507002.o
       subst eo75
       go_wp2_with (first | (go_at_call 50; (with_reducible refine (qC.calls gb491 l0 x492001_39 x492002_39 3 t516 t517 t518 w _ ?side1 ?side2 A69.o).mono ?_); (case side1 => exact zhI71 HI491.o); (case side2 => exact zhB HB.o); rintro e w76 ⟨rfl, hi, hb, hk⟩; replace HO_500002 := am (Kd.Q_mono (Kd.Q_keep (I7.apartQ (show I7 w _ gb491 l0 x492001_39 x492002_39 from zhI71 HI491.o) (zDQ HO_500002.o) (by decide)) hk (fun _ h => h.2)) (fun _ h => h.1)); replace HO_507002 := am (Kd.Q_mono (Kd.Q_keep (I7.apartQ (show I7 w _ gb491 l0 x492001_39 x492002_39 from zhI71 HI491.o) (zDQ HO_507002.o) (by decide)) hk (fun _ h => h.2)) (fun _ h => h.1)); replace BK489 := zkb hk BK489.o NB489_491.o; replace BK490 := zkb hk BK490.o NB490_491.o; replace BK499 := zkb hk BK499.o NB499_491.o; replace BK506 := zkb hk BK506.o NB506_491.o; replace HB := am (hb); replace HI491 := am (hi); clear hb hk hi))
       go_meet
       case rel => exact ⟨_, (t516), (t517), (t518), zrx, H', ⟨by have := HJ3.o; have := HJ39.o; first | omega | exact Nat.le_refl _⟩, ⟨zDQ HO_500002.o⟩, ⟨zDQ HO_507002.o⟩, ⟨zbx BK489.o⟩, ⟨zbx BK490.o⟩, ⟨zbx BK499.o⟩, ⟨zbx BK506.o⟩, ⟨zhI71 HI491.o⟩, ⟨zhB HB.o⟩⟩
     case rest =>
      clear HC67
      try clear c3
      obtain ⟨kq, x59_66, x492001_66, x492002_66, rfl, HA, HJ66, HO_500002, HO_507002, BK489, BK490, BK499, BK506, HI491, HB⟩ := hcut
      cases kq with
      | zero => exact absurd HA.o (by simp [qc.j2])
      | succ kj66 =>
       have H := HA.o
       clear HA
       simp only [qc.j2] at H
       have HC83 := am H
       clear H
       go_upto_if 59 with (fail)
       go_cut [] (fun wc => ∃ (kq : Nat) (x507002_82 : List (S25)) (u507002 : Value), Aq (qc.j3 kq l0 x492001_66 x492002_66 t492 t493 x500002_39 (wrap64 (t492 + 1)) t493 x507002_82 = some (r1, r2, r3, r4, r5, r6)) ∧ Aq (kq ≤ kj66) ∧ Aq (Kd.Q k25 25 wc w.heap.size (fun k_ => some k_ ≠ (u507002 : Value).ownBlock) u500002 x500002_39) ∧ Aq (Kd.Q k25 25 wc w.heap.size (fun k_ => some k_ ≠ (u500002 : Value).ownBlock) u507002 x507002_82) ∧ Aq (wc.heap[gb489]? = some (.cells #[.int .i64 0, .int .i64 0, (.slice none 0 0)] 34 (0, 0))) ∧ Aq (wc.heap[gb490]? = some (.cells #[.int .i64 0, .int .i64 0, (.slice none 0 0)] 34 (0, 0))) ∧ Aq (wc.heap[gb499]? = some (.cells #[.int .i64 t492, .int .i64 t493, u500002] 34 (0, 0))) ∧ Aq (wc.heap[gb506]? = some (.cells #[.int .i64 (wrap64 (t492 + 1)), .int .i64 t493, u507002] 34 (0, 0))) ∧ Aq (I7 w wc gb491 l0 x492001_66 x492002_66) ∧ Aq (Below w.heap.size w wc))
       case first =>
        have H := HC83.o
        clear HC83
        by_cases c84 : x59_66 = true
        rotate_left
        ·replace c84 := Bool.eq_false_iff.mpr c84
         subst c84
         rw [if_neg (show ¬ (false = true) by decide)] at H
         focus
          have H' := am H
          clear H
          go_wp2
          go_meet
          case rel => exact ⟨_, (x507002_39), (u507002), H', ⟨by have := HJ3.o; have := HJ39.o; have := HJ66.o; first | omega | exact Nat.le_refl _⟩, ⟨zDQ HO_500002.o⟩, ⟨zDQ HO_507002.o⟩, ⟨zbx BK489.o⟩, ⟨zbx BK490.o⟩, ⟨zbx BK499.o⟩, ⟨zbx BK506.o⟩, ⟨zhI71 HI491.o⟩, ⟨zhB HB.o⟩⟩
        subst c84
        rw [if_pos rfl] at H
        obtain ⟨c85, H⟩ := zin H
        have c85b0 := eq_true c85
        have c85b1 := decide_eq_true c85
        clear c85
        obtain ⟨y519, hy519⟩ : ∃ y_ : List (S25), y_ = (x507002_39.drop (1 : Int).toNat) := ⟨_, rfl⟩
        replace H : (qc.j3 kj66 l0 x492001_66 x492002_66 t492 t493 x500002_39 (wrap64 (t492 + 1)) t493 y519) = some (r1, r2, r3, r4, r5, r6) := by rw [hy519]; exact H
        have Ny519 := am hy519
        clear hy519
        focus
         have H' := am H
         clear H
         have hnb86 := NB506_489.o
         have hnc86 := NB489_506.o
         have hnb87 := NB506_490.o
         have hnc87 := NB490_506.o
         have hnb88 := NB506_499.o
         have hnc88 := NB499_506.o
         have hnb89 := NB506_491.o
         have hnc89 := NB491_506.o
         have hcz90 := zc3 BK506.o
         obtain ⟨Ao91, co91, eo91, _⟩ := Kd.Q_slice HO_507002.o
         subst eo91
         have q92 : (1 : Int) ≤ ((x507002_39.length : Int) : Int) := zod
         obtain ⟨i092, hi092, _, hsz92, _⟩ := info_parts info25
         have hcut92 := cut_from (P := Tryz.prog) 32 25 .i64 Tryz.underlying32 hi092 6 hsz92 Ao91 x507002_39.length co91 1 (by omega) q92
         have hr92 := Kd.Q_drop (k := (1 : Int).toNat) HO_507002.o (by omega)
         obtain ⟨A92, hA92⟩ : ∃ A1, A1 = (if co91 = (1 : Int).toNat then Ao91 else (Ao91 : Option Addr).map (·.add ((1 : Int).toNat * 6))) := ⟨_, rfl⟩
         obtain ⟨c92, hc92⟩ : ∃ c1, c1 = co91 - (1 : Int).toNat := ⟨_, rfl⟩
         have hy92 : y519.length = x507002_39.length - (1 : Int).toNat := (by rw [Ny519.o, List.length_drop])
         rw [← Ny519.o] at hr92
         rw [← hy92, ← hA92, ← hc92] at hcut92
         replace hr92 : Kd.Q k25 25 wc w.heap.size (fun k_ => some k_ ≠ (u500002 : Value).ownBlock) (.slice A92 y519.length c92) y519 := (by rw [hA92, hc92, hy92]; exact hr92)
         have HE92 : Aq ((Value.slice A92 y519.length c92).ownBlock = (.slice Ao91 x507002_39.length co91 : Value).ownBlock) := ⟨by rw [hA92]; split <;> (cases (Ao91 : Option Addr) <;> rfl)⟩
         clear hy92 hi092 hsz92 HO_507002 hA92 hc92
         have HO521 := am hr92
         clear hr92
         replace q92 := eq_true q92
         have n_ := am (Kd.Q_mono (ok' := fun k_ => some k_ ≠ (.slice A92 y519.length c92 : Value).ownBlock) HO_500002.o (fun k_ hk => (by rw [HE92.o]; exact hk)))
         clear HO_500002
         have HO_500002 := n_
         clear n_
         go_wp2
         go_meet
         case rel => exact ⟨_, (y519), (.slice A92 y519.length c92), H', ⟨by have := HJ3.o; have := HJ39.o; have := HJ66.o; first | omega | exact Nat.le_refl _⟩, ⟨by refine zDQ ?_; exact Kd.Q_mono (Kd.Q_far (p := ⟨gb506, 2, none⟩) (Kd.Q_types HO_500002.o BK506.o (by decide)) (fun _ hk => hk.2) (.slice A92 y519.length c92)) (fun _ hk => hk.1)⟩, ⟨by refine zDQ ?_; exact Kd.Q_mono (Kd.Q_far (p := ⟨gb506, 2, none⟩) (Kd.Q_types HO521.o BK506.o (by decide)) (fun _ hk => hk.2) (.slice A92 y519.length c92)) (fun _ hk => hk.1)⟩, ⟨zbp BK489.o⟩, ⟨zbp BK490.o⟩, ⟨zbp BK499.o⟩, ⟨zbp BK506.o⟩, ⟨zhI71 HI491.o⟩, ⟨zhB HB.o⟩⟩
       case rest =>
        clear HC83
        try clear c3
        obtain ⟨kq, x507002_82, u507002, HA, HJ82, HO_500002, HO_507002, BK489, BK490, BK499, BK506, HI491, HB⟩ := hcut
        cases kq with
        | zero => exact absurd HA.o (by simp [qc.j3])
        | succ kj82 =>
         have H := HA.o
         clear HA
         simp only [qc.j3] at H
         obtain ⟨⟨t522, t523, t524⟩, A93, H⟩ := zob H
         try dsimp only at H
         by_cases c94 : t522 = true
         rotate_left
         ·replace c94 := Bool.eq_false_iff.mpr c94
          subst c94
          rw [if_neg (show ¬ (false = true) by decide)] at H
          focus
           simp only [Option.some.injEq, Prod.mk.injEq] at H
           obtain ⟨rfl, rfl, rfl, rfl, rfl, rfl⟩ := H
           try go_wp2_with (first | ((with_reducible refine zgc 50 rfl ?_); refine zgl 65 Tryz.func50 #[.pointer (some ⟨gb491, 0, none⟩), .int .i64 3] ?_; (with_reducible refine (qC.calls gb491 l0 x492001_66 x492002_66 3 false t523 t524 w _ ?side1 ?side2 A93.o).mono ?_); (case side1 => exact zhI71 HI491.o); (case side2 => exact zhB HB.o); rintro e w113 ⟨rfl, hi, hb, hk⟩; refine ⟨_, rfl, ?_⟩; replace HO_500002 := am (Kd.Q_mono (Kd.Q_keep (I7.apartQ (show I7 w _ gb491 l0 x492001_66 x492002_66 from zhI71 HI491.o) (zDQ HO_500002.o) (by decide)) hk (fun _ h => h.2)) (fun _ h => h.1)); replace HO_507002 := am (Kd.Q_mono (Kd.Q_keep (I7.apartQ (show I7 w _ gb491 l0 x492001_66 x492002_66 from zhI71 HI491.o) (zDQ HO_507002.o) (by decide)) hk (fun _ h => h.2)) (fun _ h => h.1)); replace BK489 := zkb hk BK489.o NB489_491.o; replace BK490 := zkb hk BK490.o NB490_491.o; replace BK499 := zkb hk BK499.o NB499_491.o; replace BK506 := zkb hk BK506.o NB506_491.o; replace HB := am (hb); replace HI491 := am (hi); clear hb hk hi))
           replace HO_500002 := am (Kd.Q_drew HO_500002.o)
           replace HO_507002 := am (Kd.Q_drew HO_507002.o)
           replace BK489 := am (blk_drew BK489.o)
           replace BK490 := am (blk_drew BK490.o)
           replace BK499 := am (blk_drew BK499.o)
           replace BK506 := am (blk_drew BK506.o)
           replace HI491 := am (I7.drew HI491.o)
           replace HB := am (below_drew1 HB.o)
           obtain ⟨Ao117, co117, eo117, _⟩ := Kd.Q_slice HO_500002.o
           (first | subst eo117 | (injection eo117 with f1_ f2_ f3_; have f4_ := f1_.symm; have f5_ := f3_.symm; clear f1_ f2_ f3_; subst f4_; subst f5_))
           obtain ⟨Ao121, co121, eo121, _⟩ := Kd.Q_slice HO_507002.o
           (first | subst eo121 | (injection eo121 with f1_ f2_ f3_; have f4_ := f1_.symm; have f5_ := f3_.symm; clear f1_ f2_ f3_; subst f4_; subst f5_))
           refine start_ (n := 4) (S := fun w' => zB3 w' gb499 (.int .i64 t492) (.int .i64 t493) (.slice Ao117 x500002_39.length co117) ∧ zB3 w' gb506 (.int .i64 (wrap64 (t492 + 1))) (.int .i64 t493) (.slice Ao121 x507002_82.length co121)) (ds := []) (zm 4 0) (by kernel_rfl) rfl rfl ⟨zb3 BK499, zb3 BK506⟩ (fun hHd => ?_)
           generalize w113.drew = w114 at HO_500002 HO_507002 BK489 BK490 BK499 BK506 HI491 HB hHd ⊢
           refine take_ (i := 0) (N := some 68) (v := ?_) (a' := ?_) (zm 4 1) rfl rfl (by kernel_rfl) (fun _ _ _ h => h) (Or.inl ⟨by rfl, ?_⟩) hHd ?_ ?_
           rotate_left
           ·rintro w' ⟨⟨s0, s1, s2⟩, ⟨s3, s4, s5⟩⟩
            go_simp
            with_reducible rfl
           rotate_left
           ·exact zpx
           refine take_ (i := 1) (N := some 69) (v := ?_) (a' := ?_) (zm 4 3) rfl rfl (by kernel_rfl) (fun _ _ _ h => h) (Or.inl ⟨by rfl, ?_⟩) hHd ?_ ?_
           rotate_left
           ·rintro w' ⟨⟨s0, s1, s2⟩, ⟨s3, s4, s5⟩⟩
            go_simp
            with_reducible rfl
           rotate_left
           ·exact zpx
           refine one_ (i := 2) (N := none) (zm 4 7) rfl rfl (by kernel_rfl) (by decide) (fun K hK => ?_)
           have hs115 : w114.cell? ⟨gb489, 0, none⟩ = some (.int .i64 0) := (bkc BK489.o 0).trans rfl
           have hfs115 := bkf BK489.o 0
           have hns115_1 := NB490_489.o
           have hns115_2 := NB499_489.o
           have hns115_3 := NB506_489.o
           have hms115_1 := NB489_490.o
           have hms115_2 := NB489_499.o
           have hms115_3 := NB489_506.o
           have hs116 : w114.cell? ⟨gb489, 1, none⟩ = some (.int .i64 0) := (bkc BK489.o 1).trans rfl
           have hfs116 := bkf BK489.o 1
           have hns116_1 := NB490_489.o
           have hns116_2 := NB499_489.o
           have hns116_3 := NB506_489.o
           have hms116_1 := NB489_490.o
           have hms116_2 := NB489_499.o
           have hms116_3 := NB489_506.o
           have hs118 : w114.cell? ⟨gb489, 2, none⟩ = some (.slice none 0 0) := (bkc BK489.o 2).trans rfl
           have hfs118 := bkf BK489.o 2
           have hns118_1 := NB490_489.o
           have hns118_2 := NB499_489.o
           have hns118_3 := NB506_489.o
           have hms118_1 := NB489_490.o
           have hms118_2 := NB489_499.o
           have hms118_3 := NB489_506.o
           refine skip_ (w1 := ?_) (by rfl) rfl ?_ ?_
           rotate_left
           ·go_simp
            rfl
           refine hK.out _ _ ⟨⟨((cell_far (p := ⟨gb489, _, none⟩) NB499_489.o _).trans (((cell_far (p := ⟨gb489, _, none⟩) NB499_489.o _).trans (((cell_far (p := ⟨gb489, _, none⟩) NB499_489.o _).trans (hHd.1.1)))))), ((cell_far (p := ⟨gb489, _, none⟩) NB499_489.o _).trans (((cell_far (p := ⟨gb489, _, none⟩) NB499_489.o _).trans (((cell_far (p := ⟨gb489, _, none⟩) NB499_489.o _).trans (hHd.1.2.1)))))), ((cell_far (p := ⟨gb489, _, none⟩) NB499_489.o _).trans (((cell_far (p := ⟨gb489, _, none⟩) NB499_489.o _).trans (((cell_far (p := ⟨gb489, _, none⟩) NB499_489.o _).trans (hHd.1.2.2))))))⟩, ⟨((cell_far (p := ⟨gb489, _, none⟩) NB506_489.o _).trans (((cell_far (p := ⟨gb489, _, none⟩) NB506_489.o _).trans (((cell_far (p := ⟨gb489, _, none⟩) NB506_489.o _).trans (hHd.2.1)))))), ((cell_far (p := ⟨gb489, _, none⟩) NB506_489.o _).trans (((cell_far (p := ⟨gb489, _, none⟩) NB506_489.o _).trans (((cell_far (p := ⟨gb489, _, none⟩) NB506_489.o _).trans (hHd.2.2.1)))))), ((cell_far (p := ⟨gb489, _, none⟩) NB506_489.o _).trans (((cell_far (p := ⟨gb489, _, none⟩) NB506_489.o _).trans (((cell_far (p := ⟨gb489, _, none⟩) NB506_489.o _).trans (hHd.2.2.2))))))⟩⟩ (fun hHd => ?_)
           clear hK K
           refine one_ (i := 3) (N := none) (zm 4 15) rfl rfl (by kernel_rfl) (by decide) (fun K hK => ?_)
           have hs119 : w114.cell? ⟨gb490, 0, none⟩ = some (.int .i64 0) := (bkc BK490.o 0).trans rfl
           have hfs119 := bkf BK490.o 0
           have hns119_0 := NB489_490.o
           have hns119_2 := NB499_490.o
           have hns119_3 := NB506_490.o
           have hms119_0 := NB490_489.o
           have hms119_2 := NB490_499.o
           have hms119_3 := NB490_506.o
           have hs120 : w114.cell? ⟨gb490, 1, none⟩ = some (.int .i64 0) := (bkc BK490.o 1).trans rfl
           have hfs120 := bkf BK490.o 1
           have hns120_0 := NB489_490.o
           have hns120_2 := NB499_490.o
           have hns120_3 := NB506_490.o
           have hms120_0 := NB490_489.o
           have hms120_2 := NB490_499.o
           have hms120_3 := NB490_506.o
           have hs122 : w114.cell? ⟨gb490, 2, none⟩ = some (.slice none 0 0) := (bkc BK490.o 2).trans rfl
           have hfs122 := bkf BK490.o 2
           have hns122_0 := NB489_490.o
           have hns122_2 := NB499_490.o
           have hns122_3 := NB506_490.o
           have hms122_0 := NB490_489.o
           have hms122_2 := NB490_499.o
           have hms122_3 := NB490_506.o
           refine skip_ (w1 := ?_) (by rfl) rfl ?_ ?_
           rotate_left
           ·go_simp
            rfl
           refine hK.out _ _ ⟨⟨((cell_far (p := ⟨gb490, _, none⟩) NB499_490.o _).trans (((cell_far (p := ⟨gb490, _, none⟩) NB499_490.o _).trans (((cell_far (p := ⟨gb490, _, none⟩) NB499_490.o _).trans (hHd.1.1)))))), ((cell_far (p := ⟨gb490, _, none⟩) NB499_490.o _).trans (((cell_far (p := ⟨gb490, _, none⟩) NB499_490.o _).trans (((cell_far (p := ⟨gb490, _, none⟩) NB499_490.o _).trans (hHd.1.2.1)))))), ((cell_far (p := ⟨gb490, _, none⟩) NB499_490.o _).trans (((cell_far (p := ⟨gb490, _, none⟩) NB499_490.o _).trans (((cell_far (p := ⟨gb490, _, none⟩) NB499_490.o _).trans (hHd.1.2.2))))))⟩, ⟨((cell_far (p := ⟨gb490, _, none⟩) NB506_490.o _).trans (((cell_far (p := ⟨gb490, _, none⟩) NB506_490.o _).trans (((cell_far (p := ⟨gb490, _, none⟩) NB506_490.o _).trans (hHd.2.1)))))), ((cell_far (p := ⟨gb490, _, none⟩) NB506_490.o _).trans (((cell_far (p := ⟨gb490, _, none⟩) NB506_490.o _).trans (((cell_far (p := ⟨gb490, _, none⟩) NB506_490.o _).trans (hHd.2.2.1)))))), ((cell_far (p := ⟨gb490, _, none⟩) NB506_490.o _).trans (((cell_far (p := ⟨gb490, _, none⟩) NB506_490.o _).trans (((cell_far (p := ⟨gb490, _, none⟩) NB506_490.o _).trans (hHd.2.2.2))))))⟩⟩ (fun hHd => ?_)
           clear hK K
           refine done_ (by kernel_rfl) ?_
           try go_wp2
           refine bodyPost_ret (results_cc rfl _ _ gb489 gb490 34 34 #[.int .i64 t492, .int .i64 t493, .slice Ao117 x500002_39.length co117] #[.int .i64 (wrap64 (t492 + 1)), .int .i64 t493, .slice Ao121 x507002_82.length co121] (0, 0) (0, 0) _ _ rfl (zbp BK489.o) Tryz.underlying34 rfl (by kernel_rfl) rfl (zbp BK490.o) Tryz.underlying34 rfl (by kernel_rfl)) rfl ?_
           exact ⟨_, _, zew, by refine zDQ ?_; exact Kd.Q_mono (zQf (Kd.Q_far (p := ⟨gb489, 2, none⟩) (Kd.Q_far (p := ⟨gb489, 1, none⟩) (Kd.Q_far (p := ⟨gb489, 0, none⟩) (Kd.Q_types (Kd.Q_types HO_500002.o BK489.o (by decide)) BK490.o (by decide)) (fun _ hk => hk.1.2) (.int .i64 t492)) (fun _ hk => hk.1.2) (.int .i64 t493)) (fun _ hk => hk.1.2) (.slice Ao117 x500002_39.length co117))) (fun _ hk => hk.1.1), by refine zDQ ?_; exact Kd.Q_mono (zQf (Kd.Q_far (p := ⟨gb489, 2, none⟩) (Kd.Q_far (p := ⟨gb489, 1, none⟩) (Kd.Q_far (p := ⟨gb489, 0, none⟩) (Kd.Q_types (Kd.Q_types HO_507002.o BK489.o (by decide)) BK490.o (by decide)) (fun _ hk => hk.1.2) (.int .i64 t492)) (fun _ hk => hk.1.2) (.int .i64 t493)) (fun _ hk => hk.1.2) (.slice Ao117 x500002_39.length co117))) (fun _ hk => hk.1.1), zhB HB.o⟩
         subst c94
         rw [if_pos rfl] at H
         obtain ⟨⟨t525, t526, t527, t530, t531⟩, A95, H⟩ := zob H
         try dsimp only at H
         focus
          simp only [Option.some.injEq, Prod.mk.injEq] at H
          obtain ⟨rfl, rfl, rfl, rfl, rfl, rfl⟩ := H
          try go_wp2_with (first | ((with_reducible refine zgc 50 rfl ?_); refine zgl 65 Tryz.func50 #[.pointer (some ⟨gb491, 0, none⟩), .int .i64 3] ?_; (with_reducible refine (qC.calls gb491 l0 x492001_66 x492002_66 3 true t523 t524 w _ ?side1 ?side2 A93.o).mono ?_); (case side1 => exact zhI71 HI491.o); (case side2 => exact zhB HB.o); rintro e w96 ⟨rfl, hi, hb, hk⟩; refine ⟨_, rfl, ?_⟩; replace HO_500002 := am (Kd.Q_mono (Kd.Q_keep (I7.apartQ (show I7 w _ gb491 l0 x492001_66 x492002_66 from zhI71 HI491.o) (zDQ HO_500002.o) (by decide)) hk (fun _ h => h.2)) (fun _ h => h.1)); replace HO_507002 := am (Kd.Q_mono (Kd.Q_keep (I7.apartQ (show I7 w _ gb491 l0 x492001_66 x492002_66 from zhI71 HI491.o) (zDQ HO_507002.o) (by decide)) hk (fun _ h => h.2)) (fun _ h => h.1)); replace BK489 := zkb hk BK489.o NB489_491.o; replace BK490 := zkb hk BK490.o NB490_491.o; replace BK499 := zkb hk BK499.o NB499_491.o; replace BK506 := zkb hk BK506.o NB506_491.o; replace HB := am (hb); replace HI491 := am (hi); clear hb hk hi) | ((with_reducible refine zgc 71 rfl ?_); refine zgl 67 Tryz.func71 #[.pointer (some ⟨gb491, 0, none⟩)] ?_; (with_reducible refine (qE.calls kj82 gb491 l0 t523 t524 t525 t526 t527 t530 t531 w _ ?side1 ?side2 A95.o).mono ?_); (case side1 => exact zhI71 HI491.o); (case side2 => exact zhB HB.o); rintro e w97 ⟨v528, rfl, ho0, hi, hb, hk⟩; refine ⟨_, rfl, ?_⟩; replace BK489 := zkb hk BK489.o NB489_491.o; replace BK490 := zkb hk BK490.o NB490_491.o; replace BK499 := zkb hk BK499.o NB499_491.o; replace BK506 := zkb hk BK506.o NB506_491.o; have HO529 := am (Kd.R_lower (Kd.R_new' (Kd.R_new' ho0 (Kd.Q_lt (zDQ HO_500002.o))) (Kd.Q_lt (zDQ HO_507002.o))) (below_size (zhB HB.o))); replace HO_500002 := am (Kd.Q_mono (Kd.Q_told (Kd.Q_oldK (I7.apartQ (show I7 w _ gb491 l0 t523 t524 from zhI71 HI491.o) (zDQ HO_500002.o) (by decide)) hk) (Kd.R_base ho0)) (fun _ h_ => h_.1)); replace HO_507002 := am (Kd.Q_mono (Kd.Q_told (Kd.Q_oldK (I7.apartQ (show I7 w _ gb491 l0 t523 t524 from zhI71 HI491.o) (zDQ HO_507002.o) (by decide)) hk) (Kd.R_base ho0)) (fun _ h_ => h_.1)); replace HB := am (hb); replace HI491 := am (hi); clear hb hk hi; (try clear ho0); have hnb98 := NB506_489.o; have hnc98 := NB489_506.o; have hnb99 := NB506_490.o; have hnc99 := NB490_506.o; have hnb100 := NB506_499.o; have hnc100 := NB499_506.o; have hnb101 := NB506_491.o; have hnc101 := NB491_506.o; have hcz102 := zc3 BK506.o; obtain ⟨Ao103, co103, eo103⟩ := Kd.R_slice HO529.o; subst eo103))
          have n0_ : Aq (Kd.Q k25 25 (((w97.setCell ⟨gb506, 0, none⟩ (.int .i64 t525)).setCell ⟨gb506, 1, none⟩ (.int .i64 t526)).setCell ⟨gb506, 2, none⟩ (.slice Ao103 t527.length co103)) w.heap.size (fun k_ => some k_ ≠ (u507002 : Value).ownBlock ∧ some k_ ≠ (.slice Ao103 t527.length co103 : Value).ownBlock) u500002 x500002_39) := ⟨by refine zDQ ?_; exact Kd.Q_mono (zQf (Kd.Q_types HO_500002.o BK506.o (by decide))) (fun _ hk => by first | exact ⟨hk.1.1, hk.1.2⟩ | exact ⟨hk.1.2, hk.1.1⟩ | grind)⟩
          have n1_ : Aq (Kd.Q k25 25 (((w97.setCell ⟨gb506, 0, none⟩ (.int .i64 t525)).setCell ⟨gb506, 1, none⟩ (.int .i64 t526)).setCell ⟨gb506, 2, none⟩ (.slice Ao103 t527.length co103)) w.heap.size (fun k_ => some k_ ≠ (u500002 : Value).ownBlock ∧ some k_ ≠ (.slice Ao103 t527.length co103 : Value).ownBlock) u507002 x507002_82) := ⟨by refine zDQ ?_; exact Kd.Q_mono (zQf (Kd.Q_types HO_507002.o BK506.o (by decide))) (fun _ hk => by first | exact ⟨hk.1.1, hk.1.2⟩ | exact ⟨hk.1.2, hk.1.1⟩ | grind)⟩
          have n2_ : Aq (Kd.R k25 25 (((w97.setCell ⟨gb506, 0, none⟩ (.int .i64 t525)).setCell ⟨gb506, 1, none⟩ (.int .i64 t526)).setCell ⟨gb506, 2, none⟩ (.slice Ao103 t527.length co103)) w.heap.size (fun k_ => some k_ ≠ (u500002 : Value).ownBlock ∧ some k_ ≠ (u507002 : Value).ownBlock) (.slice Ao103 t527.length co103) t527) := ⟨by refine zDR ?_; exact Kd.R_mono (zRf (Kd.R_types HO529.o BK506.o (by decide))) (fun _ hk => by first | exact ⟨hk.1.1.2, hk.1.2⟩ | exact ⟨hk.1.2, hk.1.1.2⟩ | grind)⟩
          have n3_ : Aq ((((w97.setCell ⟨gb506, 0, none⟩ (.int .i64 t525)).setCell ⟨gb506, 1, none⟩ (.int .i64 t526)).setCell ⟨gb506, 2, none⟩ (.slice Ao103 t527.length co103)).heap[gb489]? = some (.cells #[.int .i64 0, .int .i64 0, .slice none 0 0] 34 (0, 0))) := ⟨zbp BK489.o⟩
          have n4_ : Aq ((((w97.setCell ⟨gb506, 0, none⟩ (.int .i64 t525)).setCell ⟨gb506, 1, none⟩ (.int .i64 t526)).setCell ⟨gb506, 2, none⟩ (.slice Ao103 t527.length co103)).heap[gb490]? = some (.cells #[.int .i64 0, .int .i64 0, .slice none 0 0] 34 (0, 0))) := ⟨zbp BK490.o⟩
          have n5_ : Aq ((((w97.setCell ⟨gb506, 0, none⟩ (.int .i64 t525)).setCell ⟨gb506, 1, none⟩ (.int .i64 t526)).setCell ⟨gb506, 2, none⟩ (.slice Ao103 t527.length co103)).heap[gb499]? = some (.cells #[.int .i64 t492, .int .i64 t493, u500002] 34 (0, 0))) := ⟨zbp BK499.o⟩
          have n6_ : Aq ((((w97.setCell ⟨gb506, 0, none⟩ (.int .i64 t525)).setCell ⟨gb506, 1, none⟩ (.int .i64 t526)).setCell ⟨gb506, 2, none⟩ (.slice Ao103 t527.length co103)).heap[gb506]? = some (.cells #[.int .i64 t525, .int .i64 t526, .slice Ao103 t527.length co103] 34 (0, 0))) := ⟨zbp BK506.o⟩
          have n7_ : Aq (I7 w (((w97.setCell ⟨gb506, 0, none⟩ (.int .i64 t525)).setCell ⟨gb506, 1, none⟩ (.int .i64 t526)).setCell ⟨gb506, 2, none⟩ (.slice Ao103 t527.length co103)) gb491 l0 t530 t531) := ⟨zhI71 HI491.o⟩
          have n8_ : Aq (Below w.heap.size w (((w97.setCell ⟨gb506, 0, none⟩ (.int .i64 t525)).setCell ⟨gb506, 1, none⟩ (.int .i64 t526)).setCell ⟨gb506, 2, none⟩ (.slice Ao103 t527.length co103))) := ⟨zhB HB.o⟩
          (try clear HO_500002)
          (try clear HO_507002)
          (try clear HO529)
          (try clear BK489)
          (try clear BK490)
          (try clear BK499)
          (try clear BK506)
          (try clear HI491)
          (try clear HB)
          generalize (((w97.setCell ⟨gb506, 0, none⟩ (.int .i64 t525)).setCell ⟨gb506, 1, none⟩ (.int .i64 t526)).setCell ⟨gb506, 2, none⟩ (.slice Ao103 t527.length co103)) = w104 at n0_ n1_ n2_ n3_ n4_ n5_ n6_ n7_ n8_ ⊢
          have HO_500002 := n0_
          have HO_507002 := n1_
          have HO529 := n2_
          have BK489 := n3_
          have BK490 := n4_
          have BK499 := n5_
          have BK506 := n6_
          have HI491 := n7_
          have HB := n8_
          clear n0_ n1_ n2_ n3_ n4_ n5_ n6_ n7_ n8_
          replace HO_500002 := am (Kd.Q_drew HO_500002.o)
          replace HO_507002 := am (Kd.Q_drew HO_507002.o)
          replace HO529 := am (Kd.R_drew HO529.o)
          replace BK489 := am (blk_drew BK489.o)
          replace BK490 := am (blk_drew BK490.o)
          replace BK499 := am (blk_drew BK499.o)
          replace BK506 := am (blk_drew BK506.o)
          replace HI491 := am (I7.drew HI491.o)
          replace HB := am (below_drew1 HB.o)
          obtain ⟨Ao108, co108, eo108, _⟩ := Kd.Q_slice HO_500002.o
          (first | subst eo108 | (injection eo108 with f1_ f2_ f3_; have f4_ := f1_.symm; have f5_ := f3_.symm; clear f1_ f2_ f3_; subst f4_; subst f5_))
          refine start_ (n := 4) (S := fun w' => zB3 w' gb499 (.int .i64 t492) (.int .i64 t493) (.slice Ao108 x500002_39.length co108) ∧ zB3 w' gb506 (.int .i64 t525) (.int .i64 t526) (.slice Ao103 t527.length co103)) (ds := []) (zm 4 0) (by kernel_rfl) rfl rfl ⟨zb3 BK499, zb3 BK506⟩ (fun hHd => ?_)
          generalize w104.drew = w105 at HO_500002 HO_507002 HO529 BK489 BK490 BK499 BK506 HI491 HB hHd ⊢
          refine take_ (i := 0) (N := some 68) (v := ?_) (a' := ?_) (zm 4 1) rfl rfl (by kernel_rfl) (fun _ _ _ h => h) (Or.inl ⟨by rfl, ?_⟩) hHd ?_ ?_
          rotate_left
          ·rintro w' ⟨⟨s0, s1, s2⟩, ⟨s3, s4, s5⟩⟩
           go_simp
           with_reducible rfl
          rotate_left
          ·exact zpx
          refine take_ (i := 1) (N := some 69) (v := ?_) (a' := ?_) (zm 4 3) rfl rfl (by kernel_rfl) (fun _ _ _ h => h) (Or.inl ⟨by rfl, ?_⟩) hHd ?_ ?_
          rotate_left
          ·rintro w' ⟨⟨s0, s1, s2⟩, ⟨s3, s4, s5⟩⟩
           go_simp
           with_reducible rfl
          rotate_left
          ·exact zpx
          refine one_ (i := 2) (N := none) (zm 4 7) rfl rfl (by kernel_rfl) (by decide) (fun K hK => ?_)
          have hs106 : w105.cell? ⟨gb489, 0, none⟩ = some (.int .i64 0) := (bkc BK489.o 0).trans rfl
          have hfs106 := bkf BK489.o 0
          have hns106_1 := NB490_489.o
          have hns106_2 := NB499_489.o
          have hns106_3 := NB506_489.o
          have hms106_1 := NB489_490.o
          have hms106_2 := NB489_499.o
          have hms106_3 := NB489_506.o
          have hs107 : w105.cell? ⟨gb489, 1, none⟩ = some (.int .i64 0) := (bkc BK489.o 1).trans rfl
          have hfs107 := bkf BK489.o 1
          have hns107_1 := NB490_489.o
          have hns107_2 := NB499_489.o
          have hns107_3 := NB506_489.o
          have hms107_1 := NB489_490.o
          have hms107_2 := NB489_499.o
          have hms107_3 := NB489_506.o
          have hs109 : w105.cell? ⟨gb489, 2, none⟩ = some (.slice none 0 0) := (bkc BK489.o 2).trans rfl
          have hfs109 := bkf BK489.o 2
          have hns109_1 := NB490_489.o
          have hns109_2 := NB499_489.o
          have hns109_3 := NB506_489.o
          have hms109_1 := NB489_490.o
          have hms109_2 := NB489_499.o
          have hms109_3 := NB489_506.o
          refine skip_ (w1 := ?_) (by rfl) rfl ?_ ?_
          rotate_left
          ·go_simp
           rfl
          refine hK.out _ _ ⟨⟨((cell_far (p := ⟨gb489, _, none⟩) NB499_489.o _).trans (((cell_far (p := ⟨gb489, _, none⟩) NB499_489.o _).trans (((cell_far (p := ⟨gb489, _, none⟩) NB499_489.o _).trans (hHd.1.1)))))), ((cell_far (p := ⟨gb489, _, none⟩) NB499_489.o _).trans (((cell_far (p := ⟨gb489, _, none⟩) NB499_489.o _).trans (((cell_far (p := ⟨gb489, _, none⟩) NB499_489.o _).trans (hHd.1.2.1)))))), ((cell_far (p := ⟨gb489, _, none⟩) NB499_489.o _).trans (((cell_far (p := ⟨gb489, _, none⟩) NB499_489.o _).trans (((cell_far (p := ⟨gb489, _, none⟩) NB499_489.o _).trans (hHd.1.2.2))))))⟩, ⟨((cell_far (p := ⟨gb489, _, none⟩) NB506_489.o _).trans (((cell_far (p := ⟨gb489, _, none⟩) NB506_489.o _).trans (((cell_far (p := ⟨gb489, _, none⟩) NB506_489.o _).trans (hHd.2.1)))))), ((cell_far (p := ⟨gb489, _, none⟩) NB506_489.o _).trans (((cell_far (p := ⟨gb489, _, none⟩) NB506_489.o _).trans (((cell_far (p := ⟨gb489, _, none⟩) NB506_489.o _).trans (hHd.2.2.1)))))), ((cell_far (p := ⟨gb489, _, none⟩) NB506_489.o _).trans (((cell_far (p := ⟨gb489, _, none⟩) NB506_489.o _).trans (((cell_far (p := ⟨gb489, _, none⟩) NB506_489.o _).trans (hHd.2.2.2))))))⟩⟩ (fun hHd => ?_)
          clear hK K
          refine one_ (i := 3) (N := none) (zm 4 15) rfl rfl (by kernel_rfl) (by decide) (fun K hK => ?_)
          have hs110 : w105.cell? ⟨gb490, 0, none⟩ = some (.int .i64 0) := (bkc BK490.o 0).trans rfl
          have hfs110 := bkf BK490.o 0
          have hns110_0 := NB489_490.o
          have hns110_2 := NB499_490.o
          have hns110_3 := NB506_490.o
          have hms110_0 := NB490_489.o
          have hms110_2 := NB490_499.o
          have hms110_3 := NB490_506.o
          have hs111 : w105.cell? ⟨gb490, 1, none⟩ = some (.int .i64 0) := (bkc BK490.o 1).trans rfl
          have hfs111 := bkf BK490.o 1
          have hns111_0 := NB489_490.o
          have hns111_2 := NB499_490.o
          have hns111_3 := NB506_490.o
          have hms111_0 := NB490_489.o
          have hms111_2 := NB490_499.o
          have hms111_3 := NB490_506.o
          have hs112 : w105.cell? ⟨gb490, 2, none⟩ = some (.slice none 0 0) := (bkc BK490.o 2).trans rfl
          have hfs112 := bkf BK490.o 2
          have hns112_0 := NB489_490.o
          have hns112_2 := NB499_490.o
          have hns112_3 := NB506_490.o
          have hms112_0 := NB490_489.o
          have hms112_2 := NB490_499.o
          have hms112_3 := NB490_506.o
          refine skip_ (w1 := ?_) (by rfl) rfl ?_ ?_
          rotate_left
          ·go_simp
           rfl
          refine hK.out _ _ ⟨⟨((cell_far (p := ⟨gb490, _, none⟩) NB499_490.o _).trans (((cell_far (p := ⟨gb490, _, none⟩) NB499_490.o _).trans (((cell_far (p := ⟨gb490, _, none⟩) NB499_490.o _).trans (hHd.1.1)))))), ((cell_far (p := ⟨gb490, _, none⟩) NB499_490.o _).trans (((cell_far (p := ⟨gb490, _, none⟩) NB499_490.o _).trans (((cell_far (p := ⟨gb490, _, none⟩) NB499_490.o _).trans (hHd.1.2.1)))))), ((cell_far (p := ⟨gb490, _, none⟩) NB499_490.o _).trans (((cell_far (p := ⟨gb490, _, none⟩) NB499_490.o _).trans (((cell_far (p := ⟨gb490, _, none⟩) NB499_490.o _).trans (hHd.1.2.2))))))⟩, ⟨((cell_far (p := ⟨gb490, _, none⟩) NB506_490.o _).trans (((cell_far (p := ⟨gb490, _, none⟩) NB506_490.o _).trans (((cell_far (p := ⟨gb490, _, none⟩) NB506_490.o _).trans (hHd.2.1)))))), ((cell_far (p := ⟨gb490, _, none⟩) NB506_490.o _).trans (((cell_far (p := ⟨gb490, _, none⟩) NB506_490.o _).trans (((cell_far (p := ⟨gb490, _, none⟩) NB506_490.o _).trans (hHd.2.2.1)))))), ((cell_far (p := ⟨gb490, _, none⟩) NB506_490.o _).trans (((cell_far (p := ⟨gb490, _, none⟩) NB506_490.o _).trans (((cell_far (p := ⟨gb490, _, none⟩) NB506_490.o _).trans (hHd.2.2.2))))))⟩⟩ (fun hHd => ?_)
          clear hK K
          refine done_ (by kernel_rfl) ?_
          try go_wp2
          refine bodyPost_ret (results_cc rfl _ _ gb489 gb490 34 34 #[.int .i64 t492, .int .i64 t493, .slice Ao108 x500002_39.length co108] #[.int .i64 t525, .int .i64 t526, .slice Ao103 t527.length co103] (0, 0) (0, 0) _ _ rfl (zbp BK489.o) Tryz.underlying34 rfl (by kernel_rfl) rfl (zbp BK490.o) Tryz.underlying34 rfl (by kernel_rfl)) rfl ?_
          exact ⟨_, _, zew, by refine zDQ ?_; exact Kd.Q_mono (zQf (Kd.Q_far (p := ⟨gb489, 2, none⟩) (Kd.Q_far (p := ⟨gb489, 1, none⟩) (Kd.Q_far (p := ⟨gb489, 0, none⟩) (Kd.Q_types (Kd.Q_types HO_500002.o BK489.o (by decide)) BK490.o (by decide)) (fun _ hk => hk.1.2) (.int .i64 t492)) (fun _ hk => hk.1.2) (.int .i64 t493)) (fun _ hk => hk.1.2) (.slice Ao108 x500002_39.length co108))) (fun _ hk => hk.1.1.2), Kd.Q_of_R (by refine zDR ?_; exact Kd.R_mono (zRf (Kd.R_far (p := ⟨gb489, 2, none⟩) (Kd.R_far (p := ⟨gb489, 1, none⟩) (Kd.R_far (p := ⟨gb489, 0, none⟩) (Kd.R_types (Kd.R_types HO529.o BK489.o (by decide)) BK490.o (by decide)) (fun _ hk => hk.1.2) (.int .i64 t492)) (fun _ hk => hk.1.2) (.int .i64 t493)) (fun _ hk => hk.1.2) (.slice Ao108 x500002_39.length co108))) (fun _ hk => hk.1.1.1)), zhB HB.o⟩
attribute [local go_sem high] eqA25
theorem closure112 (x : S25) (a1 : Int) (g : Nat) (w : World) (hq : w.cell? ⟨g, 0, none⟩ = some (.int .i64 a1)) :
  Calls Tryz.prog 112 #[.agg #[.int .i64 x.f0, .int .i64 x.f1, .int .i64 x.f2, .int .i64 x.f3, .int .i64 x.f4, .int .i64 x.f5], .pointer (some ⟨g, 0, none⟩)] w fun e w' => e = .returned (.bool (decide (x.f0 = a1))) ∧ Below w.heap.size w w' := by
 have hu25 := Tryz.underlying25
 have HB := am (Below.refl w.heap.size w)
 go_enter Tryz.func112, Tryz.ntmps112
 go_wp2_with (first | ((with_reducible refine zgd 2 rfl ?_); refine zbe 2 #[.int .i64 x.f0, .int .i64 x.f1, .int .i64 x.f2, .int .i64 x.f3, .int .i64 x.f4, .int .i64 x.f5] 25 ?_; intro gb265 hg w12 hbox hb; have n0_ := am (bsq (zBx HB.o) hb); have n1_ := am (hbox); have n2_ := zns hg HB.o; replace hq := pw_cell_below n0_.o hq; clear HB; have HB := n0_; have BK265 := n1_; have GE265 := n2_; clear n0_ n1_ n2_; clear hb hbox hg; have hcz13_0 := (bkc BK265.o 0).trans rfl; have hcz13_1 := (bkc BK265.o 1).trans rfl; have hcz13_2 := (bkc BK265.o 2).trans rfl; have hcz13_3 := (bkc BK265.o 3).trans rfl; have hcz13_4 := (bkc BK265.o 4).trans rfl; have hcz13_5 := (bkc BK265.o 5).trans rfl))
 go_ret
 exact ⟨by first | rfl | (simp; done) | (simp [*]; done), zBy HB.o GE265.o⟩
def slices_IndexFunc_Warning.f (l0 : List (S25)) (a1 : Int) : Option (Int) := ixW.l0 (fun x => decide (x.f0 = a1)) (l0.length + 1) l0 0
theorem slices_IndexFunc_Warning.calls (g : Nat) (A0 : Option Addr) (c0 : Nat) (l0 : List (S25)) (a1 : Int) (r : Int) (w : World) (hr0 : Kd.C k25 w A0 l0.length l0) (hc0 : l0.length ≤ c0) (hq : w.cell? ⟨g, 0, none⟩ = some (.int .i64 a1)) (h : slices_IndexFunc_Warning.f l0 a1 = some r) :
 Calls Tryz.prog 111 #[.slice A0 l0.length c0, .func (.func 112) #[] #[.pointer (some ⟨g, 0, none⟩)]] w fun e w' => e = .returned (.int .i64 r) ∧ Below w.heap.size w w' :=
 ixW.calls (l0.length + 1) A0 c0 l0 (fun x => decide (x.f0 = a1)) 112 Tryz.f112 #[.pointer (some ⟨g, 0, none⟩)] r w (by kernel_rfl) (by kernel_rfl) (by kernel_rfl) (fun i _ _ W hW => closure112 (qa l0 i) a1 g W (pw_cell_below hW hq)) hr0 hc0 h
def qT.f (k : Nat) (l0 : List (S25)) (a1 : Int) : Option (Int) := (qx.f k l0).bind fun t532 => (if t532 = true then ((slices_IndexFunc_Warning.f l0 a1).bind fun t533 => (some t533)) else (some (-1)))
theorem qT.calls (k : Nat) (A0 : Option Addr) (c0 : Nat) (l0 : List (S25)) (a1 : Int) (r : Int) (w : World) (hr0 : Kd.C k25 w A0 l0.length l0) (hc0 : l0.length ≤ c0) (h : qT.f k l0 a1 = some r) :
 Calls Tryz.prog 76 #[.slice A0 l0.length c0, .int .i64 a1] w fun e w' => e = .returned (.int .i64 r) ∧ Below w.heap.size w w' := by
 have HR0 := am hr0
 have HC0 := am hc0
 clear hr0 hc0
 have HB := am (Below.refl w.heap.size w)
 unfold qT.f at h
 have H := h
 clear h
 obtain ⟨t532, A3, H⟩ := zob H
 try dsimp only at H
 by_cases c4 : t532 = true
 ·subst c4
  rw [if_pos rfl] at H
  obtain ⟨t533, A5, H⟩ := zob H
  try dsimp only at H
  focus
   obtain rfl := Option.some.inj H
   go_enter Tryz.func76, Tryz.ntmps76
   go_wp2_with (first | ((with_reducible refine zgd 3 rfl ?_); refine zbe 3 #[.int .i64 a1] 3 ?_; intro gbq hg wq hbox hb; replace HB := zhs HB hb; have BKq := am (hbox); clear hb hbox hg) | ((with_reducible refine zgc 70 rfl ?_); refine zgl 6 Tryz.func70 #[.slice A0 l0.length c0] ?_; (with_reducible refine (qx.calls k _ _ l0 true _ ?side1 ?side2 A3.o).mono ?_); (case side1 => exact Kd.C_below HR0.o (zBx HB.o)); (case side2 => exact HC0.o); rintro e w6 ⟨rfl, hb⟩; refine ⟨_, rfl, ?_⟩; have nq_ := zbl BKq.o hb; clear BKq; have BKq := nq_; clear nq_; replace HB := zhs HB hb; clear hb) | ((with_reducible refine zgc 111 rfl ?_); refine zgl 10 Tryz.func111 #[.slice A0 l0.length c0, .func (.func 112) #[] #[.pointer (some ⟨gbq, 0, none⟩)]] ?_; (with_reducible refine (slices_IndexFunc_Warning.calls gbq _ _ l0 a1 t533 _ ?side1 ?side2 ?sq A5.o).mono ?_); (case sq => exact (bkc (t := 3) (cs := #[.int .i64 a1]) (zbx BKq.o) 0).trans rfl); (case side1 => exact zCx (Kd.C_below HR0.o HB.o)); (case side2 => exact HC0.o); rintro e w9 ⟨rfl, hb⟩; refine ⟨_, rfl, ?_⟩; replace HB := zhs HB hb))
   go_ret
   exact ⟨zew, zBx HB.o⟩
 ·replace c4 := Bool.eq_false_iff.mpr c4
  subst c4
  rw [if_neg (show ¬ (false = true) by decide)] at H
  focus
   obtain rfl := Option.some.inj H
   go_enter Tryz.func76, Tryz.ntmps76
   go_wp2_with (first | ((with_reducible refine zgd 3 rfl ?_); refine zbe 3 #[.int .i64 a1] 3 ?_; intro gbq hg wq hbox hb; replace HB := zhs HB hb; have BKq := am (hbox); clear hb hbox hg) | ((with_reducible refine zgc 70 rfl ?_); refine zgl 6 Tryz.func70 #[.slice A0 l0.length c0] ?_; (with_reducible refine (qx.calls k _ _ l0 false _ ?side1 ?side2 A3.o).mono ?_); (case side1 => exact Kd.C_below HR0.o (zBx HB.o)); (case side2 => exact HC0.o); rintro e w7 ⟨rfl, hb⟩; refine ⟨_, rfl, ?_⟩; have nq_ := zbl BKq.o hb; clear BKq; have BKq := nq_; clear nq_; replace HB := zhs HB hb; clear hb))
   go_ret
   exact ⟨zew, zBx HB.o⟩
mutual
def qg.j0 : Nat → Bool → Int → Int → List (S25) → Int → Int → List (S25) → Option (List Int × List Int × List Int × Bool)
 | 0, _, _, _, _, _, _, _ => none
 | k + 1, x23, x535000, x535001, x535002, x536000, x536001, x536002 => if x23 = true then (some (([] : List Int), ([] : List Int), ([] : List Int), false)) else (qg.l0 k ([] : List Int) ([] : List Int) x536002 (x536002.length : Int) 0 x535000 x535001 x535002 x536000 x536001 x536002)
def qg.l0 : Nat → List Int → List Int → List (S25) → Int → Int → Int → Int → List (S25) → Int → Int → List (S25) → Option (List Int × List Int × List Int × Bool)
 | 0, _, _, _, _, _, _, _, _, _, _, _ => none
 | k + 1, x8, x10, x25, x26, x27, x535000, x535001, x535002, x536000, x536001, x536002 => if x27 < x26 then (if 0 ≤ x27 then (if x27 < (x25.length : Int) then ((qT.f k x535002 ((qa x25 x27).f0)).bind fun t540 => (if t540 < 0 then (if x8.length < 17592186044416 then (qg.l0 k (x8 ++ [(qa x25 x27).f0]) x10 x25 x26 (wrap64 (x27 + 1)) x535000 x535001 x535002 x536000 x536001 x536002) else (none)) else (if 0 ≤ t540 then (if t540 < (x535002.length : Int) then (if (!(((qa x535002 t540).f0) == ((qa x25 x27).f0)) || (!(((qa x535002 t540).f1) == ((qa x25 x27).f1)) || (!(((qa x535002 t540).f2) == ((qa x25 x27).f2)) || (!(((qa x535002 t540).f3) == ((qa x25 x27).f3)) || (!(((qa x535002 t540).f4) == ((qa x25 x27).f4)) || (!(((qa x535002 t540).f5) == ((qa x25 x27).f5)))))))) = true then (if x10.length < 17592186044416 then (qg.l0 k x8 (x10 ++ [(qa x25 x27).f0]) x25 x26 (wrap64 (x27 + 1)) x535000 x535001 x535002 x536000 x536001 x536002) else (none)) else (qg.l0 k x8 x10 x25 x26 (wrap64 (x27 + 1)) x535000 x535001 x535002 x536000 x536001 x536002)) else (none)) else (none)))) else (none)) else (none)) else (qg.l1 k x8 ([] : List Int) x10 x535002 (x535002.length : Int) 0 x536000 x536001 x536002)
def qg.l1 : Nat → List Int → List Int → List Int → List (S25) → Int → Int → Int → Int → List (S25) → Option (List Int × List Int × List Int × Bool)
 | 0, _, _, _, _, _, _, _, _, _ => none
 | k + 1, x8, x9, x10, x59, x60, x61, x536000, x536001, x536002 => if x61 < x60 then (if 0 ≤ x61 then (if x61 < (x59.length : Int) then ((qT.f k x536002 ((qa x59 x61).f0)).bind fun t550 => (if t550 < 0 then (if x9.length < 17592186044416 then (qg.l1 k x8 (x9 ++ [(qa x59 x61).f0]) x10 x59 x60 (wrap64 (x61 + 1)) x536000 x536001 x536002) else (none)) else (qg.l1 k x8 x9 x10 x59 x60 (wrap64 (x61 + 1)) x536000 x536001 x536002))) else (none)) else (none)) else (some (x8, x9, x10, true))
end
def qg.f (k : Nat) (a0_0 : Int) (a0_1 : Int) (l0_2 : List (S25)) (a1_0 : Int) (a1_1 : Int) (l1_2 : List (S25)) : Option (List Int × List Int × List Int × Bool) := (qr.f k a0_0 a0_1 l0_2).bind fun t536 => (if t536 = true then ((qr.f k a1_0 a1_1 l1_2).bind fun t537 => (qg.j0 k (!t537) a0_0 a0_1 l0_2 a1_0 a1_1 l1_2)) else (qg.j0 k true a0_0 a0_1 l0_2 a1_0 a1_1 l1_2))
theorem qg.calls (k : Nat) (a0_0 : Int) (a0_1 : Int) (A0_2 : Option Addr) (c0_2 : Nat) (l0_2 : List (S25)) (a1_0 : Int) (a1_1 : Int) (A1_2 : Option Addr) (c1_2 : Nat) (l1_2 : List (S25)) (r1 : List Int) (r2 : List Int) (r3 : List Int) (r4 : Bool) (w : World) (hr0_2 : Kd.C k25 w A0_2 l0_2.length l0_2) (hc0_2 : l0_2.length ≤ c0_2) (hr1_2 : Kd.C k25 w A1_2 l1_2.length l1_2) (hc1_2 : l1_2.length ≤ c1_2) (h : qg.f k a0_0 a0_1 l0_2 a1_0 a1_1 l1_2 = some (r1, r2, r3, r4)) :
 Calls Tryz.prog 28 #[.agg #[.int .i64 a0_0, .int .i64 a0_1, .slice A0_2 l0_2.length c0_2], .agg #[.int .i64 a1_0, .int .i64 a1_1, .slice A1_2 l1_2.length c1_2]] w fun e w' => ∃ v0_ v1_ v2_ : Value, e = .returned (.tuple #[v0_, v1_, v2_, .bool r4]) ∧ Kd.R (Kd.int .i64) 3 w' w.heap.size (fun k_ => some k_ ≠ (v1_ : Value).ownBlock ∧ some k_ ≠ (v2_ : Value).ownBlock) v0_ r1 ∧ Kd.R (Kd.int .i64) 3 w' w.heap.size (fun k_ => some k_ ≠ (v0_ : Value).ownBlock ∧ some k_ ≠ (v2_ : Value).ownBlock) v1_ r2 ∧ Kd.R (Kd.int .i64) 3 w' w.heap.size (fun k_ => some k_ ≠ (v0_ : Value).ownBlock ∧ some k_ ≠ (v1_ : Value).ownBlock) v2_ r3 ∧ Below w.heap.size w w' := by
 have hu34 := Tryz.underlying34
 have hu25 := Tryz.underlying25
 have HR0_2 := am hr0_2
 have HC0_2 := am hc0_2
 clear hr0_2 hc0_2
 have HR1_2 := am hr1_2
 have HC1_2 := am hc1_2
 clear hr1_2 hc1_2
 have HB := am (Below.refl w.heap.size w)
 unfold qg.f at h
 have H := h
 clear h
 have HC3 := am H
 clear H
 go_enter Tryz.func28, Tryz.ntmps28
 go_upto_region 1 with (first | ((with_reducible refine zgd 2 rfl ?_); refine zbe 2 #[.int .i64 a0_0, .int .i64 a0_1, .slice A0_2 l0_2.length c0_2] 34 ?_; intro gb534 hg w4 hbox hb; have BK534 := am (hbox); have GW534 := zns hg HB.o; have GE534 := zns hg HB.o; replace HB := zhs HB hb; clear hb hbox hg) | ((with_reducible refine zgd 3 rfl ?_); refine zbe 3 #[.int .i64 a1_0, .int .i64 a1_1, .slice A1_2 l1_2.length c1_2] 34 ?_; intro gb535 hg w5 hbox hb; have BK535 := am (hbox); have GW535 := zns hg HB.o; have GE535 := zns hg HB.o; replace HB := zhs HB hb; have NB534_535 := znl hg BK534.o; have NB535_534 := zng hg BK534.o; replace BK534 := zbl BK534.o hb; clear hb hbox hg))
 (try simp only [Act.put, List.setIfInBounds_toArray, List.set_cons_zero, List.set_cons_succ])
 go_cut [23] (fun v23 wc => ∃ (kq : Nat) (x23_2 : Bool), v23 = .bool x23_2 ∧ Aq (qg.j0 kq x23_2 a0_0 a0_1 l0_2 a1_0 a1_1 l1_2 = some (r1, r2, r3, r4)) ∧ Aq (kq ≤ k) ∧ Aq (wc.heap[gb534]? = some (.cells #[.int .i64 a0_0, .int .i64 a0_1, (.slice A0_2 l0_2.length c0_2)] 34 (0, 0))) ∧ Aq (wc.heap[gb535]? = some (.cells #[.int .i64 a1_0, .int .i64 a1_1, (.slice A1_2 l1_2.length c1_2)] 34 (0, 0))) ∧ Aq (Below w.heap.size w wc))
 case first =>
  have H := HC3.o
  clear HC3
  obtain ⟨t536, A6, H⟩ := zob H
  try dsimp only at H
  by_cases c7 : t536 = true
  rotate_left
  ·replace c7 := Bool.eq_false_iff.mpr c7
   subst c7
   rw [if_neg (show ¬ (false = true) by decide)] at H
   focus
    have H' := am H
    clear H
    have hnb14 := NB534_535.o
    have hnc14 := NB535_534.o
    have hcz15 := zc3 BK534.o
    go_wp2_with (first | (go_at_call 24; (with_reducible refine (qr.calls k a0_0 a0_1 _ _ l0_2 false _ ?side1 ?side2 A6.o).mono ?_); (case side1 => exact zCx (Kd.C_below HR0_2.o HB.o)); (case side2 => exact HC0_2.o); rintro e w16 ⟨rfl, hb⟩; replace BK534 := zbl BK534.o hb; replace BK535 := zbl BK535.o hb; replace HB := zhs HB hb; clear hb))
    go_meet
    case rel => exact ⟨_, (true), zrx, H', ⟨by first | omega | exact Nat.le_refl _⟩, ⟨zbx BK534.o⟩, ⟨zbx BK535.o⟩, ⟨zBz HB.o GE534.o GE535.o⟩⟩
  subst c7
  rw [if_pos rfl] at H
  obtain ⟨t537, A8, H⟩ := zob H
  try dsimp only at H
  focus
   have H' := am H
   clear H
   have hnb9 := NB534_535.o
   have hnc9 := NB535_534.o
   have hcz10 := zc3 BK534.o
   go_wp2_with (first | (go_at_call 24; (with_reducible refine (qr.calls k a0_0 a0_1 _ _ l0_2 true _ ?side1 ?side2 A6.o).mono ?_); (case side1 => exact zCx (Kd.C_below HR0_2.o HB.o)); (case side2 => exact HC0_2.o); rintro e w11 ⟨rfl, hb⟩; replace BK534 := zbl BK534.o hb; replace BK535 := zbl BK535.o hb; replace HB := zhs HB hb; clear hb; have hcz12 := zc3 BK535.o) | (go_at_call 24; (with_reducible refine (qr.calls k a1_0 a1_1 _ _ l1_2 t537 _ ?side1 ?side2 A8.o).mono ?_); (case side1 => exact zCx (Kd.C_below HR1_2.o HB.o)); (case side2 => exact HC1_2.o); rintro e w13 ⟨rfl, hb⟩; replace BK534 := zbl BK534.o hb; replace BK535 := zbl BK535.o hb; replace HB := zhs HB hb; clear hb))
   go_meet
   case rel => exact ⟨_, (!t537), zrx, H', ⟨by first | omega | exact Nat.le_refl _⟩, ⟨zbx BK534.o⟩, ⟨zbx BK535.o⟩, ⟨zBz HB.o GE534.o GE535.o⟩⟩
 case rest =>
  clear HC3
  obtain ⟨kq, x23_2, rfl, HA, HJ2, BK534, BK535, HB⟩ := hcut
  cases kq with
  | zero => exact absurd HA.o (by simp [qg.j0])
  | succ kj2 =>
   have H := HA.o
   clear HA
   simp only [qg.j0] at H
   by_cases c17 : x23_2 = true
   ·subst c17
    rw [if_pos rfl] at H
    focus
     simp only [Option.some.injEq, Prod.mk.injEq] at H
     obtain ⟨rfl, rfl, rfl, rfl⟩ := H
     go_wp2
     refine bodyPost_ret (results_list (rs := [.tmp 4, .tmp 5, .tmp 6, .tmp 7]) rfl (by simp) (.tmp (.tmp (.tmp (.tmp .nil))))) rfl ?_
     exact ⟨_, _, _, zew, by first | exact Kd.R_nil _ _ _ _ _ | exact Kd.N_nil _ _ _ _ _ | exact Kd.V_nil _ _ _ _ _ | exact Kd.Q_nil _ _ _ _ _ | exact Kd.S_nil _ _ _ _ _, by first | exact Kd.R_nil _ _ _ _ _ | exact Kd.N_nil _ _ _ _ _ | exact Kd.V_nil _ _ _ _ _ | exact Kd.Q_nil _ _ _ _ _ | exact Kd.S_nil _ _ _ _ _, by first | exact Kd.R_nil _ _ _ _ _ | exact Kd.N_nil _ _ _ _ _ | exact Kd.V_nil _ _ _ _ _ | exact Kd.Q_nil _ _ _ _ _ | exact Kd.S_nil _ _ _ _ _, zBz HB.o GE534.o GE535.o⟩
   replace c17 := Bool.eq_false_iff.mpr c17
   subst c17
   rw [if_neg (show ¬ (false = true) by decide)] at H
   have H' := am H
   clear H
   have hnb18 := NB535_534.o
   have hnc18 := NB534_535.o
   have hcz19 := zc3 BK535.o
   go_wp2
   go_loopg [8, 10, 27] kj2 (fun kq v8 v10 v27 w' => ∃ (x8_2 : List Int) (x10_2 : List Int) (x27_2 : Int), v27 = .int .i64 x27_2 ∧ Aq (qg.l0 kq x8_2 x10_2 l1_2 (l1_2.length : Int) x27_2 a0_0 a0_1 l0_2 a1_0 a1_1 l1_2 = some (r1, r2, r3, r4)) ∧ Aq (kq ≤ kj2) ∧ Aq (Kd.R (Kd.int .i64) 3 w' w.heap.size (fun k_ => some k_ ≠ (v10 : Value).ownBlock) v8 x8_2) ∧ Aq (Kd.R (Kd.int .i64) 3 w' w.heap.size (fun k_ => some k_ ≠ (v8 : Value).ownBlock) v10 x10_2) ∧ Aq (w'.heap[gb534]? = some (.cells #[.int .i64 a0_0, .int .i64 a0_1, (.slice A0_2 l0_2.length c0_2)] 34 (0, 0))) ∧ Aq (w'.heap[gb535]? = some (.cells #[.int .i64 a1_0, .int .i64 a1_1, (.slice A1_2 l1_2.length c1_2)] 34 (0, 0))) ∧ Aq (Below w.heap.size w w'))
   case atStart => exact ⟨(([] : List Int)), (([] : List Int)), (0), zrx, H', ⟨Nat.le_refl _⟩, ⟨by first | exact Kd.R_nil _ _ _ _ _ | exact Kd.N_nil _ _ _ _ _ | exact Kd.V_nil _ _ _ _ _ | exact Kd.Q_nil _ _ _ _ _ | exact Kd.S_nil _ _ _ _ _⟩, ⟨by first | exact Kd.R_nil _ _ _ _ _ | exact Kd.N_nil _ _ _ _ _ | exact Kd.V_nil _ _ _ _ _ | exact Kd.Q_nil _ _ _ _ _ | exact Kd.S_nil _ _ _ _ _⟩, ⟨zbx BK534.o⟩, ⟨zbx BK535.o⟩, ⟨zBz HB.o GE534.o GE535.o⟩⟩
   case round =>
    clear H'
    try clear c17
    try clear hcz19
    obtain ⟨x8_2, x10_2, x27_2, rfl, HA, HK2, HO_8, HO_10, BK534, BK535, HB⟩ := hrel
    cases gk with
    | zero => exact absurd HA.o (by simp [qg.l0])
    | succ k2 =>
     have H := HA.o
     clear HA
     simp only [qg.l0] at H
     by_cases c20 : x27_2 < (l1_2.length : Int)
     ·rw [if_pos c20] at H
      have c20b0 := decide_eq_true c20
      clear c20
      obtain ⟨c21, H⟩ := zin H
      have c21b0 := decide_eq_true c21
      clear c21
      obtain ⟨c22, H⟩ := zin H
      have c22b0 := decide_eq_true c22
      clear c22
      obtain ⟨t540, A23, H⟩ := zob H
      try dsimp only at H
      by_cases c24 : t540 < 0
      ·rw [if_pos c24] at H
       have c24b0 := decide_eq_true c24
       clear c24
       obtain ⟨c25, H⟩ := zin H
       have LMc25 := am c25
       clear c25
       obtain ⟨y541, hy541⟩ : ∃ y_ : List Int, y_ = (x8_2 ++ [(qa l1_2 x27_2).f0]) := ⟨_, rfl⟩
       replace H : (qg.l0 k2 y541 x10_2 l1_2 (l1_2.length : Int) (wrap64 (x27_2 + 1)) a0_0 a0_1 l0_2 a1_0 a1_1 l1_2) = some (r1, r2, r3, r4) := by rw [hy541]; exact H
       have Ny541 := am hy541
       clear hy541
       focus
        have H' := am H
        clear H
        have p538 : 0 ≤ (x27_2 : Int) := zod
        have q538 : x27_2 < (l1_2.length : Int) := zod
        obtain ⟨ad538, e538, hx538_0, hx538_1, hx538_2, hx538_3, hx538_4, hx538_5⟩ := at_T25 HR1_2.o x27_2 p538 q538
        cases e538
        obtain ⟨hx538_0, hx538_1, hx538_2, hx538_3, hx538_4, hx538_5⟩ := zh6 HB hx538_0 hx538_1 hx538_2 hx538_3 hx538_4 hx538_5
        replace p538 := eq_true p538
        replace q538 := eq_true q538
        go_wp2_with (first | ((with_reducible refine zgd 12 rfl ?_); refine zbe 12 #[.int .i64 0, .int .i64 0, .int .i64 0, .int .i64 0, .int .i64 0, .int .i64 0] 25 ?_; intro gb539 hg w26 hbox hb; replace HO_8 := zro HO_8 hb; replace HO_10 := zro HO_10 hb; have BK539 := am (hbox); have GW539 := zns hg HB.o; have GE539 := zns hg HB.o; replace HB := zhs HB hb; have NB534_539 := znl hg BK534.o; have NB539_534 := zng hg BK534.o; replace BK534 := zbl BK534.o hb; have NB535_539 := znl hg BK535.o; have NB539_535 := zng hg BK535.o; replace BK535 := zbl BK535.o hb; clear hb hbox hg; have hnb27 := NB539_534.o; have hnc27 := NB534_539.o; have hnb28 := NB539_535.o; have hnc28 := NB535_539.o; have hcz29 := zc6 BK539.o; have hnb30 := NB534_535.o; have hnc30 := NB535_534.o; have hcz31 := zc3 BK534.o) | (go_at_call 76; (with_reducible refine (qT.calls k2 _ _ l0_2 ((qa l1_2 x27_2).f0) t540 _ ?side1 ?side2 A23.o).mono ?_); (case side1 => exact Kd.C_below HR0_2.o (zhB HB.o)); (case side2 => exact HC0_2.o); rintro e w32 ⟨rfl, hb⟩; replace HO_8 := am (Kd.R_below (by (with_reducible repeat (first | apply Kd.R_alloc | apply Kd.R_drewN | apply Kd.R_drew)); exact (Kd.R_mono (zRf (Kd.R_types HO_8.o BK539.o (by decide))) (fun _ h_ => h_.1))) hb); replace HO_10 := am (Kd.R_below (by (with_reducible repeat (first | apply Kd.R_alloc | apply Kd.R_drewN | apply Kd.R_drew)); exact (Kd.R_mono (zRf (Kd.R_types HO_10.o BK539.o (by decide))) (fun _ h_ => h_.1))) hb); replace BK534 := zbl BK534.o hb; replace BK535 := zbl BK535.o hb; replace BK539 := am (blk_below (g := gb539) (o := .cells #[.int .i64 ((qa l1_2 x27_2).f0), .int .i64 ((qa l1_2 x27_2).f1), .int .i64 ((qa l1_2 x27_2).f2), .int .i64 ((qa l1_2 x27_2).f3), .int .i64 ((qa l1_2 x27_2).f4), .int .i64 ((qa l1_2 x27_2).f5)] 25 (0, 0)) (zbp BK539.o) hb); replace HB := zhs HB hb; clear hb; have hcz33 := zc6 BK539.o) | ((with_reducible refine gate_builtin (b := .append) (xs := #[.tmp 39, .tmp 42]) rfl ?_); at_builtin; refine Kd.R_append (Kd.int .i64) (w0 := w) w.heap.size rfl (.tmp 39) (.tmp 42) 45 3 (.int .i64 0) 8 rfl Tryz.underlying45 info3 rfl (by decide) (by omega) u8 x8_2 ((qa l1_2 x27_2).f0) [.int .i64 ((qa l1_2 x27_2).f0)] (fun k_ => some k_ ≠ (u10 : Value).ownBlock) (fun _ => False) rfl rfl ?aP (fun _ hk => hk.elim) ?aF ?aO ?aB ?aS ?aL ?_; (case aP => exact rfl); (case aB => exact (zhB HB.o)); (case aF => exact (fun k_ hk => Kd.fresh' (Kd.R_lt (zRx HO_10.o)) k_ hk)); (case aO => exact (zRx HO_8.o)); (case aS => exact (below_size (zhB HB.o))); (case aL => have := LMc25.o; omega); intro v542 w34 ho hb hg hat; rw [← Ny541.o] at ho; replace HO_10 := am (Kd.R_after (ok := (fun _ => True)) (by refine zDR ?_; exact Kd.R_mono HO_10.o (fun _ hk => ⟨trivial, hk⟩)) hg hat); replace BK534 := zgr BK534.o hg (Kd.R_ne HO_8.o BK534.o (by decide)); replace BK535 := zgr BK535.o hg (Kd.R_ne HO_8.o BK535.o (by decide)); replace BK539 := zgr BK539.o hg (Kd.R_ne HO_8.o BK539.o (by decide)); replace HB := am (hb); have HO543 := am (ho); clear HO_8; clear ho hb hg hat))
        go_roundg k2
        case measure => have := HJ2.o; have := HK2.o; omega
        case rel => exact ⟨(y541), (x10_2), (wrap64 (x27_2 + 1)), zrx, H', ⟨by have := HJ2.o; have := HK2.o; omega⟩, ⟨zDR HO543.o⟩, ⟨by refine zDR ?_; exact Kd.R_mono HO_10.o (fun _ hk => hk.2)⟩, ⟨zbx BK534.o⟩, ⟨zbx BK535.o⟩, ⟨zhB HB.o⟩⟩
      rw [if_neg c24] at H
      have c24b0 := decide_eq_false c24
      clear c24
      obtain ⟨c35, H⟩ := zin H
      have c35b0 := decide_eq_true c35
      clear c35
      obtain ⟨c36, H⟩ := zin H
      have c36b0 := decide_eq_true c36
      clear c36
      by_cases c37 : (!(((qa l0_2 t540).f0) == ((qa l1_2 x27_2).f0)) || (!(((qa l0_2 t540).f1) == ((qa l1_2 x27_2).f1)) || (!(((qa l0_2 t540).f2) == ((qa l1_2 x27_2).f2)) || (!(((qa l0_2 t540).f3) == ((qa l1_2 x27_2).f3)) || (!(((qa l0_2 t540).f4) == ((qa l1_2 x27_2).f4)) || (!(((qa l0_2 t540).f5) == ((qa l1_2 x27_2).f5)))))))) = true
      rotate_left
      ·rw [if_neg c37] at H
       have c37b0 : (!(((qa l0_2 t540).f0) == ((qa l1_2 x27_2).f0)) || (!(((qa l0_2 t540).f1) == ((qa l1_2 x27_2).f1)) || (!(((qa l0_2 t540).f2) == ((qa l1_2 x27_2).f2)) || (!(((qa l0_2 t540).f3) == ((qa l1_2 x27_2).f3)) || (!(((qa l0_2 t540).f4) == ((qa l1_2 x27_2).f4)) || (!(((qa l0_2 t540).f5) == ((qa l1_2 x27_2).f5)))))))) = false := by simpa using c37
       clear c37
       focus
        have H' := am H
        clear H
        have p538 : 0 ≤ (x27_2 : Int) := zod
        have q538 : x27_2 < (l1_2.length : Int) := zod
        obtain ⟨ad538, e538, hx538_0, hx538_1, hx538_2, hx538_3, hx538_4, hx538_5⟩ := at_T25 HR1_2.o x27_2 p538 q538
        cases e538
        obtain ⟨hx538_0, hx538_1, hx538_2, hx538_3, hx538_4, hx538_5⟩ := zh6 HB hx538_0 hx538_1 hx538_2 hx538_3 hx538_4 hx538_5
        replace p538 := eq_true p538
        replace q538 := eq_true q538
        go_wp2_with (first | ((with_reducible refine zgd 12 rfl ?_); refine zbe 12 #[.int .i64 0, .int .i64 0, .int .i64 0, .int .i64 0, .int .i64 0, .int .i64 0] 25 ?_; intro gb539 hg w49 hbox hb; replace HO_8 := zro HO_8 hb; replace HO_10 := zro HO_10 hb; have BK539 := am (hbox); have GW539 := zns hg HB.o; have GE539 := zns hg HB.o; replace HB := zhs HB hb; have NB534_539 := znl hg BK534.o; have NB539_534 := zng hg BK534.o; replace BK534 := zbl BK534.o hb; have NB535_539 := znl hg BK535.o; have NB539_535 := zng hg BK535.o; replace BK535 := zbl BK535.o hb; clear hb hbox hg; have hnb50 := NB539_534.o; have hnc50 := NB534_539.o; have hnb51 := NB539_535.o; have hnc51 := NB535_539.o; have hcz52 := zc6 BK539.o; have hnb53 := NB534_535.o; have hnc53 := NB535_534.o; have hcz54 := zc3 BK534.o) | (go_at_call 76; (with_reducible refine (qT.calls k2 _ _ l0_2 ((qa l1_2 x27_2).f0) t540 _ ?side1 ?side2 A23.o).mono ?_); (case side1 => exact Kd.C_below HR0_2.o (zhB HB.o)); (case side2 => exact HC0_2.o); rintro e w55 ⟨rfl, hb⟩; replace HO_8 := am (Kd.R_below (by (with_reducible repeat (first | apply Kd.R_alloc | apply Kd.R_drewN | apply Kd.R_drew)); exact (Kd.R_mono (zRf (Kd.R_types HO_8.o BK539.o (by decide))) (fun _ h_ => h_.1))) hb); replace HO_10 := am (Kd.R_below (by (with_reducible repeat (first | apply Kd.R_alloc | apply Kd.R_drewN | apply Kd.R_drew)); exact (Kd.R_mono (zRf (Kd.R_types HO_10.o BK539.o (by decide))) (fun _ h_ => h_.1))) hb); replace BK534 := zbl BK534.o hb; replace BK535 := zbl BK535.o hb; replace BK539 := am (blk_below (g := gb539) (o := .cells #[.int .i64 ((qa l1_2 x27_2).f0), .int .i64 ((qa l1_2 x27_2).f1), .int .i64 ((qa l1_2 x27_2).f2), .int .i64 ((qa l1_2 x27_2).f3), .int .i64 ((qa l1_2 x27_2).f4), .int .i64 ((qa l1_2 x27_2).f5)] 25 (0, 0)) (zbp BK539.o) hb); replace HB := zhs HB hb; clear hb; have hcz56 := zc3 BK534.o; have p544 : 0 ≤ (t540 : Int) := of_decide_eq_true zax; have q544 : t540 < (l0_2.length : Int) := of_decide_eq_true zax; obtain ⟨ad544, e544, hx544_0, hx544_1, hx544_2, hx544_3, hx544_4, hx544_5⟩ := at_T25 HR0_2.o t540 p544 q544; cases e544; obtain ⟨hx544_0, hx544_1, hx544_2, hx544_3, hx544_4, hx544_5⟩ := zh6 HB hx544_0 hx544_1 hx544_2 hx544_3 hx544_4 hx544_5; replace p544 := eq_true p544; replace q544 := eq_true q544; have hcz57 := zc6 BK539.o))
        repeat (go_quiet (fail); try go_wp2)
        go_roundg k2
        case measure => have := HJ2.o; have := HK2.o; omega
        case rel => exact ⟨(x8_2), (x10_2), (wrap64 (x27_2 + 1)), zrx, H', ⟨by have := HJ2.o; have := HK2.o; omega⟩, ⟨zDR HO_8.o⟩, ⟨zDR HO_10.o⟩, ⟨zbx BK534.o⟩, ⟨zbx BK535.o⟩, ⟨zhB HB.o⟩⟩
      rw [if_pos c37] at H
      have c37b0 : (!(((qa l0_2 t540).f0) == ((qa l1_2 x27_2).f0)) || (!(((qa l0_2 t540).f1) == ((qa l1_2 x27_2).f1)) || (!(((qa l0_2 t540).f2) == ((qa l1_2 x27_2).f2)) || (!(((qa l0_2 t540).f3) == ((qa l1_2 x27_2).f3)) || (!(((qa l0_2 t540).f4) == ((qa l1_2 x27_2).f4)) || (!(((qa l0_2 t540).f5) == ((qa l1_2 x27_2).f5)))))))) = true := c37
      clear c37
      obtain ⟨c38, H⟩ := zin H
      have LMc38 := am c38
      clear c38
      obtain ⟨y545, hy545⟩ : ∃ y_ : List Int, y_ = (x10_2 ++ [(qa l1_2 x27_2).f0]) := ⟨_, rfl⟩
      replace H : (qg.l0 k2 x8_2 y545 l1_2 (l1_2.length : Int) (wrap64 (x27_2 + 1)) a0_0 a0_1 l0_2 a1_0 a1_1 l1_2) = some (r1, r2, r3, r4) := by rw [hy545]; exact H
      have Ny545 := am hy545
      clear hy545
      focus
       have H' := am H
       clear H
       have p538 : 0 ≤ (x27_2 : Int) := zod
       have q538 : x27_2 < (l1_2.length : Int) := zod
       obtain ⟨ad538, e538, hx538_0, hx538_1, hx538_2, hx538_3, hx538_4, hx538_5⟩ := at_T25 HR1_2.o x27_2 p538 q538
       cases e538
       obtain ⟨hx538_0, hx538_1, hx538_2, hx538_3, hx538_4, hx538_5⟩ := zh6 HB hx538_0 hx538_1 hx538_2 hx538_3 hx538_4 hx538_5
       replace p538 := eq_true p538
       replace q538 := eq_true q538
       go_wp2_with (first | ((with_reducible refine zgd 12 rfl ?_); refine zbe 12 #[.int .i64 0, .int .i64 0, .int .i64 0, .int .i64 0, .int .i64 0, .int .i64 0] 25 ?_; intro gb539 hg w39 hbox hb; replace HO_8 := zro HO_8 hb; replace HO_10 := zro HO_10 hb; have BK539 := am (hbox); have GW539 := zns hg HB.o; have GE539 := zns hg HB.o; replace HB := zhs HB hb; have NB534_539 := znl hg BK534.o; have NB539_534 := zng hg BK534.o; replace BK534 := zbl BK534.o hb; have NB535_539 := znl hg BK535.o; have NB539_535 := zng hg BK535.o; replace BK535 := zbl BK535.o hb; clear hb hbox hg; have hnb40 := NB539_534.o; have hnc40 := NB534_539.o; have hnb41 := NB539_535.o; have hnc41 := NB535_539.o; have hcz42 := zc6 BK539.o; have hnb43 := NB534_535.o; have hnc43 := NB535_534.o; have hcz44 := zc3 BK534.o) | (go_at_call 76; (with_reducible refine (qT.calls k2 _ _ l0_2 ((qa l1_2 x27_2).f0) t540 _ ?side1 ?side2 A23.o).mono ?_); (case side1 => exact Kd.C_below HR0_2.o (zhB HB.o)); (case side2 => exact HC0_2.o); rintro e w45 ⟨rfl, hb⟩; replace HO_8 := am (Kd.R_below (by (with_reducible repeat (first | apply Kd.R_alloc | apply Kd.R_drewN | apply Kd.R_drew)); exact (Kd.R_mono (zRf (Kd.R_types HO_8.o BK539.o (by decide))) (fun _ h_ => h_.1))) hb); replace HO_10 := am (Kd.R_below (by (with_reducible repeat (first | apply Kd.R_alloc | apply Kd.R_drewN | apply Kd.R_drew)); exact (Kd.R_mono (zRf (Kd.R_types HO_10.o BK539.o (by decide))) (fun _ h_ => h_.1))) hb); replace BK534 := zbl BK534.o hb; replace BK535 := zbl BK535.o hb; replace BK539 := am (blk_below (g := gb539) (o := .cells #[.int .i64 ((qa l1_2 x27_2).f0), .int .i64 ((qa l1_2 x27_2).f1), .int .i64 ((qa l1_2 x27_2).f2), .int .i64 ((qa l1_2 x27_2).f3), .int .i64 ((qa l1_2 x27_2).f4), .int .i64 ((qa l1_2 x27_2).f5)] 25 (0, 0)) (zbp BK539.o) hb); replace HB := zhs HB hb; clear hb; have hcz46 := zc3 BK534.o; have p544 : 0 ≤ (t540 : Int) := of_decide_eq_true zax; have q544 : t540 < (l0_2.length : Int) := of_decide_eq_true zax; obtain ⟨ad544, e544, hx544_0, hx544_1, hx544_2, hx544_3, hx544_4, hx544_5⟩ := at_T25 HR0_2.o t540 p544 q544; cases e544; obtain ⟨hx544_0, hx544_1, hx544_2, hx544_3, hx544_4, hx544_5⟩ := zh6 HB hx544_0 hx544_1 hx544_2 hx544_3 hx544_4 hx544_5; replace p544 := eq_true p544; replace q544 := eq_true q544; have hcz47 := zc6 BK539.o) | ((with_reducible refine gate_builtin (b := .append) (xs := #[.tmp 52, .tmp 55]) rfl ?_); at_builtin; refine Kd.R_append (Kd.int .i64) (w0 := w) w.heap.size rfl (.tmp 52) (.tmp 55) 45 3 (.int .i64 0) 8 rfl Tryz.underlying45 info3 rfl (by decide) (by omega) u10 x10_2 ((qa l1_2 x27_2).f0) [.int .i64 ((qa l1_2 x27_2).f0)] (fun k_ => some k_ ≠ (u8 : Value).ownBlock) (fun _ => False) rfl rfl ?aP (fun _ hk => hk.elim) ?aF ?aO ?aB ?aS ?aL ?_; (case aP => exact rfl); (case aB => exact (zhB HB.o)); (case aF => exact (fun k_ hk => Kd.fresh' (Kd.R_lt (zRx HO_8.o)) k_ hk)); (case aO => exact (zRx HO_10.o)); (case aS => exact (below_size (zhB HB.o))); (case aL => have := LMc38.o; omega); intro v546 w48 ho hb hg hat; rw [← Ny545.o] at ho; replace HO_8 := am (Kd.R_after (ok := (fun _ => True)) (by refine zDR ?_; exact Kd.R_mono HO_8.o (fun _ hk => ⟨trivial, hk⟩)) hg hat); replace BK534 := zgr BK534.o hg (Kd.R_ne HO_10.o BK534.o (by decide)); replace BK535 := zgr BK535.o hg (Kd.R_ne HO_10.o BK535.o (by decide)); replace BK539 := zgr BK539.o hg (Kd.R_ne HO_10.o BK539.o (by decide)); replace HB := am (hb); have HO547 := am (ho); clear HO_10; clear ho hb hg hat))
       repeat (go_quiet (fail); try go_wp2_with (first | ((with_reducible refine gate_builtin (b := .append) (xs := #[.tmp 52, .tmp 55]) rfl ?_); at_builtin; refine Kd.R_append (Kd.int .i64) (w0 := w) w.heap.size rfl (.tmp 52) (.tmp 55) 45 3 (.int .i64 0) 8 rfl Tryz.underlying45 info3 rfl (by decide) (by omega) u10 x10_2 ((qa l1_2 x27_2).f0) [.int .i64 ((qa l1_2 x27_2).f0)] (fun k_ => some k_ ≠ (u8 : Value).ownBlock) (fun _ => False) rfl rfl ?aP (fun _ hk => hk.elim) ?aF ?aO ?aB ?aS ?aL ?_; (case aP => exact rfl); (case aB => exact (zhB HB.o)); (case aF => exact (fun k_ hk => Kd.fresh' (Kd.R_lt (zRx HO_8.o)) k_ hk)); (case aO => exact (zRx HO_10.o)); (case aS => exact (below_size (zhB HB.o))); (case aL => have := LMc38.o; omega); intro v546 w48 ho hb hg hat; rw [← Ny545.o] at ho; replace HO_8 := am (Kd.R_after (ok := (fun _ => True)) (by refine zDR ?_; exact Kd.R_mono HO_8.o (fun _ hk => ⟨trivial, hk⟩)) hg hat); replace BK534 := zgr BK534.o hg (Kd.R_ne HO_10.o BK534.o (by decide)); replace BK535 := zgr BK535.o hg (Kd.R_ne HO_10.o BK535.o (by decide)); replace BK539 := zgr BK539.o hg (Kd.R_ne HO_10.o BK539.o (by decide)); replace HB := am (hb); have HO547 := am (ho); clear HO_10; clear ho hb hg hat)))
       go_roundg k2
       case measure => have := HJ2.o; have := HK2.o; omega
       case rel => exact ⟨(x8_2), (y545), (wrap64 (x27_2 + 1)), zrx, H', ⟨by have := HJ2.o; have := HK2.o; omega⟩, ⟨by refine zDR ?_; exact Kd.R_mono HO_8.o (fun _ hk => hk.2)⟩, ⟨zDR HO547.o⟩, ⟨zbx BK534.o⟩, ⟨zbx BK535.o⟩, ⟨zhB HB.o⟩⟩
     rw [if_neg c20] at H
     have c20b0 := decide_eq_false c20
     clear c20
     have H' := am H
     clear H
     have hnb58 := NB534_535.o
     have hnc58 := NB535_534.o
     have hcz59 := zc3 BK534.o
     go_wp2
     go_loopg [9, 61] k2 (fun kq v9 v61 w' => ∃ (x9_3 : List Int) (x61_3 : Int), v61 = .int .i64 x61_3 ∧ Aq (qg.l1 kq x8_2 x9_3 x10_2 l0_2 (l0_2.length : Int) x61_3 a1_0 a1_1 l1_2 = some (r1, r2, r3, r4)) ∧ Aq (kq ≤ k2) ∧ Aq (Kd.R (Kd.int .i64) 3 w' w.heap.size (fun k_ => some k_ ≠ (v9 : Value).ownBlock ∧ some k_ ≠ (u10 : Value).ownBlock) u8 x8_2) ∧ Aq (Kd.R (Kd.int .i64) 3 w' w.heap.size (fun k_ => some k_ ≠ (u8 : Value).ownBlock ∧ some k_ ≠ (u10 : Value).ownBlock) v9 x9_3) ∧ Aq (Kd.R (Kd.int .i64) 3 w' w.heap.size (fun k_ => some k_ ≠ (u8 : Value).ownBlock ∧ some k_ ≠ (v9 : Value).ownBlock) u10 x10_2) ∧ Aq (w'.heap[gb534]? = some (.cells #[.int .i64 a0_0, .int .i64 a0_1, (.slice A0_2 l0_2.length c0_2)] 34 (0, 0))) ∧ Aq (w'.heap[gb535]? = some (.cells #[.int .i64 a1_0, .int .i64 a1_1, (.slice A1_2 l1_2.length c1_2)] 34 (0, 0))) ∧ Aq (Below w.heap.size w w'))
     case atStart => exact ⟨(([] : List Int)), (0), zrx, H', ⟨Nat.le_refl _⟩, ⟨by refine zDR ?_; exact Kd.R_mono HO_8.o (fun _ hk => ⟨(by simp [Value.ownBlock]), hk⟩)⟩, ⟨by first | exact Kd.R_nil _ _ _ _ _ | exact Kd.N_nil _ _ _ _ _ | exact Kd.V_nil _ _ _ _ _ | exact Kd.Q_nil _ _ _ _ _ | exact Kd.S_nil _ _ _ _ _⟩, ⟨by refine zDR ?_; exact Kd.R_mono HO_10.o (fun _ hk => ⟨hk, (by simp [Value.ownBlock])⟩)⟩, ⟨zbx BK534.o⟩, ⟨zbx BK535.o⟩, ⟨zBz HB.o GE534.o GE535.o⟩⟩
     case round =>
      clear H'
      try clear c17
      try clear c20
      try clear c20b0
      try clear hcz19
      try clear hcz59
      obtain ⟨x9_3, x61_3, rfl, HA, HK3, HO_8, HO_9, HO_10, BK534, BK535, HB⟩ := hrel
      cases gk with
      | zero => exact absurd HA.o (by simp [qg.l1])
      | succ k3 =>
       have H := HA.o
       clear HA
       simp only [qg.l1] at H
       by_cases c60 : x61_3 < (l0_2.length : Int)
       rotate_left
       ·rw [if_neg c60] at H
        have c60b0 := decide_eq_false c60
        clear c60
        focus
         simp only [Option.some.injEq, Prod.mk.injEq] at H
         obtain ⟨rfl, rfl, rfl, rfl⟩ := H
         go_wp2
         refine bodyPost_ret (results_list (rs := [.tmp 4, .tmp 5, .tmp 6, .tmp 7]) rfl (by simp) (.tmp (.tmp (.tmp (.tmp .nil))))) rfl ?_
         exact ⟨_, _, _, zew, zDR HO_8.o, zDR HO_9.o, zDR HO_10.o, zBz HB.o GE534.o GE535.o⟩
       rw [if_pos c60] at H
       have c60b0 := decide_eq_true c60
       clear c60
       obtain ⟨c61, H⟩ := zin H
       have c61b0 := decide_eq_true c61
       clear c61
       obtain ⟨c62, H⟩ := zin H
       have c62b0 := decide_eq_true c62
       clear c62
       obtain ⟨t550, A63, H⟩ := zob H
       try dsimp only at H
       by_cases c64 : t550 < 0
       rotate_left
       ·rw [if_neg c64] at H
        have c64b0 := decide_eq_false c64
        clear c64
        focus
         have H' := am H
         clear H
         have p548 : 0 ≤ (x61_3 : Int) := zod
         have q548 : x61_3 < (l0_2.length : Int) := zod
         obtain ⟨ad548, e548, hx548_0, hx548_1, hx548_2, hx548_3, hx548_4, hx548_5⟩ := at_T25 HR0_2.o x61_3 p548 q548
         cases e548
         obtain ⟨hx548_0, hx548_1, hx548_2, hx548_3, hx548_4, hx548_5⟩ := zh6 HB hx548_0 hx548_1 hx548_2 hx548_3 hx548_4 hx548_5
         replace p548 := eq_true p548
         replace q548 := eq_true q548
         go_wp2_with (first | ((with_reducible refine zgd 15 rfl ?_); refine zbe 15 #[.int .i64 0, .int .i64 0, .int .i64 0, .int .i64 0, .int .i64 0, .int .i64 0] 25 ?_; intro gb549 hg w75 hbox hb; replace HO_8 := zro HO_8 hb; replace HO_9 := zro HO_9 hb; replace HO_10 := zro HO_10 hb; have BK549 := am (hbox); have GW549 := zns hg HB.o; have GE549 := zns hg HB.o; replace HB := zhs HB hb; have NB534_549 := znl hg BK534.o; have NB549_534 := zng hg BK534.o; replace BK534 := zbl BK534.o hb; have NB535_549 := znl hg BK535.o; have NB549_535 := zng hg BK535.o; replace BK535 := zbl BK535.o hb; clear hb hbox hg; have hnb76 := NB549_534.o; have hnc76 := NB534_549.o; have hnb77 := NB549_535.o; have hnc77 := NB535_549.o; have hcz78 := zc6 BK549.o; have hnb79 := NB535_534.o; have hnc79 := NB534_535.o; have hcz80 := zc3 BK535.o) | (go_at_call 76; (with_reducible refine (qT.calls k3 _ _ l1_2 ((qa l0_2 x61_3).f0) t550 _ ?side1 ?side2 A63.o).mono ?_); (case side1 => exact Kd.C_below HR1_2.o (zhB HB.o)); (case side2 => exact HC1_2.o); rintro e w81 ⟨rfl, hb⟩; replace HO_8 := am (Kd.R_below (by (with_reducible repeat (first | apply Kd.R_alloc | apply Kd.R_drewN | apply Kd.R_drew)); exact (Kd.R_mono (zRf (Kd.R_types HO_8.o BK549.o (by decide))) (fun _ h_ => h_.1))) hb); replace HO_9 := am (Kd.R_below (by (with_reducible repeat (first | apply Kd.R_alloc | apply Kd.R_drewN | apply Kd.R_drew)); exact (Kd.R_mono (zRf (Kd.R_types HO_9.o BK549.o (by decide))) (fun _ h_ => h_.1))) hb); replace HO_10 := am (Kd.R_below (by (with_reducible repeat (first | apply Kd.R_alloc | apply Kd.R_drewN | apply Kd.R_drew)); exact (Kd.R_mono (zRf (Kd.R_types HO_10.o BK549.o (by decide))) (fun _ h_ => h_.1))) hb); replace BK534 := zbl BK534.o hb; replace BK535 := zbl BK535.o hb; replace BK549 := am (blk_below (g := gb549) (o := .cells #[.int .i64 ((qa l0_2 x61_3).f0), .int .i64 ((qa l0_2 x61_3).f1), .int .i64 ((qa l0_2 x61_3).f2), .int .i64 ((qa l0_2 x61_3).f3), .int .i64 ((qa l0_2 x61_3).f4), .int .i64 ((qa l0_2 x61_3).f5)] 25 (0, 0)) (zbp BK549.o) hb); replace HB := zhs HB hb; clear hb))
         go_roundg k3
         case measure => have := HJ2.o; have := HK2.o; have := HK3.o; omega
         case rel => exact ⟨(x9_3), (wrap64 (x61_3 + 1)), zrx, H', ⟨by have := HJ2.o; have := HK2.o; have := HK3.o; omega⟩, ⟨zDR HO_8.o⟩, ⟨zDR HO_9.o⟩, ⟨zDR HO_10.o⟩, ⟨zbx BK534.o⟩, ⟨zbx BK535.o⟩, ⟨zhB HB.o⟩⟩
       rw [if_pos c64] at H
       have c64b0 := decide_eq_true c64
       clear c64
       obtain ⟨c65, H⟩ := zin H
       have LMc65 := am c65
       clear c65
       obtain ⟨y551, hy551⟩ : ∃ y_ : List Int, y_ = (x9_3 ++ [(qa l0_2 x61_3).f0]) := ⟨_, rfl⟩
       replace H : (qg.l1 k3 x8_2 y551 x10_2 l0_2 (l0_2.length : Int) (wrap64 (x61_3 + 1)) a1_0 a1_1 l1_2) = some (r1, r2, r3, r4) := by rw [hy551]; exact H
       have Ny551 := am hy551
       clear hy551
       focus
        have H' := am H
        clear H
        have p548 : 0 ≤ (x61_3 : Int) := zod
        have q548 : x61_3 < (l0_2.length : Int) := zod
        obtain ⟨ad548, e548, hx548_0, hx548_1, hx548_2, hx548_3, hx548_4, hx548_5⟩ := at_T25 HR0_2.o x61_3 p548 q548
        cases e548
        obtain ⟨hx548_0, hx548_1, hx548_2, hx548_3, hx548_4, hx548_5⟩ := zh6 HB hx548_0 hx548_1 hx548_2 hx548_3 hx548_4 hx548_5
        replace p548 := eq_true p548
        replace q548 := eq_true q548
        go_wp2_with (first | ((with_reducible refine zgd 15 rfl ?_); refine zbe 15 #[.int .i64 0, .int .i64 0, .int .i64 0, .int .i64 0, .int .i64 0, .int .i64 0] 25 ?_; intro gb549 hg w66 hbox hb; replace HO_8 := zro HO_8 hb; replace HO_9 := zro HO_9 hb; replace HO_10 := zro HO_10 hb; have BK549 := am (hbox); have GW549 := zns hg HB.o; have GE549 := zns hg HB.o; replace HB := zhs HB hb; have NB534_549 := znl hg BK534.o; have NB549_534 := zng hg BK534.o; replace BK534 := zbl BK534.o hb; have NB535_549 := znl hg BK535.o; have NB549_535 := zng hg BK535.o; replace BK535 := zbl BK535.o hb; clear hb hbox hg; have hnb67 := NB549_534.o; have hnc67 := NB534_549.o; have hnb68 := NB549_535.o; have hnc68 := NB535_549.o; have hcz69 := zc6 BK549.o; have hnb70 := NB535_534.o; have hnc70 := NB534_535.o; have hcz71 := zc3 BK535.o) | (go_at_call 76; (with_reducible refine (qT.calls k3 _ _ l1_2 ((qa l0_2 x61_3).f0) t550 _ ?side1 ?side2 A63.o).mono ?_); (case side1 => exact Kd.C_below HR1_2.o (zhB HB.o)); (case side2 => exact HC1_2.o); rintro e w72 ⟨rfl, hb⟩; replace HO_8 := am (Kd.R_below (by (with_reducible repeat (first | apply Kd.R_alloc | apply Kd.R_drewN | apply Kd.R_drew)); exact (Kd.R_mono (zRf (Kd.R_types HO_8.o BK549.o (by decide))) (fun _ h_ => h_.1))) hb); replace HO_9 := am (Kd.R_below (by (with_reducible repeat (first | apply Kd.R_alloc | apply Kd.R_drewN | apply Kd.R_drew)); exact (Kd.R_mono (zRf (Kd.R_types HO_9.o BK549.o (by decide))) (fun _ h_ => h_.1))) hb); replace HO_10 := am (Kd.R_below (by (with_reducible repeat (first | apply Kd.R_alloc | apply Kd.R_drewN | apply Kd.R_drew)); exact (Kd.R_mono (zRf (Kd.R_types HO_10.o BK549.o (by decide))) (fun _ h_ => h_.1))) hb); replace BK534 := zbl BK534.o hb; replace BK535 := zbl BK535.o hb; replace BK549 := am (blk_below (g := gb549) (o := .cells #[.int .i64 ((qa l0_2 x61_3).f0), .int .i64 ((qa l0_2 x61_3).f1), .int .i64 ((qa l0_2 x61_3).f2), .int .i64 ((qa l0_2 x61_3).f3), .int .i64 ((qa l0_2 x61_3).f4), .int .i64 ((qa l0_2 x61_3).f5)] 25 (0, 0)) (zbp BK549.o) hb); replace HB := zhs HB hb; clear hb; have hcz73 := zc6 BK549.o) | ((with_reducible refine gate_builtin (b := .append) (xs := #[.tmp 71, .tmp 74]) rfl ?_); at_builtin; refine Kd.R_append (Kd.int .i64) (w0 := w) w.heap.size rfl (.tmp 71) (.tmp 74) 45 3 (.int .i64 0) 8 rfl Tryz.underlying45 info3 rfl (by decide) (by omega) u9 x9_3 ((qa l0_2 x61_3).f0) [.int .i64 ((qa l0_2 x61_3).f0)] (fun k_ => some k_ ≠ (u8 : Value).ownBlock ∧ some k_ ≠ (u10 : Value).ownBlock) (fun _ => False) rfl rfl ?aP (fun _ hk => hk.elim) ?aF ?aO ?aB ?aS ?aL ?_; (case aP => exact rfl); (case aB => exact (zhB HB.o)); (case aF => exact (fun k_ hk => ⟨Kd.fresh' (Kd.R_lt (zRx HO_8.o)) k_ hk, Kd.fresh' (Kd.R_lt (zRx HO_10.o)) k_ hk⟩)); (case aO => exact (zRx HO_9.o)); (case aS => exact (below_size (zhB HB.o))); (case aL => have := LMc65.o; omega); intro v552 w74 ho hb hg hat; rw [← Ny551.o] at ho; replace HO_8 := am (Kd.R_after (ok := (fun k_ => some k_ ≠ (u10 : Value).ownBlock)) (by refine zDR ?_; exact Kd.R_mono HO_8.o (fun _ hk => by first | exact ⟨hk.2, hk.1⟩ | exact ⟨hk.1, hk.2⟩ | grind)) hg hat); replace HO_10 := am (Kd.R_after (ok := (fun k_ => some k_ ≠ (u8 : Value).ownBlock)) (zRx HO_10.o) hg hat); replace BK534 := zgr BK534.o hg (Kd.R_ne HO_9.o BK534.o (by decide)); replace BK535 := zgr BK535.o hg (Kd.R_ne HO_9.o BK535.o (by decide)); replace BK549 := zgr BK549.o hg (Kd.R_ne HO_9.o BK549.o (by decide)); replace HB := am (hb); have HO553 := am (ho); clear HO_9; clear ho hb hg hat))
        go_roundg k3
        case measure => have := HJ2.o; have := HK2.o; have := HK3.o; omega
        case rel => exact ⟨(y551), (wrap64 (x61_3 + 1)), zrx, H', ⟨by have := HJ2.o; have := HK2.o; have := HK3.o; omega⟩, ⟨by refine zDR ?_; exact Kd.R_mono HO_8.o (fun _ hk => by first | exact ⟨hk.2, hk.1⟩ | exact ⟨hk.1, hk.2⟩ | grind)⟩, ⟨zDR HO553.o⟩, ⟨zDR HO_10.o⟩, ⟨zbx BK534.o⟩, ⟨zbx BK535.o⟩, ⟨zhB HB.o⟩⟩
def l14FindR.l0 : Nat → List (S25) → Int → Int → Option (Int)
 | 0, _, _, _ => none
 | k + 1, x0, x1, x5 => if x5 < (x0.length : Int) then (if 0 ≤ x5 then (if ((qa x0 x5).f0) = x1 then (some x5) else (l14FindR.l0 k x0 x1 (wrap64 (x5 + 1)))) else (none)) else (some (-1))
def l14FindR.f (k : Nat) (l0 : List (S25)) (a1 : Int) : Option (Int) := l14FindR.l0 k l0 a1 0
theorem l14FindR.calls (k : Nat) (A0 : Option Addr) (c0 : Nat) (l0 : List (S25)) (a1 : Int) (r : Int) (w : World) (hr0 : Kd.C k25 w A0 l0.length l0) (hc0 : l0.length ≤ c0) (h : l14FindR.f k l0 a1 = some r) :
 Calls Tryz.prog 77 #[.slice A0 l0.length c0, .int .i64 a1] w fun e w' => e = .returned (.int .i64 r) ∧ Dq w w' := by
 have HR0 := am hr0
 have HC0 := am hc0
 clear hr0 hc0
 unfold l14FindR.f at h
 have H := h
 clear h
 have H' := am H
 clear H
 go_enter Tryz.func77, Tryz.ntmps77
 go_wp2
 go_loopg [5] k (fun kq v5 w' => ∃ (x5_1 : Int), v5 = .int .i64 x5_1 ∧ Aq (l14FindR.l0 kq l0 a1 x5_1 = some r) ∧ Aq (kq ≤ k) ∧ Dq w w')
 case atStart => exact ⟨(0), zrx, H', ⟨Nat.le_refl _⟩, by repeat (first | exact Dq.refl _ | apply Dq.step)⟩
 case round =>
  clear H'
  obtain ⟨x5_1, rfl, HA, HK1, ⟨m1, rfl⟩⟩ := hrel
  cases gk with
  | zero => exact absurd HA.o (by simp [l14FindR.l0])
  | succ k1 =>
   have H := HA.o
   clear HA
   simp only [l14FindR.l0] at H
   by_cases c3 : x5_1 < (l0.length : Int)
   rotate_left
   ·rw [if_neg c3] at H
    have c3b0 := decide_eq_false c3
    clear c3
    focus
     obtain rfl := Option.some.inj H
     go_wp2
     go_ret
     exact ⟨by first | rfl | (simp; done) | (simp [*]; done), by repeat (first | exact Dq.refl _ | apply Dq.step)⟩
   rw [if_pos c3] at H
   have c3b0 := decide_eq_true c3
   clear c3
   obtain ⟨c4, H⟩ := zin H
   have c4b0 := decide_eq_true c4
   clear c4
   by_cases c5 : ((qa l0 x5_1).f0) = a1
   ·rw [if_pos c5] at H
    have c5b0 := beq_iff_eq.mpr c5
    have c5b1 := bne_eq_false_iff_eq.mpr c5
    clear c5
    focus
     obtain rfl := Option.some.inj H
     have p554 : 0 ≤ (x5_1 : Int) := zod
     have q554 : x5_1 < (l0.length : Int) := zod
     obtain ⟨ad554, e554, hx554_0, hx554_1, hx554_2, hx554_3, hx554_4, hx554_5⟩ := at_T25 HR0.o x5_1 p554 q554
     cases e554
     replace p554 := eq_true p554
     replace q554 := eq_true q554
     go_wp2
     go_ret
     exact ⟨by first | rfl | (simp; done) | (simp [*]; done), by repeat (first | exact Dq.refl _ | apply Dq.step)⟩
   rw [if_neg c5] at H
   have c5b0 := beq_eq_false_iff_ne.mpr c5
   have c5b1 := bne_iff_ne.mpr c5
   focus
    have H' := am H
    clear H
    have p554 : 0 ≤ (x5_1 : Int) := zod
    have q554 : x5_1 < (l0.length : Int) := zod
    obtain ⟨ad554, e554, hx554_0, hx554_1, hx554_2, hx554_3, hx554_4, hx554_5⟩ := at_T25 HR0.o x5_1 p554 q554
    cases e554
    replace p554 := eq_true p554
    replace q554 := eq_true q554
    go_wp2
    go_roundg k1
    case measure => have := HK1.o; omega
    case rel => exact ⟨(wrap64 (x5_1 + 1)), zrx, H', ⟨by have := HK1.o; omega⟩, by repeat (first | exact Dq.refl _ | apply Dq.step)⟩
def qU.f (l0 : List (S25)) (a1 : Int) : Option (Int) := l14FindR.f (l0.length + 2) l0 a1
theorem qU.calls (A0 : Option Addr) (c0 : Nat) (l0 : List (S25)) (a1 : Int) (r : Int) (w : World) (hr0 : Kd.C k25 w A0 l0.length l0) (hc0 : l0.length ≤ c0) (h : qU.f l0 a1 = some r) :
 Calls Tryz.prog 77 #[.slice A0 l0.length c0, .int .i64 a1] w fun e w' => e = .returned (.int .i64 r) ∧ Below w.heap.size w w' := by
 refine (l14FindR.calls (l0.length + 2) A0 c0 l0 a1 r w hr0 hc0 h).mono ?_
 rintro e w' ⟨rfl, ⟨nd, rfl⟩⟩
 exact ⟨rfl, pw_below_drewN (Below.refl _ _) nd⟩
end Go.Proofs.YtlfoojgbiafffaaGreatDoor.XFnBulletins
