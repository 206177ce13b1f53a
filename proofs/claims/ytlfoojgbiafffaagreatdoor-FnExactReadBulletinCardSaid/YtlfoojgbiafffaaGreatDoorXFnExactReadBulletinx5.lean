-- written by wip/tools/xprint.py (a program of this project) out of the translation
import Derived.Test.YtlfoojgbiafffaaGreatDoorXFnExactReadBulletinx0
import Derived.Test.YtlfoojgbiafffaaGreatDoorStrsE
import Derived.Test.YtlfoojgbiafffaaGreatDoorXFnExactReadBulletinx1
import Derived.Test.YtlfoojgbiafffaaGreatDoorXFnExactReadBulletinx4
namespace Go.Proofs.YtlfoojgbiafffaaGreatDoor.XFnExactReadBulletin
open Go.RowKit Go.Proofs.YtlfoojgbiafffaaGreatDoorW.PrintWords Go.Proofs.YtlfoojgbiafffaaGreatDoorW.PrintLast Go.Proofs.YtlfoojgbiafffaaGreatDoorW.PrintMore
open Go.Proofs.YtlfoojgbiafffaaGreatDoor.Strs
attribute [local go_sem] max2_int min2_int max_two min_two max_three min_three max_four min_four   -- for this text's walks alone
set_option linter.unusedVariables false
set_option linter.unusedSimpArgs false

/-! ### spec_l17Text: function 68 -/
def spec_l17Text.l0 : Nat → ByteArray → Int → Int → Int → List (S25) → Option (ByteArray)
 | 0, _, _, _, _, _ => none
 | k + 1, x3, x4, x157000, x157001, x157002 => if x4 < (x157002.length : Int) then (if 0 ≤ x4 then ((spec_l17Line.f k ((rd_T25 x157002 x4).f0) ((rd_T25 x157002 x4).f1) ((rd_T25 x157002 x4).f2) ((rd_T25 x157002 x4).f3) ((rd_T25 x157002 x4).f4) ((rd_T25 x157002 x4).f5)).bind fun t160 => (if x3.size + t160.size ≤ 9223372036854775807 then (if (x3 ++ t160).size + 1 ≤ 9223372036854775807 then (spec_l17Text.l0 k ((x3 ++ t160) ++ (⟨#[10]⟩ : ByteArray)) (wrap64 (x4 + 1)) x157000 x157001 x157002) else (none)) else (none))) else (none)) else ((spec_l1Seal.f k x3).bind fun t161 => (some t161))
def spec_l17Text.f (k : Nat) (a0_0 : Int) (a0_1 : Int) (l0_2 : List (S25)) : Option (ByteArray) := (spec_l1Num.f k a0_0).bind fun t157 => (if 9 + t157.size ≤ 9223372036854775807 then (if ((⟨#[98, 117, 108, 108, 101, 116, 105, 110, 32]⟩ : ByteArray) ++ t157).size + 9 ≤ 9223372036854775807 then ((spec_l1Num.f k a0_1).bind fun t158 => (if (((⟨#[98, 117, 108, 108, 101, 116, 105, 110, 32]⟩ : ByteArray) ++ t157) ++ (⟨#[32, 97, 116, 32, 104, 111, 117, 114, 32]⟩ : ByteArray)).size + t158.size ≤ 9223372036854775807 then (if ((((⟨#[98, 117, 108, 108, 101, 116, 105, 110, 32]⟩ : ByteArray) ++ t157) ++ (⟨#[32, 97, 116, 32, 104, 111, 117, 114, 32]⟩ : ByteArray)) ++ t158).size + 1 ≤ 9223372036854775807 then (spec_l17Text.l0 k (((((⟨#[98, 117, 108, 108, 101, 116, 105, 110, 32]⟩ : ByteArray) ++ t157) ++ (⟨#[32, 97, 116, 32, 104, 111, 117, 114, 32]⟩ : ByteArray)) ++ t158) ++ (⟨#[10]⟩ : ByteArray)) 0 a0_0 a0_1 l0_2) else (none)) else (none))) else (none)) else (none))
def spec_l17Text.T1 : Bool × List (List Nat × List Nat) := (true, [([], []), ([0], [0]), ([1], [1]), ([2], [2]), ([3], [3]), ([], []), ([5], [5]), ([6, 2], [6]), ([4, 7], [4, 7]), ([8], [8]), ([9, 7, 0, 1, 2, 3, 4, 5, 6, 7, 8, 9], [9])])
def spec_l17Text.B1 : List Nat := [0, 1, 3, 7, 15, 0, 32, 103, 255, 511, 1023]
theorem spec_l17Text.tab1 : rtab .any (opsOf Tryz.f68 1) = spec_l17Text.T1 := by kernel_rfl
theorem spec_l17Text.bits1 : waitsOk spec_l17Text.T1.2 spec_l17Text.B1 = true := by kernel_rfl
set_option maxHeartbeats 8000000 in
set_option maxRecDepth 100000 in
theorem spec_l17Text.calls (k : Nat) (a0_0 : Int) (a0_1 : Int) (A0_2 : Option Addr) (c0_2 : Nat) (l0_2 : List (S25)) (r : ByteArray) (w : World) (hr0_2 : Kd.C k25 w A0_2 l0_2.length l0_2) (hc0_2 : l0_2.length ≤ c0_2) (h : spec_l17Text.f k a0_0 a0_1 l0_2 = some r) :
 Calls Tryz.prog 68 #[.agg #[.int .i64 a0_0, .int .i64 a0_1, .slice A0_2 l0_2.length c0_2]] w fun e w' => e = .returned (.string r) ∧ Below w.heap.size w w' := by
 have hu34 := Tryz.underlying34
 have hu25 := Tryz.underlying25
 have HR0_2 := Aside0.mk hr0_2
 have HC0_2 := Aside0.mk hc0_2
 clear hr0_2 hc0_2
 have HB := Aside0.mk (Below.refl w.heap.size w)
 have H : ((spec_l1Num.f k a0_0).bind fun t157 => (if 9 + t157.size ≤ 9223372036854775807 then (if ((⟨#[98, 117, 108, 108, 101, 116, 105, 110, 32]⟩ : ByteArray) ++ t157).size + 9 ≤ 9223372036854775807 then ((spec_l1Num.f k a0_1).bind fun t158 => (if (((⟨#[98, 117, 108, 108, 101, 116, 105, 110, 32]⟩ : ByteArray) ++ t157) ++ (⟨#[32, 97, 116, 32, 104, 111, 117, 114, 32]⟩ : ByteArray)).size + t158.size ≤ 9223372036854775807 then (if ((((⟨#[98, 117, 108, 108, 101, 116, 105, 110, 32]⟩ : ByteArray) ++ t157) ++ (⟨#[32, 97, 116, 32, 104, 111, 117, 114, 32]⟩ : ByteArray)) ++ t158).size + 1 ≤ 9223372036854775807 then (spec_l17Text.l0 k (((((⟨#[98, 117, 108, 108, 101, 116, 105, 110, 32]⟩ : ByteArray) ++ t157) ++ (⟨#[32, 97, 116, 32, 104, 111, 117, 114, 32]⟩ : ByteArray)) ++ t158) ++ (⟨#[10]⟩ : ByteArray)) 0 a0_0 a0_1 l0_2) else (none)) else (none))) else (none)) else (none))) = some r := h
 clear h
 replace H := Option.bind_eq_some_iff.mp H
 obtain ⟨t157, A20, H⟩ := H
 replace H : (if 9 + t157.size ≤ 9223372036854775807 then (if ((⟨#[98, 117, 108, 108, 101, 116, 105, 110, 32]⟩ : ByteArray) ++ t157).size + 9 ≤ 9223372036854775807 then ((spec_l1Num.f k a0_1).bind fun t158 => (if (((⟨#[98, 117, 108, 108, 101, 116, 105, 110, 32]⟩ : ByteArray) ++ t157) ++ (⟨#[32, 97, 116, 32, 104, 111, 117, 114, 32]⟩ : ByteArray)).size + t158.size ≤ 9223372036854775807 then (if ((((⟨#[98, 117, 108, 108, 101, 116, 105, 110, 32]⟩ : ByteArray) ++ t157) ++ (⟨#[32, 97, 116, 32, 104, 111, 117, 114, 32]⟩ : ByteArray)) ++ t158).size + 1 ≤ 9223372036854775807 then (spec_l17Text.l0 k (((((⟨#[98, 117, 108, 108, 101, 116, 105, 110, 32]⟩ : ByteArray) ++ t157) ++ (⟨#[32, 97, 116, 32, 104, 111, 117, 114, 32]⟩ : ByteArray)) ++ t158) ++ (⟨#[10]⟩ : ByteArray)) 0 a0_0 a0_1 l0_2) else (none)) else (none))) else (none)) else (none)) = some r := H
 have A2 := Aside0.mk A20
 clear A20
 by_cases c3 : 9 + t157.size ≤ 9223372036854775807
 rotate_left
 ·rw [if_neg c3] at H
  exact absurd H (by simp)

 rw [if_pos c3] at H
 have c3b0 := eq_true c3
 have c3b1 : decide (9 + t157.size ≤ 9223372036854775807) = true := decide_eq_true c3
 try have c3b2 : (9223372036854775807 < 9 + t157.size) = False := eq_false (Nat.not_lt.2 c3)
 obtain ⟨c4, H⟩ := zin H
 have c4b0 := eq_true c4
 have c4b1 : decide (((⟨#[98, 117, 108, 108, 101, 116, 105, 110, 32]⟩ : ByteArray) ++ t157).size + 9 ≤ 9223372036854775807) = true := decide_eq_true c4
 try have c4b2 : (9223372036854775807 < ((⟨#[98, 117, 108, 108, 101, 116, 105, 110, 32]⟩ : ByteArray) ++ t157).size + 9) = False := eq_false (Nat.not_lt.2 c4)
 have c4b3 : (9223372036854775807 < 9 + t157.size + 9) = False := eq_false (Nat.not_lt.2 (by have h_ := c4; simp only [ByteArray.size_append] at h_; exact h_))
 replace H := Option.bind_eq_some_iff.mp H
 obtain ⟨t158, A50, H⟩ := H
 replace H : (if (((⟨#[98, 117, 108, 108, 101, 116, 105, 110, 32]⟩ : ByteArray) ++ t157) ++ (⟨#[32, 97, 116, 32, 104, 111, 117, 114, 32]⟩ : ByteArray)).size + t158.size ≤ 9223372036854775807 then (if ((((⟨#[98, 117, 108, 108, 101, 116, 105, 110, 32]⟩ : ByteArray) ++ t157) ++ (⟨#[32, 97, 116, 32, 104, 111, 117, 114, 32]⟩ : ByteArray)) ++ t158).size + 1 ≤ 9223372036854775807 then (spec_l17Text.l0 k (((((⟨#[98, 117, 108, 108, 101, 116, 105, 110, 32]⟩ : ByteArray) ++ t157) ++ (⟨#[32, 97, 116, 32, 104, 111, 117, 114, 32]⟩ : ByteArray)) ++ t158) ++ (⟨#[10]⟩ : ByteArray)) 0 a0_0 a0_1 l0_2) else (none)) else (none)) = some r := H
 have A5 := Aside0.mk A50
 clear A50
 obtain ⟨c6, H⟩ := zin H
 have c6b0 := eq_true c6
 have c6b1 : decide ((((⟨#[98, 117, 108, 108, 101, 116, 105, 110, 32]⟩ : ByteArray) ++ t157) ++ (⟨#[32, 97, 116, 32, 104, 111, 117, 114, 32]⟩ : ByteArray)).size + t158.size ≤ 9223372036854775807) = true := decide_eq_true c6
 try have c6b2 : (9223372036854775807 < (((⟨#[98, 117, 108, 108, 101, 116, 105, 110, 32]⟩ : ByteArray) ++ t157) ++ (⟨#[32, 97, 116, 32, 104, 111, 117, 114, 32]⟩ : ByteArray)).size + t158.size) = False := eq_false (Nat.not_lt.2 c6)
 have c6b3 : (9223372036854775807 < 9 + t157.size + 9 + t158.size) = False := eq_false (Nat.not_lt.2 (by have h_ := c6; simp only [ByteArray.size_append] at h_; exact h_))
 obtain ⟨c7, H⟩ := zin H
 have c7b0 := eq_true c7
 have c7b1 : decide (((((⟨#[98, 117, 108, 108, 101, 116, 105, 110, 32]⟩ : ByteArray) ++ t157) ++ (⟨#[32, 97, 116, 32, 104, 111, 117, 114, 32]⟩ : ByteArray)) ++ t158).size + 1 ≤ 9223372036854775807) = true := decide_eq_true c7
 try have c7b2 : (9223372036854775807 < ((((⟨#[98, 117, 108, 108, 101, 116, 105, 110, 32]⟩ : ByteArray) ++ t157) ++ (⟨#[32, 97, 116, 32, 104, 111, 117, 114, 32]⟩ : ByteArray)) ++ t158).size + 1) = False := eq_false (Nat.not_lt.2 c7)
 have c7b3 : (9223372036854775807 < 9 + t157.size + 9 + t158.size + 1) = False := eq_false (Nat.not_lt.2 (by have h_ := c7; simp only [ByteArray.size_append] at h_; exact h_))
 have H' := Aside0.mk H
 clear H
 go_enter Tryz.func68, Tryz.ntmps68
 try go_wp2_with (first | ((with_reducible refine gate_dst (N := 1) rfl ?_); refine box_event ?hg (N := 1) ?hd (cs := #[.int .i64 a0_0, .int .i64 a0_1, .slice A0_2 l0_2.length c0_2]) (t := 34) ?hr ?_; (case hd => rfl); (case hg => rfl); (case hr => exact zsx); intro gb156 hg w8 hbox hb; have BK156 := Aside0.mk (hbox); have GW156 := zns hg HB.out; have GE156 := zns hg HB.out; replace HB := Aside0.mk (below_step (zBx HB.out) hb); clear hb hbox hg))
 replace BK156 := Aside0.mk (blk_drew BK156.out)
 replace HB := Aside0.mk (below_drew1 HB.out)
 refine start_ (n := 11) (S := fun w' => w'.cell? ⟨gb156, 0, none⟩ = some (.int .i64 a0_0) ∧ w'.cell? ⟨gb156, 1, none⟩ = some (.int .i64 a0_1) ∧ w'.cell? ⟨gb156, 2, none⟩ = some (.slice A0_2 l0_2.length c0_2)) (ds := []) #[F,F,F,F,F,F,F,F,F,F,F] (by kernel_rfl) rfl rfl ⟨(blk_cell BK156.out 0).trans rfl, (blk_cell BK156.out 1).trans rfl, (blk_cell BK156.out 2).trans rfl⟩ (fun hHeld => ?_); refine with_tabW spec_l17Text.tab1 spec_l17Text.bits1 (fun HT_ HW_ => ?_)
 generalize w8.drew = w9 at BK156 HB hHeld ⊢
 refine zpu 0 5 #[T,F,F,F,F,F,F,F,F,F,F] HT_.out ?_
 refine zpu 5 10 #[T,F,F,F,F,T,F,F,F,F,F] HT_.out ?_
 refine take_ (i := 1) (N := some 6) (v := ?_) (a' := ?_) #[T,T,F,F,F,T,F,F,F,F,F] rfl rfl (take_ofW HT_.out HW_.out (by kernel_rfl)) (fun _ _ _ h => h) (Or.inl ⟨by rfl, ?_⟩) hHeld ?_ ?_
 rotate_left
 ·rintro w' ⟨s0, s1, s2⟩
  go_simp
  with_reducible rfl
 rotate_left
 ·exact zpx
 refine take_ (i := 6) (N := some 11) (v := ?_) (a' := ?_) #[T,T,F,F,F,T,T,F,F,F,F] rfl rfl (take_ofW HT_.out HW_.out (by kernel_rfl)) (fun _ _ _ h => h) (Or.inl ⟨by rfl, ?_⟩) hHeld ?_ ?_
 rotate_left
 ·rintro w' ⟨s0, s1, s2⟩
  go_simp
  with_reducible rfl
 rotate_left
 ·exact zpx
 refine one_ (i := 2) (N := some 7) #[T,T,T,F,F,T,T,F,F,F,F] rfl rfl (one_of HT_.out (by kernel_rfl)) (by decide) (fun K hK => ?_)
 refine goes_ Tryz.func93 (by kernel_rfl) rfl #[.int .i64 a0_0] (by rfl) rfl rfl zlx ?_
 with_reducible refine (spec_l1Num.calls k a0_0 t157 _ A2.out).mono ?_
 rintro e w10 ⟨rfl, hb⟩
 refine ⟨_, rfl, ?_⟩
 replace BK156 := zbl BK156.out hb
 replace HB := Aside0.mk (below_step (zBy HB.out GE156.out) hb)
 (try clear hb)
 (try clear hb2)
 (try clear hk)
 (try clear hi)
 refine hK.out _ _ ⟨(blk_cell BK156.out 0).trans rfl, (blk_cell BK156.out 1).trans rfl, (blk_cell BK156.out 2).trans rfl⟩ (fun hHeld => ?_)
 clear hK K
 refine norm_ (a' := ?_) ?_ ?_
 rotate_left
 ·show Act.put _ (some 7) _ = _
  simp only [Act.put, List.setIfInBounds_toArray, List.set_cons_zero, List.set_cons_succ, i64_w, i32_w]
  rfl
 refine zpu 3 8 #[T,T,T,T,F,T,T,F,F,F,F] HT_.out ?_
 refine zpu 4 9 #[T,T,T,T,T,T,T,F,F,F,F] HT_.out ?_
 refine one_ (i := 7) (N := some 12) #[T,T,T,T,T,T,T,T,F,F,F] rfl rfl (one_of HT_.out (by kernel_rfl)) (by decide) (fun K hK => ?_)
 refine goes_ Tryz.func93 (by kernel_rfl) rfl #[.int .i64 a0_1] (by rfl) rfl rfl zlx ?_
 with_reducible refine (spec_l1Num.calls k a0_1 t158 _ A5.out).mono ?_
 rintro e w11 ⟨rfl, hb⟩
 refine ⟨_, rfl, ?_⟩
 replace BK156 := zbl BK156.out hb
 replace HB := Aside0.mk (below_step (zBy HB.out GE156.out) hb)
 (try clear hb)
 (try clear hb2)
 (try clear hk)
 (try clear hi)
 refine hK.out _ _ ⟨(blk_cell BK156.out 0).trans rfl, (blk_cell BK156.out 1).trans rfl, (blk_cell BK156.out 2).trans rfl⟩ (fun hHeld => ?_)
 clear hK K
 refine norm_ (a' := ?_) ?_ ?_
 rotate_left
 ·show Act.put _ (some 12) _ = _
  simp only [Act.put, List.setIfInBounds_toArray, List.set_cons_zero, List.set_cons_succ, i64_w, i32_w]
  rfl
 refine zpu 8 13 #[T,T,T,T,T,T,T,T,T,F,F] HT_.out ?_
 refine zpu 9 14 #[T,T,T,T,T,T,T,T,T,T,F] HT_.out ?_
 refine zpu 10 3 #[T,T,T,T,T,T,T,T,T,T,T] HT_.out ?_
 refine done_ (done_of HT_.out (by kernel_rfl)) ?_
 try go_wp2
 go_loopg [3, 4] k (fun kq v3 v4 w' => ∃ (x3_1 : ByteArray) (x4_1 : Int), v3 = .string x3_1 ∧ v4 = .int .i64 x4_1 ∧ Aside0 (spec_l17Text.l0 kq x3_1 x4_1 a0_0 a0_1 l0_2 = some r) ∧ Aside0 (kq ≤ k) ∧ Aside0 (w'.heap[gb156]? = some (.cells #[.int .i64 a0_0, .int .i64 a0_1, (.slice A0_2 l0_2.length c0_2)] 34 (0, 0))) ∧ Aside0 (Below w.heap.size w w'))
 case atStart => exact ⟨(((((⟨#[98, 117, 108, 108, 101, 116, 105, 110, 32]⟩ : ByteArray) ++ t157) ++ (⟨#[32, 97, 116, 32, 104, 111, 117, 114, 32]⟩ : ByteArray)) ++ t158) ++ (⟨#[10]⟩ : ByteArray)), (0), zrx, zrx, H', ⟨Nat.le_refl _⟩, ⟨by refine zbx ?_; exact BK156.out⟩, ⟨by exact zBy HB.out GE156.out⟩⟩
 case round =>
  clear H'
  try clear p2
  try clear c3
  try clear c3b0
  try clear c3b1
  try clear c3b2
  try clear c4
  try clear c4b0
  try clear c4b1
  try clear c4b2
  try clear c6
  try clear c6b0
  try clear c6b1
  try clear c6b2
  try clear c7
  try clear c7b0
  try clear c7b1
  try clear c7b2
  try clear c9
  obtain ⟨x3_1, x4_1, rfl, rfl, HA, HK1, BK156, HB⟩ := hrel
  cases gk with
  | zero => exact absurd HA.out (by simp [spec_l17Text.l0])
  | succ k1 =>
   have H := HA.out
   clear HA
   simp only [spec_l17Text.l0] at H
   by_cases c12 : x4_1 < (l0_2.length : Int)
   rotate_left
   ·rw [if_neg c12] at H
    have c12b0 : decide (x4_1 < (l0_2.length : Int)) = false := decide_eq_false c12
    clear c12
    replace H := Option.bind_eq_some_iff.mp H
    obtain ⟨t161, A190, H⟩ := H
    replace H : (some t161) = some r := H
    have A19 := Aside0.mk A190
    clear A190
    focus
     obtain rfl := Option.some.inj H
     have hcz20_0 : wr.cell? ⟨gb156, 0, none⟩ = some (.int .i64 a0_0) := (blk_cell BK156.out 0).trans rfl
     have hcz20_1 : wr.cell? ⟨gb156, 1, none⟩ = some (.int .i64 a0_1) := (blk_cell BK156.out 1).trans rfl
     have hcz20_2 : wr.cell? ⟨gb156, 2, none⟩ = some (.slice A0_2 l0_2.length c0_2) := (blk_cell BK156.out 2).trans rfl
     have hfz20_0 := blk_frozen BK156.out 0
     have hfz20_1 := blk_frozen BK156.out 1
     have hfz20_2 := blk_frozen BK156.out 2
     go_wp2_with (first | ((with_reducible refine gate_callee (f := 74) rfl ?_); refine goesL_ (some 32) rfl rfl Tryz.func74 (by kernel_rfl) rfl #[.string x3_1] rfl zlx ?_; (with_reducible refine (spec_l1Seal.calls k1 x3_1 t161 _ A19.out).mono ?_); rintro e w21 ⟨rfl, hb⟩; refine ⟨_, rfl, ?_⟩; replace BK156 := zbl BK156.out hb; replace HB := Aside0.mk (below_step (zBy HB.out GE156.out) hb); (try clear hb)))
     go_ret
     exact ⟨by first | rfl | (simp [errW_none, errW_some] <;> rfl) | (simp [*, errW_none, errW_some] <;> rfl), by exact zBy HB.out GE156.out⟩
   rw [if_pos c12] at H
   have c12b0 : decide (x4_1 < (l0_2.length : Int)) = true := decide_eq_true c12
   clear c12
   obtain ⟨c13, H⟩ := zin H
   have c13b0 : decide (0 ≤ x4_1) = true := decide_eq_true c13
   clear c13
   replace H := Option.bind_eq_some_iff.mp H
   obtain ⟨t160, A140, H⟩ := H
   replace H : (if x3_1.size + t160.size ≤ 9223372036854775807 then (if (x3_1 ++ t160).size + 1 ≤ 9223372036854775807 then (spec_l17Text.l0 k1 ((x3_1 ++ t160) ++ (⟨#[10]⟩ : ByteArray)) (wrap64 (x4_1 + 1)) a0_0 a0_1 l0_2) else (none)) else (none)) = some r := H
   have A14 := Aside0.mk A140
   clear A140
   obtain ⟨c15, H⟩ := zin H
   have c15b0 := eq_true c15
   have c15b1 : decide (x3_1.size + t160.size ≤ 9223372036854775807) = true := decide_eq_true c15
   try have c15b2 : (9223372036854775807 < x3_1.size + t160.size) = False := eq_false (Nat.not_lt.2 c15)
   obtain ⟨c16, H⟩ := zin H
   have c16b0 := eq_true c16
   have c16b1 : decide ((x3_1 ++ t160).size + 1 ≤ 9223372036854775807) = true := decide_eq_true c16
   try have c16b2 : (9223372036854775807 < (x3_1 ++ t160).size + 1) = False := eq_false (Nat.not_lt.2 c16)
   have c16b3 : (9223372036854775807 < x3_1.size + t160.size + 1) = False := eq_false (Nat.not_lt.2 (by have h_ := c16; simp only [ByteArray.size_append] at h_; exact h_))
   focus
    have H' := Aside0.mk H
    clear H
    have hcz17_0 : wr.cell? ⟨gb156, 0, none⟩ = some (.int .i64 a0_0) := (blk_cell BK156.out 0).trans rfl
    have hcz17_1 : wr.cell? ⟨gb156, 1, none⟩ = some (.int .i64 a0_1) := (blk_cell BK156.out 1).trans rfl
    have hcz17_2 : wr.cell? ⟨gb156, 2, none⟩ = some (.slice A0_2 l0_2.length c0_2) := (blk_cell BK156.out 2).trans rfl
    have hfz17_0 := blk_frozen BK156.out 0
    have hfz17_1 := blk_frozen BK156.out 1
    have hfz17_2 := blk_frozen BK156.out 2
    have p159 : 0 ≤ (x4_1 : Int) := of_decide_eq_true zax
    have q159 : x4_1 < (l0_2.length : Int) := of_decide_eq_true zax
    obtain ⟨ad159, e159, hx159_0, hx159_1, hx159_2, hx159_3, hx159_4, hx159_5⟩ := at_T25 HR0_2.out x4_1 p159 q159
    cases e159
    replace hx159_0 := (HB.out.cell (World.block_lt_of_cell? w _ hx159_0)).trans hx159_0
    replace hx159_1 := (HB.out.cell (World.block_lt_of_cell? w _ hx159_1)).trans hx159_1
    replace hx159_2 := (HB.out.cell (World.block_lt_of_cell? w _ hx159_2)).trans hx159_2
    replace hx159_3 := (HB.out.cell (World.block_lt_of_cell? w _ hx159_3)).trans hx159_3
    replace hx159_4 := (HB.out.cell (World.block_lt_of_cell? w _ hx159_4)).trans hx159_4
    replace hx159_5 := (HB.out.cell (World.block_lt_of_cell? w _ hx159_5)).trans hx159_5
    replace p159 := eq_true p159
    replace q159 := eq_true q159
    go_wp2_with (first | ((with_reducible refine gate_callee (f := 48) rfl ?_); refine goesL_ (some 28) rfl rfl Tryz.func48 (by kernel_rfl) rfl #[.agg #[.int .i64 ((rd_T25 l0_2 x4_1).f0), .int .i64 ((rd_T25 l0_2 x4_1).f1), .int .i64 ((rd_T25 l0_2 x4_1).f2), .int .i64 ((rd_T25 l0_2 x4_1).f3), .int .i64 ((rd_T25 l0_2 x4_1).f4), .int .i64 ((rd_T25 l0_2 x4_1).f5)]] rfl zlx ?_; (with_reducible refine (spec_l17Line.calls k1 ((rd_T25 l0_2 x4_1).f0) ((rd_T25 l0_2 x4_1).f1) ((rd_T25 l0_2 x4_1).f2) ((rd_T25 l0_2 x4_1).f3) ((rd_T25 l0_2 x4_1).f4) ((rd_T25 l0_2 x4_1).f5) t160 _ A14.out).mono ?_); rintro e w18 ⟨rfl, hb⟩; refine ⟨_, rfl, ?_⟩; replace BK156 := zbl BK156.out hb; replace HB := Aside0.mk (below_step (zBy HB.out GE156.out) hb); (try clear hb)))
    go_roundg k1
    case measure => have := HK1.out; omega
    case rel => exact ⟨((x3_1 ++ t160) ++ (⟨#[10]⟩ : ByteArray)), (wrap64 (x4_1 + 1)), zrx, zrx, H', ⟨by have := HK1.out; omega⟩, ⟨by refine zbx ?_; exact BK156.out⟩, ⟨by exact zBy HB.out GE156.out⟩⟩
/-! ### spec_VerifyChecksum: function 72 -/
def spec_VerifyChecksum.f (k : Nat) (a0 : ByteArray) : Option (ByteArray × Bool) := if (a0.size : Int) > 4000 then (some ((⟨#[]⟩ : ByteArray), false)) else ((spec_l1Split.f k a0 35).bind fun t162 => (if 0 < (t162.length : Int) then ((spec_l1Seal.f k (rdOf ByteArray.empty t162 0)).bind fun t166 => (if t166.toList = a0.toList then (some (rdOf ByteArray.empty t162 0, true)) else (some ((⟨#[]⟩ : ByteArray), false)))) else (none)))
set_option maxHeartbeats 8000000 in
set_option maxRecDepth 100000 in
theorem spec_VerifyChecksum.calls (k : Nat) (a0 : ByteArray) (r1 : ByteArray) (r2 : Bool) (w : World) (h : spec_VerifyChecksum.f k a0 = some (r1, r2)) :
 Calls Tryz.prog 72 #[.string a0] w fun e w' => e = .returned (.tuple #[.string r1, .bool r2]) ∧ Below w.heap.size w w' := by
 have HB := Aside0.mk (Below.refl w.heap.size w)
 have H : (if (a0.size : Int) > 4000 then (some ((⟨#[]⟩ : ByteArray), false)) else ((spec_l1Split.f k a0 35).bind fun t162 => (if 0 < (t162.length : Int) then ((spec_l1Seal.f k (rdOf ByteArray.empty t162 0)).bind fun t166 => (if t166.toList = a0.toList then (some (rdOf ByteArray.empty t162 0, true)) else (some ((⟨#[]⟩ : ByteArray), false)))) else (none)))) = some (r1, r2) := h
 clear h
 by_cases c2 : (a0.size : Int) > 4000
 ·rw [if_pos c2] at H
  have c2b0 : decide (4000 < (a0.size : Int)) = true := decide_eq_true c2
  have c2b1 : decide (4000 < a0.size) = true := decide_eq_true (by omega)
  clear c2
  focus
   simp only [Option.some.injEq, Prod.mk.injEq] at H
   obtain ⟨rfl, rfl⟩ := H
   go_enter Tryz.func72, Tryz.ntmps72
   go_wp2
   go_ret2
   exact ⟨by first | rfl | (simp [errW_none, errW_some] <;> rfl) | (simp [*, errW_none, errW_some] <;> rfl), by exact zBx HB.out⟩
 rw [if_neg c2] at H
 have c2b0 : decide (4000 < (a0.size : Int)) = false := decide_eq_false c2
 have c2b1 : decide (4000 < a0.size) = false := decide_eq_false (by omega)
 clear c2
 replace H := Option.bind_eq_some_iff.mp H
 obtain ⟨t162, A30, H⟩ := H
 replace H : (if 0 < (t162.length : Int) then ((spec_l1Seal.f k (rdOf ByteArray.empty t162 0)).bind fun t166 => (if t166.toList = a0.toList then (some (rdOf ByteArray.empty t162 0, true)) else (some ((⟨#[]⟩ : ByteArray), false)))) else (none)) = some (r1, r2) := H
 have A3 := Aside0.mk A30
 clear A30
 by_cases c4 : 0 < (t162.length : Int)
 rotate_left
 ·rw [if_neg c4] at H
  exact absurd H (by simp)

 rw [if_pos c4] at H
 have c4b0 : decide (0 < (t162.length : Int)) = true := decide_eq_true c4
 have c4b1 : decide (0 < t162.length) = true := decide_eq_true (by omega)
 clear c4
 replace H := Option.bind_eq_some_iff.mp H
 obtain ⟨t166, A50, H⟩ := H
 replace H : (if t166.toList = a0.toList then (some (rdOf ByteArray.empty t162 0, true)) else (some ((⟨#[]⟩ : ByteArray), false))) = some (r1, r2) := H
 have A5 := Aside0.mk A50
 clear A50
 by_cases c6 : t166.toList = a0.toList
 ·rw [if_pos c6] at H
  have c6b0 : (t166.toList == a0.toList) = true := beq_iff_eq.mpr c6
  have c6b1 : (t166.toList != a0.toList) = false := bne_eq_false_iff_eq.mpr c6
  clear c6
  focus
   simp only [Option.some.injEq, Prod.mk.injEq] at H
   obtain ⟨rfl, rfl⟩ := H
   go_enter Tryz.func72, Tryz.ntmps72
   go_wp2_with (first | ((with_reducible refine gate_callee (f := 54) rfl ?_); refine goesL_ (some 9) rfl rfl Tryz.func54 (by kernel_rfl) rfl #[.string a0, .int .u8 35] rfl zlx ?_; (with_reducible refine (spec_l1Split.calls k a0 35 t162 _ A3.out).mono ?_); rintro e w7 ⟨v163, rfl, ho0, hb⟩; refine ⟨_, rfl, ?_⟩; have HO164 := Aside0.mk (Kd.R_lower ho0 (below_size (zBx HB.out))); replace HB := Aside0.mk (below_step (zBx HB.out) hb); (try clear hb); (try clear ho0); obtain ⟨Ao8, co8, eo8⟩ := Kd.R_slice HO164.out; subst eo8; have p165 : 0 ≤ (0 : Int) := (by omega); have q165 : 0 < (t162.length : Int) := of_decide_eq_true zax; obtain ⟨ad165, e165, hx165_0⟩ := Kd.at_string (Kd.R_reads' HO164.out).2.2 0 p165 q165; cases e165; have qi165 : (0 < t162.length) = True := eq_true (by omega); (try rw [show ((0 : Int)).toNat = 0 from rfl] at hx165_0); (try rw [Addr.add_zero'] at hx165_0); replace p165 := eq_true p165; replace q165 := eq_true q165) | ((with_reducible refine gate_callee (f := 74) rfl ?_); refine goesL_ (some 13) rfl rfl Tryz.func74 (by kernel_rfl) rfl #[.string (rdOf ByteArray.empty t162 0)] rfl zlx ?_; (with_reducible refine (spec_l1Seal.calls k (rdOf ByteArray.empty t162 0) t166 _ A5.out).mono ?_); rintro e w9 ⟨rfl, hb⟩; refine ⟨_, rfl, ?_⟩; replace HO164 := Aside0.mk (Kd.R_below (zRx HO164.out) hb); replace HB := Aside0.mk (below_step (zBx HB.out) hb); (try clear hb)))
   go_ret2
   exact ⟨by first | rfl | (simp [errW_none, errW_some] <;> rfl) | (simp [*, errW_none, errW_some] <;> rfl), by exact zBx HB.out⟩
 ·rw [if_neg c6] at H
  have c6b0 : (t166.toList == a0.toList) = false := beq_eq_false_iff_ne.mpr c6
  have c6b1 : (t166.toList != a0.toList) = true := bne_iff_ne.mpr c6
  focus
   simp only [Option.some.injEq, Prod.mk.injEq] at H
   obtain ⟨rfl, rfl⟩ := H
   go_enter Tryz.func72, Tryz.ntmps72
   go_wp2_with (first | ((with_reducible refine gate_callee (f := 54) rfl ?_); refine goesL_ (some 9) rfl rfl Tryz.func54 (by kernel_rfl) rfl #[.string a0, .int .u8 35] rfl zlx ?_; (with_reducible refine (spec_l1Split.calls k a0 35 t162 _ A3.out).mono ?_); rintro e w10 ⟨v163, rfl, ho0, hb⟩; refine ⟨_, rfl, ?_⟩; have HO164 := Aside0.mk (Kd.R_lower ho0 (below_size (zBx HB.out))); replace HB := Aside0.mk (below_step (zBx HB.out) hb); (try clear hb); (try clear ho0); obtain ⟨Ao11, co11, eo11⟩ := Kd.R_slice HO164.out; subst eo11; have p165 : 0 ≤ (0 : Int) := (by omega); have q165 : 0 < (t162.length : Int) := of_decide_eq_true zax; obtain ⟨ad165, e165, hx165_0⟩ := Kd.at_string (Kd.R_reads' HO164.out).2.2 0 p165 q165; cases e165; have qi165 : (0 < t162.length) = True := eq_true (by omega); (try rw [show ((0 : Int)).toNat = 0 from rfl] at hx165_0); (try rw [Addr.add_zero'] at hx165_0); replace p165 := eq_true p165; replace q165 := eq_true q165) | ((with_reducible refine gate_callee (f := 74) rfl ?_); refine goesL_ (some 13) rfl rfl Tryz.func74 (by kernel_rfl) rfl #[.string (rdOf ByteArray.empty t162 0)] rfl zlx ?_; (with_reducible refine (spec_l1Seal.calls k (rdOf ByteArray.empty t162 0) t166 _ A5.out).mono ?_); rintro e w12 ⟨rfl, hb⟩; refine ⟨_, rfl, ?_⟩; replace HO164 := Aside0.mk (Kd.R_below (zRx HO164.out) hb); replace HB := Aside0.mk (below_step (zBx HB.out) hb); (try clear hb)))
   go_ret2
   exact ⟨by first | rfl | (simp [errW_none, errW_some] <;> rfl) | (simp [*, errW_none, errW_some] <;> rfl), by exact zBx HB.out⟩
/-! ### spec_l17Index: function 129 -/
def spec_l17Index.l0 : Nat → List ByteArray → ByteArray → Int → Option (Int)
 | 0, _, _, _ => none
 | k + 1, x0, x1, x5 => if x5 < (x0.length : Int) then (if 0 ≤ x5 then (if (rdOf ByteArray.empty x0 x5).toList = x1.toList then (some x5) else (spec_l17Index.l0 k x0 x1 (wrap64 (x5 + 1)))) else (none)) else (some 0)
def spec_l17Index.f (k : Nat) (l0 : List ByteArray) (a1 : ByteArray) : Option (Int) := spec_l17Index.l0 k l0 a1 1
set_option maxHeartbeats 8000000 in
set_option maxRecDepth 100000 in
theorem spec_l17Index.calls (k : Nat) (A0 : Option Addr) (c0 : Nat) (l0 : List ByteArray) (a1 : ByteArray) (r : Int) (w : World) (hr0 : Kd.C Kd.string w A0 l0.length l0) (hc0 : l0.length ≤ c0) (h : spec_l17Index.f k l0 a1 = some r) :
 Calls Tryz.prog 129 #[.slice A0 l0.length c0, .string a1] w fun e w' => e = .returned (.int .i64 r) ∧ Drawn0 w w' := by
 have HR0 := Aside0.mk hr0
 have HC0 := Aside0.mk hc0
 clear hr0 hc0
 have H : (spec_l17Index.l0 k l0 a1 1) = some r := h
 clear h
 have H' := Aside0.mk H
 clear H
 go_enter Tryz.func129, Tryz.ntmps129
 go_wp2
 go_loopg [5] k (fun kq v5 w' => ∃ (x5_1 : Int), v5 = .int .i64 x5_1 ∧ Aside0 (spec_l17Index.l0 kq l0 a1 x5_1 = some r) ∧ Aside0 (kq ≤ k) ∧ Drawn0 w w')
 case atStart => exact ⟨(1), zrx, H', ⟨Nat.le_refl _⟩, by repeat (first | exact Drawn0.refl _ | apply Drawn0.step)⟩
 case round =>
  clear H'
  try clear c1
  try clear p2
  obtain ⟨x5_1, rfl, HA, HK1, ⟨m1, rfl⟩⟩ := hrel
  cases gk with
  | zero => exact absurd HA.out (by simp [spec_l17Index.l0])
  | succ k1 =>
   have H := HA.out
   clear HA
   simp only [spec_l17Index.l0] at H
   by_cases c3 : x5_1 < (l0.length : Int)
   rotate_left
   ·rw [if_neg c3] at H
    have c3b0 : decide (x5_1 < (l0.length : Int)) = false := decide_eq_false c3
    clear c3
    focus
     obtain rfl := Option.some.inj H
     go_wp2
     go_ret
     exact ⟨by first | rfl | (simp; done) | (simp [*]; done), by repeat (first | exact Drawn0.refl _ | apply Drawn0.step)⟩

   rw [if_pos c3] at H
   have c3b0 : decide (x5_1 < (l0.length : Int)) = true := decide_eq_true c3
   clear c3
   obtain ⟨c4, H⟩ := zin H
   have c4b0 : decide (0 ≤ x5_1) = true := decide_eq_true c4
   clear c4
   by_cases c5 : (rdOf ByteArray.empty l0 x5_1).toList = a1.toList
   ·rw [if_pos c5] at H
    have c5b0 : ((rdOf ByteArray.empty l0 x5_1).toList == a1.toList) = true := beq_iff_eq.mpr c5
    have c5b1 : ((rdOf ByteArray.empty l0 x5_1).toList != a1.toList) = false := bne_eq_false_iff_eq.mpr c5
    clear c5
    focus
     obtain rfl := Option.some.inj H
     have p167 : 0 ≤ (x5_1 : Int) := of_decide_eq_true zax
     have q167 : x5_1 < (l0.length : Int) := of_decide_eq_true zax
     obtain ⟨ad167, e167, hx167_0⟩ := Kd.at_string HR0.out x5_1 p167 q167
     cases e167
     replace p167 := eq_true p167
     replace q167 := eq_true q167
     go_wp2
     go_ret
     exact ⟨by first | rfl | (simp; done) | (simp [*]; done), by repeat (first | exact Drawn0.refl _ | apply Drawn0.step)⟩
   rw [if_neg c5] at H
   have c5b0 : ((rdOf ByteArray.empty l0 x5_1).toList == a1.toList) = false := beq_eq_false_iff_ne.mpr c5
   have c5b1 : ((rdOf ByteArray.empty l0 x5_1).toList != a1.toList) = true := bne_iff_ne.mpr c5
   focus
    have H' := Aside0.mk H
    clear H
    have p167 : 0 ≤ (x5_1 : Int) := of_decide_eq_true zax
    have q167 : x5_1 < (l0.length : Int) := of_decide_eq_true zax
    obtain ⟨ad167, e167, hx167_0⟩ := Kd.at_string HR0.out x5_1 p167 q167
    cases e167
    replace p167 := eq_true p167
    replace q167 := eq_true q167
    go_wp2
    go_roundg k1
    case measure => have := HK1.out; omega
    case rel => exact ⟨(wrap64 (x5_1 + 1)), zrx, H', ⟨by have := HK1.out; omega⟩, by repeat (first | exact Drawn0.refl _ | apply Drawn0.step)⟩
end Go.Proofs.YtlfoojgbiafffaaGreatDoor.XFnExactReadBulletin
