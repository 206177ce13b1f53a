/-
  The pure statement of the law FnExactCompareTables: what its printed function answers is 'true' for all numbers and lists of its kinds. Conditions: the kinds' own bounds, as the statement lays them.
-/
import Derived.Test.YtjagdjbiljooiaaStmFnExactCompareTables
import Derived.DataShut
namespace Go.Proofs.Ytjagdjbiljooiaa.XFnExactCompareTables.Pure
open Go.RowKit Go.Proofs.Ytjagdjbiljooiaa.XFnExactCompareTables Go.Proofs.YtjagdjbiljooiaaW.PrintWords Go.Proofs.YtjagdjbiljooiaaW.PrintLast Go.Proofs.YtjagdjbiljooiaaW.PrintMore
set_option linter.unusedVariables false
set_option linter.unusedSimpArgs false
theorem wrap_id {x : Int} (h0 : -9223372036854775808 ≤ x) (h1 : x ≤ 9223372036854775807) : wrap64 x = x := by unfold wrap64; omega
theorem rd_nat (xs : List Int) (i : Nat) : rd xs (i : Int) = xs.getD i 0 := by simp [rd]
theorem for_loop {σ ρ : Type} (K n : Nat) (L : Nat → σ → Int → Option ρ) (v : ρ) (Inv : Nat → σ → Prop)
    (step : ∀ k i s, K ≤ k → i < n → Inv i s → (∃ s', Inv (i + 1) s' ∧ L (k + 1) s (i : Int) = L k s' ((i : Int) + 1)) ∨ L (k + 1) s (i : Int) = some v)
    (fin : ∀ k s, K ≤ k → Inv n s → L (k + 1) s (n : Int) = some v) :
    ∀ k s, Inv 0 s → n + K < k → L k s 0 = some v := by
  have key : ∀ d k i s, i + d = n → Inv i s → d + K < k → L k s (i : Int) = some v := by
    intro d
    induction d with
    | zero =>
      intro k i s hi h hk
      obtain ⟨k, rfl⟩ : ∃ m, k = m + 1 := ⟨k - 1, by omega⟩
      obtain rfl : i = n := by omega
      exact fin k s (by omega) h
    | succ d ih =>
      intro k i s hi h hk
      obtain ⟨k, rfl⟩ : ∃ m, k = m + 1 := ⟨k - 1, by omega⟩
      rcases step k i s (by omega) (by omega) h with ⟨s', h', e⟩ | e
      · rw [e]
        have := ih k (i + 1) s' (by omega) h' (by omega)
        rw [show ((i + 1 : Nat) : Int) = (i : Int) + 1 from by omega] at this
        exact this
      · exact e
  intro k s h hk
  exact key n k 0 s (by omega) h hk
theorem getD_drop {α : Type} (xs : List α) (z : α) (i : Nat) (h : i < xs.length) : xs.drop i = xs.getD i z :: xs.drop (i + 1) := by
  rw [List.drop_eq_getElem_cons h, List.getD_eq_getElem?_getD, List.getElem?_eq_getElem h]; rfl
theorem all_loop {α : Type} (K : Nat) (xs : List α) (z : α) (p : α → Bool) (L : Nat → Int → Option Bool)
    (step : ∀ k i, K ≤ k → i < xs.length → L (k + 1) (i : Int) = if p (xs.getD i z) = true then L k ((i : Int) + 1) else some false)
    (fin : ∀ k, K ≤ k → L (k + 1) (xs.length : Int) = some true) : ∀ k, xs.length + K < k → L k 0 = some (xs.all p) := by
  intro k hk
  refine for_loop K xs.length (fun k (_ : Unit) i => L k i) (xs.all p) (fun i _ => (xs.drop i).all p = xs.all p) ?_ ?_ k () (by simp) hk
  · intro k i s hK hi h
    rw [getD_drop xs z i hi, List.all_cons] at h
    by_cases hp : p (xs.getD i z) = true
    · refine .inl ⟨(), by rw [hp, Bool.true_and] at h; exact h, ?_⟩
      show L (k + 1) (i : Int) = _
      rw [step k i hK hi, if_pos hp]
    · refine .inr ?_
      show L (k + 1) (i : Int) = _
      rw [step k i hK hi, if_neg hp, ← h, (Bool.eq_false_iff.2 hp : p (xs.getD i z) = false), Bool.false_and]
  · intro k s hK h
    rw [List.drop_of_length_le (Nat.le_refl _)] at h
    show L (k + 1) (xs.length : Int) = _
    rw [fin k hK, ← h]; rfl
def Evt (P : Nat → Prop) : Prop := ∃ K, ∀ k, K ≤ k → P k
theorem Evt.all {P : Nat → Prop} (h : ∀ k, P k) : Evt P := ⟨0, fun k _ => h k⟩
theorem Evt.from {P : Nat → Prop} (K : Nat) (h : ∀ k, K ≤ k → P k) : Evt P := ⟨K, h⟩
theorem Evt.and {P Q : Nat → Prop} (h : Evt P) (g : Evt Q) : Evt fun k => P k ∧ Q k := by
  obtain ⟨K, h⟩ := h
  obtain ⟨M, g⟩ := g
  exact ⟨K + M, fun k hk => ⟨h k (by omega), g k (by omega)⟩⟩
theorem Evt.mono {P Q : Nat → Prop} (h : Evt P) (g : ∀ k, P k → Q k) : Evt Q := by
  obtain ⟨K, h⟩ := h
  exact ⟨K, fun k hk => g k (h k hk)⟩
theorem Evt.succ {Q : Nat → Prop} (h : Evt fun k => Q (k + 1)) : Evt Q := by
  obtain ⟨K, h⟩ := h
  refine ⟨K + 1, fun k hk => ?_⟩
  obtain ⟨m, rfl⟩ : ∃ m, k = m + 1 := ⟨k - 1, by omega⟩
  exact h m (by omega)
theorem Evt.shift {Q : Nat → Prop} (h : Evt Q) : Evt fun k => Q (k + 1) := by
  obtain ⟨K, h⟩ := h
  exact ⟨K, fun k hk => h _ (by omega)⟩
theorem Evt.at {P : Nat → Prop} (h : Evt P) : ∃ K, ∀ j, P (K + j) := by
  obtain ⟨K, h⟩ := h
  exact ⟨K, fun j => h _ (by omega)⟩
theorem within_ok (a b c : Int) : impl_within.f a b c = some (decide (b ≤ a ∧ a ≤ c)) := by
  unfold impl_within.f
  split <;> simp <;> omega
theorem l1In_ok (a b c : Int) : spec_l1In.f a b c = some (decide (b ≤ a ∧ a ≤ c)) := by
  unfold spec_l1In.f
  split <;> simp <;> omega
theorem allWithin_ok (l : List Int) (lo hi : Int) (hl : l.length ≤ 4503599627370496) : ∀ k, l.length < k → impl_allWithin.f k l lo hi = some (l.all fun x => decide (lo ≤ x ∧ x ≤ hi)) := by
  intro k hk
  unfold impl_allWithin.f
  refine all_loop 0 l 0 _ (fun k i => impl_allWithin.l0 k lo hi l (l.length : Int) i) ?_ ?_ k (by omega)
  · intro k i _ hi
    show impl_allWithin.l0 (k + 1) lo _ l (l.length : Int) (i : Int) = _
    simp only [impl_allWithin.l0]
    rw [if_pos (by omega), if_pos (by omega), if_pos (by omega), within_ok, Option.bind_some, wrap_id (by omega) (by omega), rd_nat]
  · intro k _
    show impl_allWithin.l0 (k + 1) lo hi l (l.length : Int) (l.length : Int) = _
    simp only [impl_allWithin.l0]
    rw [if_neg (by omega)]
theorem divisorOf_ok : ∀ (n m k : Nat), n < k → impl_divisorOf.f k (m : Int) (n : Int) = some ((Nat.gcd m n : Nat) : Int) := by
  have key : ∀ (d n m k : Nat), n ≤ d → n < k → impl_divisorOf.l0 k (m : Int) (n : Int) = some ((Nat.gcd m n : Nat) : Int) := by
    intro d
    induction d with
    | zero =>
      intro n m k hn hk
      obtain ⟨k, rfl⟩ : ∃ j, k = j + 1 := ⟨k - 1, by omega⟩
      obtain rfl : n = 0 := by omega
      simp only [impl_divisorOf.l0]
      rw [if_neg (by omega), Nat.gcd_zero_right]
    | succ d ih =>
      intro n m k hn hk
      obtain ⟨k, rfl⟩ : ∃ j, k = j + 1 := ⟨k - 1, by omega⟩
      simp only [impl_divisorOf.l0]
      by_cases h0 : n = 0
      · subst h0
        rw [if_neg (by omega), Nat.gcd_zero_right]
      · have hlt := Nat.mod_lt m (Nat.pos_of_ne_zero h0)
        rw [if_pos (by omega), if_neg (by omega), ← Int.ofNat_tmod, ih (m % n) n k (by omega) (by omega), Nat.gcd_comm n (m % n), ← Nat.gcd_rec n m, Nat.gcd_comm]
  intro n m k hk
  exact key n n m k (Nat.le_refl _) hk
theorem absOf_ok (a : Int) (h : -9223372036854775808 < a) (h2 : a ≤ 9223372036854775807) : impl_absOf.f a = some ((a.natAbs : Nat) : Int) := by
  unfold impl_absOf.f
  split
  · rw [wrap_id (by omega) (by omega)]; congr 1; omega
  · congr 1; omega
def ratioV (num den : Int) : Int × Int × Bool := if den = 0 then (0, 0, false) else (wrap64 (Int.tdiv num (Nat.gcd num.natAbs den.natAbs : Nat)), wrap64 (Int.tdiv den (Nat.gcd num.natAbs den.natAbs : Nat)), true)
theorem ratioOf_ok (num den : Int) (h : -9223372036854775808 < num) (h2 : num ≤ 9223372036854775807) (hd : 0 ≤ den) : ∀ k, num.natAbs < k → impl_ratioOf.f k num den = some (ratioV num den) := by
  intro k hk
  unfold impl_ratioOf.f ratioV
  by_cases h0 : den = 0
  · rw [if_pos h0, if_pos h0]
  · have hg := Nat.gcd_pos_of_pos_right num.natAbs (n := den.natAbs) (by omega)
    have hc := divisorOf_ok num.natAbs den.natAbs k hk
    rw [show ((den.natAbs : Nat) : Int) = den from by omega, Nat.gcd_comm] at hc
    rw [if_neg h0, if_neg h0, if_neg (by omega), absOf_ok num h h2, Option.bind_some, hc, Option.bind_some, if_neg (by omega)]
theorem l10Common_ok : ∀ (n m k : Nat), n < k → spec_l10Common.f k (m : Int) (n : Int) = some ((Nat.gcd m n : Nat) : Int) := by
  have key : ∀ (d n m k : Nat), n ≤ d → n < k → spec_l10Common.l0 k (m : Int) (n : Int) = some ((Nat.gcd m n : Nat) : Int) := by
    intro d
    induction d with
    | zero =>
      intro n m k hn hk
      obtain ⟨k, rfl⟩ : ∃ j, k = j + 1 := ⟨k - 1, by omega⟩
      obtain rfl : n = 0 := by omega
      simp only [spec_l10Common.l0]
      rw [if_neg (by omega), Nat.gcd_zero_right]
    | succ d ih =>
      intro n m k hn hk
      obtain ⟨k, rfl⟩ : ∃ j, k = j + 1 := ⟨k - 1, by omega⟩
      simp only [spec_l10Common.l0]
      by_cases h0 : n = 0
      · subst h0
        rw [if_neg (by omega), Nat.gcd_zero_right]
      · have hlt := Nat.mod_lt m (Nat.pos_of_ne_zero h0)
        rw [if_pos (by omega), if_neg (by omega), ← Int.ofNat_tmod, ih (m % n) n k (by omega) (by omega), Nat.gcd_comm n (m % n), ← Nat.gcd_rec n m, Nat.gcd_comm]
  intro n m k hk
  exact key n n m k (Nat.le_refl _) hk
theorem l11Abs_ok (a : Int) (h : -9223372036854775808 < a) (h2 : a ≤ 9223372036854775807) : spec_l11Abs.f a = some ((a.natAbs : Nat) : Int) := by
  unfold spec_l11Abs.f spec_l1Most.f
  rw [wrap_id (by omega) (by omega)]
  split <;> simp only [Option.bind_some] <;> congr 1 <;> omega
theorem l20Ratio_ok (num den : Int) (h : -9223372036854775808 < num) (h2 : num ≤ 9223372036854775807) (hd : 0 ≤ den) : ∀ k, den.natAbs < k → spec_l20Ratio.f k num den = some (ratioV num den) := by
  intro k hk
  unfold spec_l20Ratio.f ratioV
  by_cases h0 : den = 0
  · rw [if_pos h0, if_pos h0]
  · have hg := Nat.gcd_pos_of_pos_right num.natAbs (n := den.natAbs) (by omega)
    have hc := l10Common_ok den.natAbs num.natAbs k hk
    rw [show ((den.natAbs : Nat) : Int) = den from by omega] at hc
    rw [if_neg h0, if_neg h0, l11Abs_ok num h h2, Option.bind_some, hc, Option.bind_some, if_neg (by omega)]
def goodB (a b c d : Int) : Bool := decide ((0 ≤ a ∧ a ≤ 1000000) ∧ (0 ≤ b ∧ b ≤ 1000000) ∧ (0 ≤ c ∧ c ≤ 1000000) ∧ (0 ≤ d ∧ d ≤ 1000000))
theorem isTable_ok (a b c d : Int) : ∀ k, 4 < k → impl_isTable.f k a b c d = some (goodB a b c d) := by
  intro k hk
  unfold impl_isTable.f goodB
  rw [allWithin_ok _ _ _ (by simp) k (by simpa using hk), Option.bind_some]
  congr 1
  rw [Bool.eq_iff_iff]
  simp
theorem l20Good_ok (a b c d : Int) : spec_l20Good.f a b c d = some (goodB a b c d) := by
  unfold spec_l20Good.f goodB
  simp only [l1In_ok, Option.bind_some]
  by_cases ha : 0 ≤ a ∧ a ≤ 1000000 <;> by_cases hb : 0 ≤ b ∧ b ≤ 1000000 <;> by_cases hc : 0 ≤ c ∧ c ≤ 1000000 <;> simp [ha, hb, hc]
theorem good_out {a b c d : Int} (h : goodB a b c d = true) : (0 ≤ a ∧ a ≤ 1000000) ∧ (0 ≤ b ∧ b ≤ 1000000) ∧ (0 ≤ c ∧ c ≤ 1000000) ∧ (0 ≤ d ∧ d ≤ 1000000) := of_decide_eq_true h
def threatV (a b c d : Int) : Int × Int × Bool := if goodB a b c d = true then ratioV a (wrap64 ((wrap64 (a + b)) + c)) else (0, 0, false)
theorem Threat_ev (a b c d : Int) : (Evt fun k => impl_ThreatScore.f k a b c d = some (threatV a b c d)) ∧ (Evt fun k => spec_ThreatScore.f k a b c d = some (threatV a b c d)) := by
  have hg := l20Good_ok a b c d
  unfold threatV
  cases hG : goodB a b c d with
  | false =>
    refine ⟨Evt.from 10 fun k hk => ?_, Evt.all fun k => ?_⟩
    · have h3 := isTable_ok a b c d k (by omega)
      simp [impl_ThreatScore.f, impl_tableRatio.f, h3, hG]
    · simp [spec_ThreatScore.f, spec_l20Valid.f, hg, hG]
  | true =>
    obtain ⟨ha, hb, hc, hd⟩ := good_out hG
    have bn : -9223372036854775808 < a ∧ a ≤ 9223372036854775807 := by omega
    have bd : 0 ≤ wrap64 ((wrap64 (a + b)) + c) := by rw [wrap_id (x := a + b) (by omega) (by omega), wrap_id (by omega) (by omega)]; omega
    refine ⟨Evt.from (a.natAbs + (wrap64 ((wrap64 (a + b)) + c)).natAbs + 10) fun k hk => ?_, Evt.from (a.natAbs + (wrap64 ((wrap64 (a + b)) + c)).natAbs + 10) fun k hk => ?_⟩
    · have h3 := isTable_ok a b c d k (by omega)
      have h1 := ratioOf_ok a (wrap64 ((wrap64 (a + b)) + c)) bn.1 bn.2 bd k (by omega)
      simp only [impl_ThreatScore.f, impl_tableRatio.f, h3, hG, Option.bind_some, if_true, h1]
    · have h2 := l20Ratio_ok a (wrap64 ((wrap64 (a + b)) + c)) bn.1 bn.2 bd k (by omega)
      simp only [spec_ThreatScore.f, spec_l20Valid.f, hg, hG, Option.bind_some, if_true, h2]
theorem pair_Compare (a b c d e f g h : Int) : ∃ v : Int × Bool, (Evt fun k => impl_CompareTables.f k a b c d e f g h = some v) ∧ (Evt fun k => spec_CompareTables.f k a b c d e f g h = some v) := by
  obtain ⟨i1, s1⟩ := Threat_ev a b c d
  obtain ⟨i2, s2⟩ := Threat_ev e f g h
  obtain ⟨⟨x0, x1, x2⟩, hx⟩ : ∃ x, x = threatV a b c d := ⟨_, rfl⟩
  obtain ⟨⟨y0, y1, y2⟩, hy⟩ : ∃ y, y = threatV e f g h := ⟨_, rfl⟩
  rw [← hx] at i1 s1
  rw [← hy] at i2 s2
  cases x2 with
  | false =>
    refine ⟨(0, false), (i1.and i2).mono fun k hk => ?_, Evt.succ ((s1.shift.and s2.shift).mono fun k hk => ?_)⟩
    · simp [impl_CompareTables.f, hk.1, hk.2]
    · simp [spec_CompareTables.f, spec_CompareTables.j0, hk.1, hk.2]
  | true =>
    cases y2 with
    | false =>
      refine ⟨(0, false), (i1.and i2).mono fun k hk => ?_, Evt.succ ((s1.shift.and s2.shift).mono fun k hk => ?_)⟩
      · simp [impl_CompareTables.f, hk.1, hk.2]
      · simp [spec_CompareTables.f, spec_CompareTables.j0, hk.1, hk.2]
    | true =>
      obtain ⟨p, hp⟩ : ∃ p, p = wrap64 (x0 * y1) := ⟨_, rfl⟩
      obtain ⟨q, hq⟩ : ∃ q, q = wrap64 (y0 * x1) := ⟨_, rfl⟩
      refine ⟨(if p < q then 2 else if q < p then 1 else 0, true), (i1.and i2).mono fun k hk => ?_, Evt.succ ((s1.shift.and s2.shift).mono fun k hk => ?_)⟩
      · simp only [impl_CompareTables.f, hk.1, hk.2, Option.bind_some, if_true, impl_compareRatios.f, cmp_Compare_int.f, cmp_isNaN_int.f, bne_self_eq_false, Bool.false_eq_true, if_false, ← hp, ← hq]
        by_cases c1 : p < q
        · rw [if_pos c1, if_pos c1]; simp only [Option.bind_some]; rw [show wrap64 (-1 + 3) = 2 from by unfold wrap64; omega]; rfl
        · rw [if_neg c1, if_neg c1]
          by_cases c2 : q < p
          · rw [if_pos c2, if_pos c2]; simp only [Option.bind_some]; rw [show wrap64 (1 + 3) = 4 from by unfold wrap64; omega]; rfl
          · rw [if_neg c2, if_neg c2]; simp only [Option.bind_some]; rw [show wrap64 (0 + 3) = 3 from by unfold wrap64; omega]; rfl
      · simp only [spec_CompareTables.f, spec_CompareTables.j0, hk.1, hk.2, Option.bind_some, if_true, spec_l20Less.f, ← hp, ← hq, Bool.not_true, Bool.false_eq_true, if_false, decide_eq_true_eq]
        by_cases c1 : q < p
        · rw [if_pos c1, if_neg (by omega), if_pos c1]
        · rw [if_neg c1]
          by_cases c2 : p < q
          · rw [if_pos c2, if_pos c2]
          · rw [if_neg c2, if_neg c2, if_neg c1]
theorem FnExactCompareTables : FnExactCompareTablesPure := by
  intro a b c d e f g h _ _ _ _ _ _ _ _
  obtain ⟨⟨v1, v2⟩, hi, hs⟩ := pair_Compare a b c d e f g h
  obtain ⟨K, hK⟩ := (hi.and hs).at
  obtain ⟨h1, h2⟩ := hK 0
  refine ⟨K + 0, ?_⟩
  simp only [laws_FnExactCompareTables.f, laws_toTable.f, Option.bind_some, h1, h2, if_true, bne_self_eq_false, Bool.false_eq_true, if_false]
end Go.Proofs.Ytjagdjbiljooiaa.XFnExactCompareTables.Pure
