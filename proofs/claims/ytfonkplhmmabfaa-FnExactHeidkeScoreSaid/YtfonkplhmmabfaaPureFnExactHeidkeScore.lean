/-
  The pure statement of the law FnExactHeidkeScore: what its printed function answers is 'true' for all numbers and lists of its kinds. Conditions: the kinds' own bounds, as the statement lays them.
-/
import Derived.Test.YtfonkplhmmabfaaStmFnExactHeidkeScore
import Derived.DataShut
namespace Go.Proofs.Ytfonkplhmmabfaa.PFnExactHeidkeScore.Pure
open Go.RowKit Go.Proofs.Ytfonkplhmmabfaa.PFnExactHeidkeScore Go.Proofs.YtfonkplhmmabfaaW.PrintWords Go.Proofs.YtfonkplhmmabfaaW.PrintLast Go.Proofs.YtfonkplhmmabfaaW.PrintMore
set_option linter.unusedVariables false
set_option linter.unusedSimpArgs false
theorem wrap_id {x : Int} (h0 : -9223372036854775808 ≤ x) (h1 : x ≤ 9223372036854775807) : wrap64 x = x := by unfold wrap64; omega
theorem wf64 {x : Int} (h : (Lit.int .i64 x).wf = true) : -9223372036854775808 ≤ x ∧ x ≤ 9223372036854775807 := by
  simpa [Lit.wf, IntKind.min, IntKind.max, IntKind.signed, IntKind.bits] using h
theorem rd_nat (xs : List Int) (i : Nat) : rd xs (i : Int) = xs.getD i 0 := by simp [rd]
theorem for_loop {σ ρ : Type} (K n : Nat) (L : Nat → σ → Int → Option ρ) (v : ρ) (Inv : Nat → σ → Prop)
    (step : ∀ k i s, K ≤ k → i < n → Inv i s → (∃ s', Inv (i + 1) s' ∧ L (k + 1) s (i : Int) = L k s' ((i : Int) + 1)) ∨ L (k + 1) s (i : Int) = some v)
    (fin : ∀ k s, K ≤ k → Inv n s → L (k + 1) s (n : Int) = some v) :
    ∀ k s, Inv 0 s → n + K < k → L k s 0 = some v := by
  have key : ∀ d k i s, i + d = n → Inv i s → d + K < k → L k s (i : Int) = some v := by
    intro d
    induction d with
    | zero =>
      intro k i s hi h hk
      obtain ⟨k, rfl⟩ : ∃ m, k = m + 1 := ⟨k - 1, by omega⟩
      obtain rfl : i = n := by omega
      exact fin k s (by omega) h
    | succ d ih =>
      intro k i s hi h hk
      obtain ⟨k, rfl⟩ : ∃ m, k = m + 1 := ⟨k - 1, by omega⟩
      rcases step k i s (by omega) (by omega) h with ⟨s', h', e⟩ | e
      · rw [e]
        have := ih k (i + 1) s' (by omega) h' (by omega)
        rw [show ((i + 1 : Nat) : Int) = (i : Int) + 1 from by omega] at this
        exact this
      · exact e
  intro k s h hk
  exact key n k 0 s (by omega) h hk
theorem getD_drop {α : Type} (xs : List α) (z : α) (i : Nat) (h : i < xs.length) : xs.drop i = xs.getD i z :: xs.drop (i + 1) := by
  rw [List.drop_eq_getElem_cons h, List.getD_eq_getElem?_getD, List.getElem?_eq_getElem h]; rfl
theorem all_loop {α : Type} (K : Nat) (xs : List α) (z : α) (p : α → Bool) (L : Nat → Int → Option Bool)
    (step : ∀ k i, K ≤ k → i < xs.length → L (k + 1) (i : Int) = if p (xs.getD i z) = true then L k ((i : Int) + 1) else some false)
    (fin : ∀ k, K ≤ k → L (k + 1) (xs.length : Int) = some true) : ∀ k, xs.length + K < k → L k 0 = some (xs.all p) := by
  intro k hk
  refine for_loop K xs.length (fun k (_ : Unit) i => L k i) (xs.all p) (fun i _ => (xs.drop i).all p = xs.all p) ?_ ?_ k () (by simp) hk
  · intro k i s hK hi h
    rw [getD_drop xs z i hi, List.all_cons] at h
    by_cases hp : p (xs.getD i z) = true
    · refine .inl ⟨(), by rw [hp, Bool.true_and] at h; exact h, ?_⟩
      show L (k + 1) (i : Int) = _
      rw [step k i hK hi, if_pos hp]
    · refine .inr ?_
      show L (k + 1) (i : Int) = _
      rw [step k i hK hi, if_neg hp, ← h, (Bool.eq_false_iff.2 hp : p (xs.getD i z) = false), Bool.false_and]
  · intro k s hK h
    rw [List.drop_of_length_le (Nat.le_refl _)] at h
    show L (k + 1) (xs.length : Int) = _
    rw [fin k hK, ← h]; rfl
theorem fold_loop {α σ ρ : Type} (K : Nat) (xs : List α) (z : α) (g : σ → α → σ) (out : σ → ρ) (I : Nat → σ → Prop) (L : Nat → σ → Int → Option ρ)
    (step : ∀ k i s, K ≤ k → i < xs.length → I i s → I (i + 1) (g s (xs.getD i z)) ∧ L (k + 1) s (i : Int) = L k (g s (xs.getD i z)) ((i : Int) + 1))
    (fin : ∀ k s, K ≤ k → I xs.length s → L (k + 1) s (xs.length : Int) = some (out s)) : ∀ k s, I 0 s → xs.length + K < k → L k s 0 = some (out (xs.foldl g s)) := by
  intro k s h0 hk
  refine for_loop K xs.length L (out (xs.foldl g s)) (fun i s' => I i s' ∧ (xs.drop i).foldl g s' = xs.foldl g s) ?_ ?_ k s ⟨h0, by simp⟩ hk
  · rintro k i s' hK hi ⟨h, e⟩
    rw [getD_drop xs z i hi, List.foldl_cons] at e
    obtain ⟨h1, h2⟩ := step k i s' hK hi h
    exact .inl ⟨_, ⟨h1, e⟩, h2⟩
  · rintro k s' hK ⟨h, e⟩
    rw [List.drop_of_length_le (Nat.le_refl _)] at e
    rw [fin k s' hK h, ← e]; rfl
theorem within_ok (a b c : Int) : impl_within.f a b c = some (decide (b ≤ a ∧ a ≤ c)) := by
  unfold impl_within.f
  split <;> simp <;> omega
theorem l1In_ok (a b c : Int) : spec_l1In.f a b c = some (decide (b ≤ a ∧ a ≤ c)) := by
  unfold spec_l1In.f
  split <;> simp <;> omega
theorem allWithin_ok (l : List Int) (lo hi : Int) (hl : l.length ≤ 4503599627370496) : ∀ k, l.length < k → impl_allWithin.f k l lo hi = some (l.all fun x => decide (lo ≤ x ∧ x ≤ hi)) := by
  intro k hk
  unfold impl_allWithin.f
  refine all_loop 0 l 0 _ (fun k i => impl_allWithin.l0 k lo hi l (l.length : Int) i) ?_ ?_ k (by omega)
  · intro k i _ hi
    show impl_allWithin.l0 (k + 1) lo _ l (l.length : Int) (i : Int) = _
    simp only [impl_allWithin.l0]
    rw [if_pos (by omega), if_pos (by omega), if_pos (by omega), within_ok, Option.bind_some, wrap_id (by omega) (by omega), rd_nat]
  · intro k _
    show impl_allWithin.l0 (k + 1) lo hi l (l.length : Int) (l.length : Int) = _
    simp only [impl_allWithin.l0]
    rw [if_neg (by omega)]
theorem divisorOf_ok : ∀ (n m k : Nat), n < k → impl_divisorOf.f k (m : Int) (n : Int) = some ((Nat.gcd m n : Nat) : Int) := by
  have key : ∀ (d n m k : Nat), n ≤ d → n < k → impl_divisorOf.l0 k (m : Int) (n : Int) = some ((Nat.gcd m n : Nat) : Int) := by
    intro d
    induction d with
    | zero =>
      intro n m k hn hk
      obtain ⟨k, rfl⟩ : ∃ j, k = j + 1 := ⟨k - 1, by omega⟩
      obtain rfl : n = 0 := by omega
      simp only [impl_divisorOf.l0]
      rw [if_neg (by omega), Nat.gcd_zero_right]
    | succ d ih =>
      intro n m k hn hk
      obtain ⟨k, rfl⟩ : ∃ j, k = j + 1 := ⟨k - 1, by omega⟩
      simp only [impl_divisorOf.l0]
      by_cases h0 : n = 0
      · subst h0
        rw [if_neg (by omega), Nat.gcd_zero_right]
      · have hlt := Nat.mod_lt m (Nat.pos_of_ne_zero h0)
        rw [if_pos (by omega), if_neg (by omega), ← Int.ofNat_tmod, ih (m % n) n k (by omega) (by omega), Nat.gcd_comm n (m % n), ← Nat.gcd_rec n m, Nat.gcd_comm]
  intro n m k hk
  exact key n n m k (Nat.le_refl _) hk
theorem absOf_ok (a : Int) (h : -9223372036854775808 < a) (h2 : a ≤ 9223372036854775807) : impl_absOf.f a = some ((a.natAbs : Nat) : Int) := by
  unfold impl_absOf.f
  split
  · rw [wrap_id (by omega) (by omega)]; congr 1; omega
  · congr 1; omega
def ratioV (num den : Int) : Int × Int × Bool := if den = 0 then (0, 0, false) else (wrap64 (Int.tdiv num (Nat.gcd num.natAbs den.natAbs : Nat)), wrap64 (Int.tdiv den (Nat.gcd num.natAbs den.natAbs : Nat)), true)
theorem ratioOf_ok (num den : Int) (h : -9223372036854775808 < num) (h2 : num ≤ 9223372036854775807) (hd : 0 ≤ den) : ∀ k, num.natAbs < k → impl_ratioOf.f k num den = some (ratioV num den) := by
  intro k hk
  unfold impl_ratioOf.f ratioV
  by_cases h0 : den = 0
  · rw [if_pos h0, if_pos h0]
  · have hg := Nat.gcd_pos_of_pos_right num.natAbs (n := den.natAbs) (by omega)
    have hc := divisorOf_ok num.natAbs den.natAbs k hk
    rw [show ((den.natAbs : Nat) : Int) = den from by omega, Nat.gcd_comm] at hc
    rw [if_neg h0, if_neg h0, if_neg (by omega), absOf_ok num h h2, Option.bind_some, hc, Option.bind_some, if_neg (by omega)]
theorem l10Common_ok : ∀ (n m k : Nat), n < k → spec_l10Common.f k (m : Int) (n : Int) = some ((Nat.gcd m n : Nat) : Int) := by
  have key : ∀ (d n m k : Nat), n ≤ d → n < k → spec_l10Common.l0 k (m : Int) (n : Int) = some ((Nat.gcd m n : Nat) : Int) := by
    intro d
    induction d with
    | zero =>
      intro n m k hn hk
      obtain ⟨k, rfl⟩ : ∃ j, k = j + 1 := ⟨k - 1, by omega⟩
      obtain rfl : n = 0 := by omega
      simp only [spec_l10Common.l0]
      rw [if_neg (by omega), Nat.gcd_zero_right]
    | succ d ih =>
      intro n m k hn hk
      obtain ⟨k, rfl⟩ : ∃ j, k = j + 1 := ⟨k - 1, by omega⟩
      simp only [spec_l10Common.l0]
      by_cases h0 : n = 0
      · subst h0
        rw [if_neg (by omega), Nat.gcd_zero_right]
      · have hlt := Nat.mod_lt m (Nat.pos_of_ne_zero h0)
        rw [if_pos (by omega), if_neg (by omega), ← Int.ofNat_tmod, ih (m % n) n k (by omega) (by omega), Nat.gcd_comm n (m % n), ← Nat.gcd_rec n m, Nat.gcd_comm]
  intro n m k hk
  exact key n n m k (Nat.le_refl _) hk
theorem l11Abs_ok (a : Int) (h : -9223372036854775808 < a) (h2 : a ≤ 9223372036854775807) : spec_l11Abs.f a = some ((a.natAbs : Nat) : Int) := by
  unfold spec_l11Abs.f spec_l1Most.f
  rw [wrap_id (by omega) (by omega)]
  split <;> simp only [Option.bind_some] <;> congr 1 <;> omega
theorem l20Ratio_ok (num den : Int) (h : -9223372036854775808 < num) (h2 : num ≤ 9223372036854775807) (hd : 0 ≤ den) : ∀ k, den.natAbs < k → spec_l20Ratio.f k num den = some (ratioV num den) := by
  intro k hk
  unfold spec_l20Ratio.f ratioV
  by_cases h0 : den = 0
  · rw [if_pos h0, if_pos h0]
  · have hg := Nat.gcd_pos_of_pos_right num.natAbs (n := den.natAbs) (by omega)
    have hc := l10Common_ok den.natAbs num.natAbs k hk
    rw [show ((den.natAbs : Nat) : Int) = den from by omega] at hc
    rw [if_neg h0, if_neg h0, l11Abs_ok num h h2, Option.bind_some, hc, Option.bind_some, if_neg (by omega)]
def goodB (a b c d : Int) : Bool := decide ((0 ≤ a ∧ a ≤ 1000000) ∧ (0 ≤ b ∧ b ≤ 1000000) ∧ (0 ≤ c ∧ c ≤ 1000000) ∧ (0 ≤ d ∧ d ≤ 1000000))
theorem isTable_ok (a b c d : Int) : ∀ k, 4 < k → impl_isTable.f k a b c d = some (goodB a b c d) := by
  intro k hk
  unfold impl_isTable.f goodB
  rw [allWithin_ok _ _ _ (by simp) k (by simpa using hk), Option.bind_some]
  congr 1
  rw [Bool.eq_iff_iff]
  simp
theorem l20Good_ok (a b c d : Int) : spec_l20Good.f a b c d = some (goodB a b c d) := by
  unfold spec_l20Good.f goodB
  simp only [l1In_ok, Option.bind_some]
  by_cases ha : 0 ≤ a ∧ a ≤ 1000000 <;> by_cases hb : 0 ≤ b ∧ b ≤ 1000000 <;> by_cases hc : 0 ≤ c ∧ c ≤ 1000000 <;> simp [ha, hb, hc]
theorem good_out {a b c d : Int} (h : goodB a b c d = true) : (0 ≤ a ∧ a ≤ 1000000) ∧ (0 ≤ b ∧ b ≤ 1000000) ∧ (0 ≤ c ∧ c ≤ 1000000) ∧ (0 ≤ d ∧ d ≤ 1000000) := of_decide_eq_true h
theorem eqRatio_self (a b : Int) : laws_eqRatio.f a b a b = some true := by unfold laws_eqRatio.f; rw [if_pos rfl, if_pos rfl]
theorem mul_le_big {x y A B : Int} (h0 : 0 ≤ x) (h1 : x ≤ A) (g0 : 0 ≤ y) (g1 : y ≤ B) : 0 ≤ x * y ∧ x * y ≤ A * B :=
  ⟨Int.mul_nonneg h0 g0, Int.mul_le_mul h1 g1 g0 (Int.le_trans h0 h1)⟩
theorem heidke_num {a b c d : Int} (ha : 0 ≤ a ∧ a ≤ 1000000) (hb : 0 ≤ b ∧ b ≤ 1000000) (hc : 0 ≤ c ∧ c ≤ 1000000) (hd : 0 ≤ d ∧ d ≤ 1000000) :
    -9223372036854775808 < wrap64 (2 * (wrap64 ((wrap64 (a * d)) - (wrap64 (c * b))))) ∧ wrap64 (2 * (wrap64 ((wrap64 (a * d)) - (wrap64 (c * b))))) ≤ 9223372036854775807 := by
  have h1 := mul_le_big ha.1 ha.2 hd.1 hd.2
  have h2 := mul_le_big hc.1 hc.2 hb.1 hb.2
  generalize a * d = x at *
  generalize c * b = y at *
  rw [wrap_id (x := x) (by omega) (by omega), wrap_id (x := y) (by omega) (by omega), wrap_id (x := x - y) (by omega) (by omega), wrap_id (by omega) (by omega)]
  omega
theorem heidke_den {a b c d : Int} (ha : 0 ≤ a ∧ a ≤ 1000000) (hb : 0 ≤ b ∧ b ≤ 1000000) (hc : 0 ≤ c ∧ c ≤ 1000000) (hd : 0 ≤ d ∧ d ≤ 1000000) :
    0 ≤ wrap64 ((wrap64 ((wrap64 (a + b)) * (wrap64 (b + d)))) + (wrap64 ((wrap64 (a + c)) * (wrap64 (c + d))))) := by
  rw [wrap_id (x := a + b) (by omega) (by omega), wrap_id (x := b + d) (by omega) (by omega), wrap_id (x := a + c) (by omega) (by omega), wrap_id (x := c + d) (by omega) (by omega)]
  have h1 := mul_le_big (x := a + b) (y := b + d) (A := 2000000) (B := 2000000) (by omega) (by omega) (by omega) (by omega)
  have h2 := mul_le_big (x := a + c) (y := c + d) (A := 2000000) (B := 2000000) (by omega) (by omega) (by omega) (by omega)
  generalize (a + b) * (b + d) = x at *
  generalize (a + c) * (c + d) = y at *
  rw [wrap_id (x := x) (by omega) (by omega), wrap_id (x := y) (by omega) (by omega), wrap_id (by omega) (by omega)]
  omega
theorem FnExactHeidkeScore : FnExactHeidkeScorePure := by
  intro a b c d _ _ _ _
  have hg := l20Good_ok a b c d
  cases hG : goodB a b c d with
  | false =>
    refine ⟨10, ?_⟩
    have h3 := isTable_ok a b c d 10 (by omega)
    simp [laws_FnExactHeidkeScore.f, laws_toTable.f, spec_HeidkeScore.f, impl_HeidkeScore.f,  impl_tableRatio.f, h3, hg, hG, eqRatio_self]
  | true =>
    obtain ⟨ha, hb, hc, hd⟩ := good_out hG
    have bn : -9223372036854775808 < wrap64 (2 * (wrap64 ((wrap64 (a * d)) - (wrap64 (c * b))))) ∧ wrap64 (2 * (wrap64 ((wrap64 (a * d)) - (wrap64 (c * b))))) ≤ 9223372036854775807 := heidke_num ha hb hc hd
    have bd : 0 ≤ wrap64 ((wrap64 ((wrap64 (a + b)) * (wrap64 (b + d)))) + (wrap64 ((wrap64 (a + c)) * (wrap64 (c + d))))) := heidke_den ha hb hc hd
    obtain ⟨K, h3, h1, h2⟩ : ∃ K, impl_isTable.f K a b c d = some (goodB a b c d) ∧ impl_ratioOf.f K (wrap64 (2 * (wrap64 ((wrap64 (a * d)) - (wrap64 (c * b)))))) (wrap64 ((wrap64 ((wrap64 (a + b)) * (wrap64 (b + d)))) + (wrap64 ((wrap64 (a + c)) * (wrap64 (c + d)))))) = some (ratioV (wrap64 (2 * (wrap64 ((wrap64 (a * d)) - (wrap64 (c * b)))))) (wrap64 ((wrap64 ((wrap64 (a + b)) * (wrap64 (b + d)))) + (wrap64 ((wrap64 (a + c)) * (wrap64 (c + d))))))) ∧ spec_l20Ratio.f K (wrap64 (2 * (wrap64 ((wrap64 (a * d)) - (wrap64 (c * b)))))) (wrap64 ((wrap64 ((wrap64 (a + b)) * (wrap64 (b + d)))) + (wrap64 ((wrap64 (a + c)) * (wrap64 (c + d)))))) = some (ratioV (wrap64 (2 * (wrap64 ((wrap64 (a * d)) - (wrap64 (c * b)))))) (wrap64 ((wrap64 ((wrap64 (a + b)) * (wrap64 (b + d)))) + (wrap64 ((wrap64 (a + c)) * (wrap64 (c + d))))))) :=
      ⟨(wrap64 (2 * (wrap64 ((wrap64 (a * d)) - (wrap64 (c * b)))))).natAbs + (wrap64 ((wrap64 ((wrap64 (a + b)) * (wrap64 (b + d)))) + (wrap64 ((wrap64 (a + c)) * (wrap64 (c + d)))))).natAbs + 10, isTable_ok a b c d _ (by omega), ratioOf_ok _ _ bn.1 bn.2 bd _ (by omega), l20Ratio_ok _ _ bn.1 bn.2 bd _ (by omega)⟩
    refine ⟨K, ?_⟩
    simp only [laws_FnExactHeidkeScore.f, laws_toTable.f, spec_HeidkeScore.f, impl_HeidkeScore.f,  impl_tableRatio.f, h3, hg, hG, Option.bind_some, if_true, h1, h2, eqRatio_self]
    simp
end Go.Proofs.Ytfonkplhmmabfaa.PFnExactHeidkeScore.Pure
