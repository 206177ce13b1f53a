/-
  The pure statement of the law FnExactShouldProtect: what its printed function answers is 'true' for all numbers and lists of its kinds. Conditions: the kinds' own bounds, as the statement lays them.
-/
import Derived.Test.YtfonkplhmmabfaaStmFnExactShouldProtect
import Derived.DataShut
namespace Go.Proofs.Ytfonkplhmmabfaa.PFnExactShouldProtect.Pure
open Go.RowKit Go.Proofs.Ytfonkplhmmabfaa.PFnExactShouldProtect Go.Proofs.YtfonkplhmmabfaaW.PrintWords Go.Proofs.YtfonkplhmmabfaaW.PrintLast Go.Proofs.YtfonkplhmmabfaaW.PrintMore
set_option linter.unusedVariables false
set_option linter.unusedSimpArgs false
theorem wrap_id {x : Int} (h0 : -9223372036854775808 ≤ x) (h1 : x ≤ 9223372036854775807) : wrap64 x = x := by unfold wrap64; omega
theorem wf64 {x : Int} (h : (Lit.int .i64 x).wf = true) : -9223372036854775808 ≤ x ∧ x ≤ 9223372036854775807 := by
  simpa [Lit.wf, IntKind.min, IntKind.max, IntKind.signed, IntKind.bits] using h
theorem rd_nat (xs : List Int) (i : Nat) : rd xs (i : Int) = xs.getD i 0 := by simp [rd]
theorem for_loop {σ ρ : Type} (K n : Nat) (L : Nat → σ → Int → Option ρ) (v : ρ) (Inv : Nat → σ → Prop)
    (step : ∀ k i s, K ≤ k → i < n → Inv i s → (∃ s', Inv (i + 1) s' ∧ L (k + 1) s (i : Int) = L k s' ((i : Int) + 1)) ∨ L (k + 1) s (i : Int) = some v)
    (fin : ∀ k s, K ≤ k → Inv n s → L (k + 1) s (n : Int) = some v) :
    ∀ k s, Inv 0 s → n + K < k → L k s 0 = some v := by
  have key : ∀ d k i s, i + d = n → Inv i s → d + K < k → L k s (i : Int) = some v := by
    intro d
    induction d with
    | zero =>
      intro k i s hi h hk
      obtain ⟨k, rfl⟩ : ∃ m, k = m + 1 := ⟨k - 1, by omega⟩
      obtain rfl : i = n := by omega
      exact fin k s (by omega) h
    | succ d ih =>
      intro k i s hi h hk
      obtain ⟨k, rfl⟩ : ∃ m, k = m + 1 := ⟨k - 1, by omega⟩
      rcases step k i s (by omega) (by omega) h with ⟨s', h', e⟩ | e
      · rw [e]
        have := ih k (i + 1) s' (by omega) h' (by omega)
        rw [show ((i + 1 : Nat) : Int) = (i : Int) + 1 from by omega] at this
        exact this
      · exact e
  intro k s h hk
  exact key n k 0 s (by omega) h hk
theorem getD_drop {α : Type} (xs : List α) (z : α) (i : Nat) (h : i < xs.length) : xs.drop i = xs.getD i z :: xs.drop (i + 1) := by
  rw [List.drop_eq_getElem_cons h, List.getD_eq_getElem?_getD, List.getElem?_eq_getElem h]; rfl
theorem all_loop {α : Type} (K : Nat) (xs : List α) (z : α) (p : α → Bool) (L : Nat → Int → Option Bool)
    (step : ∀ k i, K ≤ k → i < xs.length → L (k + 1) (i : Int) = if p (xs.getD i z) = true then L k ((i : Int) + 1) else some false)
    (fin : ∀ k, K ≤ k → L (k + 1) (xs.length : Int) = some true) : ∀ k, xs.length + K < k → L k 0 = some (xs.all p) := by
  intro k hk
  refine for_loop K xs.length (fun k (_ : Unit) i => L k i) (xs.all p) (fun i _ => (xs.drop i).all p = xs.all p) ?_ ?_ k () (by simp) hk
  · intro k i s hK hi h
    rw [getD_drop xs z i hi, List.all_cons] at h
    by_cases hp : p (xs.getD i z) = true
    · refine .inl ⟨(), by rw [hp, Bool.true_and] at h; exact h, ?_⟩
      show L (k + 1) (i : Int) = _
      rw [step k i hK hi, if_pos hp]
    · refine .inr ?_
      show L (k + 1) (i : Int) = _
      rw [step k i hK hi, if_neg hp, ← h, (Bool.eq_false_iff.2 hp : p (xs.getD i z) = false), Bool.false_and]
  · intro k s hK h
    rw [List.drop_of_length_le (Nat.le_refl _)] at h
    show L (k + 1) (xs.length : Int) = _
    rw [fin k hK, ← h]; rfl
theorem fold_loop {α σ ρ : Type} (K : Nat) (xs : List α) (z : α) (g : σ → α → σ) (out : σ → ρ) (I : Nat → σ → Prop) (L : Nat → σ → Int → Option ρ)
    (step : ∀ k i s, K ≤ k → i < xs.length → I i s → I (i + 1) (g s (xs.getD i z)) ∧ L (k + 1) s (i : Int) = L k (g s (xs.getD i z)) ((i : Int) + 1))
    (fin : ∀ k s, K ≤ k → I xs.length s → L (k + 1) s (xs.length : Int) = some (out s)) : ∀ k s, I 0 s → xs.length + K < k → L k s 0 = some (out (xs.foldl g s)) := by
  intro k s h0 hk
  refine for_loop K xs.length L (out (xs.foldl g s)) (fun i s' => I i s' ∧ (xs.drop i).foldl g s' = xs.foldl g s) ?_ ?_ k s ⟨h0, by simp⟩ hk
  · rintro k i s' hK hi ⟨h, e⟩
    rw [getD_drop xs z i hi, List.foldl_cons] at e
    obtain ⟨h1, h2⟩ := step k i s' hK hi h
    exact .inl ⟨_, ⟨h1, e⟩, h2⟩
  · rintro k s' hK ⟨h, e⟩
    rw [List.drop_of_length_le (Nat.le_refl _)] at e
    rw [fin k s' hK h, ← e]; rfl
theorem within_ok (a b c : Int) : impl_within.f a b c = some (decide (b ≤ a ∧ a ≤ c)) := by
  unfold impl_within.f
  split <;> simp <;> omega
theorem l1In_ok (a b c : Int) : spec_l1In.f a b c = some (decide (b ≤ a ∧ a ≤ c)) := by
  unfold spec_l1In.f
  split <;> simp <;> omega
theorem isDecision_ok (c ls : Int) : impl_isDecision.f c ls = some (decide (1 ≤ c ∧ c < ls ∧ ls ≤ 10000)) := by
  unfold impl_isDecision.f
  split
  · split
    · exact congrArg some (decide_eq_decide.2 (by omega))
    · rw [decide_eq_false (by omega)]
  · rw [decide_eq_false (by omega)]
theorem l22Decision_ok (c ls : Int) : spec_l22Decision.f c ls = some (decide (1 ≤ c ∧ c < ls ∧ ls ≤ 10000)) := by
  unfold spec_l22Decision.f
  split
  · split
    · exact congrArg some (decide_eq_decide.2 (by omega))
    · rw [decide_eq_false (by omega)]
  · rw [decide_eq_false (by omega)]
theorem FnExactShouldProtect : FnExactShouldProtectPure := by
  intro c ls a d _ _ _ _
  unfold laws_FnExactShouldProtect.f spec_ShouldProtect.f impl_ShouldProtect.f
  simp only [laws_toDecision.f, Option.bind_some, isDecision_ok, l22Decision_ok, within_ok, l1In_ok]
  rw [Int.mul_comm a ls]
  by_cases h1 : 1 ≤ c ∧ c < ls ∧ ls ≤ 10000 <;> by_cases h2 : 1 ≤ d ∧ d ≤ 1000 <;> by_cases h3 : 0 ≤ a ∧ a ≤ d <;> simp [h1, h2, h3]
end Go.Proofs.Ytfonkplhmmabfaa.PFnExactShouldProtect.Pure
