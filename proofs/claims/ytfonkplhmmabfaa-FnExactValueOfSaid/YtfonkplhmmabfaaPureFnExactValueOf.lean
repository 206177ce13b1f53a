/-
  The pure statement of the law FnExactValueOf: what its printed function answers is 'true' for all numbers and lists of its kinds. Conditions: the kinds' own bounds, as the statement lays them.
-/
import Derived.Test.YtfonkplhmmabfaaStmFnExactValueOf
import Derived.DataShut
namespace Go.Proofs.Ytfonkplhmmabfaa.PFnExactValueOf.Pure
open Go.RowKit Go.Proofs.Ytfonkplhmmabfaa.PFnExactValueOf Go.Proofs.YtfonkplhmmabfaaW.PrintWords Go.Proofs.YtfonkplhmmabfaaW.PrintLast Go.Proofs.YtfonkplhmmabfaaW.PrintMore
set_option linter.unusedVariables false
set_option linter.unusedSimpArgs false
theorem wrap_id {x : Int} (h0 : -9223372036854775808 ≤ x) (h1 : x ≤ 9223372036854775807) : wrap64 x = x := by unfold wrap64; omega
theorem wf64 {x : Int} (h : (Lit.int .i64 x).wf = true) : -9223372036854775808 ≤ x ∧ x ≤ 9223372036854775807 := by
  simpa [Lit.wf, IntKind.min, IntKind.max, IntKind.signed, IntKind.bits] using h
theorem rd_nat (xs : List Int) (i : Nat) : rd xs (i : Int) = xs.getD i 0 := by simp [rd]
theorem for_loop {σ ρ : Type} (K n : Nat) (L : Nat → σ → Int → Option ρ) (v : ρ) (Inv : Nat → σ → Prop)
    (step : ∀ k i s, K ≤ k → i < n → Inv i s → (∃ s', Inv (i + 1) s' ∧ L (k + 1) s (i : Int) = L k s' ((i : Int) + 1)) ∨ L (k + 1) s (i : Int) = some v)
    (fin : ∀ k s, K ≤ k → Inv n s → L (k + 1) s (n : Int) = some v) :
    ∀ k s, Inv 0 s → n + K < k → L k s 0 = some v := by
  have key : ∀ d k i s, i + d = n → Inv i s → d + K < k → L k s (i : Int) = some v := by
    intro d
    induction d with
    | zero =>
      intro k i s hi h hk
      obtain ⟨k, rfl⟩ : ∃ m, k = m + 1 := ⟨k - 1, by omega⟩
      obtain rfl : i = n := by omega
      exact fin k s (by omega) h
    | succ d ih =>
      intro k i s hi h hk
      obtain ⟨k, rfl⟩ : ∃ m, k = m + 1 := ⟨k - 1, by omega⟩
      rcases step k i s (by omega) (by omega) h with ⟨s', h', e⟩ | e
      · rw [e]
        have := ih k (i + 1) s' (by omega) h' (by omega)
        rw [show ((i + 1 : Nat) : Int) = (i : Int) + 1 from by omega] at this
        exact this
      · exact e
  intro k s h hk
  exact key n k 0 s (by omega) h hk
theorem getD_drop {α : Type} (xs : List α) (z : α) (i : Nat) (h : i < xs.length) : xs.drop i = xs.getD i z :: xs.drop (i + 1) := by
  rw [List.drop_eq_getElem_cons h, List.getD_eq_getElem?_getD, List.getElem?_eq_getElem h]; rfl
theorem all_loop {α : Type} (K : Nat) (xs : List α) (z : α) (p : α → Bool) (L : Nat → Int → Option Bool)
    (step : ∀ k i, K ≤ k → i < xs.length → L (k + 1) (i : Int) = if p (xs.getD i z) = true then L k ((i : Int) + 1) else some false)
    (fin : ∀ k, K ≤ k → L (k + 1) (xs.length : Int) = some true) : ∀ k, xs.length + K < k → L k 0 = some (xs.all p) := by
  intro k hk
  refine for_loop K xs.length (fun k (_ : Unit) i => L k i) (xs.all p) (fun i _ => (xs.drop i).all p = xs.all p) ?_ ?_ k () (by simp) hk
  · intro k i s hK hi h
    rw [getD_drop xs z i hi, List.all_cons] at h
    by_cases hp : p (xs.getD i z) = true
    · refine .inl ⟨(), by rw [hp, Bool.true_and] at h; exact h, ?_⟩
      show L (k + 1) (i : Int) = _
      rw [step k i hK hi, if_pos hp]
    · refine .inr ?_
      show L (k + 1) (i : Int) = _
      rw [step k i hK hi, if_neg hp, ← h, (Bool.eq_false_iff.2 hp : p (xs.getD i z) = false), Bool.false_and]
  · intro k s hK h
    rw [List.drop_of_length_le (Nat.le_refl _)] at h
    show L (k + 1) (xs.length : Int) = _
    rw [fin k hK, ← h]; rfl
theorem fold_loop {α σ ρ : Type} (K : Nat) (xs : List α) (z : α) (g : σ → α → σ) (out : σ → ρ) (I : Nat → σ → Prop) (L : Nat → σ → Int → Option ρ)
    (step : ∀ k i s, K ≤ k → i < xs.length → I i s → I (i + 1) (g s (xs.getD i z)) ∧ L (k + 1) s (i : Int) = L k (g s (xs.getD i z)) ((i : Int) + 1))
    (fin : ∀ k s, K ≤ k → I xs.length s → L (k + 1) s (xs.length : Int) = some (out s)) : ∀ k s, I 0 s → xs.length + K < k → L k s 0 = some (out (xs.foldl g s)) := by
  intro k s h0 hk
  refine for_loop K xs.length L (out (xs.foldl g s)) (fun i s' => I i s' ∧ (xs.drop i).foldl g s' = xs.foldl g s) ?_ ?_ k s ⟨h0, by simp⟩ hk
  · rintro k i s' hK hi ⟨h, e⟩
    rw [getD_drop xs z i hi, List.foldl_cons] at e
    obtain ⟨h1, h2⟩ := step k i s' hK hi h
    exact .inl ⟨_, ⟨h1, e⟩, h2⟩
  · rintro k s' hK ⟨h, e⟩
    rw [List.drop_of_length_le (Nat.le_refl _)] at e
    rw [fin k s' hK h, ← e]; rfl
theorem within_ok (a b c : Int) : impl_within.f a b c = some (decide (b ≤ a ∧ a ≤ c)) := by
  unfold impl_within.f
  split <;> simp <;> omega
theorem l1In_ok (a b c : Int) : spec_l1In.f a b c = some (decide (b ≤ a ∧ a ≤ c)) := by
  unfold spec_l1In.f
  split <;> simp <;> omega
theorem toIntS_ok (l : List Int) (hl : l.length ≤ 1048576) : ∀ k, l.length < k → laws_toIntS.f k l = some l := by
  intro k hk
  unfold laws_toIntS.f
  rw [if_pos (by omega), if_pos (by omega)]
  refine for_loop 0 l.length (fun k s i => laws_toIntS.l0 k l s i) l (fun i s => s.length = l.length ∧ ∀ j, j < i → s[j]? = l[j]?) ?_ ?_ k _ ⟨by simp, fun j hj => by omega⟩ (by omega)
  · rintro k i s _ hi ⟨h1, h2⟩
    refine .inl ⟨s.set i (l.getD i 0), ⟨by simpa using h1, fun j hj => ?_⟩, ?_⟩
    · by_cases e : j = i
      · subst e
        rw [List.getElem?_set_self (by omega), List.getD_eq_getElem?_getD, List.getElem?_eq_getElem hi]; rfl
      · rw [List.getElem?_set_ne (by omega)]; exact h2 j (by omega)
    · show laws_toIntS.l0 (k + 1) l s (i : Int) = _
      simp only [laws_toIntS.l0]
      rw [if_pos (by omega), if_pos (by omega), if_pos (by omega), wrap_id (by omega) (by omega), rd_nat, Int.toNat_natCast]
  · rintro k s _ ⟨h1, h2⟩
    show laws_toIntS.l0 (k + 1) l s (l.length : Int) = _
    simp only [laws_toIntS.l0]
    rw [if_neg (by omega)]
    congr 1
    apply List.ext_getElem?
    intro j
    by_cases hj : j < l.length
    · exact h2 j hj
    · rw [List.getElem?_eq_none (by omega), List.getElem?_eq_none (by omega)]
theorem eqIntS_self (l : List Int) (hl : l.length ≤ 4503599627370496) : ∀ k, l.length < k → laws_eqIntS.f k l l = some true := by
  intro k hk
  unfold laws_eqIntS.f
  rw [if_pos rfl]
  refine for_loop 0 l.length (fun k (_ : Unit) i => laws_eqIntS.l0 k l l i) true (fun _ _ => True) ?_ ?_ k () trivial (by omega)
  · intro k i s _ hi _
    refine .inl ⟨(), trivial, ?_⟩
    show laws_eqIntS.l0 (k + 1) l l (i : Int) = _
    simp only [laws_eqIntS.l0]
    rw [if_pos (by omega), if_pos (by omega), if_pos (by omega), wrap_id (by omega) (by omega)]
    simp
  · intro k s _ _
    show laws_eqIntS.l0 (k + 1) l l (l.length : Int) = _
    simp only [laws_eqIntS.l0]
    rw [if_neg (by omega)]
theorem allWithin_ok (l : List Int) (lo hi : Int) (hl : l.length ≤ 4503599627370496) : ∀ k, l.length < k → impl_allWithin.f k l lo hi = some (l.all fun x => decide (lo ≤ x ∧ x ≤ hi)) := by
  intro k hk
  unfold impl_allWithin.f
  refine all_loop 0 l 0 _ (fun k i => impl_allWithin.l0 k lo hi l (l.length : Int) i) ?_ ?_ k (by omega)
  · intro k i _ hi
    show impl_allWithin.l0 (k + 1) lo _ l (l.length : Int) (i : Int) = _
    simp only [impl_allWithin.l0]
    rw [if_pos (by omega), if_pos (by omega), if_pos (by omega), within_ok, Option.bind_some, wrap_id (by omega) (by omega), rd_nat]
  · intro k _
    show impl_allWithin.l0 (k + 1) lo hi l (l.length : Int) (l.length : Int) = _
    simp only [impl_allWithin.l0]
    rw [if_neg (by omega)]
theorem sumOf_ok (l : List Int) (hl : l.length ≤ 4503599627370496) : ∀ k, l.length < k → impl_sumOf.f k l = some (l.foldl (fun s x => wrap64 (s + x)) 0) := by
  intro k hk
  unfold impl_sumOf.f
  refine fold_loop 0 l 0 (fun s x => wrap64 (s + x)) id (fun _ _ => True) (fun k s i => impl_sumOf.l0 k s l (l.length : Int) i) ?_ ?_ k 0 trivial (by omega)
  · intro k i s _ hi _
    refine ⟨trivial, ?_⟩
    show impl_sumOf.l0 (k + 1) s l (l.length : Int) (i : Int) = _
    simp only [impl_sumOf.l0]
    rw [if_pos (by omega), if_pos (by omega), if_pos (by omega), wrap_id (x := (i : Int) + 1) (by omega) (by omega), rd_nat]
  · intro k s _ _
    show impl_sumOf.l0 (k + 1) s l (l.length : Int) (l.length : Int) = _
    simp only [impl_sumOf.l0]
    rw [if_neg (by omega)]; rfl
theorem isDecision_ok (c ls : Int) : impl_isDecision.f c ls = some (decide (1 ≤ c ∧ c < ls ∧ ls ≤ 10000)) := by
  unfold impl_isDecision.f
  split
  · split
    · exact congrArg some (decide_eq_decide.2 (by omega))
    · rw [decide_eq_false (by omega)]
  · rw [decide_eq_false (by omega)]
theorem l22Decision_ok (c ls : Int) : spec_l22Decision.f c ls = some (decide (1 ≤ c ∧ c < ls ∧ ls ≤ 10000)) := by
  unfold spec_l22Decision.f
  split
  · split
    · exact congrArg some (decide_eq_decide.2 (by omega))
    · rw [decide_eq_false (by omega)]
  · rw [decide_eq_false (by omega)]
def askedB (c ls : Int) (l : List Int) : Bool := decide (1 ≤ c ∧ c < ls ∧ ls ≤ 10000) && decide (l.length = 4) && (l.all fun x => decide (0 ≤ x ∧ x ≤ 1000)) && decide (0 < l.foldl (fun s x => wrap64 (s + x)) 0)
theorem areCounts_ok (c ls : Int) (l : List Int) : ∀ k, 5 ≤ k → impl_areCounts.f k c ls l = some (askedB c ls l) := by
  intro k hk
  unfold impl_areCounts.f askedB
  rw [isDecision_ok, Option.bind_some]
  by_cases hD : 1 ≤ c ∧ c < ls ∧ ls ≤ 10000
  · rw [decide_eq_true hD, if_pos rfl]
    by_cases hl : l.length = 4
    · rw [if_pos (by omega), allWithin_ok l 0 1000 (by omega) k (by omega), Option.bind_some, sumOf_ok l (by omega) k (by omega), Option.bind_some, decide_eq_true hl]
      cases hA : l.all fun x => decide (0 ≤ x ∧ x ≤ 1000) <;> simp [hA]
    · rw [if_neg (by omega), decide_eq_false hl]; simp
  · rw [decide_eq_false hD]; simp
theorem l22Asked_ok (c ls : Int) (l : List Int) : ∀ k, 7 ≤ k → spec_l22Asked.f k c ls l = some (askedB c ls l) := by
  intro k hk
  unfold spec_l22Asked.f askedB
  rw [l22Decision_ok, Option.bind_some]
  obtain ⟨k, rfl⟩ : ∃ m, k = m + 1 := ⟨k - 1, by omega⟩
  by_cases hD : 1 ≤ c ∧ c < ls ∧ ls ≤ 10000
  · rw [decide_eq_true hD, if_pos rfl]
    simp only [spec_l22Asked.j0]
    by_cases hl : l.length = 4
    · rw [if_neg (by simp; omega)]
      have key := for_loop 0 l.length (fun k s i => spec_l22Asked.l0 k l s i) ((l.all fun x => decide (0 ≤ x ∧ x ≤ 1000)) && decide (0 < l.foldl (fun s x => wrap64 (s + x)) 0))
        (fun i s => ((l.drop i).all (fun x => decide (0 ≤ x ∧ x ≤ 1000)) && decide (0 < (l.drop i).foldl (fun s x => wrap64 (s + x)) s)) = ((l.all fun x => decide (0 ≤ x ∧ x ≤ 1000)) && decide (0 < l.foldl (fun s x => wrap64 (s + x)) 0))) ?_ ?_ k 0 (by simp) (by omega)
      · rw [key, decide_eq_true hl]; simp
      · intro k i s _ hi h
        rw [getD_drop l 0 i hi, List.all_cons, List.foldl_cons] at h
        by_cases hp : 0 ≤ l.getD i 0 ∧ l.getD i 0 ≤ 1000
        · refine .inl ⟨wrap64 (s + l.getD i 0), by rw [decide_eq_true hp, Bool.true_and] at h; exact h, ?_⟩
          show spec_l22Asked.l0 (k + 1) l s (i : Int) = _
          simp only [spec_l22Asked.l0]
          rw [if_pos (by omega), if_pos (by omega), if_pos (by omega), rd_nat, l1In_ok, Option.bind_some, decide_eq_true hp, if_pos rfl, wrap_id (x := (i : Int) + 1) (by omega) (by omega)]
        · refine .inr ?_
          show spec_l22Asked.l0 (k + 1) l s (i : Int) = _
          simp only [spec_l22Asked.l0]
          rw [if_pos (by omega), if_pos (by omega), if_pos (by omega), rd_nat, l1In_ok, Option.bind_some, decide_eq_false hp, if_neg (by simp), ← h, decide_eq_false hp]
          simp
      · intro k s _ h
        rw [List.drop_of_length_le (Nat.le_refl _)] at h
        show spec_l22Asked.l0 (k + 1) l s (l.length : Int) = _
        simp only [spec_l22Asked.l0]
        rw [if_neg (by omega), ← h]
        simp only [List.all_nil, List.foldl_nil, Bool.true_and]
        exact congrArg some (decide_eq_decide.2 Iff.rfl)
    · rw [if_pos (by simp; omega), decide_eq_false hl]; simp
  · rw [decide_eq_false hD]; simp [spec_l22Asked.j0]
theorem asked_out {c ls : Int} {l : List Int} (h : askedB c ls l = true) : ∃ x y z w, l = [x, y, z, w] ∧ (0 ≤ x ∧ x ≤ 1000) ∧ (0 ≤ y ∧ y ≤ 1000) ∧ (0 ≤ z ∧ z ≤ 1000) ∧ (0 ≤ w ∧ w ≤ 1000) ∧ 0 < x + y + z + w ∧ 1 ≤ c ∧ c < ls ∧ ls ≤ 10000 ∧ l.foldl (fun s x => wrap64 (s + x)) 0 = x + y + z + w := by
  unfold askedB at h
  simp only [Bool.and_eq_true, decide_eq_true_eq] at h
  obtain ⟨⟨⟨hD, hl⟩, hA⟩, hs⟩ := h
  match l, hl with
  | [x, y, z, w], _ =>
    simp only [List.all_cons, List.all_nil, Bool.and_eq_true, decide_eq_true_eq] at hA
    obtain ⟨hx, hy, hz, hw, _⟩ := hA
    have e : [x, y, z, w].foldl (fun s x => wrap64 (s + x)) 0 = x + y + z + w := by
      simp only [List.foldl_cons, List.foldl_nil]
      rw [wrap_id (x := 0 + x) (by omega) (by omega), wrap_id (x := 0 + x + y) (by omega) (by omega), wrap_id (x := 0 + x + y + z) (by omega) (by omega), wrap_id (x := 0 + x + y + z + w) (by omega) (by omega)]
      omega
    rw [e] at hs
    exact ⟨x, y, z, w, rfl, hx, hy, hz, hw, hs, hD.1, hD.2.1, hD.2.2, e⟩
theorem divisorOf_ok : ∀ (n m k : Nat), n < k → impl_divisorOf.f k (m : Int) (n : Int) = some ((Nat.gcd m n : Nat) : Int) := by
  have key : ∀ (d n m k : Nat), n ≤ d → n < k → impl_divisorOf.l0 k (m : Int) (n : Int) = some ((Nat.gcd m n : Nat) : Int) := by
    intro d
    induction d with
    | zero =>
      intro n m k hn hk
      obtain ⟨k, rfl⟩ : ∃ j, k = j + 1 := ⟨k - 1, by omega⟩
      obtain rfl : n = 0 := by omega
      simp only [impl_divisorOf.l0]
      rw [if_neg (by omega), Nat.gcd_zero_right]
    | succ d ih =>
      intro n m k hn hk
      obtain ⟨k, rfl⟩ : ∃ j, k = j + 1 := ⟨k - 1, by omega⟩
      simp only [impl_divisorOf.l0]
      by_cases h0 : n = 0
      · subst h0
        rw [if_neg (by omega), Nat.gcd_zero_right]
      · have hlt := Nat.mod_lt m (Nat.pos_of_ne_zero h0)
        rw [if_pos (by omega), if_neg (by omega), ← Int.ofNat_tmod, ih (m % n) n k (by omega) (by omega), Nat.gcd_comm n (m % n), ← Nat.gcd_rec n m, Nat.gcd_comm]
  intro n m k hk
  exact key n n m k (Nat.le_refl _) hk
theorem absOf_ok (a : Int) (h : -9223372036854775808 < a) (h2 : a ≤ 9223372036854775807) : impl_absOf.f a = some ((a.natAbs : Nat) : Int) := by
  unfold impl_absOf.f
  split
  · rw [wrap_id (by omega) (by omega)]; congr 1; omega
  · congr 1; omega
def ratioV (num den : Int) : Int × Int × Bool := if den = 0 then (0, 0, false) else (wrap64 (Int.tdiv num (Nat.gcd num.natAbs den.natAbs : Nat)), wrap64 (Int.tdiv den (Nat.gcd num.natAbs den.natAbs : Nat)), true)
theorem ratioOf_ok (num den : Int) (h : -9223372036854775808 < num) (h2 : num ≤ 9223372036854775807) (hd : 0 ≤ den) : ∀ k, num.natAbs < k → impl_ratioOf.f k num den = some (ratioV num den) := by
  intro k hk
  unfold impl_ratioOf.f ratioV
  by_cases h0 : den = 0
  · rw [if_pos h0, if_pos h0]
  · have hg := Nat.gcd_pos_of_pos_right num.natAbs (n := den.natAbs) (by omega)
    have hc := divisorOf_ok num.natAbs den.natAbs k hk
    rw [show ((den.natAbs : Nat) : Int) = den from by omega, Nat.gcd_comm] at hc
    rw [if_neg h0, if_neg h0, if_neg (by omega), absOf_ok num h h2, Option.bind_some, hc, Option.bind_some, if_neg (by omega)]
theorem l1MostNeg_ok (a : Int) (h : -9223372036854775808 < a) (h2 : a ≤ 9223372036854775807) : spec_l1Most.f a (wrap64 (-a)) = some ((a.natAbs : Nat) : Int) := by
  unfold spec_l1Most.f
  rw [wrap_id (by omega) (by omega)]
  split <;> congr 1 <;> omega
theorem l21Common0_ok : ∀ (d n m k : Nat), n ≤ d → n < k → spec_l21Common.l0 k (m : Int) (n : Int) = some ((Nat.gcd m n : Nat) : Int) := by
  intro d
  induction d with
  | zero =>
    intro n m k hn hk
    obtain ⟨k, rfl⟩ : ∃ j, k = j + 1 := ⟨k - 1, by omega⟩
    obtain rfl : n = 0 := by omega
    simp only [spec_l21Common.l0]
    rw [if_pos (by omega), Nat.gcd_zero_right]
  | succ d ih =>
    intro n m k hn hk
    obtain ⟨k, rfl⟩ : ∃ j, k = j + 1 := ⟨k - 1, by omega⟩
    simp only [spec_l21Common.l0]
    by_cases h0 : n = 0
    · subst h0
      rw [if_pos (by omega), Nat.gcd_zero_right]
    · have hlt := Nat.mod_lt m (Nat.pos_of_ne_zero h0)
      rw [if_neg (by omega), ← Int.ofNat_tmod, ih (m % n) n k (by omega) (by omega), Nat.gcd_comm n (m % n), ← Nat.gcd_rec n m, Nat.gcd_comm]
theorem l21Reduce_ok (num den : Int) (h : -9223372036854775808 < num) (h2 : num ≤ 9223372036854775807) (g : -9223372036854775808 < den) (g2 : den ≤ 9223372036854775807) (h0 : den ≠ 0) :
    ∀ k, den.natAbs < k → spec_l21Reduce.f k num den = some (wrap64 (Int.tdiv num (Nat.gcd num.natAbs den.natAbs : Nat)), wrap64 (Int.tdiv den (Nat.gcd num.natAbs den.natAbs : Nat))) := by
  intro k hk
  have hg := Nat.gcd_pos_of_pos_right num.natAbs (n := den.natAbs) (by omega)
  unfold spec_l21Reduce.f spec_l21Common.f
  rw [l1MostNeg_ok num h h2, Option.bind_some, l1MostNeg_ok den g g2, Option.bind_some, l21Common0_ok _ _ _ k (Nat.le_refl _) hk, Option.bind_some, if_neg (by omega)]
theorem mul_le_big {x y A B : Int} (h0 : 0 ≤ x) (h1 : x ≤ A) (g0 : 0 ≤ y) (g1 : y ≤ B) : 0 ≤ x * y ∧ x * y ≤ A * B :=
  ⟨Int.mul_nonneg h0 g0, Int.mul_le_mul h1 g1 g0 (Int.le_trans h0 h1)⟩
theorem least_ok (a b : Int) : spec_l1Least.f a b = some (mn a b) := by
  unfold spec_l1Least.f mn
  split <;> split <;> congr 1 <;> omega
theorem FnExactValueOf : FnExactValueOfPure := by
  intro c ls l _ _ _ _
  by_cases hl : (l.length : Int) > 1048576
  · exact ⟨0, by unfold laws_FnExactValueOf.f; rw [if_pos hl]⟩
  have ht := toIntS_ok l (by omega)
  have he := eqIntS_self l (by omega)
  have hi := areCounts_ok c ls l
  have hs := l22Asked_ok c ls l
  have hu := sumOf_ok l (by omega)
  cases hb : askedB c ls l with
  | false =>
    refine ⟨l.length + 20, ?_⟩
    unfold laws_FnExactValueOf.f
    rw [if_neg hl]
    simp only [laws_toDecision.f, Option.bind_some, ht (l.length + 20) (by omega), spec_ValueOf.f, impl_ValueOf.f, hi (l.length + 20) (by omega), hs (l.length + 20) (by omega), hb]
    simp [laws_FnExactValueOf.j0, ht, he]
  | true =>
    obtain ⟨x, y, z, w, rfl, hx, hy, hz, hw, hp, h1, h2, h3, e⟩ := asked_out hb
    rw [e] at hu
    have b1 := mul_le_big (x := x + y + z + w) (y := c) (A := 4000) (B := 10000) (by omega) (by omega) (by omega) (by omega)
    have b2 := mul_le_big (x := x + y) (y := ls) (A := 4000) (B := 10000) (by omega) (by omega) (by omega) (by omega)
    have b3 := mul_le_big (x := x + y) (y := c) (A := 4000) (B := 10000) (by omega) (by omega) (by omega) (by omega)
    have b4 := mul_le_big (x := x + z) (y := c) (A := 4000) (B := 10000) (by omega) (by omega) (by omega) (by omega)
    have b5 := mul_le_big (x := y) (y := ls) (A := 4000) (B := 10000) (by omega) (by omega) (by omega) (by omega)
    have o1 : (x + y) * c ≤ (x + y + z + w) * c := Int.mul_le_mul_of_nonneg_right (by omega) (by omega)
    have o2 : (x + y) * c ≤ (x + y) * ls := Int.mul_le_mul_of_nonneg_left (by omega) (by omega)
    have q1 : wrap64 (x + y + z) = x + y + z := wrap_id (by omega) (by omega)
    have q10 : wrap64 (x + y + z + w) = x + y + z + w := wrap_id (by omega) (by omega)
    have q2 : wrap64 (x + y) = x + y := wrap_id (by omega) (by omega)
    have q3 : wrap64 (x + z) = x + z := wrap_id (by omega) (by omega)
    have q4 : wrap64 ((x + y + z + w) * c) = (x + y + z + w) * c := wrap_id (by omega) (by omega)
    have q5 : wrap64 ((x + y) * ls) = (x + y) * ls := wrap_id (by omega) (by omega)
    have q6 : wrap64 ((x + y) * c) = (x + y) * c := wrap_id (by omega) (by omega)
    have q7 : wrap64 ((x + z) * c) = (x + z) * c := wrap_id (by omega) (by omega)
    have q11 : wrap64 (y * ls) = y * ls := wrap_id (by omega) (by omega)
    have q12 : wrap64 ((x + z) * c + y * ls) = (x + z) * c + y * ls := wrap_id (by omega) (by omega)
    obtain ⟨M, hM⟩ : ∃ M, M = mn ((x + y + z + w) * c) ((x + y) * ls) := ⟨_, rfl⟩
    have m1 : (x + y) * c ≤ M ∧ M ≤ 40000000 := by
      rw [hM]; unfold mn; split <;> omega
    obtain ⟨E, hE⟩ : ∃ E, E = (x + z) * c + y * ls := ⟨_, rfl⟩
    obtain ⟨F, hF⟩ : ∃ F, F = (x + y) * c := ⟨_, rfl⟩
    have q8 : wrap64 (M - E) = M - E := wrap_id (by omega) (by omega)
    have q9 : wrap64 (M - F) = M - F := wrap_id (by omega) (by omega)
    have r1 := ratioOf_ok (M - E) (M - F) (by omega) (by omega) (by omega)
    have r2 := l21Reduce_ok (M - E) (M - F) (by omega) (by omega) (by omega) (by omega)
    obtain ⟨K, kt, ki, ks, ku, kr, kq, kj⟩ : ∃ K, laws_toIntS.f K [x, y, z, w] = some [x, y, z, w] ∧ impl_areCounts.f K c ls [x, y, z, w] = some (askedB c ls [x, y, z, w]) ∧ spec_l22Asked.f K c ls [x, y, z, w] = some (askedB c ls [x, y, z, w]) ∧ impl_sumOf.f K [x, y, z, w] = some (x + y + z + w) ∧
        impl_ratioOf.f K (M - E) (M - F) = some (ratioV (M - E) (M - F)) ∧ (M - F ≠ 0 → spec_l21Reduce.f K (M - E) (M - F) = some (wrap64 (Int.tdiv (M - E) (Nat.gcd (M - E).natAbs (M - F).natAbs : Nat)), wrap64 (Int.tdiv (M - F) (Nat.gcd (M - E).natAbs (M - F).natAbs : Nat)))) ∧
        laws_FnExactValueOf.j0 K [x, y, z, w] [x, y, z, w] false = some true := by
      refine ⟨(M - E).natAbs + (M - F).natAbs + 20, ht _ (by simp only [List.length_cons, List.length_nil]; omega), hi _ (by omega), hs _ (by omega), hu _ (by simp only [List.length_cons, List.length_nil]; omega), r1 _ (by omega), fun h => r2 h _ (by omega), ?_⟩
      simp only [laws_FnExactValueOf.j0]
      rw [if_neg (by simp), ht _ (by simp only [List.length_cons, List.length_nil]; omega), Option.bind_some, he _ (by simp only [List.length_cons, List.length_nil]; omega), Option.bind_some, if_pos rfl]
    refine ⟨K, ?_⟩
    unfold laws_FnExactValueOf.f
    rw [if_neg hl]
    simp only [laws_toDecision.f, Option.bind_some, kt, spec_ValueOf.f, impl_ValueOf.f, ki, ks, hb, if_true]
    simp only [impl_bestWithout.f, spec_l22Without.f, impl_expenseOf.f, spec_l22Expense.f, impl_perfectExpense.f, impl_fraction.f, ku, Option.bind_some, least_ok]
    simp [rd, q1, q2, q3, q4, q5, q6, q7, q10, q11, q12]
    rw [← hM, ← hE, ← hF]
    simp only [q8, q9, kr]
    by_cases h0 : M = F
    · simp [h0, ratioV, kj]
    · rw [if_neg h0, kq (by omega)]
      simp [ratioV, show M - F ≠ 0 from by omega, kj]
end Go.Proofs.Ytfonkplhmmabfaa.PFnExactValueOf.Pure
