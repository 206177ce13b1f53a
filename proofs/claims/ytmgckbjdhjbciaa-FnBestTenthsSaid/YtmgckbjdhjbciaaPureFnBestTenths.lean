/-
  The pure statement of the law FnBestTenths: what its printed function answers is 'true' for all numbers and lists of its kinds. Conditions: the kinds' own bounds, as the statement lays them.
-/
import Derived.Test.YtmgckbjdhjbciaaXFnBestTenthsx7
import Derived.DataShut
namespace Go.Proofs.Ytmgckbjdhjbciaa.Pure
open Go.RowKit Go.Proofs.Ytmgckbjdhjbciaa.XFnBestTenths Go.Proofs.YtmgckbjdhjbciaaW.PrintWords Go.Proofs.YtmgckbjdhjbciaaW.PrintLast Go.Proofs.YtmgckbjdhjbciaaW.PrintMore
set_option linter.unusedVariables false
set_option linter.unusedSimpArgs false
theorem wrap_id {x : Int} (h0 : -9223372036854775808 ≤ x) (h1 : x ≤ 9223372036854775807) : wrap64 x = x := by unfold wrap64; omega
theorem rd_nat (xs : List Int) (i : Nat) : rd xs (i : Int) = xs.getD i 0 := by simp [rd]
theorem for_loop {σ ρ : Type} (K n : Nat) (L : Nat → σ → Int → Option ρ) (v : ρ) (Inv : Nat → σ → Prop)
    (step : ∀ k i s, K ≤ k → i < n → Inv i s → (∃ s', Inv (i + 1) s' ∧ L (k + 1) s (i : Int) = L k s' ((i : Int) + 1)) ∨ L (k + 1) s (i : Int) = some v)
    (fin : ∀ k s, K ≤ k → Inv n s → L (k + 1) s (n : Int) = some v) :
    ∀ k s, Inv 0 s → n + K < k → L k s 0 = some v := by
  have key : ∀ d k i s, i + d = n → Inv i s → d + K < k → L k s (i : Int) = some v := by
    intro d
    induction d with
    | zero =>
      intro k i s hi h hk
      obtain ⟨k, rfl⟩ : ∃ m, k = m + 1 := ⟨k - 1, by omega⟩
      obtain rfl : i = n := by omega
      exact fin k s (by omega) h
    | succ d ih =>
      intro k i s hi h hk
      obtain ⟨k, rfl⟩ : ∃ m, k = m + 1 := ⟨k - 1, by omega⟩
      rcases step k i s (by omega) (by omega) h with ⟨s', h', e⟩ | e
      · rw [e]
        have := ih k (i + 1) s' (by omega) h' (by omega)
        rw [show ((i + 1 : Nat) : Int) = (i : Int) + 1 from by omega] at this
        exact this
      · exact e
  intro k s h hk
  exact key n k 0 s (by omega) h hk
theorem getD_drop {α : Type} (xs : List α) (z : α) (i : Nat) (h : i < xs.length) : xs.drop i = xs.getD i z :: xs.drop (i + 1) := by
  rw [List.drop_eq_getElem_cons h, List.getD_eq_getElem?_getD, List.getElem?_eq_getElem h]; rfl
theorem all_loop {α : Type} (K : Nat) (xs : List α) (z : α) (p : α → Bool) (L : Nat → Int → Option Bool)
    (step : ∀ k i, K ≤ k → i < xs.length → L (k + 1) (i : Int) = if p (xs.getD i z) = true then L k ((i : Int) + 1) else some false)
    (fin : ∀ k, K ≤ k → L (k + 1) (xs.length : Int) = some true) : ∀ k, xs.length + K < k → L k 0 = some (xs.all p) := by
  intro k hk
  refine for_loop K xs.length (fun k (_ : Unit) i => L k i) (xs.all p) (fun i _ => (xs.drop i).all p = xs.all p) ?_ ?_ k () (by simp) hk
  · intro k i s hK hi h
    rw [getD_drop xs z i hi, List.all_cons] at h
    by_cases hp : p (xs.getD i z) = true
    · refine .inl ⟨(), by rw [hp, Bool.true_and] at h; exact h, ?_⟩
      show L (k + 1) (i : Int) = _
      rw [step k i hK hi, if_pos hp]
    · refine .inr ?_
      show L (k + 1) (i : Int) = _
      rw [step k i hK hi, if_neg hp, ← h, (Bool.eq_false_iff.2 hp : p (xs.getD i z) = false), Bool.false_and]
  · intro k s hK h
    rw [List.drop_of_length_le (Nat.le_refl _)] at h
    show L (k + 1) (xs.length : Int) = _
    rw [fin k hK, ← h]; rfl
theorem fold_loop {α σ ρ : Type} (K : Nat) (xs : List α) (z : α) (g : σ → α → σ) (out : σ → ρ) (I : Nat → σ → Prop) (L : Nat → σ → Int → Option ρ)
    (step : ∀ k i s, K ≤ k → i < xs.length → I i s → I (i + 1) (g s (xs.getD i z)) ∧ L (k + 1) s (i : Int) = L k (g s (xs.getD i z)) ((i : Int) + 1))
    (fin : ∀ k s, K ≤ k → I xs.length s → L (k + 1) s (xs.length : Int) = some (out s)) : ∀ k s, I 0 s → xs.length + K < k → L k s 0 = some (out (xs.foldl g s)) := by
  intro k s h0 hk
  refine for_loop K xs.length L (out (xs.foldl g s)) (fun i s' => I i s' ∧ (xs.drop i).foldl g s' = xs.foldl g s) ?_ ?_ k s ⟨h0, by simp⟩ hk
  · rintro k i s' hK hi ⟨h, e⟩
    rw [getD_drop xs z i hi, List.foldl_cons] at e
    obtain ⟨h1, h2⟩ := step k i s' hK hi h
    exact .inl ⟨_, ⟨h1, e⟩, h2⟩
  · rintro k s' hK ⟨h, e⟩
    rw [List.drop_of_length_le (Nat.le_refl _)] at e
    rw [fin k s' hK h, ← e]; rfl
def Evt (P : Nat → Prop) : Prop := ∃ K, ∀ k, K ≤ k → P k
theorem Evt.all {P : Nat → Prop} (h : ∀ k, P k) : Evt P := ⟨0, fun k _ => h k⟩
theorem Evt.from {P : Nat → Prop} (K : Nat) (h : ∀ k, K ≤ k → P k) : Evt P := ⟨K, h⟩
theorem Evt.and {P Q : Nat → Prop} (h : Evt P) (g : Evt Q) : Evt fun k => P k ∧ Q k := by
  obtain ⟨K, h⟩ := h
  obtain ⟨M, g⟩ := g
  exact ⟨K + M, fun k hk => ⟨h k (by omega), g k (by omega)⟩⟩
theorem Evt.mono {P Q : Nat → Prop} (h : Evt P) (g : ∀ k, P k → Q k) : Evt Q := by
  obtain ⟨K, h⟩ := h
  exact ⟨K, fun k hk => g k (h k hk)⟩
theorem Evt.succ {Q : Nat → Prop} (h : Evt fun k => Q (k + 1)) : Evt Q := by
  obtain ⟨K, h⟩ := h
  refine ⟨K + 1, fun k hk => ?_⟩
  obtain ⟨m, rfl⟩ : ∃ m, k = m + 1 := ⟨k - 1, by omega⟩
  exact h m (by omega)
theorem Evt.add {Q : Nat → Prop} (c : Nat) (h : Evt fun k => Q (k + c)) : Evt Q := by
  obtain ⟨K, h⟩ := h
  refine ⟨K + c, fun k hk => ?_⟩
  obtain ⟨m, rfl⟩ : ∃ m, k = m + c := ⟨k - c, by omega⟩
  exact h m (by omega)
theorem Evt.shift {Q : Nat → Prop} (h : Evt Q) : Evt fun k => Q (k + 1) := by
  obtain ⟨K, h⟩ := h
  exact ⟨K, fun k hk => h _ (by omega)⟩
theorem Evt.at {P : Nat → Prop} (h : Evt P) : ∃ K, ∀ j, P (K + j) := by
  obtain ⟨K, h⟩ := h
  exact ⟨K, fun j => h _ (by omega)⟩
theorem evt_loop {σ ρ : Type} (n : Nat) (L : Nat → σ → Int → Option ρ) (v : ρ) (Inv : Nat → σ → Prop)
    (step : ∀ i s, i < n → Inv i s → (∃ s', Inv (i + 1) s' ∧ ∃ c, Evt fun k => L (k + c) s (i : Int) = L k s' ((i : Int) + 1)) ∨ Evt fun k => L k s (i : Int) = some v)
    (fin : ∀ s, Inv n s → Evt fun k => L k s (n : Int) = some v) :
    ∀ i s, i ≤ n → Inv i s → Evt fun k => L k s (i : Int) = some v := by
  have key : ∀ d i s, i + d = n → Inv i s → Evt fun k => L k s (i : Int) = some v := by
    intro d
    induction d with
    | zero =>
      intro i s hi h
      obtain rfl : i = n := by omega
      exact fin s h
    | succ d ih =>
      intro i s hi h
      rcases step i s (by omega) h with ⟨s', h', c, e⟩ | e
      · have h2 := ih (i + 1) s' (by omega) h'
        rw [show ((i + 1 : Nat) : Int) = (i : Int) + 1 from by omega] at h2
        exact Evt.add c ((e.and h2).mono fun k hk => hk.1.trans hk.2)
      · exact e
  intro i s hi h
  exact key (n - i) i s (by omega) h
theorem evt_loop0 {σ ρ : Type} (n : Nat) (L : Nat → σ → Int → Option ρ) (v : ρ) (Inv : Nat → σ → Prop)
    (step : ∀ i s, i < n → Inv i s → (∃ s', Inv (i + 1) s' ∧ ∃ c, Evt fun k => L (k + c) s (i : Int) = L k s' ((i : Int) + 1)) ∨ Evt fun k => L k s (i : Int) = some v)
    (fin : ∀ s, Inv n s → Evt fun k => L k s (n : Int) = some v) (s : σ) (h0 : Inv 0 s) : Evt fun k => L k s 0 = some v :=
  evt_loop n L v Inv step fin 0 s (Nat.zero_le _) h0
theorem getD_set_self {α : Type} (xs : List α) (z v : α) (i : Nat) (h : i < xs.length) : (xs.set i v).getD i z = v := by
  rw [List.getD_eq_getElem?_getD, List.getElem?_set_self h]; rfl
theorem getD_set_ne {α : Type} (xs : List α) (z v : α) (i j : Nat) (h : i ≠ j) : (xs.set i v).getD j z = xs.getD j z := by
  rw [List.getD_eq_getElem?_getD, List.getElem?_set_ne h, List.getD_eq_getElem?_getD]
theorem evt_loop_ex {σ ρ : Type} (n : Nat) (L : Nat → σ → Int → Option ρ) (R : ρ → Prop) (Inv : Nat → σ → Prop)
    (step : ∀ i s, i < n → Inv i s → (∃ s', Inv (i + 1) s' ∧ ∃ c, Evt fun k => L (k + c) s (i : Int) = L k s' ((i : Int) + 1)) ∨ ∃ v, R v ∧ Evt fun k => L k s (i : Int) = some v)
    (fin : ∀ s, Inv n s → ∃ v, R v ∧ Evt fun k => L k s (n : Int) = some v) (s : σ) (h0 : Inv 0 s) : ∃ v, R v ∧ Evt fun k => L k s 0 = some v := by
  have key : ∀ d i s, i + d = n → Inv i s → ∃ v, R v ∧ Evt fun k => L k s (i : Int) = some v := by
    intro d
    induction d with
    | zero =>
      intro i s hi h
      obtain rfl : i = n := by omega
      exact fin s h
    | succ d ih =>
      intro i s hi h
      rcases step i s (by omega) h with ⟨s', h', c, e⟩ | e
      · obtain ⟨v, hv, h2⟩ := ih (i + 1) s' (by omega) h'
        rw [show ((i + 1 : Nat) : Int) = (i : Int) + 1 from by omega] at h2
        exact ⟨v, hv, Evt.add c ((e.and h2).mono fun k hk => hk.1.trans hk.2)⟩
      · exact e
  exact key n 0 s (by omega) h0
theorem u64_range (x : Int) : 0 ≤ IntKind.u64.wrap x ∧ IntKind.u64.wrap x ≤ 18446744073709551615 := by
  simp [IntKind.wrap, IntKind.signed, IntKind.bits]; omega
theorem and255 (x : Int) : 0 ≤ wrap64 (Go.bits .and .u64 (IntKind.u64.wrap x / 1099511627776) 255) ∧ wrap64 (Go.bits .and .u64 (IntKind.u64.wrap x / 1099511627776) 255) ≤ 255 := by
  obtain ⟨h0, h1⟩ := u64_range x
  obtain ⟨y, hy⟩ : ∃ y, y = IntKind.u64.wrap x / 1099511627776 := ⟨_, rfl⟩
  rw [← hy]
  have h := bits_and_u64_nat y.toNat 255 (by omega) (by omega)
  have e : ((y.toNat : Nat) : Int) = y := by omega
  have h2 : bits BinOp.and IntKind.u64 y 255 = ((y.toNat &&& 255 : Nat) : Int) := by rw [← e]; exact h
  have h3 : y.toNat &&& 255 ≤ 255 := Nat.and_le_right
  rw [show Go.bits .and .u64 y 255 = bits BinOp.and IntKind.u64 y 255 from rfl, h2, wrap_id (by omega) (by omega)]
  omega
theorem next_ok (l : List Int) (hb : ∀ x ∈ l, 0 ≤ x ∧ x ≤ 255) (p s : Int) (h0 : 0 ≤ p) (h1 : p ≤ 4611686018427387904) : ∃ v s', spec_l1Cur_next.f l p s = some (v, p + 1, s') ∧ 0 ≤ v ∧ v ≤ 255 := by
  unfold spec_l1Cur_next.f
  have e : wrap64 (p + 1) = p + 1 := wrap_id (by omega) (by omega)
  by_cases c : p < (l.length : Int)
  · have hm : rd l p ∈ l := by
      have : rd l p = l.getD p.toNat 0 := by simp [rd]
      rw [this, List.getD_eq_getElem?_getD, List.getElem?_eq_getElem (by omega), Option.getD_some]
      exact List.getElem_mem _
    obtain ⟨b0, b1⟩ := hb _ hm
    rw [if_pos c, if_pos h0, e, if_pos (by omega)]
    exact ⟨_, _, rfl, by rw [wrap_id (by omega) (by omega)]; exact ⟨b0, b1⟩⟩
  · rw [if_neg c, e, if_neg (by omega)]
    exact ⟨_, _, rfl, and255 _⟩
theorem tmod_range (x a : Int) (h0 : 0 ≤ x) (ha : 1 ≤ a) : 0 ≤ Int.tmod x a ∧ Int.tmod x a < a := ⟨Int.tmod_nonneg a h0, Int.tmod_lt_of_pos x (by omega)⟩
theorem pick_ok (l : List Int) (hb : ∀ x ∈ l, 0 ≤ x ∧ x ≤ 255) (p s a : Int) (h0 : 0 ≤ p) (h1 : p ≤ 4611686018427387000) (ha : 1 ≤ a) :
    ∃ v p' s', spec_l1Cur_pick.f l p s a = some (v, p', s') ∧ p ≤ p' ∧ p' ≤ p + 2 ∧ 0 ≤ v ∧ v < a := by
  unfold spec_l1Cur_pick.f
  by_cases c : a ≤ 1
  · rw [if_pos c]; exact ⟨0, p, s, rfl, by omega, by omega, by omega, by omega⟩
  · obtain ⟨v, s1, e1, v0, v1⟩ := next_ok l hb p s h0 (by omega)
    rw [if_neg c, e1, Option.bind_some]
    by_cases c2 : a > 200
    · obtain ⟨u, s2, e2, u0, u1⟩ := next_ok l hb (p + 1) s1 (by omega) (by omega)
      rw [if_pos c2]; dsimp only; rw [e2, Option.bind_some, if_neg (by omega)]
      have q : 0 ≤ wrap64 (wrap64 (v * 256) + u) := by rw [wrap_id (x := v * 256) (by omega) (by omega), wrap_id (by omega) (by omega)]; omega
      exact ⟨_, _, _, rfl, by dsimp only; omega, by dsimp only; omega, tmod_range _ a q ha⟩
    · rw [if_neg c2, if_neg (by omega)]
      exact ⟨_, _, _, rfl, by dsimp only; omega, by dsimp only; omega, tmod_range _ a v0 ha⟩
theorem among_ok (l : List Int) (hb : ∀ x ∈ l, 0 ≤ x ∧ x ≤ 255) (p s : Int) (h0 : 0 ≤ p) (h1 : p ≤ 4611686018427387000) (xs : List Int) (hx : 1 ≤ xs.length) :
    ∃ v p' s', spec_l1Cur_among.f l p s xs = some (v, p', s') ∧ p ≤ p' ∧ p' ≤ p + 2 ∧ v ∈ xs := by
  obtain ⟨v, p', s', e, q0, q1, v0, v1⟩ := pick_ok l hb p s (xs.length : Int) h0 h1 (by omega)
  unfold spec_l1Cur_among.f
  rw [e, Option.bind_some, if_pos v0, if_pos v1]
  refine ⟨_, _, _, rfl, q0, q1, ?_⟩
  have : rd xs v = xs.getD v.toNat 0 := by simp [rd]
  dsimp only
  rw [this, List.getD_eq_getElem?_getD, List.getElem?_eq_getElem (by omega), Option.getD_some]
  exact List.getElem_mem _
theorem drawDecision_ok (l : List Int) (hb : ∀ x ∈ l, 0 ≤ x ∧ x ≤ 255) (p s : Int) (h0 : 0 ≤ p) (h1 : p ≤ 4611686018427380000) :
    ∃ c ls p' s', spec_l1Cur_decision.f l p s = some (c, ls, p', s') ∧ p ≤ p' ∧ p' ≤ p + 8 ∧ -10 ≤ c ∧ c ≤ 100 ∧ -10 ≤ ls ∧ ls ≤ 10001 := by
  unfold spec_l1Cur_decision.f
  obtain ⟨c, p1, s1, e1, a1, b1, m1⟩ := among_ok l hb p s h0 (by omega) [1, 10, 20, 50, 99] (by decide)
  obtain ⟨ls, p2, s2, e2, a2, b2, m2⟩ := among_ok l hb p1 s1 (by omega) (by omega) [100, 100, 200, 1000, 10000] (by decide)
  obtain ⟨v, p3, s3, e3, a3, b3, v0, v1⟩ := pick_ok l hb p2 s2 24 (by omega) (by omega) (by omega)
  obtain ⟨c', p4, s4, e4, a4, b4, m4⟩ := among_ok l hb p3 s3 (by omega) (by omega) [0, 100, -5] (by decide)
  obtain ⟨ls', p5, s5, e5, a5, b5, m5⟩ := among_ok l hb p3 s3 (by omega) (by omega) [10001, c] (by simp)
  simp only [List.mem_cons, List.not_mem_nil, or_false] at m1 m2 m4 m5
  rw [e1, Option.bind_some]; dsimp only
  rw [e2, Option.bind_some]; dsimp only
  rw [e3, Option.bind_some]; dsimp only
  by_cases k0 : v = 0
  · rw [if_pos k0, e4, Option.bind_some]; exact ⟨_, _, _, _, rfl, by (try dsimp only); omega, by (try dsimp only); omega, by (try dsimp only); omega, by (try dsimp only); omega, by (try dsimp only); omega, by (try dsimp only); omega⟩
  · rw [if_neg k0]
    by_cases k1 : v = 1
    · rw [if_pos k1, e5, Option.bind_some]; exact ⟨_, _, _, _, rfl, by (try dsimp only); omega, by (try dsimp only); omega, by (try dsimp only); omega, by (try dsimp only); omega, by (try dsimp only); omega, by (try dsimp only); omega⟩
    · rw [if_neg k1]; exact ⟨_, _, _, _, rfl, by (try dsimp only); omega, by (try dsimp only); omega, by (try dsimp only); omega, by (try dsimp only); omega, by (try dsimp only); omega, by (try dsimp only); omega⟩
theorem bytes_of (l : List Int) (h : ∀ x ∈ l, (Lit.int .u8 x).wf = true) : ∀ x ∈ l, 0 ≤ x ∧ x ≤ 255 := by
  intro x hx
  have := h x hx
  simpa [Lit.wf, IntKind.min, IntKind.max, IntKind.signed, IntKind.bits] using this
theorem chances_l1 (l : List Int) (hb : ∀ x ∈ l, 0 ≤ x ∧ x ≤ 255) : ∀ (m : Nat) (xs : List S102) (p s : Int), xs.length + m = 45 → 0 ≤ p → p + 2 * m ≤ 4611686018427380000 →
    ∃ r : List S102 × Int × Int, (r.1.length ≤ 45 ∧ p ≤ r.2.1 ∧ r.2.1 ≤ p + 2 * m + 2) ∧ Evt fun k => spec_l1Cur_chances.l1 k xs l p s = some r := by
  intro m
  induction m with
  | zero =>
    intro xs p s hx h0 h1
    obtain ⟨v, p1, s1, e1, a1, b1, v0, v1⟩ := pick_ok l hb p s 2 h0 (by omega) (by omega)
    refine ⟨(xs, p1, s1), ⟨by dsimp only; omega, by dsimp only; omega, by dsimp only; omega⟩, Evt.succ (Evt.all fun k => ?_)⟩
    simp only [spec_l1Cur_chances.l1]
    rw [e1, Option.bind_some, wrap_id (by omega) (by omega), if_neg (by omega)]
  | succ m ih =>
    intro xs p s hx h0 h1
    obtain ⟨v, p1, s1, e1, a1, b1, v0, v1⟩ := pick_ok l hb p s 2 h0 (by omega) (by omega)
    by_cases c : (xs.length : Int) < 40 + v
    · obtain ⟨r, ⟨r1, r2, r3⟩, ev⟩ := ih (xs ++ [(⟨2, (((xs.length : Int) % 4) == 0)⟩ : S102)]) p1 s1 (by simp; omega) (by omega) (by omega)
      refine ⟨r, ⟨r1, by omega, by omega⟩, Evt.succ (ev.mono fun k hk => ?_)⟩
      simp only [spec_l1Cur_chances.l1]
      rw [e1, Option.bind_some, wrap_id (by omega) (by omega), if_pos c, if_pos (by omega)]; exact hk
    · refine ⟨(xs, p1, s1), ⟨by dsimp only; omega, by dsimp only; omega, by dsimp only; omega⟩, Evt.succ (Evt.all fun k => ?_)⟩
      simp only [spec_l1Cur_chances.l1]
      rw [e1, Option.bind_some, wrap_id (by omega) (by omega), if_neg c]
theorem chances_l2 (l : List Int) (n : Nat) (hn : n ≤ 45) (xs : List S102) (hx : xs.length = n) (p s : Int) :
    ∃ r : List S102 × Int × Int, (r.1.length = n ∧ r.2.1 = p) ∧ Evt fun k => spec_l1Cur_chances.l2 k xs 0 l p s = some r := by
  refine evt_loop_ex n (fun k (q : List S102) i => spec_l1Cur_chances.l2 k q i l p s) _ (fun i q => q.length = n) ?_ ?_ xs hx
  · rintro i q hi hq
    have e : rd_T102 q (i : Int) = q.getD i z102 := by unfold rd_T102; rw [Int.toNat_natCast]
    refine .inl ⟨q.set i (⟨(q.getD i z102).f0, true⟩ : S102), by rw [List.length_set]; exact hq, 1, Evt.all fun k => ?_⟩
    show spec_l1Cur_chances.l2 (k + 1) q (i : Int) l p s = _
    simp only [spec_l1Cur_chances.l2]
    rw [if_pos (by omega), if_pos (by omega), wrap_id (by omega) (by omega), e, Int.toNat_natCast]
  · rintro q hq
    refine ⟨(q, p, s), ⟨hq, rfl⟩, Evt.succ (Evt.all fun k => ?_)⟩
    show spec_l1Cur_chances.l2 (k + 1) q (n : Int) l p s = _
    simp only [spec_l1Cur_chances.l2]
    rw [if_neg (by omega)]
theorem chances_l0 (l : List Int) (hb : ∀ x ∈ l, 0 ≤ x ∧ x ≤ 255) : ∀ (n : Nat) (xs : List S102) (p s : Int), xs.length + n ≤ 12 → 0 ≤ p → p + 4 * n ≤ 4611686018427370000 →
    ∃ r : List S102 × Int × Int, (r.1.length ≤ 45 ∧ p ≤ r.2.1 ∧ r.2.1 ≤ p + 4 * n + 100) ∧ Evt fun k => spec_l1Cur_chances.l0 k xs (n : Int) l p s = some r := by
  intro n
  induction n with
  | zero =>
    intro xs p s hx h0 h1
    obtain ⟨v, p1, s1, e1, a1, b1, v0, v1⟩ := pick_ok l hb p s 40 h0 (by omega) (by omega)
    obtain ⟨u, p2, s2, e2, a2, b2, _⟩ := among_ok l hb p1 s1 (by omega) (by omega) [-1, 11] (by decide)
    obtain ⟨q3, ⟨r1, r2, r3⟩, ev3⟩ := chances_l1 l hb (45 - xs.length) xs p1 s1 (by omega) (by omega) (by omega)
    obtain ⟨q4, ⟨t1, t2⟩, ev4⟩ := chances_l2 l xs.length (by omega) xs rfl p1 s1
    by_cases k0 : v = 0
    · refine ⟨(xs ++ [(⟨u, false⟩ : S102)], p2, s2), ⟨by simp; omega, by dsimp only; omega, by dsimp only; omega⟩, Evt.succ (Evt.all fun k => ?_)⟩
      simp only [spec_l1Cur_chances.l0]
      rw [if_neg (by omega), e1, Option.bind_some, if_pos k0]; dsimp only
      rw [e2, Option.bind_some, if_pos (by omega)]
    · by_cases k1 : v = 1
      · refine ⟨q3, ⟨r1, by omega, by omega⟩, Evt.succ (ev3.mono fun k hk => ?_)⟩
        simp only [spec_l1Cur_chances.l0]
        rw [if_neg (by omega), e1, Option.bind_some, if_neg k0, if_pos k1]; exact hk
      · by_cases k2 : v = 2
        · refine ⟨q4, ⟨by omega, by omega, by omega⟩, Evt.succ (ev4.mono fun k hk => ?_)⟩
          simp only [spec_l1Cur_chances.l0]
          rw [if_neg (by omega), e1, Option.bind_some, if_neg k0, if_neg k1, if_pos k2]; exact hk
        · refine ⟨(xs, p1, s1), ⟨by dsimp only; omega, by dsimp only; omega, by dsimp only; omega⟩, Evt.succ (Evt.all fun k => ?_)⟩
          simp only [spec_l1Cur_chances.l0]
          rw [if_neg (by omega), e1, Option.bind_some, if_neg k0, if_neg k1, if_neg k2]
  | succ n ih =>
    intro xs p s hx h0 h1
    obtain ⟨u, p2, s2, e2, a2, b2, _⟩ := among_ok l hb p s h0 (by omega) [0, 1, 3, 5, 5, 8, 10] (by decide)
    obtain ⟨v, p1, s1, e1, a1, b1, v0, v1⟩ := pick_ok l hb p2 s2 10 (by omega) (by omega) (by omega)
    obtain ⟨r, ⟨r1, r2, r3⟩, ev⟩ := ih (xs ++ [(⟨u, decide (v < u)⟩ : S102)]) p1 s1 (by simp; omega) (by omega) (by omega)
    refine ⟨r, ⟨r1, by omega, by omega⟩, Evt.succ (ev.mono fun k hk => ?_)⟩
    simp only [spec_l1Cur_chances.l0]
    rw [if_pos (by omega), e2, Option.bind_some]; dsimp only
    rw [e1, Option.bind_some, if_pos (by omega), wrap_id (by omega) (by omega), show (((n + 1 : Nat) : Int) - 1) = (n : Int) from by omega]; exact hk
theorem chances_draw (l : List Int) (hb : ∀ x ∈ l, 0 ≤ x ∧ x ≤ 255) (p s : Int) (h0 : 0 ≤ p) (h1 : p ≤ 4611686018427360000) :
    ∃ r : List S102 × Int × Int, (r.1.length ≤ 45 ∧ p ≤ r.2.1 ∧ r.2.1 ≤ p + 200) ∧ Evt fun k => spec_l1Cur_chances.f k l p s = some r := by
  obtain ⟨v, p1, s1, e1, a1, b1, v0, v1⟩ := pick_ok l hb p s 10 h0 (by omega) (by omega)
  obtain ⟨r, ⟨r1, r2, r3⟩, ev⟩ := chances_l0 l hb v.toNat [] p1 s1 (by simp; omega) (by omega) (by omega)
  refine ⟨r, ⟨r1, by omega, by omega⟩, ev.mono fun k hk => ?_⟩
  unfold spec_l1Cur_chances.f
  rw [e1, Option.bind_some]
  rw [show ((v.toNat : Nat) : Int) = v from by omega] at hk
  exact hk
theorem DrawBestTenths_ev (l : List Int) (hb : ∀ x ∈ l, 0 ≤ x ∧ x ≤ 255) : ∃ (c ls : Int) (cs : List S102), List.length cs ≤ 45 ∧ Evt fun k => spec_DrawBestTenths.f k l = some (c, ls, cs) := by
  obtain ⟨c, ls, p, s, e, a, b, _⟩ := drawDecision_ok l hb 0 0 (by omega) (by omega)
  obtain ⟨r, ⟨hr, _⟩, ev⟩ := chances_draw l hb p s (by omega) (by omega)
  refine ⟨c, ls, r.1, hr, ev.mono fun k hk => ?_⟩
  unfold spec_DrawBestTenths.f
  rw [e, Option.bind_some]; dsimp only
  rw [hk, Option.bind_some]
theorem rInts_self (l : List Int) (hl : l.length ≤ 4503599627370496) : Evt fun k => laws_rInts.f k l l = some true := by
  refine Evt.mono (P := fun k => laws_rInts.l0 k l l 0 = some true) ?_ (fun k hk => by unfold laws_rInts.f; rw [if_pos rfl]; exact hk)
  refine evt_loop0 l.length (fun k (_ : Unit) i => laws_rInts.l0 k l l i) true (fun _ _ => True) ?_ ?_ () trivial
  · rintro i s hi _
    refine .inl ⟨(), trivial, 1, Evt.all fun k => ?_⟩
    show laws_rInts.l0 (k + 1) l l (i : Int) = _
    simp only [laws_rInts.l0]
    rw [if_pos (by omega), if_pos (by omega), if_pos (by omega), wrap_id (by omega) (by omega)]; simp
  · rintro s _
    refine Evt.succ (Evt.all fun k => ?_)
    show laws_rInts.l0 (k + 1) l l (l.length : Int) = _
    simp only [laws_rInts.l0]
    rw [if_neg (by omega)]
theorem within_ok (a b c : Int) : impl_within.f a b c = some (decide (b ≤ a ∧ a ≤ c)) := by
  unfold impl_within.f
  split <;> simp <;> omega
theorem l1In_ok (a b c : Int) : spec_l1In.f a b c = some (decide (b ≤ a ∧ a ≤ c)) := by
  unfold spec_l1In.f
  split <;> simp <;> omega
theorem allWithin_ok (l : List Int) (lo hi : Int) (hl : l.length ≤ 4503599627370496) : ∀ k, l.length < k → impl_allWithin.f k l lo hi = some (l.all fun x => decide (lo ≤ x ∧ x ≤ hi)) := by
  intro k hk
  unfold impl_allWithin.f
  refine all_loop 0 l 0 _ (fun k i => impl_allWithin.l0 k lo hi l (l.length : Int) i) ?_ ?_ k (by omega)
  · intro k i _ hi
    show impl_allWithin.l0 (k + 1) lo _ l (l.length : Int) (i : Int) = _
    simp only [impl_allWithin.l0]
    rw [if_pos (by omega), if_pos (by omega), if_pos (by omega), within_ok, Option.bind_some, wrap_id (by omega) (by omega), rd_nat]
  · intro k _
    show impl_allWithin.l0 (k + 1) lo hi l (l.length : Int) (l.length : Int) = _
    simp only [impl_allWithin.l0]
    rw [if_neg (by omega)]
theorem sumOf_ok (l : List Int) (hl : l.length ≤ 4503599627370496) : ∀ k, l.length < k → impl_sumOf.f k l = some (l.foldl (fun s x => wrap64 (s + x)) 0) := by
  intro k hk
  unfold impl_sumOf.f
  refine fold_loop 0 l 0 (fun s x => wrap64 (s + x)) id (fun _ _ => True) (fun k s i => impl_sumOf.l0 k s l (l.length : Int) i) ?_ ?_ k 0 trivial (by omega)
  · intro k i s _ hi _
    refine ⟨trivial, ?_⟩
    show impl_sumOf.l0 (k + 1) s l (l.length : Int) (i : Int) = _
    simp only [impl_sumOf.l0]
    rw [if_pos (by omega), if_pos (by omega), if_pos (by omega), wrap_id (x := (i : Int) + 1) (by omega) (by omega), rd_nat]
  · intro k s _ _
    show impl_sumOf.l0 (k + 1) s l (l.length : Int) (l.length : Int) = _
    simp only [impl_sumOf.l0]
    rw [if_neg (by omega)]; rfl
theorem isDecision_ok (c ls : Int) : impl_isDecision.f c ls = some (decide (1 ≤ c ∧ c < ls ∧ ls ≤ 10000)) := by
  unfold impl_isDecision.f
  split
  · split
    · exact congrArg some (decide_eq_decide.2 (by omega))
    · rw [decide_eq_false (by omega)]
  · rw [decide_eq_false (by omega)]
theorem l22Decision_ok (c ls : Int) : spec_l22Decision.f c ls = some (decide (1 ≤ c ∧ c < ls ∧ ls ≤ 10000)) := by
  unfold spec_l22Decision.f
  split
  · split
    · exact congrArg some (decide_eq_decide.2 (by omega))
    · rw [decide_eq_false (by omega)]
  · rw [decide_eq_false (by omega)]
def askedB (c ls : Int) (l : List Int) : Bool := decide (1 ≤ c ∧ c < ls ∧ ls ≤ 10000) && decide (l.length = 4) && (l.all fun x => decide (0 ≤ x ∧ x ≤ 1000)) && decide (0 < l.foldl (fun s x => wrap64 (s + x)) 0)
theorem areCounts_ok (c ls : Int) (l : List Int) : ∀ k, 5 ≤ k → impl_areCounts.f k c ls l = some (askedB c ls l) := by
  intro k hk
  unfold impl_areCounts.f askedB
  rw [isDecision_ok, Option.bind_some]
  by_cases hD : 1 ≤ c ∧ c < ls ∧ ls ≤ 10000
  · rw [decide_eq_true hD, if_pos rfl]
    by_cases hl : l.length = 4
    · rw [if_pos (by omega), allWithin_ok l 0 1000 (by omega) k (by omega), Option.bind_some, sumOf_ok l (by omega) k (by omega), Option.bind_some, decide_eq_true hl]
      cases hA : l.all fun x => decide (0 ≤ x ∧ x ≤ 1000) <;> simp [hA]
    · rw [if_neg (by omega), decide_eq_false hl]; simp
  · rw [decide_eq_false hD]; simp
theorem evt_fold {α σ ρ : Type} (xs : List α) (z : α) (g : σ → α → σ) (out : σ → ρ) (I : Nat → σ → Prop) (L : Nat → σ → Int → Option ρ)
    (step : ∀ k i s, i < xs.length → I i s → I (i + 1) (g s (xs.getD i z)) ∧ L (k + 1) s (i : Int) = L k (g s (xs.getD i z)) ((i : Int) + 1))
    (fin : ∀ k s, I xs.length s → L (k + 1) s (xs.length : Int) = some (out s)) (s : σ) (h0 : I 0 s) : (Evt fun k => L k s 0 = some (out (xs.foldl g s))) ∧ I xs.length (xs.foldl g s) := by
  have key : ∀ d i s, i + d = xs.length → I i s → (Evt fun k => L k s (i : Int) = some (out ((xs.drop i).foldl g s))) ∧ I xs.length ((xs.drop i).foldl g s) := by
    intro d
    induction d with
    | zero =>
      intro i s hi h
      obtain rfl : i = xs.length := by omega
      rw [List.drop_of_length_le (Nat.le_refl _)]
      exact ⟨Evt.succ (Evt.all fun k => fin k s h), h⟩
    | succ d ih =>
      intro i s hi h
      have hlt : i < xs.length := by omega
      rw [getD_drop xs z i hlt, List.foldl_cons]
      have h1 := fun k => step k i s hlt h
      obtain ⟨h2, h3⟩ := ih (i + 1) _ (by omega) (h1 0).1
      rw [show ((i + 1 : Nat) : Int) = (i : Int) + 1 from by omega] at h2
      exact ⟨Evt.succ (h2.mono fun k hk => (h1 k).2.trans hk), h3⟩
  exact key xs.length 0 s (by omega) h0
def chOk (c : S102) : Bool := decide (0 ≤ c.f0 ∧ c.f0 ≤ 10)
def chancesB (l : List S102) : Bool := l.all chOk && decide (l.length ≤ 40)
theorem chancesB_len {l : List S102} (h : chancesB l = true) : l.length ≤ 40 := by
  unfold chancesB at h
  simp only [Bool.and_eq_true, decide_eq_true_eq] at h
  exact h.2
theorem rd_ch (l : List S102) (i : Nat) : rd_T102 l (i : Int) = l.getD i z102 := by unfold rd_T102; rw [Int.toNat_natCast]
theorem IndexFunc_ev (l : List S102) (hl : l.length ≤ 4503599627370496) : ∃ r, decide (r ≥ (0 : Int)) = !(l.all chOk) ∧ Evt fun k => slices_IndexFunc_Chance.f k l = some r := by
  unfold slices_IndexFunc_Chance.f
  refine evt_loop_ex l.length (fun k (_ : Unit) i => slices_IndexFunc_Chance.l0 k l (l.length : Int) i) _ (fun i _ => (l.drop i).all chOk = l.all chOk) ?_ ?_ () rfl
  · intro i s hi h
    rw [getD_drop l z102 i hi, List.all_cons] at h
    by_cases hp : 0 ≤ (l.getD i z102).f0 ∧ (l.getD i z102).f0 ≤ 10
    · refine .inl ⟨(), by rw [← h, chOk, decide_eq_true hp, Bool.true_and], 1, Evt.all fun k => ?_⟩
      show slices_IndexFunc_Chance.l0 (k + 1) l (l.length : Int) (i : Int) = _
      simp only [slices_IndexFunc_Chance.l0, impl_IsValidChances_1.f, within_ok, Option.bind_some, rd_ch, decide_eq_true hp, Bool.not_true]
      rw [if_pos (by omega), if_pos (by omega), if_pos (by omega), if_neg (by simp), wrap_id (by omega) (by omega)]
    · refine .inr ⟨(i : Int), ?_, Evt.succ (Evt.all fun k => ?_)⟩
      · rw [← h, chOk, decide_eq_false hp, Bool.false_and]; simp
      · show slices_IndexFunc_Chance.l0 (k + 1) l (l.length : Int) (i : Int) = _
        simp only [slices_IndexFunc_Chance.l0, impl_IsValidChances_1.f, within_ok, Option.bind_some, rd_ch, decide_eq_false hp, Bool.not_false]
        rw [if_pos (by omega), if_pos (by omega), if_pos (by omega), if_pos trivial]
  · intro s h
    rw [List.drop_of_length_le (Nat.le_refl _)] at h
    refine ⟨-1, by rw [← h]; simp, Evt.succ (Evt.all fun k => ?_)⟩
    show slices_IndexFunc_Chance.l0 (k + 1) l (l.length : Int) (l.length : Int) = _
    simp only [slices_IndexFunc_Chance.l0]
    rw [if_neg (by omega)]
theorem IsValidChances_ev (l : List S102) (hl : l.length ≤ 4503599627370496) : Evt fun k => impl_IsValidChances.f k l = some (chancesB l) := by
  obtain ⟨r, hr, e⟩ := IndexFunc_ev l hl
  refine e.mono fun k hk => ?_
  simp only [impl_IsValidChances.f, slices_ContainsFunc_Chance.f, hk, Option.bind_some, hr, Bool.not_not, chancesB]
  by_cases h : l.length ≤ 40
  · rw [if_pos (by omega), decide_eq_true h, Bool.and_true]
  · rw [if_neg (by omega), decide_eq_false h, Bool.and_false]
theorem l21Good_ev (l : List S102) (hl : l.length ≤ 4503599627370496) : Evt fun k => spec_l21Good.f k l = some (chancesB l) := by
  unfold spec_l21Good.f
  refine evt_loop0 l.length (fun k (_ : Unit) i => spec_l21Good.l0 k l i) (chancesB l) (fun i _ => (l.drop i).all chOk = l.all chOk) ?_ ?_ () rfl
  · intro i s hi h
    rw [getD_drop l z102 i hi, List.all_cons] at h
    by_cases hp : 0 ≤ (l.getD i z102).f0 ∧ (l.getD i z102).f0 ≤ 10
    · refine .inl ⟨(), by rw [← h, chOk, decide_eq_true hp, Bool.true_and], 1, Evt.all fun k => ?_⟩
      show spec_l21Good.l0 (k + 1) l (i : Int) = _
      simp only [spec_l21Good.l0, l1In_ok, Option.bind_some, rd_ch, decide_eq_true hp, if_true]
      rw [if_pos (by omega), if_pos (by omega), wrap_id (by omega) (by omega)]
    · refine .inr (Evt.succ (Evt.all fun k => ?_))
      show spec_l21Good.l0 (k + 1) l (i : Int) = _
      simp only [spec_l21Good.l0, l1In_ok, Option.bind_some, rd_ch, decide_eq_false hp]
      rw [if_pos (by omega), if_pos (by omega), if_neg (by simp), chancesB, ← h, chOk, decide_eq_false hp, Bool.false_and, Bool.false_and]
  · intro s h
    rw [List.drop_of_length_le (Nat.le_refl _)] at h
    refine Evt.succ (Evt.all fun k => ?_)
    show spec_l21Good.l0 (k + 1) l (l.length : Int) = _
    simp only [spec_l21Good.l0]
    rw [if_neg (by omega), chancesB, ← h, List.all_nil, Bool.true_and]
    exact congrArg some (decide_eq_decide.2 (by omega))
def decJ (t : Int) (c : S102) : Nat := (if c.f1 = true then 0 else 2) + (if c.f0 < t then 1 else 0)
def stepD (t : Int) (acc : List Int) (c : S102) : List Int := acc.set (decJ t c) (acc.getD (decJ t c) 0 + 1)
def decideV (l : List S102) (t : Int) : List Int := l.foldl (stepD t) (List.replicate 4 0)
def decI (i : Nat) (s : List Int) : Prop := s.length = 4 ∧ ∀ j, 0 ≤ s.getD j 0 ∧ s.getD j 0 ≤ (i : Int)
theorem decI_step (t : Int) (c : S102) {i : Nat} {s : List Int} (h : decI i s) : decI (i + 1) (stepD t s c) := by
  refine ⟨by simp [stepD, h.1], fun j => ?_⟩
  unfold stepD
  have hj4 : decJ t c < 4 := by unfold decJ; split <;> split <;> omega
  by_cases e : decJ t c = j
  · have := h.2 j
    rw [e, getD_set_self _ _ _ _ (by rw [h.1]; omega)]; omega
  · have := h.2 j
    rw [getD_set_ne _ _ _ _ _ e]; omega
theorem decI_zero : decI 0 (List.replicate 4 0) := ⟨by simp, fun j => by rcases j with _ | _ | _ | _ | j <;> simp [List.replicate]⟩
theorem decideAt_ev (l : List S102) (t : Int) (hl : l.length ≤ 1000000000) : (Evt fun k => impl_decideAt.f k l t = some (decideV l t)) ∧ decI l.length (decideV l t) := by
  unfold impl_decideAt.f decideV
  simp only [if_pos (show (4 : Nat) ≤ 35184372088832 by omega)]
  refine evt_fold l z102 (stepD t) id decI (fun k s i => impl_decideAt.l0 k t s l (l.length : Int) i) ?_ ?_ _ decI_zero
  · rintro k i s hi h
    refine ⟨decI_step t _ h, ?_⟩
    have h4 := h.1
    have b0 := h.2 0
    have b1 := h.2 1
    have b2 := h.2 2
    have b3 := h.2 3
    simp only [impl_decideAt.l0, rd_ch]
    rw [if_pos (by omega), if_pos (by omega), if_pos (by omega), wrap_id (x := (i : Int) + 1) (by omega) (by omega)]
    have e0 : rd s 0 = s.getD 0 0 := rfl
    have e1 : rd s (0 + 1) = s.getD 1 0 := rfl
    have e2 : rd s 2 = s.getD 2 0 := rfl
    have e3 : rd s (2 + 1) = s.getD 3 0 := rfl
    rw [e0, e1, e2, e3, wrap_id (x := s.getD 0 0 + 1) (by omega) (by omega), wrap_id (x := s.getD 1 0 + 1) (by omega) (by omega), wrap_id (x := s.getD 2 0 + 1) (by omega) (by omega), wrap_id (x := s.getD 3 0 + 1) (by omega) (by omega)]
    unfold stepD decJ
    by_cases hf : (l.getD i z102).f1 = true
    · rw [if_pos hf, if_pos hf]
      by_cases ht : (l.getD i z102).f0 < t
      · rw [if_pos ht, if_pos ht, if_pos (by omega), if_pos (by omega)]; rfl
      · rw [if_neg ht, if_neg ht, if_pos (by omega)]; rfl
    · rw [if_neg hf, if_neg hf]
      by_cases ht : (l.getD i z102).f0 < t
      · rw [if_pos ht, if_pos ht, if_pos (by omega), if_pos (by omega)]; rfl
      · rw [if_neg ht, if_neg ht, if_pos (by omega)]; rfl
  · rintro k s h
    simp only [impl_decideAt.l0]
    rw [if_neg (by omega)]; rfl
theorem specDecide_loop (l : List S102) (t : Int) (hl : l.length ≤ 1000000000) : Evt fun k => spec_DecideAt.l0 k l t (List.replicate 4 0) 0 = some (decideV l t, true) := by
  refine evt_loop0 l.length (fun k s i => spec_DecideAt.l0 k l t s i) (decideV l t, true) (fun i s => decI i s ∧ (l.drop i).foldl (stepD t) s = decideV l t) ?_ ?_ _ ⟨decI_zero, rfl⟩
  · rintro i s hi ⟨h, h2⟩
    rw [getD_drop l z102 i hi, List.foldl_cons] at h2
    have h4 := h.1
    have b0 := h.2 0
    have b1 := h.2 1
    have b2 := h.2 2
    have b3 := h.2 3
    have g1 : (i : Int) < (l.length : Int) := by omega
    have g2 : 0 ≤ (i : Int) := by omega
    have e0 : rd s 0 = s.getD 0 0 := rfl
    have e1 : rd s 1 = s.getD 1 0 := rfl
    have e2 : rd s 2 = s.getD 2 0 := rfl
    have e3 : rd s 3 = s.getD 3 0 := rfl
    have w0 : wrap64 (s.getD 0 0 + 1) = s.getD 0 0 + 1 := wrap_id (by omega) (by omega)
    have w1 : wrap64 (s.getD 1 0 + 1) = s.getD 1 0 + 1 := wrap_id (by omega) (by omega)
    have w2 : wrap64 (s.getD 2 0 + 1) = s.getD 2 0 + 1 := wrap_id (by omega) (by omega)
    have w3 : wrap64 (s.getD 3 0 + 1) = s.getD 3 0 + 1 := wrap_id (by omega) (by omega)
    have wi : wrap64 ((i : Int) + 1) = (i : Int) + 1 := wrap_id (by omega) (by omega)
    have l0 : (0 : Int) < (s.length : Int) := by omega
    have l1 : (1 : Int) < (s.length : Int) := by omega
    have l2 : (2 : Int) < (s.length : Int) := by omega
    have l3 : (3 : Int) < (s.length : Int) := by omega
    by_cases hf : (l.getD i z102).f1 = true
    · by_cases ht : (l.getD i z102).f0 < t
      · refine .inl ⟨_, ⟨decI_step t _ h, h2⟩, 2, Evt.all fun k => ?_⟩
        show spec_DecideAt.l0 (k + 1 + 1) l t s (i : Int) = _
        rw [spec_DecideAt.l0]
        simp only [rd_ch, if_pos g1, if_pos g2, stepD, decJ, if_pos hf, decide_eq_true ht, if_pos ht]
        rw [spec_DecideAt.j2]
        simp only [if_true, if_pos l1, e1, w1, wi]
        rfl
      · refine .inl ⟨_, ⟨decI_step t _ h, h2⟩, 3, Evt.all fun k => ?_⟩
        show spec_DecideAt.l0 (k + 2 + 1) l t s (i : Int) = _
        rw [spec_DecideAt.l0]
        simp only [rd_ch, if_pos g1, if_pos g2, stepD, decJ, if_pos hf, decide_eq_false ht, if_neg ht]
        rw [spec_DecideAt.j2]
        simp only [rd_ch, if_pos g1, if_pos g2, if_pos hf]
        rw [if_neg (by simp), spec_DecideAt.j3]
        simp only [rd_ch, if_pos g1, if_pos g2, if_pos hf, if_pos l0, e0, w0, wi]
        rw [if_neg (by simp), if_pos (by omega)]
        rfl
    · refine .inl ⟨_, ⟨decI_step t _ h, h2⟩, 3, Evt.all fun k => ?_⟩
      show spec_DecideAt.l0 (k + 2 + 1) l t s (i : Int) = _
      rw [spec_DecideAt.l0]
      simp only [rd_ch, if_pos g1, if_pos g2, stepD, decJ, if_neg hf]
      rw [spec_DecideAt.j2]
      simp only [rd_ch, if_pos g1, if_pos g2, if_neg hf]
      rw [if_neg (by simp), spec_DecideAt.j3]
      by_cases ht : (l.getD i z102).f0 < t
      · simp only [rd_ch, if_pos g1, if_pos g2, if_neg hf, if_pos ht, if_pos l3, e3, w3, wi]
        rw [if_neg (by simpa using ht)]
        rfl
      · simp only [if_neg ht, if_pos l2, e2, w2, wi]
        rw [if_pos (decide_eq_true (by omega))]
        rfl
  · rintro s ⟨h, h2⟩
    rw [List.drop_of_length_le (Nat.le_refl _)] at h2
    refine Evt.succ (Evt.all fun k => ?_)
    show spec_DecideAt.l0 (k + 1) l t s (l.length : Int) = _
    simp only [spec_DecideAt.l0]
    rw [if_neg (by omega), ← h2]; rfl
theorem specDecideAt_ev (l : List S102) (t : Int) (hc : chancesB l = true) (ht : 0 ≤ t ∧ t ≤ 11) : Evt fun k => spec_DecideAt.f k l t = some (decideV l t, true) := by
  have hlen := chancesB_len hc
  refine Evt.succ (((Evt.shift (l21Good_ev l (by omega))).and (specDecide_loop l t (by omega))).mono ?_)
  rintro k ⟨h1, h2⟩
  simp only [spec_DecideAt.f, spec_DecideAt.j0, h1, hc, Option.bind_some, if_true, l1In_ok, decide_eq_true ht, Bool.not_true]
  rw [if_neg (by simp), if_pos (by omega)]
  exact h2
def expV (c ls : Int) (l : List Int) : Int := wrap64 ((wrap64 ((wrap64 ((rd l 0) + (rd l 2))) * c)) + (wrap64 ((rd l 1) * ls)))
theorem expenseOf_ok (c ls : Int) (l : List Int) (h : l.length = 4) : impl_expenseOf.f c ls l = some (expV c ls l) := by
  unfold impl_expenseOf.f
  rw [if_pos (by omega), if_pos (by omega), if_pos (by omega)]; rfl
theorem l22Expense_ok (c ls : Int) (l : List Int) (h : l.length = 4) : spec_l22Expense.f c ls l = some (expV c ls l) := by
  unfold spec_l22Expense.f
  rw [if_pos (by omega), if_pos (by omega), if_pos (by omega)]; rfl
def expTo (l : List S102) (c ls : Int) : Nat → List Int
  | 0 => []
  | n + 1 => expTo l c ls n ++ [expV c ls (decideV l (n : Int))]
theorem expTo_len (l : List S102) (c ls : Int) : ∀ n, (expTo l c ls n).length = n
  | 0 => rfl
  | n + 1 => by simp only [expTo, List.length_append, List.length_singleton, expTo_len l c ls n]
theorem expImpl_loop (l : List S102) (c ls : Int) (hl : l.length ≤ 1000000000) (n : Nat) (hn : n = 12) : Evt fun k => impl_ExpenseTable.l0 k l [] 0 c ls = some (expTo l c ls n, true) := by
  refine evt_loop0 n (fun k s i => impl_ExpenseTable.l0 k l s i c ls) (expTo l c ls n, true) (fun i s => s = expTo l c ls i) ?_ ?_ [] rfl
  · rintro i s hi rfl
    obtain ⟨e1, e2⟩ := decideAt_ev l (i : Int) hl
    have hx := expTo_len l c ls i
    refine .inl ⟨_, rfl, 1, e1.mono fun k hk => ?_⟩
    show impl_ExpenseTable.l0 (k + 1) l (expTo l c ls i) (i : Int) c ls = _
    simp only [impl_ExpenseTable.l0, hk, Option.bind_some, expenseOf_ok c ls _ e2.1]
    rw [if_pos (by omega), if_pos (by omega), wrap_id (by omega) (by omega)]; rfl
  · rintro s rfl
    refine Evt.succ (Evt.all fun k => ?_)
    show impl_ExpenseTable.l0 (k + 1) l (expTo l c ls n) (n : Int) c ls = _
    simp only [impl_ExpenseTable.l0]
    rw [if_neg (by omega)]
theorem expSpec_loop (l : List S102) (c ls : Int) (hc : chancesB l = true) (n : Nat) (hn : n = 12) : Evt fun k => spec_l22Table.l0 k l [] 0 c ls = some (expTo l c ls n, true) := by
  have hlen := chancesB_len hc
  refine evt_loop0 n (fun k s i => spec_l22Table.l0 k l s i c ls) (expTo l c ls n, true) (fun i s => s = expTo l c ls i) ?_ ?_ [] rfl
  · rintro i s hi rfl
    obtain ⟨_, e2⟩ := decideAt_ev l (i : Int) (by omega)
    have e1 := specDecideAt_ev l (i : Int) hc (by omega)
    have hx := expTo_len l c ls i
    refine .inl ⟨_, rfl, 1, e1.mono fun k hk => ?_⟩
    show spec_l22Table.l0 (k + 1) l (expTo l c ls i) (i : Int) c ls = _
    simp only [spec_l22Table.l0, hk, Option.bind_some, l22Expense_ok c ls _ e2.1]
    rw [if_pos (by omega), if_pos (by omega), wrap_id (by omega) (by omega)]; rfl
  · rintro s rfl
    refine Evt.succ (Evt.all fun k => ?_)
    show spec_l22Table.l0 (k + 1) l (expTo l c ls n) (n : Int) c ls = _
    simp only [spec_l22Table.l0]
    rw [if_neg (by omega)]
def tableB (c ls : Int) (l : List S102) : Bool := decide (1 ≤ c ∧ c < ls ∧ ls ≤ 10000) && chancesB l && decide (l.length ≠ 0)
def tableV (c ls : Int) (l : List S102) (n : Nat) : List Int × Bool := if tableB c ls l = true then (expTo l c ls n, true) else ([], false)
theorem ExpenseTable_ev (c ls : Int) (l : List S102) (hl : l.length ≤ 1048576) (n : Nat) (hn : n = 12) : Evt fun k => impl_ExpenseTable.f k c ls l = some (tableV c ls l n) := by
  refine Evt.succ (((Evt.shift (IsValidChances_ev l (by omega))).and (expImpl_loop l c ls (by omega) n hn)).mono ?_)
  rintro k ⟨h1, h2⟩
  simp only [impl_ExpenseTable.f, impl_ExpenseTable.j0, isDecision_ok, Option.bind_some, h1, h2]
  unfold tableV tableB
  by_cases hD : 1 ≤ c ∧ c < ls ∧ ls ≤ 10000
  · simp only [decide_eq_true hD, if_true, Bool.true_and]
    cases hc : chancesB l with
    | false => simp
    | true =>
      simp only [if_true, Bool.true_and]
      by_cases h0 : l.length = 0
      · rw [if_pos (by rw [beq_iff_eq]; omega), if_neg (by simp [h0])]
      · rw [if_neg (by rw [beq_iff_eq]; omega), if_pos (by simpa using h0)]
  · simp only [decide_eq_false hD, if_true, Bool.false_and]
    simp
theorem l22Table_ev (c ls : Int) (l : List S102) (hl : l.length ≤ 1048576) (n : Nat) (hn : n = 12) : Evt fun k => spec_l22Table.f k c ls l = some (tableV c ls l n) := by
  cases hc : chancesB l with
  | false =>
    refine Evt.succ ((Evt.shift (l21Good_ev l (by omega))).mono fun k h1 => ?_)
    simp only [spec_l22Table.f, spec_l22Table.j0, l22Decision_ok, Option.bind_some, h1, hc]
    unfold tableV tableB
    rw [hc]
    simp
  | true =>
    refine Evt.succ (((Evt.shift (l21Good_ev l (by omega))).and (expSpec_loop l c ls hc n hn)).mono ?_)
    rintro k ⟨h1, h2⟩
    simp only [spec_l22Table.f, spec_l22Table.j0, l22Decision_ok, Option.bind_some, h1, h2, hc]
    unfold tableV tableB
    rw [hc]
    by_cases hD : 1 ≤ c ∧ c < ls ∧ ls ≤ 10000
    · simp only [decide_eq_true hD, if_true, Bool.true_and]
      by_cases h0 : l.length = 0
      · rw [if_pos (by rw [beq_iff_eq]; omega), if_neg (by simp [h0])]
      · rw [if_neg (by rw [beq_iff_eq]; omega), if_pos (by simpa using h0)]
    · simp only [decide_eq_false hD, if_true, Bool.false_and]
      simp
def bestTo (tb : List Int) : Nat → Nat
  | 0 => 0
  | n + 1 => if tb.getD (n + 1) 0 ≤ tb.getD (bestTo tb n) 0 then n + 1 else bestTo tb n
theorem bestTo_le (tb : List Int) : ∀ n, bestTo tb n ≤ n
  | 0 => Nat.le_refl _
  | n + 1 => by have := bestTo_le tb n; unfold bestTo; split <;> omega
def bestV (tb : List Int) (n : Nat) : Int × Int × Bool := ((bestTo tb (n - 1) : Int), tb.getD (bestTo tb (n - 1)) 0, true)
theorem bestImpl_loop (tb : List Int) (n : Nat) (hn : n = 12) (ht : tb.length = n) : Evt fun k => impl_BestTenths.l0 k tb 0 tb (tb.length : Int) 0 = some (bestV tb n) := by
  refine evt_loop0 n (fun k (s : Int) i => impl_BestTenths.l0 k tb s tb (tb.length : Int) i) (bestV tb n) (fun i s => s = (bestTo tb (i - 1) : Int)) ?_ ?_ 0 rfl
  · rintro i s hi rfl
    have hb := bestTo_le tb (i - 1)
    refine .inl ⟨_, rfl, 1, Evt.all fun k => ?_⟩
    show impl_BestTenths.l0 (k + 1) tb (bestTo tb (i - 1) : Int) tb (tb.length : Int) (i : Int) = _
    simp only [impl_BestTenths.l0, rd_nat]
    rw [if_pos (by omega), if_pos (by omega), if_pos (by omega), if_pos (by omega), if_pos (by omega), wrap_id (by omega) (by omega)]
    rcases i with _ | i
    · have e1 : bestTo tb (0 - 1) = 0 := rfl
      rw [e1, if_pos (Int.le_refl _)]
    · simp only [Nat.add_sub_cancel, bestTo]
      by_cases h : tb.getD (i + 1) 0 ≤ tb.getD (bestTo tb i) 0
      · rw [if_pos h, if_pos h]
      · rw [if_neg h, if_neg h]
  · rintro s rfl
    have hb := bestTo_le tb (n - 1)
    refine Evt.succ (Evt.all fun k => ?_)
    show impl_BestTenths.l0 (k + 1) tb (bestTo tb (n - 1) : Int) tb (tb.length : Int) (n : Int) = _
    simp only [impl_BestTenths.l0, rd_nat]
    rw [if_neg (by omega), if_pos (by omega), if_pos (by omega)]; rfl
theorem bestSpec_loop (tb : List Int) (n : Nat) (hn : n = 12) (ht : tb.length = n) : Evt fun k => spec_BestTenths.l0 k tb 0 1 = some (bestV tb n) := by
  refine evt_loop0 (n - 1) (fun k (s : Int) i => spec_BestTenths.l0 k tb s (i + 1)) (bestV tb n) (fun i s => s = (bestTo tb i : Int)) ?_ ?_ 0 rfl
  · rintro i s hi rfl
    have hb := bestTo_le tb i
    refine .inl ⟨_, rfl, 1, Evt.all fun k => ?_⟩
    show spec_BestTenths.l0 (k + 1) tb (bestTo tb i : Int) ((i : Int) + 1) = spec_BestTenths.l0 k tb (bestTo tb (i + 1) : Int) ((i : Int) + 1 + 1)
    have e1 : rd tb ((i : Int) + 1) = tb.getD (i + 1) 0 := rd_nat tb (i + 1)
    simp only [spec_BestTenths.l0, rd_nat, e1, bestTo]
    rw [if_pos (by omega), if_pos (by omega), if_pos (by omega), if_pos (by omega), if_pos (by omega), wrap_id (by omega) (by omega)]
    by_cases h : tb.getD (i + 1) 0 ≤ tb.getD (bestTo tb i) 0
    · rw [if_pos h, if_pos h]; rfl
    · rw [if_neg h, if_neg h]
  · rintro s rfl
    have hb := bestTo_le tb (n - 1)
    refine Evt.succ (Evt.all fun k => ?_)
    show spec_BestTenths.l0 (k + 1) tb (bestTo tb (n - 1) : Int) (((n - 1 : Nat) : Int) + 1) = _
    simp only [spec_BestTenths.l0, rd_nat]
    rw [if_neg (by omega), if_pos (by omega), if_pos (by omega)]; rfl
theorem stepD_at (t : Int) (c : S102) (s : List Int) (j : Nat) (hs : s.length = 4) (hj : j < 4) : (stepD t s c).getD j 0 = s.getD j 0 + (if decJ t c = j then 1 else 0) := by
  unfold stepD
  have hj4 : decJ t c < 4 := by unfold decJ; split <;> split <;> omega
  by_cases e : decJ t c = j
  · rw [if_pos e, e, getD_set_self _ _ _ _ (by omega)]
  · rw [if_neg e, getD_set_ne _ _ _ _ _ e]; omega
theorem decFold_at (t : Int) (j : Nat) (hj : j < 4) : ∀ (l : List S102) (s : List Int), s.length = 4 → (l.foldl (stepD t) s).getD j 0 = s.getD j 0 + ((l.countP fun c => decide (decJ t c = j) : Nat) : Int)
  | [], s, _ => by simp
  | c :: l, s, hs => by
    rw [List.foldl_cons, decFold_at t j hj l (stepD t s c) (by simp [stepD, hs]), stepD_at t c s j hs hj, List.countP_cons]
    by_cases e : decJ t c = j <;> simp [e] <;> omega
def cntD (l : List S102) (t : Int) (j : Nat) : Nat := l.countP fun c => decide (decJ t c = j)
theorem cntD_sum (t : Int) : ∀ l : List S102, cntD l t 0 + cntD l t 1 + cntD l t 2 + cntD l t 3 = l.length
  | [] => rfl
  | c :: l => by
    have ih := cntD_sum t l
    unfold cntD at ih ⊢
    have hj4 : decJ t c < 4 := by unfold decJ; split <;> split <;> omega
    simp only [List.countP_cons, List.length_cons, decide_eq_true_eq]
    rcases (show decJ t c = 0 ∨ decJ t c = 1 ∨ decJ t c = 2 ∨ decJ t c = 3 by omega) with e | e | e | e <;> simp only [e] <;> simp <;> omega
theorem decideV_form (l : List S102) (t : Int) (hl : l.length ≤ 1000000000) : decideV l t = [(cntD l t 0 : Int), (cntD l t 1 : Int), (cntD l t 2 : Int), (cntD l t 3 : Int)] := by
  have h4 := (decideAt_ev l t hl).2.1
  have h : ∀ j, j < 4 → (decideV l t).getD j 0 = (cntD l t j : Int) := by
    intro j hj
    unfold decideV cntD
    rw [decFold_at t j hj l _ (by simp)]
    have : (List.replicate 4 (0 : Int)).getD j 0 = 0 := decI_zero.2 j |>.elim fun a b => by omega
    omega
  have h0 := h 0 (by omega)
  have h1 := h 1 (by omega)
  have h2 := h 2 (by omega)
  have h3 := h 3 (by omega)
  match hv : decideV l t, h4 with
  | [a, b, c, d], _ =>
    rw [hv] at h0 h1 h2 h3
    simp at h0 h1 h2 h3
    rw [h0, h1, h2, h3]
theorem cntD_zero (l : List S102) (h : ∀ c ∈ l, 0 ≤ c.f0) (j : Nat) (hj : j = 1 ∨ j = 3) : cntD l 0 j = 0 := by
  unfold cntD
  rw [List.countP_eq_zero]
  intro c hc
  have := h c hc
  simp only [decide_eq_true_eq]
  unfold decJ
  rw [if_neg (show ¬ c.f0 < 0 by omega)]
  split <;> omega
theorem expTo_at (l : List S102) (c ls : Int) : ∀ n i, i < n → (expTo l c ls n).getD i 0 = expV c ls (decideV l (i : Int))
  | 0, i, h => by omega
  | n + 1, i, h => by
    have hl := expTo_len l c ls n
    simp only [expTo]
    by_cases e : i = n
    · subst e
      rw [List.getD_eq_getElem?_getD, List.getElem?_append_right (by omega), hl]; simp
    · rw [List.getD_eq_getElem?_getD, List.getElem?_append_left (by omega), ← List.getD_eq_getElem?_getD]
      exact expTo_at l c ls n i (by omega)
theorem bestTo_min (tb : List Int) : ∀ n i, i ≤ n → tb.getD (bestTo tb n) 0 ≤ tb.getD i 0 ∧ (bestTo tb n < i → tb.getD (bestTo tb n) 0 < tb.getD i 0)
  | 0, i, h => by
    obtain rfl : i = 0 := by omega
    exact ⟨Int.le_refl _, fun h => absurd h (Nat.lt_irrefl 0)⟩
  | n + 1, i, h => by
    have ih := bestTo_min tb n
    have hb := bestTo_le tb n
    simp only [bestTo]
    by_cases c : tb.getD (n + 1) 0 ≤ tb.getD (bestTo tb n) 0
    · rw [if_pos c]
      by_cases e : i = n + 1
      · subst e; exact ⟨Int.le_refl _, fun h => absurd h (Nat.lt_irrefl _)⟩
      · have := (ih i (by omega)).1
        exact ⟨by omega, fun h => by omega⟩
    · rw [if_neg c]
      by_cases e : i = n + 1
      · subst e; exact ⟨by omega, fun _ => by omega⟩
      · exact ih i (by omega)
theorem asked_mk (x y a b c d : Int) (ha : 0 ≤ a ∧ a ≤ 1000) (hb : 0 ≤ b ∧ b ≤ 1000) (hc : 0 ≤ c ∧ c ≤ 1000) (hd : 0 ≤ d ∧ d ≤ 1000) (hs : 0 < a + b + c + d) (hD : 1 ≤ x ∧ x < y ∧ y ≤ 10000) : askedB x y [a, b, c, d] = true := by
  have f : wrap64 (wrap64 (wrap64 (wrap64 (0 + a) + b) + c) + d) = a + b + c + d := by
    rw [wrap_id (x := 0 + a) (by omega) (by omega), wrap_id (x := 0 + a + b) (by omega) (by omega), wrap_id (x := 0 + a + b + c) (by omega) (by omega), wrap_id (by omega) (by omega)]
    omega
  have f2 : 0 < List.foldl (fun s x => wrap64 (s + x)) 0 [a, b, c, d] := by
    simp only [List.foldl_cons, List.foldl_nil]; rw [f]; exact hs
  unfold askedB
  rw [decide_eq_true hD, decide_eq_true f2]
  simp only [List.all_cons, List.all_nil]
  rw [decide_eq_true ha, decide_eq_true hb, decide_eq_true hc, decide_eq_true hd]; rfl
theorem askedD (c ls : Int) (l : List S102) (t : Int) (hl : l.length ≤ 40) (h0 : l.length ≠ 0) (hD : 1 ≤ c ∧ c < ls ∧ ls ≤ 10000) : askedB c ls (decideV l t) = true := by
  have hs := cntD_sum t l
  rw [decideV_form l t (by omega)]
  exact asked_mk _ _ _ _ _ _ (by omega) (by omega) (by omega) (by omega) (by omega) hD
theorem ExpenseD_ev (c ls : Int) (l : List S102) (t : Int) (hl : l.length ≤ 40) (h0 : l.length ≠ 0) (hD : 1 ≤ c ∧ c < ls ∧ ls ≤ 10000) : Evt fun k => impl_ExpenseOf.f k c ls (decideV l t) = some (expV c ls (decideV l t), true) := by
  refine Evt.from 7 fun k hk => ?_
  have h4 := (decideAt_ev l t (by omega)).2.1
  unfold impl_ExpenseOf.f
  rw [areCounts_ok c ls _ k (by omega), askedD c ls l t hl h0 hD, Option.bind_some, if_pos rfl, expenseOf_ok c ls _ h4, Option.bind_some]
theorem DecideAtV_ev (l : List S102) (t : Int) (hl : l.length ≤ 1000000) (hc : chancesB l = true) (ht : 0 ≤ t ∧ t ≤ 11) : Evt fun k => impl_DecideAt.f k l t = some (decideV l t, true) := by
  refine ((IsValidChances_ev l (by omega)).and (decideAt_ev l t (by omega)).1).mono ?_
  rintro k ⟨h1, h2⟩
  simp only [impl_DecideAt.f, h1, hc, Option.bind_some, if_true, within_ok, decide_eq_true ht, h2]
theorem bestLaw_loop (l : List S102) (c ls : Int) (n : Nat) (hn : n = 12) (hc : chancesB l = true) (h0 : l.length ≠ 0) (hD : 1 ≤ c ∧ c < ls ∧ ls ≤ 10000) (tb : List Int) (htb : tb = expTo l c ls n) :
    Evt fun k => laws_FnBestTenths.l0 k l (bestTo tb (n - 1) : Int) (tb.getD (bestTo tb (n - 1)) 0) tb 0 c ls = some true := by
  have hlen := chancesB_len hc
  have hx := expTo_len l c ls n
  have hb := bestTo_le tb (n - 1)
  refine evt_loop0 n (fun k (_ : Unit) i => laws_FnBestTenths.l0 k l (bestTo tb (n - 1) : Int) (tb.getD (bestTo tb (n - 1)) 0) tb i c ls) true (fun _ _ => True) ?_ ?_ () trivial
  · rintro i s hi _
    have hm := bestTo_min tb (n - 1) i (by omega)
    have hv : tb.getD i 0 = expV c ls (decideV l (i : Int)) := by rw [htb]; exact expTo_at l c ls n i hi
    refine .inl ⟨(), trivial, 1, ((DecideAtV_ev l (i : Int) (by omega) hc (by omega)).and (ExpenseD_ev c ls l (i : Int) hlen h0 hD)).mono ?_⟩
    rintro k ⟨e1, e2⟩
    show laws_FnBestTenths.l0 (k + 1) l (bestTo tb (n - 1) : Int) (tb.getD (bestTo tb (n - 1)) 0) tb (i : Int) c ls = _
    simp only [laws_FnBestTenths.l0, rd_nat]
    rw [if_pos (by rw [htb]; omega), e1, Option.bind_some]; dsimp only
    rw [e2, Option.bind_some, if_pos rfl, if_pos rfl, if_pos (by omega), if_pos hv.symm, if_neg (by omega), wrap_id (by omega) (by omega)]
    by_cases q : (i : Int) > (bestTo tb (n - 1) : Int)
    · have := hm.2 (by omega)
      rw [if_pos q, if_neg (by omega)]
    · rw [if_neg q]
  · rintro s _
    refine Evt.succ (Evt.all fun k => ?_)
    show laws_FnBestTenths.l0 (k + 1) l (bestTo tb (n - 1) : Int) (tb.getD (bestTo tb (n - 1)) 0) tb (n : Int) c ls = _
    simp only [laws_FnBestTenths.l0]
    rw [if_neg (by rw [htb]; omega)]
theorem FnBestTenths : laws_FnBestTenths.Pure := by
  intro l0 hl _ hw
  have hby := bytes_of l0 hw
  by_cases hbig : (l0.length : Int) > 65536
  · exact ⟨0, by simp [laws_FnBestTenths.f, laws_rBig.f, hbig]⟩
  obtain ⟨c, ls, l, hl45, hdraw⟩ := DrawBestTenths_ev l0 hby
  obtain ⟨n, hn⟩ : ∃ n : Nat, n = 12 := ⟨_, rfl⟩
  have t1 := ExpenseTable_ev c ls l (by omega) n hn
  have t2 := l22Table_ev c ls l (by omega) n hn
  by_cases hB : tableB c ls l = true
  · have hv : tableV c ls l n = (expTo l c ls n, true) := by unfold tableV; rw [if_pos hB]
    rw [hv] at t1 t2
    have hB' := hB
    unfold tableB at hB'
    simp only [Bool.and_eq_true, decide_eq_true_eq] at hB'
    obtain ⟨⟨hD, hc⟩, h0⟩ := hB'
    have hlen := chancesB_len hc
    have hx := expTo_len l c ls n
    obtain ⟨tb, htb⟩ : ∃ tb, tb = expTo l c ls n := ⟨_, rfl⟩
    have hb := bestTo_le tb (n - 1)
    have g1 := bestImpl_loop tb n hn (by rw [htb]; exact hx)
    have g2 := bestSpec_loop tb n hn (by rw [htb]; exact hx)
    have g3 := bestLaw_loop l c ls n hn hc h0 hD tb htb
    have g4 := rInts_self tb (by rw [htb]; omega)
    have z0 : tb.getD 0 0 = wrap64 ((l.length : Int) * c) := by
      have hs := cntD_sum 0 l
      have hnn : ∀ x ∈ l, 0 ≤ x.f0 := by
        intro x hx
        unfold chancesB at hc
        simp only [Bool.and_eq_true, decide_eq_true_eq] at hc
        have := List.all_eq_true.1 hc.1 x hx
        unfold chOk at this
        exact (of_decide_eq_true this).1
      have k1 := cntD_zero l hnn 1 (.inl rfl)
      have k3 := cntD_zero l hnn 3 (.inr rfl)
      rw [htb, expTo_at l c ls n 0 (by omega), show ((0 : Nat) : Int) = 0 from rfl, decideV_form l 0 (by omega)]
      have r0 : rd [(cntD l 0 0 : Int), (cntD l 0 1 : Int), (cntD l 0 2 : Int), (cntD l 0 3 : Int)] 0 = (cntD l 0 0 : Int) := rfl
      have r1 : rd [(cntD l 0 0 : Int), (cntD l 0 1 : Int), (cntD l 0 2 : Int), (cntD l 0 3 : Int)] 1 = (cntD l 0 1 : Int) := rfl
      have r2 : rd [(cntD l 0 0 : Int), (cntD l 0 1 : Int), (cntD l 0 2 : Int), (cntD l 0 3 : Int)] 2 = (cntD l 0 2 : Int) := rfl
      unfold expV
      rw [r0, r1, r2, k1, wrap_id (x := (cntD l 0 0 : Int) + (cntD l 0 2 : Int)) (by omega) (by omega), show (cntD l 0 0 : Int) + (cntD l 0 2 : Int) = (l.length : Int) by omega]
      simp
      unfold wrap64; omega
    rw [← htb] at t1 t2
    obtain ⟨K, hK⟩ := (hdraw.and (t1.and (t2.and (g1.and (g2.and (g3.and g4)))))).at
    have d0 := fun j => (hK j).1
    have d1 := fun j => (hK j).2.1
    have d2 := fun j => (hK j).2.2.1
    have d3 := fun j => (hK j).2.2.2.1
    have d4 := fun j => (hK j).2.2.2.2.1
    have d5 := fun j => (hK j).2.2.2.2.2.1
    have d6 := fun j => (hK j).2.2.2.2.2.2
    have tl : (tb.length : Int) = 12 := by rw [htb, hx]; omega
    refine ⟨K + 3, ?_⟩
    unfold laws_FnBestTenths.f
    simp only [laws_rBig.f, Option.bind_some, decide_eq_false hbig, d0, impl_BestTenths.f, spec_BestTenths.f, d1, d2, d3, d4]
    simp only [if_true, Bool.false_eq_true, if_false, bestV]
    simp only [laws_FnBestTenths.j0, spec_ExpenseTable.f, d1, d2, d6, Option.bind_some, bne_self_eq_false, Bool.false_eq_true, if_false, Bool.not_true]
    simp only [laws_FnBestTenths.j1, rd_nat, if_true, Bool.false_eq_true, if_false]
    rw [if_pos tl, if_pos (by omega), if_pos (by omega), if_pos (by omega)]
    have e0 : rd tb 0 = tb.getD 0 0 := rfl
    rw [e0, z0, bne_self_eq_false]
    simp only [laws_FnBestTenths.j2, Bool.false_eq_true, if_false]
    exact d5 0
  · have hv : tableV c ls l n = ([], false) := by unfold tableV; rw [if_neg hB]
    rw [hv] at t1 t2
    obtain ⟨K, hK⟩ := (hdraw.and (t1.and (t2.and (rInts_self [] (by simp))))).at
    have d0 := fun j => (hK j).1
    have d1 := fun j => (hK j).2.1
    have d2 := fun j => (hK j).2.2.1
    have d3 := fun j => (hK j).2.2.2
    refine ⟨K + 3, ?_⟩
    unfold laws_FnBestTenths.f
    simp only [laws_rBig.f, Option.bind_some, decide_eq_false hbig, d0, impl_BestTenths.f, spec_BestTenths.f, d1, d2]
    simp [laws_FnBestTenths.j0, laws_FnBestTenths.j1, spec_ExpenseTable.f, d1, d2, d3]
end Go.Proofs.Ytmgckbjdhjbciaa.Pure
