/-
  The pure statement of the law FnValue: what its printed function answers is 'true' for all numbers and lists of its kinds. Conditions: the kinds' own bounds, as the statement lays them.
-/
import Derived.Test.YtmgckbjdhjbciaaXFnValuex7
import Derived.DataShut
namespace Go.Proofs.Ytmgckbjdhjbciaa.Pure
open Go.RowKit Go.Proofs.Ytmgckbjdhjbciaa.XFnValue Go.Proofs.YtmgckbjdhjbciaaW.PrintWords Go.Proofs.YtmgckbjdhjbciaaW.PrintLast Go.Proofs.YtmgckbjdhjbciaaW.PrintMore
set_option linter.unusedVariables false
set_option linter.unusedSimpArgs false
theorem wrap_id {x : Int} (h0 : -9223372036854775808 ≤ x) (h1 : x ≤ 9223372036854775807) : wrap64 x = x := by unfold wrap64; omega
theorem rd_nat (xs : List Int) (i : Nat) : rd xs (i : Int) = xs.getD i 0 := by simp [rd]
theorem for_loop {σ ρ : Type} (K n : Nat) (L : Nat → σ → Int → Option ρ) (v : ρ) (Inv : Nat → σ → Prop)
    (step : ∀ k i s, K ≤ k → i < n → Inv i s → (∃ s', Inv (i + 1) s' ∧ L (k + 1) s (i : Int) = L k s' ((i : Int) + 1)) ∨ L (k + 1) s (i : Int) = some v)
    (fin : ∀ k s, K ≤ k → Inv n s → L (k + 1) s (n : Int) = some v) :
    ∀ k s, Inv 0 s → n + K < k → L k s 0 = some v := by
  have key : ∀ d k i s, i + d = n → Inv i s → d + K < k → L k s (i : Int) = some v := by
    intro d
    induction d with
    | zero =>
      intro k i s hi h hk
      obtain ⟨k, rfl⟩ : ∃ m, k = m + 1 := ⟨k - 1, by omega⟩
      obtain rfl : i = n := by omega
      exact fin k s (by omega) h
    | succ d ih =>
      intro k i s hi h hk
      obtain ⟨k, rfl⟩ : ∃ m, k = m + 1 := ⟨k - 1, by omega⟩
      rcases step k i s (by omega) (by omega) h with ⟨s', h', e⟩ | e
      · rw [e]
        have := ih k (i + 1) s' (by omega) h' (by omega)
        rw [show ((i + 1 : Nat) : Int) = (i : Int) + 1 from by omega] at this
        exact this
      · exact e
  intro k s h hk
  exact key n k 0 s (by omega) h hk
theorem getD_drop {α : Type} (xs : List α) (z : α) (i : Nat) (h : i < xs.length) : xs.drop i = xs.getD i z :: xs.drop (i + 1) := by
  rw [List.drop_eq_getElem_cons h, List.getD_eq_getElem?_getD, List.getElem?_eq_getElem h]; rfl
theorem all_loop {α : Type} (K : Nat) (xs : List α) (z : α) (p : α → Bool) (L : Nat → Int → Option Bool)
    (step : ∀ k i, K ≤ k → i < xs.length → L (k + 1) (i : Int) = if p (xs.getD i z) = true then L k ((i : Int) + 1) else some false)
    (fin : ∀ k, K ≤ k → L (k + 1) (xs.length : Int) = some true) : ∀ k, xs.length + K < k → L k 0 = some (xs.all p) := by
  intro k hk
  refine for_loop K xs.length (fun k (_ : Unit) i => L k i) (xs.all p) (fun i _ => (xs.drop i).all p = xs.all p) ?_ ?_ k () (by simp) hk
  · intro k i s hK hi h
    rw [getD_drop xs z i hi, List.all_cons] at h
    by_cases hp : p (xs.getD i z) = true
    · refine .inl ⟨(), by rw [hp, Bool.true_and] at h; exact h, ?_⟩
      show L (k + 1) (i : Int) = _
      rw [step k i hK hi, if_pos hp]
    · refine .inr ?_
      show L (k + 1) (i : Int) = _
      rw [step k i hK hi, if_neg hp, ← h, (Bool.eq_false_iff.2 hp : p (xs.getD i z) = false), Bool.false_and]
  · intro k s hK h
    rw [List.drop_of_length_le (Nat.le_refl _)] at h
    show L (k + 1) (xs.length : Int) = _
    rw [fin k hK, ← h]; rfl
theorem fold_loop {α σ ρ : Type} (K : Nat) (xs : List α) (z : α) (g : σ → α → σ) (out : σ → ρ) (I : Nat → σ → Prop) (L : Nat → σ → Int → Option ρ)
    (step : ∀ k i s, K ≤ k → i < xs.length → I i s → I (i + 1) (g s (xs.getD i z)) ∧ L (k + 1) s (i : Int) = L k (g s (xs.getD i z)) ((i : Int) + 1))
    (fin : ∀ k s, K ≤ k → I xs.length s → L (k + 1) s (xs.length : Int) = some (out s)) : ∀ k s, I 0 s → xs.length + K < k → L k s 0 = some (out (xs.foldl g s)) := by
  intro k s h0 hk
  refine for_loop K xs.length L (out (xs.foldl g s)) (fun i s' => I i s' ∧ (xs.drop i).foldl g s' = xs.foldl g s) ?_ ?_ k s ⟨h0, by simp⟩ hk
  · rintro k i s' hK hi ⟨h, e⟩
    rw [getD_drop xs z i hi, List.foldl_cons] at e
    obtain ⟨h1, h2⟩ := step k i s' hK hi h
    exact .inl ⟨_, ⟨h1, e⟩, h2⟩
  · rintro k s' hK ⟨h, e⟩
    rw [List.drop_of_length_le (Nat.le_refl _)] at e
    rw [fin k s' hK h, ← e]; rfl
def Evt (P : Nat → Prop) : Prop := ∃ K, ∀ k, K ≤ k → P k
theorem Evt.all {P : Nat → Prop} (h : ∀ k, P k) : Evt P := ⟨0, fun k _ => h k⟩
theorem Evt.and {P Q : Nat → Prop} (h : Evt P) (g : Evt Q) : Evt fun k => P k ∧ Q k := by
  obtain ⟨K, h⟩ := h
  obtain ⟨M, g⟩ := g
  exact ⟨K + M, fun k hk => ⟨h k (by omega), g k (by omega)⟩⟩
theorem Evt.mono {P Q : Nat → Prop} (h : Evt P) (g : ∀ k, P k → Q k) : Evt Q := by
  obtain ⟨K, h⟩ := h
  exact ⟨K, fun k hk => g k (h k hk)⟩
theorem Evt.succ {Q : Nat → Prop} (h : Evt fun k => Q (k + 1)) : Evt Q := by
  obtain ⟨K, h⟩ := h
  refine ⟨K + 1, fun k hk => ?_⟩
  obtain ⟨m, rfl⟩ : ∃ m, k = m + 1 := ⟨k - 1, by omega⟩
  exact h m (by omega)
theorem Evt.add {Q : Nat → Prop} (c : Nat) (h : Evt fun k => Q (k + c)) : Evt Q := by
  obtain ⟨K, h⟩ := h
  refine ⟨K + c, fun k hk => ?_⟩
  obtain ⟨m, rfl⟩ : ∃ m, k = m + c := ⟨k - c, by omega⟩
  exact h m (by omega)
theorem evt_loop_ex {σ ρ : Type} (n : Nat) (L : Nat → σ → Int → Option ρ) (R : ρ → Prop) (Inv : Nat → σ → Prop)
    (step : ∀ i s, i < n → Inv i s → (∃ s', Inv (i + 1) s' ∧ ∃ c, Evt fun k => L (k + c) s (i : Int) = L k s' ((i : Int) + 1)) ∨ ∃ v, R v ∧ Evt fun k => L k s (i : Int) = some v)
    (fin : ∀ s, Inv n s → ∃ v, R v ∧ Evt fun k => L k s (n : Int) = some v) (s : σ) (h0 : Inv 0 s) : ∃ v, R v ∧ Evt fun k => L k s 0 = some v := by
  have key : ∀ d i s, i + d = n → Inv i s → ∃ v, R v ∧ Evt fun k => L k s (i : Int) = some v := by
    intro d
    induction d with
    | zero =>
      intro i s hi h
      obtain rfl : i = n := by omega
      exact fin s h
    | succ d ih =>
      intro i s hi h
      rcases step i s (by omega) h with ⟨s', h', c, e⟩ | e
      · obtain ⟨v, hv, h2⟩ := ih (i + 1) s' (by omega) h'
        rw [show ((i + 1 : Nat) : Int) = (i : Int) + 1 from by omega] at h2
        exact ⟨v, hv, Evt.add c ((e.and h2).mono fun k hk => hk.1.trans hk.2)⟩
      · exact e
  exact key n 0 s (by omega) h0
theorem u64_range (x : Int) : 0 ≤ IntKind.u64.wrap x ∧ IntKind.u64.wrap x ≤ 18446744073709551615 := by
  simp [IntKind.wrap, IntKind.signed, IntKind.bits]; omega
theorem and255 (x : Int) : 0 ≤ wrap64 (Go.bits .and .u64 (IntKind.u64.wrap x / 1099511627776) 255) ∧ wrap64 (Go.bits .and .u64 (IntKind.u64.wrap x / 1099511627776) 255) ≤ 255 := by
  obtain ⟨h0, h1⟩ := u64_range x
  obtain ⟨y, hy⟩ : ∃ y, y = IntKind.u64.wrap x / 1099511627776 := ⟨_, rfl⟩
  rw [← hy]
  have h := bits_and_u64_nat y.toNat 255 (by omega) (by omega)
  have e : ((y.toNat : Nat) : Int) = y := by omega
  have h2 : bits BinOp.and IntKind.u64 y 255 = ((y.toNat &&& 255 : Nat) : Int) := by rw [← e]; exact h
  have h3 : y.toNat &&& 255 ≤ 255 := Nat.and_le_right
  rw [show Go.bits .and .u64 y 255 = bits BinOp.and IntKind.u64 y 255 from rfl, h2, wrap_id (by omega) (by omega)]
  omega
theorem next_ok (l : List Int) (hb : ∀ x ∈ l, 0 ≤ x ∧ x ≤ 255) (p s : Int) (h0 : 0 ≤ p) (h1 : p ≤ 4611686018427387904) : ∃ v s', spec_l1Cur_next.f l p s = some (v, p + 1, s') ∧ 0 ≤ v ∧ v ≤ 255 := by
  unfold spec_l1Cur_next.f
  have e : wrap64 (p + 1) = p + 1 := wrap_id (by omega) (by omega)
  by_cases c : p < (l.length : Int)
  · have hm : rd l p ∈ l := by
      have : rd l p = l.getD p.toNat 0 := by simp [rd]
      rw [this, List.getD_eq_getElem?_getD, List.getElem?_eq_getElem (by omega), Option.getD_some]
      exact List.getElem_mem _
    obtain ⟨b0, b1⟩ := hb _ hm
    rw [if_pos c, if_pos h0, e, if_pos (by omega)]
    exact ⟨_, _, rfl, by rw [wrap_id (by omega) (by omega)]; exact ⟨b0, b1⟩⟩
  · rw [if_neg c, e, if_neg (by omega)]
    exact ⟨_, _, rfl, and255 _⟩
theorem tmod_range (x a : Int) (h0 : 0 ≤ x) (ha : 1 ≤ a) : 0 ≤ Int.tmod x a ∧ Int.tmod x a < a := ⟨Int.tmod_nonneg a h0, Int.tmod_lt_of_pos x (by omega)⟩
theorem pick_ok (l : List Int) (hb : ∀ x ∈ l, 0 ≤ x ∧ x ≤ 255) (p s a : Int) (h0 : 0 ≤ p) (h1 : p ≤ 4611686018427387000) (ha : 1 ≤ a) :
    ∃ v p' s', spec_l1Cur_pick.f l p s a = some (v, p', s') ∧ p ≤ p' ∧ p' ≤ p + 2 ∧ 0 ≤ v ∧ v < a := by
  unfold spec_l1Cur_pick.f
  by_cases c : a ≤ 1
  · rw [if_pos c]; exact ⟨0, p, s, rfl, by omega, by omega, by omega, by omega⟩
  · obtain ⟨v, s1, e1, v0, v1⟩ := next_ok l hb p s h0 (by omega)
    rw [if_neg c, e1, Option.bind_some]
    by_cases c2 : a > 200
    · obtain ⟨u, s2, e2, u0, u1⟩ := next_ok l hb (p + 1) s1 (by omega) (by omega)
      rw [if_pos c2]; dsimp only; rw [e2, Option.bind_some, if_neg (by omega)]
      have q : 0 ≤ wrap64 (wrap64 (v * 256) + u) := by rw [wrap_id (x := v * 256) (by omega) (by omega), wrap_id (by omega) (by omega)]; omega
      exact ⟨_, _, _, rfl, by dsimp only; omega, by dsimp only; omega, tmod_range _ a q ha⟩
    · rw [if_neg c2, if_neg (by omega)]
      exact ⟨_, _, _, rfl, by dsimp only; omega, by dsimp only; omega, tmod_range _ a v0 ha⟩
theorem one_ok (l : List Int) (hb : ∀ x ∈ l, 0 ≤ x ∧ x ≤ 255) (p s a : Int) (h0 : 0 ≤ p) (h1 : p ≤ 4611686018427387000) (ha : 1 ≤ a) :
    ∃ b p' s', spec_l1Cur_one.f l p s a = some (b, p', s') ∧ p ≤ p' ∧ p' ≤ p + 2 := by
  obtain ⟨v, p', s', e, q0, q1, _, _⟩ := pick_ok l hb p s a h0 h1 ha
  unfold spec_l1Cur_one.f
  rw [e]; exact ⟨_, _, _, rfl, q0, q1⟩
theorem among_ok (l : List Int) (hb : ∀ x ∈ l, 0 ≤ x ∧ x ≤ 255) (p s : Int) (h0 : 0 ≤ p) (h1 : p ≤ 4611686018427387000) (xs : List Int) (hx : 1 ≤ xs.length) :
    ∃ v p' s', spec_l1Cur_among.f l p s xs = some (v, p', s') ∧ p ≤ p' ∧ p' ≤ p + 2 ∧ v ∈ xs := by
  obtain ⟨v, p', s', e, q0, q1, v0, v1⟩ := pick_ok l hb p s (xs.length : Int) h0 h1 (by omega)
  unfold spec_l1Cur_among.f
  rw [e, Option.bind_some, if_pos v0, if_pos v1]
  refine ⟨_, _, _, rfl, q0, q1, ?_⟩
  have : rd xs v = xs.getD v.toNat 0 := by simp [rd]
  dsimp only
  rw [this, List.getD_eq_getElem?_getD, List.getElem?_eq_getElem (by omega), Option.getD_some]
  exact List.getElem_mem _
theorem drawDecision_ok (l : List Int) (hb : ∀ x ∈ l, 0 ≤ x ∧ x ≤ 255) (p s : Int) (h0 : 0 ≤ p) (h1 : p ≤ 4611686018427380000) :
    ∃ c ls p' s', spec_l1Cur_decision.f l p s = some (c, ls, p', s') ∧ p ≤ p' ∧ p' ≤ p + 8 ∧ -10 ≤ c ∧ c ≤ 100 ∧ -10 ≤ ls ∧ ls ≤ 10001 := by
  unfold spec_l1Cur_decision.f
  obtain ⟨c, p1, s1, e1, a1, b1, m1⟩ := among_ok l hb p s h0 (by omega) [1, 10, 20, 50, 99] (by decide)
  obtain ⟨ls, p2, s2, e2, a2, b2, m2⟩ := among_ok l hb p1 s1 (by omega) (by omega) [100, 100, 200, 1000, 10000] (by decide)
  obtain ⟨v, p3, s3, e3, a3, b3, v0, v1⟩ := pick_ok l hb p2 s2 24 (by omega) (by omega) (by omega)
  obtain ⟨c', p4, s4, e4, a4, b4, m4⟩ := among_ok l hb p3 s3 (by omega) (by omega) [0, 100, -5] (by decide)
  obtain ⟨ls', p5, s5, e5, a5, b5, m5⟩ := among_ok l hb p3 s3 (by omega) (by omega) [10001, c] (by simp)
  simp only [List.mem_cons, List.not_mem_nil, or_false] at m1 m2 m4 m5
  rw [e1, Option.bind_some]; dsimp only
  rw [e2, Option.bind_some]; dsimp only
  rw [e3, Option.bind_some]; dsimp only
  by_cases k0 : v = 0
  · rw [if_pos k0, e4, Option.bind_some]; exact ⟨_, _, _, _, rfl, by (try dsimp only); omega, by (try dsimp only); omega, by (try dsimp only); omega, by (try dsimp only); omega, by (try dsimp only); omega, by (try dsimp only); omega⟩
  · rw [if_neg k0]
    by_cases k1 : v = 1
    · rw [if_pos k1, e5, Option.bind_some]; exact ⟨_, _, _, _, rfl, by (try dsimp only); omega, by (try dsimp only); omega, by (try dsimp only); omega, by (try dsimp only); omega, by (try dsimp only); omega, by (try dsimp only); omega⟩
    · rw [if_neg k1]; exact ⟨_, _, _, _, rfl, by (try dsimp only); omega, by (try dsimp only); omega, by (try dsimp only); omega, by (try dsimp only); omega, by (try dsimp only); omega, by (try dsimp only); omega⟩
theorem counts_draw (l : List Int) (hb : ∀ x ∈ l, 0 ≤ x ∧ x ≤ 255) (p s : Int) (h0 : 0 ≤ p) (h1 : p ≤ 4611686018427380000) :
    ∃ r : List Int × Int × Int, (r.1.length ≤ 4 ∧ p ≤ r.2.1 ∧ r.2.1 ≤ p + 20 ∧ ∀ x ∈ r.1, -1 ≤ x ∧ x ≤ 1001) ∧ Evt fun k => spec_l1Cur_counts.f k l p s = some r := by
  unfold spec_l1Cur_counts.f
  refine evt_loop_ex 4 (fun k (q : List Int × Int × Int) i => spec_l1Cur_counts.l0 k q.1 i l q.2.1 q.2.2) _
    (fun i q => q.1.length = i ∧ p ≤ q.2.1 ∧ q.2.1 ≤ p + 2 * i ∧ ∀ x ∈ q.1, -1 ≤ x ∧ x ≤ 1001) ?_ ?_ ([], p, s) ⟨rfl, by simp, by simp, by simp⟩
  · rintro i ⟨xs, q, t⟩ hi ⟨i1, i2, i3, i4⟩
    dsimp only at i1 i2 i3 i4
    obtain ⟨v, p', s', e, a, b, m⟩ := among_ok l hb q t (by omega) (by omega) [0, 1, 2, 5, 10, 100] (by decide)
    simp only [List.mem_cons, List.not_mem_nil, or_false] at m
    refine .inl ⟨(xs ++ [v], p', s'), ⟨by simp [i1], by dsimp only; omega, by dsimp only; omega, ?_⟩, 1, Evt.all fun k => ?_⟩
    · intro x hx
      rcases List.mem_append.1 hx with h | h
      · exact i4 x h
      · obtain rfl := List.mem_singleton.1 h; omega
    · show spec_l1Cur_counts.l0 (k + 1) xs (i : Int) l q t = _
      simp only [spec_l1Cur_counts.l0]
      rw [if_pos (by omega), e, Option.bind_some, if_pos (by omega), wrap_id (by omega) (by omega)]
  · rintro ⟨xs, q, t⟩ ⟨i1, i2, i3, i4⟩
    dsimp only at i1 i2 i3 i4
    obtain ⟨v, p3, s3, e3, a3, b3, v0, v1⟩ := pick_ok l hb q t 24 (by omega) (by omega) (by omega)
    obtain ⟨j, p4, s4, e4, a4, b4, j0, j1⟩ := pick_ok l hb p3 s3 4 (by omega) (by omega) (by omega)
    obtain ⟨u, p5, s5, e5, a5, b5, m5⟩ := among_ok l hb p4 s4 (by omega) (by omega) [-1, 1000, 1001] (by decide)
    simp only [List.mem_cons, List.not_mem_nil, or_false] at m5
    have go : ∀ r, (∀ k, spec_l1Cur_counts.l0 (k + 1) xs 4 l q t = some r) → Evt fun k => spec_l1Cur_counts.l0 k xs ((4 : Nat) : Int) l q t = some r := fun r h => Evt.succ (Evt.all h)
    by_cases k0 : v = 0
    · refine ⟨(xs.set j.toNat u, p5, s5), ⟨by simp; omega, by dsimp only; omega, by dsimp only; omega, ?_⟩, go _ fun k => ?_⟩
      · intro x hx
        rcases List.mem_or_eq_of_mem_set hx with h | h
        · exact i4 x h
        · omega
      · simp only [spec_l1Cur_counts.l0]
        rw [if_neg (by omega), e3, Option.bind_some, if_pos k0]; dsimp only
        rw [e4, Option.bind_some]; dsimp only
        rw [e5, Option.bind_some, if_pos (by omega), if_pos (by omega)]
    · by_cases k1 : v = 1
      · refine ⟨(xs.take 3, p3, s3), ⟨by simp; omega, by dsimp only; omega, by dsimp only; omega, fun x hx => i4 x (List.mem_of_mem_take hx)⟩, go _ fun k => ?_⟩
        simp only [spec_l1Cur_counts.l0]
        rw [if_neg (by omega), e3, Option.bind_some, if_neg k0, if_pos k1, if_pos (by omega)]; rfl
      · by_cases k2 : v = 2
        · refine ⟨([0, 0, 0, 0], p3, s3), ⟨by simp, by dsimp only; omega, by dsimp only; omega, by simp⟩, go _ fun k => ?_⟩
          simp only [spec_l1Cur_counts.l0]
          rw [if_neg (by omega), e3, Option.bind_some, if_neg k0, if_neg k1, if_pos k2]
        · refine ⟨(xs, p3, s3), ⟨by dsimp only; omega, by dsimp only; omega, by dsimp only; omega, i4⟩, go _ fun k => ?_⟩
          simp only [spec_l1Cur_counts.l0]
          rw [if_neg (by omega), e3, Option.bind_some, if_neg k0, if_neg k1, if_neg k2]
theorem bytes_of (l : List Int) (h : ∀ x ∈ l, (Lit.int .u8 x).wf = true) : ∀ x ∈ l, 0 ≤ x ∧ x ≤ 255 := by
  intro x hx
  have := h x hx
  simpa [Lit.wf, IntKind.min, IntKind.max, IntKind.signed, IntKind.bits] using this
theorem DrawExpenseOf_ev (l : List Int) (hb : ∀ x ∈ l, 0 ≤ x ∧ x ≤ 255) : ∃ c ls cs, List.length cs ≤ 4 ∧ Evt fun k => spec_DrawExpenseOf.f k l = some (c, ls, cs) := by
  obtain ⟨c, ls, p, s, e, a, b, _⟩ := drawDecision_ok l hb 0 0 (by omega) (by omega)
  obtain ⟨r, ⟨hr, _⟩, ev⟩ := counts_draw l hb p s (by omega) (by omega)
  refine ⟨c, ls, r.1, hr, ev.mono fun k hk => ?_⟩
  unfold spec_DrawExpenseOf.f
  rw [e, Option.bind_some]; dsimp only
  rw [hk, Option.bind_some]
theorem DrawShouldProtect_ok (l : List Int) (hb : ∀ x ∈ l, 0 ≤ x ∧ x ≤ 255) : ∃ c ls a b, spec_DrawShouldProtect.f l = some (c, ls, a, b) := by
  obtain ⟨c, ls, p, s, e, a, b, _⟩ := drawDecision_ok l hb 0 0 (by omega) (by omega)
  obtain ⟨y, p1, s1, e1, a1, b1⟩ := one_ok l hb p s 3 (by omega) (by omega) (by omega)
  obtain ⟨u, p2, s2, e2, a2, b2, _⟩ := among_ok l hb p1 s1 (by omega) (by omega) [0, 1, 2, 5, 10, -1] (by decide)
  obtain ⟨v, p3, s3, e3, a3, b3, v0, v1⟩ := pick_ok l hb p2 s2 24 (by omega) (by omega) (by omega)
  have t0 : 0 ≤ Int.tdiv v 11 ∧ Int.tdiv v 11 ≤ 2 := by
    rw [Int.tdiv_eq_ediv_of_nonneg v0]; omega
  have w1 : wrap64 (Int.tdiv v 11) = Int.tdiv v 11 := wrap_id (by omega) (by omega)
  have w2 : wrap64 (5 + Int.tdiv v 11) = 5 + Int.tdiv v 11 := wrap_id (by omega) (by omega)
  obtain ⟨z, p4, s4, e4, _⟩ := among_ok l hb p3 s3 (by omega) (by omega) (([1, 2, 10, 20, 1000, 0, 1001] : List Int).take (5 + Int.tdiv v 11).toNat) (by rw [List.length_take]; simp only [List.length_cons, List.length_nil]; omega)
  unfold spec_DrawShouldProtect.f
  rw [e, Option.bind_some]; dsimp only
  rw [e1, Option.bind_some]; dsimp only
  cases y with
  | true => rw [if_pos rfl]; exact ⟨_, _, _, _, rfl⟩
  | false =>
    rw [if_neg (by simp), e2, Option.bind_some, Option.bind_some]; dsimp only
    rw [e3, Option.bind_some]; dsimp only
    rw [w1, w2, if_pos (by omega), if_pos (by simp only [List.length_cons, List.length_nil]; omega), e4, Option.bind_some]
    exact ⟨_, _, _, _, rfl⟩
theorem within_ok (a b c : Int) : impl_within.f a b c = some (decide (b ≤ a ∧ a ≤ c)) := by
  unfold impl_within.f
  split <;> simp <;> omega
theorem l1In_ok (a b c : Int) : spec_l1In.f a b c = some (decide (b ≤ a ∧ a ≤ c)) := by
  unfold spec_l1In.f
  split <;> simp <;> omega
theorem allWithin_ok (l : List Int) (lo hi : Int) (hl : l.length ≤ 4503599627370496) : ∀ k, l.length < k → impl_allWithin.f k l lo hi = some (l.all fun x => decide (lo ≤ x ∧ x ≤ hi)) := by
  intro k hk
  unfold impl_allWithin.f
  refine all_loop 0 l 0 _ (fun k i => impl_allWithin.l0 k lo hi l (l.length : Int) i) ?_ ?_ k (by omega)
  · intro k i _ hi
    show impl_allWithin.l0 (k + 1) lo _ l (l.length : Int) (i : Int) = _
    simp only [impl_allWithin.l0]
    rw [if_pos (by omega), if_pos (by omega), if_pos (by omega), within_ok, Option.bind_some, wrap_id (by omega) (by omega), rd_nat]
  · intro k _
    show impl_allWithin.l0 (k + 1) lo hi l (l.length : Int) (l.length : Int) = _
    simp only [impl_allWithin.l0]
    rw [if_neg (by omega)]
theorem sumOf_ok (l : List Int) (hl : l.length ≤ 4503599627370496) : ∀ k, l.length < k → impl_sumOf.f k l = some (l.foldl (fun s x => wrap64 (s + x)) 0) := by
  intro k hk
  unfold impl_sumOf.f
  refine fold_loop 0 l 0 (fun s x => wrap64 (s + x)) id (fun _ _ => True) (fun k s i => impl_sumOf.l0 k s l (l.length : Int) i) ?_ ?_ k 0 trivial (by omega)
  · intro k i s _ hi _
    refine ⟨trivial, ?_⟩
    show impl_sumOf.l0 (k + 1) s l (l.length : Int) (i : Int) = _
    simp only [impl_sumOf.l0]
    rw [if_pos (by omega), if_pos (by omega), if_pos (by omega), wrap_id (x := (i : Int) + 1) (by omega) (by omega), rd_nat]
  · intro k s _ _
    show impl_sumOf.l0 (k + 1) s l (l.length : Int) (l.length : Int) = _
    simp only [impl_sumOf.l0]
    rw [if_neg (by omega)]; rfl
theorem isDecision_ok (c ls : Int) : impl_isDecision.f c ls = some (decide (1 ≤ c ∧ c < ls ∧ ls ≤ 10000)) := by
  unfold impl_isDecision.f
  split
  · split
    · exact congrArg some (decide_eq_decide.2 (by omega))
    · rw [decide_eq_false (by omega)]
  · rw [decide_eq_false (by omega)]
theorem l22Decision_ok (c ls : Int) : spec_l22Decision.f c ls = some (decide (1 ≤ c ∧ c < ls ∧ ls ≤ 10000)) := by
  unfold spec_l22Decision.f
  split
  · split
    · exact congrArg some (decide_eq_decide.2 (by omega))
    · rw [decide_eq_false (by omega)]
  · rw [decide_eq_false (by omega)]
def askedB (c ls : Int) (l : List Int) : Bool := decide (1 ≤ c ∧ c < ls ∧ ls ≤ 10000) && decide (l.length = 4) && (l.all fun x => decide (0 ≤ x ∧ x ≤ 1000)) && decide (0 < l.foldl (fun s x => wrap64 (s + x)) 0)
theorem areCounts_ok (c ls : Int) (l : List Int) : ∀ k, 5 ≤ k → impl_areCounts.f k c ls l = some (askedB c ls l) := by
  intro k hk
  unfold impl_areCounts.f askedB
  rw [isDecision_ok, Option.bind_some]
  by_cases hD : 1 ≤ c ∧ c < ls ∧ ls ≤ 10000
  · rw [decide_eq_true hD, if_pos rfl]
    by_cases hl : l.length = 4
    · rw [if_pos (by omega), allWithin_ok l 0 1000 (by omega) k (by omega), Option.bind_some, sumOf_ok l (by omega) k (by omega), Option.bind_some, decide_eq_true hl]
      cases hA : l.all fun x => decide (0 ≤ x ∧ x ≤ 1000) <;> simp [hA]
    · rw [if_neg (by omega), decide_eq_false hl]; simp
  · rw [decide_eq_false hD]; simp
theorem l22Asked_ok (c ls : Int) (l : List Int) : ∀ k, 7 ≤ k → spec_l22Asked.f k c ls l = some (askedB c ls l) := by
  intro k hk
  unfold spec_l22Asked.f askedB
  rw [l22Decision_ok, Option.bind_some]
  obtain ⟨k, rfl⟩ : ∃ m, k = m + 1 := ⟨k - 1, by omega⟩
  by_cases hD : 1 ≤ c ∧ c < ls ∧ ls ≤ 10000
  · rw [decide_eq_true hD, if_pos rfl]
    simp only [spec_l22Asked.j0]
    by_cases hl : l.length = 4
    · rw [if_neg (by simp; omega)]
      have key := for_loop 0 l.length (fun k s i => spec_l22Asked.l0 k l s i) ((l.all fun x => decide (0 ≤ x ∧ x ≤ 1000)) && decide (0 < l.foldl (fun s x => wrap64 (s + x)) 0))
        (fun i s => ((l.drop i).all (fun x => decide (0 ≤ x ∧ x ≤ 1000)) && decide (0 < (l.drop i).foldl (fun s x => wrap64 (s + x)) s)) = ((l.all fun x => decide (0 ≤ x ∧ x ≤ 1000)) && decide (0 < l.foldl (fun s x => wrap64 (s + x)) 0))) ?_ ?_ k 0 (by simp) (by omega)
      · rw [key, decide_eq_true hl]; simp
      · intro k i s _ hi h
        rw [getD_drop l 0 i hi, List.all_cons, List.foldl_cons] at h
        by_cases hp : 0 ≤ l.getD i 0 ∧ l.getD i 0 ≤ 1000
        · refine .inl ⟨wrap64 (s + l.getD i 0), by rw [decide_eq_true hp, Bool.true_and] at h; exact h, ?_⟩
          show spec_l22Asked.l0 (k + 1) l s (i : Int) = _
          simp only [spec_l22Asked.l0]
          rw [if_pos (by omega), if_pos (by omega), if_pos (by omega), rd_nat, l1In_ok, Option.bind_some, decide_eq_true hp, if_pos rfl, wrap_id (x := (i : Int) + 1) (by omega) (by omega)]
        · refine .inr ?_
          show spec_l22Asked.l0 (k + 1) l s (i : Int) = _
          simp only [spec_l22Asked.l0]
          rw [if_pos (by omega), if_pos (by omega), if_pos (by omega), rd_nat, l1In_ok, Option.bind_some, decide_eq_false hp, if_neg (by simp), ← h, decide_eq_false hp]
          simp
      · intro k s _ h
        rw [List.drop_of_length_le (Nat.le_refl _)] at h
        show spec_l22Asked.l0 (k + 1) l s (l.length : Int) = _
        simp only [spec_l22Asked.l0]
        rw [if_neg (by omega), ← h]
        simp only [List.all_nil, List.foldl_nil, Bool.true_and]
        exact congrArg some (decide_eq_decide.2 Iff.rfl)
    · rw [if_pos (by simp; omega), decide_eq_false hl]; simp
  · rw [decide_eq_false hD]; simp [spec_l22Asked.j0]
theorem asked_out {c ls : Int} {l : List Int} (h : askedB c ls l = true) : ∃ x y z w, l = [x, y, z, w] ∧ (0 ≤ x ∧ x ≤ 1000) ∧ (0 ≤ y ∧ y ≤ 1000) ∧ (0 ≤ z ∧ z ≤ 1000) ∧ (0 ≤ w ∧ w ≤ 1000) ∧ 0 < x + y + z + w ∧ 1 ≤ c ∧ c < ls ∧ ls ≤ 10000 ∧ l.foldl (fun s x => wrap64 (s + x)) 0 = x + y + z + w := by
  unfold askedB at h
  simp only [Bool.and_eq_true, decide_eq_true_eq] at h
  obtain ⟨⟨⟨hD, hl⟩, hA⟩, hs⟩ := h
  match l, hl with
  | [x, y, z, w], _ =>
    simp only [List.all_cons, List.all_nil, Bool.and_eq_true, decide_eq_true_eq] at hA
    obtain ⟨hx, hy, hz, hw, _⟩ := hA
    have e : [x, y, z, w].foldl (fun s x => wrap64 (s + x)) 0 = x + y + z + w := by
      simp only [List.foldl_cons, List.foldl_nil]
      rw [wrap_id (x := 0 + x) (by omega) (by omega), wrap_id (x := 0 + x + y) (by omega) (by omega), wrap_id (x := 0 + x + y + z) (by omega) (by omega), wrap_id (x := 0 + x + y + z + w) (by omega) (by omega)]
      omega
    rw [e] at hs
    exact ⟨x, y, z, w, rfl, hx, hy, hz, hw, hs, hD.1, hD.2.1, hD.2.2, e⟩
theorem divisorOf_ok : ∀ (n m k : Nat), n < k → impl_divisorOf.f k (m : Int) (n : Int) = some ((Nat.gcd m n : Nat) : Int) := by
  have key : ∀ (d n m k : Nat), n ≤ d → n < k → impl_divisorOf.l0 k (m : Int) (n : Int) = some ((Nat.gcd m n : Nat) : Int) := by
    intro d
    induction d with
    | zero =>
      intro n m k hn hk
      obtain ⟨k, rfl⟩ : ∃ j, k = j + 1 := ⟨k - 1, by omega⟩
      obtain rfl : n = 0 := by omega
      simp only [impl_divisorOf.l0]
      rw [if_neg (by omega), Nat.gcd_zero_right]
    | succ d ih =>
      intro n m k hn hk
      obtain ⟨k, rfl⟩ : ∃ j, k = j + 1 := ⟨k - 1, by omega⟩
      simp only [impl_divisorOf.l0]
      by_cases h0 : n = 0
      · subst h0
        rw [if_neg (by omega), Nat.gcd_zero_right]
      · have hlt := Nat.mod_lt m (Nat.pos_of_ne_zero h0)
        rw [if_pos (by omega), if_neg (by omega), ← Int.ofNat_tmod, ih (m % n) n k (by omega) (by omega), Nat.gcd_comm n (m % n), ← Nat.gcd_rec n m, Nat.gcd_comm]
  intro n m k hk
  exact key n n m k (Nat.le_refl _) hk
theorem absOf_ok (a : Int) (h : -9223372036854775808 < a) (h2 : a ≤ 9223372036854775807) : impl_absOf.f a = some ((a.natAbs : Nat) : Int) := by
  unfold impl_absOf.f
  split
  · rw [wrap_id (by omega) (by omega)]; congr 1; omega
  · congr 1; omega
def ratioV (num den : Int) : Int × Int × Bool := if den = 0 then (0, 0, false) else (wrap64 (Int.tdiv num (Nat.gcd num.natAbs den.natAbs : Nat)), wrap64 (Int.tdiv den (Nat.gcd num.natAbs den.natAbs : Nat)), true)
theorem ratioOf_ok (num den : Int) (h : -9223372036854775808 < num) (h2 : num ≤ 9223372036854775807) (hd : 0 ≤ den) : ∀ k, num.natAbs < k → impl_ratioOf.f k num den = some (ratioV num den) := by
  intro k hk
  unfold impl_ratioOf.f ratioV
  by_cases h0 : den = 0
  · rw [if_pos h0, if_pos h0]
  · have hg := Nat.gcd_pos_of_pos_right num.natAbs (n := den.natAbs) (by omega)
    have hc := divisorOf_ok num.natAbs den.natAbs k hk
    rw [show ((den.natAbs : Nat) : Int) = den from by omega, Nat.gcd_comm] at hc
    rw [if_neg h0, if_neg h0, if_neg (by omega), absOf_ok num h h2, Option.bind_some, hc, Option.bind_some, if_neg (by omega)]
theorem ratioV_law (n d : Int) (hd : 0 < d) (hd2 : d ≤ 9223372036854775807) (hn : -9223372036854775808 < n) (hn2 : n ≤ 9223372036854775807) :
    ∃ q r, ratioV n d = (q, r, true) ∧ (n ≤ d → q ≤ r) ∧ (q ≤ 0 ↔ n ≤ 0) := by
  unfold ratioV
  rw [if_neg (by omega)]
  have hg := Nat.gcd_pos_of_pos_right n.natAbs (n := d.natAbs) (by omega)
  obtain ⟨g, hG⟩ : ∃ g : Int, g = (Nat.gcd n.natAbs d.natAbs : Nat) := ⟨_, rfl⟩
  rw [← hG]
  have g0 : 0 < g := by omega
  obtain ⟨q, hq⟩ : g ∣ n := by rw [hG, ← Int.dvd_natAbs]; exact Int.natCast_dvd_natCast.2 (Nat.gcd_dvd_left _ _)
  obtain ⟨r, hr⟩ : g ∣ d := by rw [hG, ← Int.dvd_natAbs]; exact Int.natCast_dvd_natCast.2 (Nat.gcd_dvd_right _ _)
  have a1 : n.natAbs = g.natAbs * q.natAbs := by rw [hq, Int.natAbs_mul]
  have a2 : d.natAbs = g.natAbs * r.natAbs := by rw [hr, Int.natAbs_mul]
  have b1 : q.natAbs ≤ g.natAbs * q.natAbs := Nat.le_mul_of_pos_left _ (by omega)
  have b2 : r.natAbs ≤ g.natAbs * r.natAbs := Nat.le_mul_of_pos_left _ (by omega)
  have c1 : Int.tdiv n g = q := by rw [hq]; exact Int.mul_tdiv_cancel_left _ (by omega)
  have c2 : Int.tdiv d g = r := by rw [hr]; exact Int.mul_tdiv_cancel_left _ (by omega)
  rw [c1, c2, wrap_id (x := q) (by omega) (by omega), wrap_id (x := r) (by omega) (by omega)]
  refine ⟨q, r, rfl, fun h => ?_, ?_, ?_⟩
  · rw [hq, hr] at h; exact Int.le_of_mul_le_mul_left h g0
  · intro h; rw [hq]; exact Int.mul_nonpos_of_nonneg_of_nonpos (by omega) h
  · intro h
    rcases Int.lt_or_le 0 q with k | k
    · have := Int.mul_pos g0 k; omega
    · exact k
theorem l1MostNeg_ok (a : Int) (h : -9223372036854775808 < a) (h2 : a ≤ 9223372036854775807) : spec_l1Most.f a (wrap64 (-a)) = some ((a.natAbs : Nat) : Int) := by
  unfold spec_l1Most.f
  rw [wrap_id (by omega) (by omega)]
  split <;> congr 1 <;> omega
theorem l21Common0_ok : ∀ (d n m k : Nat), n ≤ d → n < k → spec_l21Common.l0 k (m : Int) (n : Int) = some ((Nat.gcd m n : Nat) : Int) := by
  intro d
  induction d with
  | zero =>
    intro n m k hn hk
    obtain ⟨k, rfl⟩ : ∃ j, k = j + 1 := ⟨k - 1, by omega⟩
    obtain rfl : n = 0 := by omega
    simp only [spec_l21Common.l0]
    rw [if_pos (by omega), Nat.gcd_zero_right]
  | succ d ih =>
    intro n m k hn hk
    obtain ⟨k, rfl⟩ : ∃ j, k = j + 1 := ⟨k - 1, by omega⟩
    simp only [spec_l21Common.l0]
    by_cases h0 : n = 0
    · subst h0
      rw [if_pos (by omega), Nat.gcd_zero_right]
    · have hlt := Nat.mod_lt m (Nat.pos_of_ne_zero h0)
      rw [if_neg (by omega), ← Int.ofNat_tmod, ih (m % n) n k (by omega) (by omega), Nat.gcd_comm n (m % n), ← Nat.gcd_rec n m, Nat.gcd_comm]
theorem l21Reduce_ok (num den : Int) (h : -9223372036854775808 < num) (h2 : num ≤ 9223372036854775807) (g : -9223372036854775808 < den) (g2 : den ≤ 9223372036854775807) (h0 : den ≠ 0) :
    ∀ k, den.natAbs < k → spec_l21Reduce.f k num den = some (wrap64 (Int.tdiv num (Nat.gcd num.natAbs den.natAbs : Nat)), wrap64 (Int.tdiv den (Nat.gcd num.natAbs den.natAbs : Nat))) := by
  intro k hk
  have hg := Nat.gcd_pos_of_pos_right num.natAbs (n := den.natAbs) (by omega)
  unfold spec_l21Reduce.f spec_l21Common.f
  rw [l1MostNeg_ok num h h2, Option.bind_some, l1MostNeg_ok den g g2, Option.bind_some, l21Common0_ok _ _ _ k (Nat.le_refl _) hk, Option.bind_some, if_neg (by omega)]
theorem mul_le_big {x y A B : Int} (h0 : 0 ≤ x) (h1 : x ≤ A) (g0 : 0 ≤ y) (g1 : y ≤ B) : 0 ≤ x * y ∧ x * y ≤ A * B :=
  ⟨Int.mul_nonneg h0 g0, Int.mul_le_mul h1 g1 g0 (Int.le_trans h0 h1)⟩
theorem least_ok (a b : Int) : spec_l1Least.f a b = some (mn a b) := by
  unfold spec_l1Least.f mn
  split <;> split <;> congr 1 <;> omega
theorem FnValue : laws_FnValue.Pure := by
  intro l0 hl _ hw
  have hb := bytes_of l0 hw
  by_cases hbig : (l0.length : Int) > 65536
  · exact ⟨0, by simp [laws_FnValue.f, laws_rBig.f, hbig]⟩
  obtain ⟨c, ls, l, hl4, hdraw⟩ := DrawExpenseOf_ev l0 hb
  obtain ⟨c2, ls2, a2, b2, hdraw2⟩ := DrawShouldProtect_ok l0 hb
  have hprot : ∃ yk, impl_ShouldProtect.f c2 ls2 a2 b2 = some yk ∧ spec_ShouldProtect.f c2 ls2 a2 b2 = some yk := by
    unfold spec_ShouldProtect.f impl_ShouldProtect.f
    simp only [Option.bind_some, isDecision_ok, l22Decision_ok, within_ok, l1In_ok]
    rw [Int.mul_comm a2 ls2]
    by_cases h1 : 1 ≤ c2 ∧ c2 < ls2 ∧ ls2 ≤ 10000 <;> by_cases h2 : 1 ≤ b2 ∧ b2 ≤ 1000 <;> by_cases h3 : 0 ≤ a2 ∧ a2 ≤ b2 <;> simp [h1, h2, h3]
  obtain ⟨⟨yk1, yk2⟩, hi1, hs1⟩ := hprot
  have hj3 : ∀ k, laws_FnValue.j3 (k + 1) l0 false = some true := by
    intro k
    simp [laws_FnValue.j3, hdraw2, hi1, hs1]
  have hi := areCounts_ok c ls l
  have hs := l22Asked_ok c ls l
  have hu := sumOf_ok l (by omega)
  cases hb0 : askedB c ls l with
  | false =>
    obtain ⟨K, hK⟩ := hdraw
    have hd := hK (K + 20 + 4) (by omega)
    refine ⟨K + 20 + 4, ?_⟩
    have i1 : ∀ j, 7 ≤ j → impl_areCounts.f j c ls l = some false := fun j hj => (hi j (by omega)).trans (congrArg some hb0)
    have s1 : ∀ j, 7 ≤ j → spec_l22Asked.f j c ls l = some false := fun j hj => (hs j (by omega)).trans (congrArg some hb0)
    unfold laws_FnValue.f
    simp only [laws_rBig.f, Option.bind_some, decide_eq_false hbig, spec_DrawValueOf.f, hd, impl_ExpenseOf.f, impl_BestWithout.f, impl_PerfectExpense.f, spec_ExpenseOf.f, i1 (K + 20 + 4) (by omega), s1 (K + 20 + 4) (by omega)]
    simp [laws_FnValue.j0, laws_FnValue.j1, laws_FnValue.j2, spec_BestWithout.f, impl_ValueOf.f, spec_ValueOf.f, impl_IsWorthless.f, i1, s1, hj3]
  | true =>
    obtain ⟨x, y, z, w, rfl, hx, hy, hz, hw, hp, h1, h2, h3, e⟩ := asked_out hb0
    rw [e] at hu
    have b1 := mul_le_big (x := x + y + z + w) (y := c) (A := 4000) (B := 10000) (by omega) (by omega) (by omega) (by omega)
    have b2 := mul_le_big (x := x + y) (y := ls) (A := 4000) (B := 10000) (by omega) (by omega) (by omega) (by omega)
    have b3 := mul_le_big (x := x + y) (y := c) (A := 4000) (B := 10000) (by omega) (by omega) (by omega) (by omega)
    have b4 := mul_le_big (x := x + z) (y := c) (A := 4000) (B := 10000) (by omega) (by omega) (by omega) (by omega)
    have b5 := mul_le_big (x := y) (y := ls) (A := 4000) (B := 10000) (by omega) (by omega) (by omega) (by omega)
    have o1 : (x + y) * c ≤ (x + y + z + w) * c := Int.mul_le_mul_of_nonneg_right (by omega) (by omega)
    have o2 : (x + y) * c ≤ (x + y) * ls := Int.mul_le_mul_of_nonneg_left (by omega) (by omega)
    have o3 : y * c ≤ y * ls := Int.mul_le_mul_of_nonneg_left (by omega) (by omega)
    have o4 : x * c ≤ (x + z) * c := Int.mul_le_mul_of_nonneg_right (by omega) (by omega)
    have o5 : (x + y) * c = x * c + y * c := Int.add_mul _ _ _
    have q1 : wrap64 (x + y + z) = x + y + z := wrap_id (by omega) (by omega)
    have q10 : wrap64 (x + y + z + w) = x + y + z + w := wrap_id (by omega) (by omega)
    have q2 : wrap64 (x + y) = x + y := wrap_id (by omega) (by omega)
    have q3 : wrap64 (x + z) = x + z := wrap_id (by omega) (by omega)
    have q4 : wrap64 ((x + y + z + w) * c) = (x + y + z + w) * c := wrap_id (by omega) (by omega)
    have q5 : wrap64 ((x + y) * ls) = (x + y) * ls := wrap_id (by omega) (by omega)
    have q6 : wrap64 ((x + y) * c) = (x + y) * c := wrap_id (by omega) (by omega)
    have q7 : wrap64 ((x + z) * c) = (x + z) * c := wrap_id (by omega) (by omega)
    have q11 : wrap64 (y * ls) = y * ls := wrap_id (by omega) (by omega)
    have q12 : wrap64 ((x + z) * c + y * ls) = (x + z) * c + y * ls := wrap_id (by omega) (by omega)
    obtain ⟨M, hM⟩ : ∃ M, M = mn ((x + y + z + w) * c) ((x + y) * ls) := ⟨_, rfl⟩
    have m1 : (x + y) * c ≤ M ∧ M ≤ 40000000 := by
      rw [hM]; unfold mn; split <;> omega
    obtain ⟨E, hE⟩ : ∃ E, E = (x + z) * c + y * ls := ⟨_, rfl⟩
    obtain ⟨F, hF⟩ : ∃ F, F = (x + y) * c := ⟨_, rfl⟩
    have hEF : F ≤ E := by omega
    have hFM : F ≤ M := by omega
    have q8 : wrap64 (M - E) = M - E := wrap_id (by omega) (by omega)
    have q9 : wrap64 (M - F) = M - F := wrap_id (by omega) (by omega)
    have r1 := ratioOf_ok (M - E) (M - F) (by omega) (by omega) (by omega)
    have r2 := l21Reduce_ok (M - E) (M - F) (by omega) (by omega) (by omega) (by omega)
    obtain ⟨B, hB⟩ : ∃ B, B = decide ((x + y + z + w) * c ≤ (x + y) * ls) := ⟨_, rfl⟩
    obtain ⟨N, hN⟩ : ∃ N, N = (M - E).natAbs + (M - F).natAbs + 20 := ⟨_, rfl⟩
    have i1 : ∀ j, N ≤ j → impl_areCounts.f j c ls [x, y, z, w] = some true := fun j hj => (hi j (by omega)).trans (congrArg some hb0)
    have s1 : ∀ j, N ≤ j → spec_l22Asked.f j c ls [x, y, z, w] = some true := fun j hj => (hs j (by omega)).trans (congrArg some hb0)
    have u1 : ∀ j, N ≤ j → impl_sumOf.f j [x, y, z, w] = some (x + y + z + w) := fun j hj => hu j (by simp only [List.length_cons, List.length_nil]; omega)
    have x1 : impl_expenseOf.f c ls [x, y, z, w] = some E := by
      simp [impl_expenseOf.f, rd, q3, q7, q11, q12, hE]
    have x2 : spec_l22Expense.f c ls [x, y, z, w] = some E := by
      simp [spec_l22Expense.f, rd, q3, q7, q11, q12, hE]
    have x3 : ∀ j, N ≤ j → impl_bestWithout.f j c ls [x, y, z, w] = some (M, B) := by
      intro j hj
      simp [impl_bestWithout.f, u1 j hj, rd, q2, q4, q5, hM, hB]
    have x4 : spec_l22Without.f c ls [x, y, z, w] = some ((x + y + z + w) * c, (x + y) * ls) := by
      simp [spec_l22Without.f, rd, q1, q2, q10, q4, q5]
    have x5 : impl_perfectExpense.f c ls [x, y, z, w] = some F := by
      simp [impl_perfectExpense.f, rd, q2, q6, hF]
    have f1 : ∀ j, N ≤ j → impl_ExpenseOf.f j c ls [x, y, z, w] = some (E, true) := by
      intro j hj; simp [impl_ExpenseOf.f, i1 j hj, x1]
    have f2 : ∀ j, N ≤ j → spec_ExpenseOf.f j c ls [x, y, z, w] = some (E, true) := by
      intro j hj; simp [spec_ExpenseOf.f, s1 j hj, x2]
    have f3 : ∀ j, N ≤ j → impl_BestWithout.f j c ls [x, y, z, w] = some (M, B, true) := by
      intro j hj; simp [impl_BestWithout.f, i1 j hj, x3 j hj]
    have f4 : ∀ j, N ≤ j → spec_BestWithout.f j c ls [x, y, z, w] = some (M, B, true) := by
      intro j hj; simp [spec_BestWithout.f, s1 j hj, x4, least_ok, hM, hB]
    have f5 : ∀ j, N ≤ j → impl_PerfectExpense.f j c ls [x, y, z, w] = some (F, true) := by
      intro j hj; simp [impl_PerfectExpense.f, i1 j hj, x5]
    have f6 : ∀ j, N ≤ j → impl_IsWorthless.f j c ls [x, y, z, w] = some (decide (E ≥ M), true) := by
      intro j hj; simp [impl_IsWorthless.f, i1 j hj, x3 j hj, x1]
    have f7 : ∀ j, N ≤ j → impl_ValueOf.f j c ls [x, y, z, w] = some (ratioV (M - E) (M - F)) := by
      intro j hj; simp [impl_ValueOf.f, i1 j hj, x3 j hj, x1, x5, impl_fraction.f, q8, q9, r1 j (by omega)]
    have f8 : ∀ j, N ≤ j → spec_ValueOf.f j c ls [x, y, z, w] = some (ratioV (M - E) (M - F)) := by
      intro j hj
      simp only [spec_ValueOf.f, s1 j hj, Option.bind_some, if_true, x4, least_ok, ← hM, x2]
      simp [rd, q2, q6]
      rw [← hF]
      by_cases h0 : M = F
      · simp [h0, ratioV]
      · rw [if_neg h0, q8, q9, r2 (by omega) j (by omega)]
        simp [ratioV, show M - F ≠ 0 from by omega]
    obtain ⟨K, hK⟩ := hdraw
    have hd := hK (K + N + 4) (by omega)
    refine ⟨K + N + 4, ?_⟩
    have v1 : ∃ q r t, ratioV (M - E) (M - F) = (q, r, t) ∧ (t = true → q ≤ r ∧ (q ≤ 0 ↔ M ≤ E)) ∧ (t = true ↔ F < M) := by
      by_cases h0 : M = F
      · exact ⟨0, 0, false, by simp [ratioV, h0], by simp, by simp; omega⟩
      · obtain ⟨q, r, e1, e2, e3⟩ := ratioV_law (M - E) (M - F) (by omega) (by omega) (by omega) (by omega)
        exact ⟨q, r, true, e1, fun _ => ⟨e2 (by omega), e3.trans ⟨fun h => by omega, fun h => by omega⟩⟩, by simp; omega⟩
    obtain ⟨q, r, t, ev, t1, t2⟩ := v1
    rw [ev] at f7 f8
    unfold laws_FnValue.f
    simp only [laws_rBig.f, Option.bind_some, decide_eq_false hbig, spec_DrawValueOf.f, hd, f1 (K + N + 4) (by omega), f2 (K + N + 4) (by omega), f3 (K + N + 4) (by omega), f5 (K + N + 4) (by omega)]
    simp only [if_true, bne_self_eq_false, Bool.false_eq_true, if_false]
    simp only [show K + N + 4 = (((K + N) + 1) + 1 + 1) + 1 from rfl, laws_FnValue.j0, f4 (K + N + 1 + 1 + 1) (by omega), Option.bind_some, if_true, bne_self_eq_false, Bool.false_eq_true, if_false]
    rw [if_neg (by omega), decide_eq_false (by omega)]
    simp only [laws_FnValue.j1, f7 (K + N + 1 + 1) (by omega), f8 (K + N + 1 + 1) (by omega), Option.bind_some, if_true, bne_self_eq_false, Bool.false_eq_true, if_false]
    simp only [laws_FnValue.j2, f6 (K + N + 1) (by omega), Option.bind_some, if_true, bne_self_eq_false, Bool.false_eq_true, if_false]
    cases t with
    | false =>
      have : ¬ F < M := fun h => by simpa using t2.2 h
      simp [hj3, show ¬ M > F from this]
    | true =>
      obtain ⟨a1, a2⟩ := t1 rfl
      have a3 : F < M := t2.1 rfl
      rw [if_pos rfl, if_neg (by omega)]
      by_cases a4 : M ≤ E
      · simp [hj3, a4, a2.2 a4, show M > F from a3]
      · simp [hj3, a4, show ¬ q ≤ 0 from fun h => a4 (a2.1 h), show M > F from a3]
end Go.Proofs.Ytmgckbjdhjbciaa.Pure
