/-
  The pure statement of the law FnDecisions: what its printed function answers is 'true' for all numbers and lists of its kinds. Conditions: the kinds' own bounds, as the statement lays them.
-/
import Derived.Test.YtmgckbjdhjbciaaXFnDecisionsx9
import Derived.DataShut
namespace Go.Proofs.Ytmgckbjdhjbciaa.Pure
open Go.RowKit Go.Proofs.Ytmgckbjdhjbciaa.XFnDecisions Go.Proofs.YtmgckbjdhjbciaaW.PrintWords Go.Proofs.YtmgckbjdhjbciaaW.PrintLast Go.Proofs.YtmgckbjdhjbciaaW.PrintMore
set_option linter.unusedVariables false
set_option linter.unusedSimpArgs false
theorem wrap_id {x : Int} (h0 : -9223372036854775808 ≤ x) (h1 : x ≤ 9223372036854775807) : wrap64 x = x := by unfold wrap64; omega
theorem rd_nat (xs : List Int) (i : Nat) : rd xs (i : Int) = xs.getD i 0 := by simp [rd]
theorem getD_drop {α : Type} (xs : List α) (z : α) (i : Nat) (h : i < xs.length) : xs.drop i = xs.getD i z :: xs.drop (i + 1) := by
  rw [List.drop_eq_getElem_cons h, List.getD_eq_getElem?_getD, List.getElem?_eq_getElem h]; rfl
def Evt (P : Nat → Prop) : Prop := ∃ K, ∀ k, K ≤ k → P k
theorem Evt.all {P : Nat → Prop} (h : ∀ k, P k) : Evt P := ⟨0, fun k _ => h k⟩
theorem Evt.above {P : Nat → Prop} (K : Nat) (h : ∀ k, K < k → P k) : Evt P := ⟨K + 1, fun k hk => h k hk⟩
theorem Evt.and {P Q : Nat → Prop} (h : Evt P) (g : Evt Q) : Evt fun k => P k ∧ Q k := by
  obtain ⟨K, h⟩ := h
  obtain ⟨M, g⟩ := g
  exact ⟨K + M, fun k hk => ⟨h k (by omega), g k (by omega)⟩⟩
theorem Evt.mono {P Q : Nat → Prop} (h : Evt P) (g : ∀ k, P k → Q k) : Evt Q := by
  obtain ⟨K, h⟩ := h
  exact ⟨K, fun k hk => g k (h k hk)⟩
theorem Evt.succ {Q : Nat → Prop} (h : Evt fun k => Q (k + 1)) : Evt Q := by
  obtain ⟨K, h⟩ := h
  refine ⟨K + 1, fun k hk => ?_⟩
  obtain ⟨m, rfl⟩ : ∃ m, k = m + 1 := ⟨k - 1, by omega⟩
  exact h m (by omega)
theorem Evt.add {Q : Nat → Prop} (c : Nat) (h : Evt fun k => Q (k + c)) : Evt Q := by
  obtain ⟨K, h⟩ := h
  refine ⟨K + c, fun k hk => ?_⟩
  obtain ⟨m, rfl⟩ : ∃ m, k = m + c := ⟨k - c, by omega⟩
  exact h m (by omega)
theorem Evt.shift {Q : Nat → Prop} (h : Evt Q) : Evt fun k => Q (k + 1) := by
  obtain ⟨K, h⟩ := h
  exact ⟨K, fun k hk => h _ (by omega)⟩
theorem Evt.at {P : Nat → Prop} (h : Evt P) : ∃ K, ∀ j, P (K + j) := by
  obtain ⟨K, h⟩ := h
  exact ⟨K, fun j => h _ (by omega)⟩
theorem Evt.pos : Evt fun k => ∃ m, k = m + 1 := ⟨1, fun k hk => ⟨k - 1, by omega⟩⟩
theorem evt_loop {σ ρ : Type} (n : Nat) (L : Nat → σ → Int → Option ρ) (v : ρ) (Inv : Nat → σ → Prop)
    (step : ∀ i s, i < n → Inv i s → (∃ s', Inv (i + 1) s' ∧ ∃ c, Evt fun k => L (k + c) s (i : Int) = L k s' ((i : Int) + 1)) ∨ Evt fun k => L k s (i : Int) = some v)
    (fin : ∀ s, Inv n s → Evt fun k => L k s (n : Int) = some v) :
    ∀ i s, i ≤ n → Inv i s → Evt fun k => L k s (i : Int) = some v := by
  have key : ∀ d i s, i + d = n → Inv i s → Evt fun k => L k s (i : Int) = some v := by
    intro d
    induction d with
    | zero =>
      intro i s hi h
      obtain rfl : i = n := by omega
      exact fin s h
    | succ d ih =>
      intro i s hi h
      rcases step i s (by omega) h with ⟨s', h', c, e⟩ | e
      · have h2 := ih (i + 1) s' (by omega) h'
        rw [show ((i + 1 : Nat) : Int) = (i : Int) + 1 from by omega] at h2
        exact Evt.add c ((e.and h2).mono fun k hk => hk.1.trans hk.2)
      · exact e
  intro i s hi h
  exact key (n - i) i s (by omega) h
theorem evt_loop0 {σ ρ : Type} (n : Nat) (L : Nat → σ → Int → Option ρ) (v : ρ) (Inv : Nat → σ → Prop)
    (step : ∀ i s, i < n → Inv i s → (∃ s', Inv (i + 1) s' ∧ ∃ c, Evt fun k => L (k + c) s (i : Int) = L k s' ((i : Int) + 1)) ∨ Evt fun k => L k s (i : Int) = some v)
    (fin : ∀ s, Inv n s → Evt fun k => L k s (n : Int) = some v) (s : σ) (h0 : Inv 0 s) : Evt fun k => L k s 0 = some v :=
  evt_loop n L v Inv step fin 0 s (Nat.zero_le _) h0
theorem getD_lt {α : Type} (xs : List α) (z : α) (i : Nat) (h : i < xs.length) : xs.getD i z = xs[i] := by
  rw [List.getD_eq_getElem?_getD, List.getElem?_eq_getElem h]; rfl
theorem getD_set_self {α : Type} (xs : List α) (z v : α) (i : Nat) (h : i < xs.length) : (xs.set i v).getD i z = v := by
  rw [List.getD_eq_getElem?_getD, List.getElem?_set_self h]; rfl
theorem getD_set_ne {α : Type} (xs : List α) (z v : α) (i j : Nat) (h : i ≠ j) : (xs.set i v).getD j z = xs.getD j z := by
  rw [List.getD_eq_getElem?_getD, List.getElem?_set_ne h, List.getD_eq_getElem?_getD]
theorem getD_map {α β : Type} (f : α → β) (xs : List α) (z : α) (y : β) (i : Nat) (h : i < xs.length) : (xs.map f).getD i y = f (xs.getD i z) := by
  rw [getD_lt _ _ _ (by simpa using h), getD_lt _ _ _ h, List.getElem_map]
theorem list_ext_getD {α : Type} (xs ys : List α) (z : α) (h : xs.length = ys.length) (e : ∀ j, j < xs.length → xs.getD j z = ys.getD j z) : xs = ys := by
  apply List.ext_getElem h
  intro j h1 h2
  have := e j h1
  rwa [getD_lt _ _ _ h1, getD_lt _ _ _ h2] at this
theorem evt_loop_ex {σ ρ : Type} (n : Nat) (L : Nat → σ → Int → Option ρ) (R : ρ → Prop) (Inv : Nat → σ → Prop)
    (step : ∀ i s, i < n → Inv i s → (∃ s', Inv (i + 1) s' ∧ ∃ c, Evt fun k => L (k + c) s (i : Int) = L k s' ((i : Int) + 1)) ∨ ∃ v, R v ∧ Evt fun k => L k s (i : Int) = some v)
    (fin : ∀ s, Inv n s → ∃ v, R v ∧ Evt fun k => L k s (n : Int) = some v) (s : σ) (h0 : Inv 0 s) : ∃ v, R v ∧ Evt fun k => L k s 0 = some v := by
  have key : ∀ d i s, i + d = n → Inv i s → ∃ v, R v ∧ Evt fun k => L k s (i : Int) = some v := by
    intro d
    induction d with
    | zero =>
      intro i s hi h
      obtain rfl : i = n := by omega
      exact fin s h
    | succ d ih =>
      intro i s hi h
      rcases step i s (by omega) h with ⟨s', h', c, e⟩ | e
      · obtain ⟨v, hv, h2⟩ := ih (i + 1) s' (by omega) h'
        rw [show ((i + 1 : Nat) : Int) = (i : Int) + 1 from by omega] at h2
        exact ⟨v, hv, Evt.add c ((e.and h2).mono fun k hk => hk.1.trans hk.2)⟩
      · exact e
  exact key n 0 s (by omega) h0
theorem u64_range (x : Int) : 0 ≤ IntKind.u64.wrap x ∧ IntKind.u64.wrap x ≤ 18446744073709551615 := by
  simp [IntKind.wrap, IntKind.signed, IntKind.bits]; omega
theorem and255 (x : Int) : 0 ≤ wrap64 (Go.bits .and .u64 (IntKind.u64.wrap x / 1099511627776) 255) ∧ wrap64 (Go.bits .and .u64 (IntKind.u64.wrap x / 1099511627776) 255) ≤ 255 := by
  obtain ⟨h0, h1⟩ := u64_range x
  obtain ⟨y, hy⟩ : ∃ y, y = IntKind.u64.wrap x / 1099511627776 := ⟨_, rfl⟩
  rw [← hy]
  have h := bits_and_u64_nat y.toNat 255 (by omega) (by omega)
  have e : ((y.toNat : Nat) : Int) = y := by omega
  have h2 : bits BinOp.and IntKind.u64 y 255 = ((y.toNat &&& 255 : Nat) : Int) := by rw [← e]; exact h
  have h3 : y.toNat &&& 255 ≤ 255 := Nat.and_le_right
  rw [show Go.bits .and .u64 y 255 = bits BinOp.and IntKind.u64 y 255 from rfl, h2, wrap_id (by omega) (by omega)]
  omega
theorem next_ok (l : List Int) (hb : ∀ x ∈ l, 0 ≤ x ∧ x ≤ 255) (p s : Int) (h0 : 0 ≤ p) (h1 : p ≤ 4611686018427387904) : ∃ v s', spec_l1Cur_next.f l p s = some (v, p + 1, s') ∧ 0 ≤ v ∧ v ≤ 255 := by
  unfold spec_l1Cur_next.f
  have e : wrap64 (p + 1) = p + 1 := wrap_id (by omega) (by omega)
  by_cases c : p < (l.length : Int)
  · have hm : rd l p ∈ l := by
      have : rd l p = l.getD p.toNat 0 := by simp [rd]
      rw [this, List.getD_eq_getElem?_getD, List.getElem?_eq_getElem (by omega), Option.getD_some]
      exact List.getElem_mem _
    obtain ⟨b0, b1⟩ := hb _ hm
    rw [if_pos c, if_pos h0, e, if_pos (by omega)]
    exact ⟨_, _, rfl, by rw [wrap_id (by omega) (by omega)]; exact ⟨b0, b1⟩⟩
  · rw [if_neg c, e, if_neg (by omega)]
    exact ⟨_, _, rfl, and255 _⟩
theorem tmod_range (x a : Int) (h0 : 0 ≤ x) (ha : 1 ≤ a) : 0 ≤ Int.tmod x a ∧ Int.tmod x a < a := ⟨Int.tmod_nonneg a h0, Int.tmod_lt_of_pos x (by omega)⟩
theorem pick_ok (l : List Int) (hb : ∀ x ∈ l, 0 ≤ x ∧ x ≤ 255) (p s a : Int) (h0 : 0 ≤ p) (h1 : p ≤ 4611686018427387000) (ha : 1 ≤ a) :
    ∃ v p' s', spec_l1Cur_pick.f l p s a = some (v, p', s') ∧ p ≤ p' ∧ p' ≤ p + 2 ∧ 0 ≤ v ∧ v < a := by
  unfold spec_l1Cur_pick.f
  by_cases c : a ≤ 1
  · rw [if_pos c]; exact ⟨0, p, s, rfl, by omega, by omega, by omega, by omega⟩
  · obtain ⟨v, s1, e1, v0, v1⟩ := next_ok l hb p s h0 (by omega)
    rw [if_neg c, e1, Option.bind_some]
    by_cases c2 : a > 200
    · obtain ⟨u, s2, e2, u0, u1⟩ := next_ok l hb (p + 1) s1 (by omega) (by omega)
      rw [if_pos c2]; dsimp only; rw [e2, Option.bind_some, if_neg (by omega)]
      have q : 0 ≤ wrap64 (wrap64 (v * 256) + u) := by rw [wrap_id (x := v * 256) (by omega) (by omega), wrap_id (by omega) (by omega)]; omega
      exact ⟨_, _, _, rfl, by dsimp only; omega, by dsimp only; omega, tmod_range _ a q ha⟩
    · rw [if_neg c2, if_neg (by omega)]
      exact ⟨_, _, _, rfl, by dsimp only; omega, by dsimp only; omega, tmod_range _ a v0 ha⟩
theorem among_ok (l : List Int) (hb : ∀ x ∈ l, 0 ≤ x ∧ x ≤ 255) (p s : Int) (h0 : 0 ≤ p) (h1 : p ≤ 4611686018427387000) (xs : List Int) (hx : 1 ≤ xs.length) :
    ∃ v p' s', spec_l1Cur_among.f l p s xs = some (v, p', s') ∧ p ≤ p' ∧ p' ≤ p + 2 ∧ v ∈ xs := by
  obtain ⟨v, p', s', e, q0, q1, v0, v1⟩ := pick_ok l hb p s (xs.length : Int) h0 h1 (by omega)
  unfold spec_l1Cur_among.f
  rw [e, Option.bind_some, if_pos v0, if_pos v1]
  refine ⟨_, _, _, rfl, q0, q1, ?_⟩
  have : rd xs v = xs.getD v.toNat 0 := by simp [rd]
  dsimp only
  rw [this, List.getD_eq_getElem?_getD, List.getElem?_eq_getElem (by omega), Option.getD_some]
  exact List.getElem_mem _
theorem bytes_of (l : List Int) (h : ∀ x ∈ l, (Lit.int .u8 x).wf = true) : ∀ x ∈ l, 0 ≤ x ∧ x ≤ 255 := by
  intro x hx
  have := h x hx
  simpa [Lit.wf, IntKind.min, IntKind.max, IntKind.signed, IntKind.bits] using this
theorem chances_l1 (l : List Int) (hb : ∀ x ∈ l, 0 ≤ x ∧ x ≤ 255) : ∀ (m : Nat) (xs : List S102) (p s : Int), xs.length + m = 45 → 0 ≤ p → p + 2 * m ≤ 4611686018427380000 →
    ∃ r : List S102 × Int × Int, (r.1.length ≤ 45 ∧ p ≤ r.2.1 ∧ r.2.1 ≤ p + 2 * m + 2) ∧ Evt fun k => spec_l1Cur_chances.l1 k xs l p s = some r := by
  intro m
  induction m with
  | zero =>
    intro xs p s hx h0 h1
    obtain ⟨v, p1, s1, e1, a1, b1, v0, v1⟩ := pick_ok l hb p s 2 h0 (by omega) (by omega)
    refine ⟨(xs, p1, s1), ⟨by dsimp only; omega, by dsimp only; omega, by dsimp only; omega⟩, Evt.succ (Evt.all fun k => ?_)⟩
    simp only [spec_l1Cur_chances.l1]
    rw [e1, Option.bind_some, wrap_id (by omega) (by omega), if_neg (by omega)]
  | succ m ih =>
    intro xs p s hx h0 h1
    obtain ⟨v, p1, s1, e1, a1, b1, v0, v1⟩ := pick_ok l hb p s 2 h0 (by omega) (by omega)
    by_cases c : (xs.length : Int) < 40 + v
    · obtain ⟨r, ⟨r1, r2, r3⟩, ev⟩ := ih (xs ++ [(⟨2, (((xs.length : Int) % 4) == 0)⟩ : S102)]) p1 s1 (by simp; omega) (by omega) (by omega)
      refine ⟨r, ⟨r1, by omega, by omega⟩, Evt.succ (ev.mono fun k hk => ?_)⟩
      simp only [spec_l1Cur_chances.l1]
      rw [e1, Option.bind_some, wrap_id (by omega) (by omega), if_pos c, if_pos (by omega)]; exact hk
    · refine ⟨(xs, p1, s1), ⟨by dsimp only; omega, by dsimp only; omega, by dsimp only; omega⟩, Evt.succ (Evt.all fun k => ?_)⟩
      simp only [spec_l1Cur_chances.l1]
      rw [e1, Option.bind_some, wrap_id (by omega) (by omega), if_neg c]
theorem chances_l2 (l : List Int) (n : Nat) (hn : n ≤ 45) (xs : List S102) (hx : xs.length = n) (p s : Int) :
    ∃ r : List S102 × Int × Int, (r.1.length = n ∧ r.2.1 = p) ∧ Evt fun k => spec_l1Cur_chances.l2 k xs 0 l p s = some r := by
  refine evt_loop_ex n (fun k (q : List S102) i => spec_l1Cur_chances.l2 k q i l p s) _ (fun i q => q.length = n) ?_ ?_ xs hx
  · rintro i q hi hq
    have e : rd_T102 q (i : Int) = q.getD i z102 := by unfold rd_T102; rw [Int.toNat_natCast]
    refine .inl ⟨q.set i (⟨(q.getD i z102).f0, true⟩ : S102), by rw [List.length_set]; exact hq, 1, Evt.all fun k => ?_⟩
    show spec_l1Cur_chances.l2 (k + 1) q (i : Int) l p s = _
    simp only [spec_l1Cur_chances.l2]
    rw [if_pos (by omega), if_pos (by omega), wrap_id (by omega) (by omega), e, Int.toNat_natCast]
  · rintro q hq
    refine ⟨(q, p, s), ⟨hq, rfl⟩, Evt.succ (Evt.all fun k => ?_)⟩
    show spec_l1Cur_chances.l2 (k + 1) q (n : Int) l p s = _
    simp only [spec_l1Cur_chances.l2]
    rw [if_neg (by omega)]
theorem chances_l0 (l : List Int) (hb : ∀ x ∈ l, 0 ≤ x ∧ x ≤ 255) : ∀ (n : Nat) (xs : List S102) (p s : Int), xs.length + n ≤ 12 → 0 ≤ p → p + 4 * n ≤ 4611686018427370000 →
    ∃ r : List S102 × Int × Int, (r.1.length ≤ 45 ∧ p ≤ r.2.1 ∧ r.2.1 ≤ p + 4 * n + 100) ∧ Evt fun k => spec_l1Cur_chances.l0 k xs (n : Int) l p s = some r := by
  intro n
  induction n with
  | zero =>
    intro xs p s hx h0 h1
    obtain ⟨v, p1, s1, e1, a1, b1, v0, v1⟩ := pick_ok l hb p s 40 h0 (by omega) (by omega)
    obtain ⟨u, p2, s2, e2, a2, b2, _⟩ := among_ok l hb p1 s1 (by omega) (by omega) [-1, 11] (by decide)
    obtain ⟨q3, ⟨r1, r2, r3⟩, ev3⟩ := chances_l1 l hb (45 - xs.length) xs p1 s1 (by omega) (by omega) (by omega)
    obtain ⟨q4, ⟨t1, t2⟩, ev4⟩ := chances_l2 l xs.length (by omega) xs rfl p1 s1
    by_cases k0 : v = 0
    · refine ⟨(xs ++ [(⟨u, false⟩ : S102)], p2, s2), ⟨by simp; omega, by dsimp only; omega, by dsimp only; omega⟩, Evt.succ (Evt.all fun k => ?_)⟩
      simp only [spec_l1Cur_chances.l0]
      rw [if_neg (by omega), e1, Option.bind_some, if_pos k0]; dsimp only
      rw [e2, Option.bind_some, if_pos (by omega)]
    · by_cases k1 : v = 1
      · refine ⟨q3, ⟨r1, by omega, by omega⟩, Evt.succ (ev3.mono fun k hk => ?_)⟩
        simp only [spec_l1Cur_chances.l0]
        rw [if_neg (by omega), e1, Option.bind_some, if_neg k0, if_pos k1]; exact hk
      · by_cases k2 : v = 2
        · refine ⟨q4, ⟨by omega, by omega, by omega⟩, Evt.succ (ev4.mono fun k hk => ?_)⟩
          simp only [spec_l1Cur_chances.l0]
          rw [if_neg (by omega), e1, Option.bind_some, if_neg k0, if_neg k1, if_pos k2]; exact hk
        · refine ⟨(xs, p1, s1), ⟨by dsimp only; omega, by dsimp only; omega, by dsimp only; omega⟩, Evt.succ (Evt.all fun k => ?_)⟩
          simp only [spec_l1Cur_chances.l0]
          rw [if_neg (by omega), e1, Option.bind_some, if_neg k0, if_neg k1, if_neg k2]
  | succ n ih =>
    intro xs p s hx h0 h1
    obtain ⟨u, p2, s2, e2, a2, b2, _⟩ := among_ok l hb p s h0 (by omega) [0, 1, 3, 5, 5, 8, 10] (by decide)
    obtain ⟨v, p1, s1, e1, a1, b1, v0, v1⟩ := pick_ok l hb p2 s2 10 (by omega) (by omega) (by omega)
    obtain ⟨r, ⟨r1, r2, r3⟩, ev⟩ := ih (xs ++ [(⟨u, decide (v < u)⟩ : S102)]) p1 s1 (by simp; omega) (by omega) (by omega)
    refine ⟨r, ⟨r1, by omega, by omega⟩, Evt.succ (ev.mono fun k hk => ?_)⟩
    simp only [spec_l1Cur_chances.l0]
    rw [if_pos (by omega), e2, Option.bind_some]; dsimp only
    rw [e1, Option.bind_some, if_pos (by omega), wrap_id (by omega) (by omega), show (((n + 1 : Nat) : Int) - 1) = (n : Int) from by omega]; exact hk
theorem chances_draw (l : List Int) (hb : ∀ x ∈ l, 0 ≤ x ∧ x ≤ 255) (p s : Int) (h0 : 0 ≤ p) (h1 : p ≤ 4611686018427360000) :
    ∃ r : List S102 × Int × Int, (r.1.length ≤ 45 ∧ p ≤ r.2.1 ∧ r.2.1 ≤ p + 200) ∧ Evt fun k => spec_l1Cur_chances.f k l p s = some r := by
  obtain ⟨v, p1, s1, e1, a1, b1, v0, v1⟩ := pick_ok l hb p s 10 h0 (by omega) (by omega)
  obtain ⟨r, ⟨r1, r2, r3⟩, ev⟩ := chances_l0 l hb v.toNat [] p1 s1 (by simp; omega) (by omega) (by omega)
  refine ⟨r, ⟨r1, by omega, by omega⟩, ev.mono fun k hk => ?_⟩
  unfold spec_l1Cur_chances.f
  rw [e1, Option.bind_some]
  rw [show ((v.toNat : Nat) : Int) = v from by omega] at hk
  exact hk
theorem DrawIsValidChances_ev (l : List Int) (hb : ∀ x ∈ l, 0 ≤ x ∧ x ≤ 255) : ∃ cs : List S102, cs.length ≤ 45 ∧ Evt fun k => spec_DrawIsValidChances.f k l = some cs := by
  obtain ⟨r, ⟨hr, _⟩, ev⟩ := chances_draw l hb 0 0 (by omega) (by omega)
  refine ⟨r.1, hr, ev.mono fun k hk => ?_⟩
  unfold spec_DrawIsValidChances.f
  rw [hk, Option.bind_some]
theorem tdiv11 (v : Int) (v0 : 0 ≤ v) (v1 : v < 24) : 0 ≤ Int.tdiv v 11 ∧ Int.tdiv v 11 ≤ 2 := by
  rw [Int.tdiv_eq_ediv_of_nonneg v0]; omega
theorem DrawDecideAt_ev (l : List Int) (hb : ∀ x ∈ l, 0 ≤ x ∧ x ≤ 255) : ∃ (cs : List S102) (t : Int), cs.length ≤ 45 ∧ -1 ≤ t ∧ t ≤ 12 ∧ Evt fun k => spec_DrawDecideAt.f k l = some (cs, t) := by
  obtain ⟨r, ⟨hr, r2, r3⟩, ev⟩ := chances_draw l hb 0 0 (by omega) (by omega)
  obtain ⟨v, p3, s3, e3, a3, b3, v0, v1⟩ := pick_ok l hb r.2.1 r.2.2 24 (by omega) (by omega) (by omega)
  have t0 := tdiv11 v v0 v1
  obtain ⟨z, p4, s4, e4, _, _, m⟩ := among_ok l hb p3 s3 (by omega) (by omega) (([0, 1, 5, 6, 10, 11, -1, 12] : List Int).take (6 + Int.tdiv v 11).toNat) (by rw [List.length_take]; simp only [List.length_cons, List.length_nil]; omega)
  have m2 := List.mem_of_mem_take m
  simp only [List.mem_cons, List.not_mem_nil, or_false] at m2
  refine ⟨r.1, z, hr, by omega, by omega, ev.mono fun k hk => ?_⟩
  unfold spec_DrawDecideAt.f
  rw [hk, Option.bind_some, Option.bind_some]; try dsimp only
  rw [e3, Option.bind_some]; dsimp only
  rw [wrap_id (x := Int.tdiv v 11) (by omega) (by omega), wrap_id (x := 6 + Int.tdiv v 11) (by omega) (by omega), if_pos (by omega), if_pos (by simp only [List.length_cons, List.length_nil]; omega), e4, Option.bind_some]
theorem DrawSharp_ev (l : List Int) (hb : ∀ x ∈ l, 0 ≤ x ∧ x ≤ 255) : ∃ (cs : List S102) (t : Int), cs.length ≤ 45 ∧ -1 ≤ t ∧ t ≤ 6 ∧ Evt fun k => spec_DrawSharpForecasts.f k l = some (cs, t) := by
  obtain ⟨r, ⟨hr, r2, r3⟩, ev⟩ := chances_draw l hb 0 0 (by omega) (by omega)
  obtain ⟨v, p3, s3, e3, a3, b3, v0, v1⟩ := pick_ok l hb r.2.1 r.2.2 24 (by omega) (by omega) (by omega)
  have t0 := tdiv11 v v0 v1
  obtain ⟨z, p4, s4, e4, _, _, m⟩ := among_ok l hb p3 s3 (by omega) (by omega) (([0, 1, 2, 5, -1, 6] : List Int).take (4 + Int.tdiv v 11).toNat) (by rw [List.length_take]; simp only [List.length_cons, List.length_nil]; omega)
  have m2 := List.mem_of_mem_take m
  simp only [List.mem_cons, List.not_mem_nil, or_false] at m2
  refine ⟨r.1, z, hr, by omega, by omega, ev.mono fun k hk => ?_⟩
  unfold spec_DrawSharpForecasts.f
  rw [hk, Option.bind_some, Option.bind_some]; try dsimp only
  rw [e3, Option.bind_some]; dsimp only
  rw [wrap_id (x := Int.tdiv v 11) (by omega) (by omega), wrap_id (x := 4 + Int.tdiv v 11) (by omega) (by omega), if_pos (by omega), if_pos (by simp only [List.length_cons, List.length_nil]; omega), e4, Option.bind_some]
theorem rInts_self (l : List Int) (hl : l.length ≤ 4503599627370496) : Evt fun k => laws_rInts.f k l l = some true := by
  refine Evt.mono (P := fun k => laws_rInts.l0 k l l 0 = some true) ?_ (fun k hk => by unfold laws_rInts.f; rw [if_pos rfl]; exact hk)
  refine evt_loop0 l.length (fun k (_ : Unit) i => laws_rInts.l0 k l l i) true (fun _ _ => True) ?_ ?_ () trivial
  · rintro i s hi _
    refine .inl ⟨(), trivial, 1, Evt.all fun k => ?_⟩
    show laws_rInts.l0 (k + 1) l l (i : Int) = _
    simp only [laws_rInts.l0]
    rw [if_pos (by omega), if_pos (by omega), if_pos (by omega), wrap_id (by omega) (by omega)]; simp
  · rintro s _
    refine Evt.succ (Evt.all fun k => ?_)
    show laws_rInts.l0 (k + 1) l l (l.length : Int) = _
    simp only [laws_rInts.l0]
    rw [if_neg (by omega)]
theorem rChances_self (l : List S102) (hl : l.length ≤ 4503599627370496) : Evt fun k => laws_rChances.f k l l = some true := by
  refine Evt.mono (P := fun k => laws_rChances.l0 k l l 0 = some true) ?_ (fun k hk => by unfold laws_rChances.f; rw [if_pos rfl]; exact hk)
  refine evt_loop0 l.length (fun k (_ : Unit) i => laws_rChances.l0 k l l i) true (fun _ _ => True) ?_ ?_ () trivial
  · rintro i s hi _
    refine .inl ⟨(), trivial, 1, Evt.all fun k => ?_⟩
    show laws_rChances.l0 (k + 1) l l (i : Int) = _
    simp only [laws_rChances.l0]
    rw [if_pos (by omega), if_pos (by omega), if_pos (by omega), wrap_id (by omega) (by omega)]; simp
  · rintro s _
    refine Evt.succ (Evt.all fun k => ?_)
    show laws_rChances.l0 (k + 1) l l (l.length : Int) = _
    simp only [laws_rChances.l0]
    rw [if_neg (by omega)]
theorem sum_nonneg' : ∀ (l : List Int), (∀ x ∈ l, 0 ≤ x) → 0 ≤ l.sum
  | [], _ => by simp
  | x :: l, h => by
    have := sum_nonneg' l (fun y hy => h y (List.mem_cons_of_mem _ hy))
    have := h x List.mem_cons_self
    rw [List.sum_cons]; omega
theorem rSum_ev (l : List Int) (hl : l.length ≤ 1000000) (h : ∀ x ∈ l, 0 ≤ x) (hs : l.sum ≤ 1000000000000) : Evt fun k => laws_rSum.f k l = some l.sum := by
  unfold laws_rSum.f
  refine evt_loop0 l.length (fun k (s : Int) i => laws_rSum.l0 k l s i) l.sum (fun i s => 0 ≤ s ∧ s + (l.drop i).sum = l.sum) ?_ ?_ 0 ⟨by omega, by simp⟩
  · rintro i s hi ⟨h0, h1⟩
    rw [getD_drop l 0 i hi, List.sum_cons] at h1
    have hx : 0 ≤ l.getD i 0 := by rw [getD_lt _ _ _ hi]; exact h _ (List.getElem_mem hi)
    have hr := sum_nonneg' (l.drop (i + 1)) (fun x hx => h x (List.mem_of_mem_drop hx))
    refine .inl ⟨s + l.getD i 0, ⟨by omega, by omega⟩, 1, Evt.all fun k => ?_⟩
    show laws_rSum.l0 (k + 1) l s (i : Int) = _
    simp only [laws_rSum.l0, rd_nat]
    rw [if_pos (by omega), if_pos (by omega), wrap_id (x := s + l.getD i 0) (by omega) (by omega), wrap_id (x := (i : Int) + 1) (by omega) (by omega)]
  · rintro s ⟨h0, h1⟩
    rw [List.drop_of_length_le (Nat.le_refl _)] at h1
    simp only [List.sum_nil, Int.add_zero] at h1
    refine Evt.succ (Evt.all fun k => ?_)
    show laws_rSum.l0 (k + 1) l s (l.length : Int) = _
    simp only [laws_rSum.l0]
    rw [if_neg (by omega), h1]
theorem within_ok (a b c : Int) : impl_within.f a b c = some (decide (b ≤ a ∧ a ≤ c)) := by
  unfold impl_within.f
  split <;> simp <;> omega
theorem l1In_ok (a b c : Int) : spec_l1In.f a b c = some (decide (b ≤ a ∧ a ≤ c)) := by
  unfold spec_l1In.f
  split <;> simp <;> omega
theorem evt_fold {α σ ρ : Type} (xs : List α) (z : α) (g : σ → α → σ) (out : σ → ρ) (I : Nat → σ → Prop) (L : Nat → σ → Int → Option ρ)
    (step : ∀ k i s, i < xs.length → I i s → I (i + 1) (g s (xs.getD i z)) ∧ L (k + 1) s (i : Int) = L k (g s (xs.getD i z)) ((i : Int) + 1))
    (fin : ∀ k s, I xs.length s → L (k + 1) s (xs.length : Int) = some (out s)) (s : σ) (h0 : I 0 s) : (Evt fun k => L k s 0 = some (out (xs.foldl g s))) ∧ I xs.length (xs.foldl g s) := by
  have key : ∀ d i s, i + d = xs.length → I i s → (Evt fun k => L k s (i : Int) = some (out ((xs.drop i).foldl g s))) ∧ I xs.length ((xs.drop i).foldl g s) := by
    intro d
    induction d with
    | zero =>
      intro i s hi h
      obtain rfl : i = xs.length := by omega
      rw [List.drop_of_length_le (Nat.le_refl _)]
      exact ⟨Evt.succ (Evt.all fun k => fin k s h), h⟩
    | succ d ih =>
      intro i s hi h
      have hlt : i < xs.length := by omega
      rw [getD_drop xs z i hlt, List.foldl_cons]
      have h1 := fun k => step k i s hlt h
      obtain ⟨h2, h3⟩ := ih (i + 1) _ (by omega) (h1 0).1
      rw [show ((i + 1 : Nat) : Int) = (i : Int) + 1 from by omega] at h2
      exact ⟨Evt.succ (h2.mono fun k hk => (h1 k).2.trans hk), h3⟩
  exact key xs.length 0 s (by omega) h0
def chOk (c : S102) : Bool := decide (0 ≤ c.f0 ∧ c.f0 ≤ 10)
def chancesB (l : List S102) : Bool := l.all chOk && decide (l.length ≤ 40)
theorem chancesB_len {l : List S102} (h : chancesB l = true) : l.length ≤ 40 := by
  unfold chancesB at h
  simp only [Bool.and_eq_true, decide_eq_true_eq] at h
  exact h.2
theorem chancesB_at {l : List S102} (h : chancesB l = true) (i : Nat) (hi : i < l.length) : 0 ≤ (l.getD i z102).f0 ∧ (l.getD i z102).f0 ≤ 10 := by
  unfold chancesB at h
  simp only [Bool.and_eq_true, decide_eq_true_eq] at h
  rw [getD_lt _ _ _ hi]
  have := List.all_eq_true.1 h.1 _ (List.getElem_mem hi)
  unfold chOk at this
  exact of_decide_eq_true this
theorem rd_ch (l : List S102) (i : Nat) : rd_T102 l (i : Int) = l.getD i z102 := by unfold rd_T102; rw [Int.toNat_natCast]
theorem IndexFunc_ev (l : List S102) (hl : l.length ≤ 4503599627370496) : ∃ r, decide (r ≥ (0 : Int)) = !(l.all chOk) ∧ Evt fun k => slices_IndexFunc_Chance.f k l = some r := by
  unfold slices_IndexFunc_Chance.f
  refine evt_loop_ex l.length (fun k (_ : Unit) i => slices_IndexFunc_Chance.l0 k l (l.length : Int) i) _ (fun i _ => (l.drop i).all chOk = l.all chOk) ?_ ?_ () rfl
  · intro i s hi h
    rw [getD_drop l z102 i hi, List.all_cons] at h
    by_cases hp : 0 ≤ (l.getD i z102).f0 ∧ (l.getD i z102).f0 ≤ 10
    · refine .inl ⟨(), by rw [← h, chOk, decide_eq_true hp, Bool.true_and], 1, Evt.all fun k => ?_⟩
      show slices_IndexFunc_Chance.l0 (k + 1) l (l.length : Int) (i : Int) = _
      simp only [slices_IndexFunc_Chance.l0, impl_IsValidChances_1.f, within_ok, Option.bind_some, rd_ch, decide_eq_true hp, Bool.not_true]
      rw [if_pos (by omega), if_pos (by omega), if_pos (by omega), if_neg (by simp), wrap_id (by omega) (by omega)]
    · refine .inr ⟨(i : Int), ?_, Evt.succ (Evt.all fun k => ?_)⟩
      · rw [← h, chOk, decide_eq_false hp, Bool.false_and]; simp
      · show slices_IndexFunc_Chance.l0 (k + 1) l (l.length : Int) (i : Int) = _
        simp only [slices_IndexFunc_Chance.l0, impl_IsValidChances_1.f, within_ok, Option.bind_some, rd_ch, decide_eq_false hp, Bool.not_false]
        rw [if_pos (by omega), if_pos (by omega), if_pos (by omega), if_pos trivial]
  · intro s h
    rw [List.drop_of_length_le (Nat.le_refl _)] at h
    refine ⟨-1, by rw [← h]; simp, Evt.succ (Evt.all fun k => ?_)⟩
    show slices_IndexFunc_Chance.l0 (k + 1) l (l.length : Int) (l.length : Int) = _
    simp only [slices_IndexFunc_Chance.l0]
    rw [if_neg (by omega)]
theorem IsValidChances_ev (l : List S102) (hl : l.length ≤ 4503599627370496) : Evt fun k => impl_IsValidChances.f k l = some (chancesB l) := by
  obtain ⟨r, hr, e⟩ := IndexFunc_ev l hl
  refine e.mono fun k hk => ?_
  simp only [impl_IsValidChances.f, slices_ContainsFunc_Chance.f, hk, Option.bind_some, hr, Bool.not_not, chancesB]
  by_cases h : l.length ≤ 40
  · rw [if_pos (by omega), decide_eq_true h, Bool.and_true]
  · rw [if_neg (by omega), decide_eq_false h, Bool.and_false]
theorem l21Good_ev (l : List S102) (hl : l.length ≤ 4503599627370496) : Evt fun k => spec_l21Good.f k l = some (chancesB l) := by
  unfold spec_l21Good.f
  refine evt_loop0 l.length (fun k (_ : Unit) i => spec_l21Good.l0 k l i) (chancesB l) (fun i _ => (l.drop i).all chOk = l.all chOk) ?_ ?_ () rfl
  · intro i s hi h
    rw [getD_drop l z102 i hi, List.all_cons] at h
    by_cases hp : 0 ≤ (l.getD i z102).f0 ∧ (l.getD i z102).f0 ≤ 10
    · refine .inl ⟨(), by rw [← h, chOk, decide_eq_true hp, Bool.true_and], 1, Evt.all fun k => ?_⟩
      show spec_l21Good.l0 (k + 1) l (i : Int) = _
      simp only [spec_l21Good.l0, l1In_ok, Option.bind_some, rd_ch, decide_eq_true hp, if_true]
      rw [if_pos (by omega), if_pos (by omega), wrap_id (by omega) (by omega)]
    · refine .inr (Evt.succ (Evt.all fun k => ?_))
      show spec_l21Good.l0 (k + 1) l (i : Int) = _
      simp only [spec_l21Good.l0, l1In_ok, Option.bind_some, rd_ch, decide_eq_false hp]
      rw [if_pos (by omega), if_pos (by omega), if_neg (by simp), chancesB, ← h, chOk, decide_eq_false hp, Bool.false_and, Bool.false_and]
  · intro s h
    rw [List.drop_of_length_le (Nat.le_refl _)] at h
    refine Evt.succ (Evt.all fun k => ?_)
    show spec_l21Good.l0 (k + 1) l (l.length : Int) = _
    simp only [spec_l21Good.l0]
    rw [if_neg (by omega), chancesB, ← h, List.all_nil, Bool.true_and]
    exact congrArg some (decide_eq_decide.2 (by omega))
def decJ (t : Int) (c : S102) : Nat := (if c.f1 = true then 0 else 2) + (if c.f0 < t then 1 else 0)
def stepD (t : Int) (acc : List Int) (c : S102) : List Int := acc.set (decJ t c) (acc.getD (decJ t c) 0 + 1)
def decideV (l : List S102) (t : Int) : List Int := l.foldl (stepD t) (List.replicate 4 0)
def decI (i : Nat) (s : List Int) : Prop := s.length = 4 ∧ ∀ j, 0 ≤ s.getD j 0 ∧ s.getD j 0 ≤ (i : Int)
theorem decI_step (t : Int) (c : S102) {i : Nat} {s : List Int} (h : decI i s) : decI (i + 1) (stepD t s c) := by
  refine ⟨by simp [stepD, h.1], fun j => ?_⟩
  unfold stepD
  have hj4 : decJ t c < 4 := by unfold decJ; split <;> split <;> omega
  by_cases e : decJ t c = j
  · have := h.2 j
    rw [e, getD_set_self _ _ _ _ (by rw [h.1]; omega)]; omega
  · have := h.2 j
    rw [getD_set_ne _ _ _ _ _ e]; omega
theorem decI_zero : decI 0 (List.replicate 4 0) := ⟨by simp, fun j => by rcases j with _ | _ | _ | _ | j <;> simp [List.replicate]⟩
theorem decideAt_ev (l : List S102) (t : Int) (hl : l.length ≤ 1000000000) : (Evt fun k => impl_decideAt.f k l t = some (decideV l t)) ∧ decI l.length (decideV l t) := by
  unfold impl_decideAt.f decideV
  simp only [if_pos (show (4 : Nat) ≤ 35184372088832 by omega)]
  refine evt_fold l z102 (stepD t) id decI (fun k s i => impl_decideAt.l0 k t s l (l.length : Int) i) ?_ ?_ _ decI_zero
  · rintro k i s hi h
    refine ⟨decI_step t _ h, ?_⟩
    have h4 := h.1
    have b0 := h.2 0
    have b1 := h.2 1
    have b2 := h.2 2
    have b3 := h.2 3
    simp only [impl_decideAt.l0, rd_ch]
    rw [if_pos (by omega), if_pos (by omega), if_pos (by omega), wrap_id (x := (i : Int) + 1) (by omega) (by omega)]
    have e0 : rd s 0 = s.getD 0 0 := rfl
    have e1 : rd s (0 + 1) = s.getD 1 0 := rfl
    have e2 : rd s 2 = s.getD 2 0 := rfl
    have e3 : rd s (2 + 1) = s.getD 3 0 := rfl
    rw [e0, e1, e2, e3, wrap_id (x := s.getD 0 0 + 1) (by omega) (by omega), wrap_id (x := s.getD 1 0 + 1) (by omega) (by omega), wrap_id (x := s.getD 2 0 + 1) (by omega) (by omega), wrap_id (x := s.getD 3 0 + 1) (by omega) (by omega)]
    unfold stepD decJ
    by_cases hf : (l.getD i z102).f1 = true
    · rw [if_pos hf, if_pos hf]
      by_cases ht : (l.getD i z102).f0 < t
      · rw [if_pos ht, if_pos ht, if_pos (by omega), if_pos (by omega)]; rfl
      · rw [if_neg ht, if_neg ht, if_pos (by omega)]; rfl
    · rw [if_neg hf, if_neg hf]
      by_cases ht : (l.getD i z102).f0 < t
      · rw [if_pos ht, if_pos ht, if_pos (by omega), if_pos (by omega)]; rfl
      · rw [if_neg ht, if_neg ht, if_pos (by omega)]; rfl
  · rintro k s h
    simp only [impl_decideAt.l0]
    rw [if_neg (by omega)]; rfl
theorem specDecide_loop (l : List S102) (t : Int) (hl : l.length ≤ 1000000000) : Evt fun k => spec_DecideAt.l0 k l t (List.replicate 4 0) 0 = some (decideV l t, true) := by
  refine evt_loop0 l.length (fun k s i => spec_DecideAt.l0 k l t s i) (decideV l t, true) (fun i s => decI i s ∧ (l.drop i).foldl (stepD t) s = decideV l t) ?_ ?_ _ ⟨decI_zero, rfl⟩
  · rintro i s hi ⟨h, h2⟩
    rw [getD_drop l z102 i hi, List.foldl_cons] at h2
    have h4 := h.1
    have b0 := h.2 0
    have b1 := h.2 1
    have b2 := h.2 2
    have b3 := h.2 3
    have g1 : (i : Int) < (l.length : Int) := by omega
    have g2 : 0 ≤ (i : Int) := by omega
    have e0 : rd s 0 = s.getD 0 0 := rfl
    have e1 : rd s 1 = s.getD 1 0 := rfl
    have e2 : rd s 2 = s.getD 2 0 := rfl
    have e3 : rd s 3 = s.getD 3 0 := rfl
    have w0 : wrap64 (s.getD 0 0 + 1) = s.getD 0 0 + 1 := wrap_id (by omega) (by omega)
    have w1 : wrap64 (s.getD 1 0 + 1) = s.getD 1 0 + 1 := wrap_id (by omega) (by omega)
    have w2 : wrap64 (s.getD 2 0 + 1) = s.getD 2 0 + 1 := wrap_id (by omega) (by omega)
    have w3 : wrap64 (s.getD 3 0 + 1) = s.getD 3 0 + 1 := wrap_id (by omega) (by omega)
    have wi : wrap64 ((i : Int) + 1) = (i : Int) + 1 := wrap_id (by omega) (by omega)
    have l0 : (0 : Int) < (s.length : Int) := by omega
    have l1 : (1 : Int) < (s.length : Int) := by omega
    have l2 : (2 : Int) < (s.length : Int) := by omega
    have l3 : (3 : Int) < (s.length : Int) := by omega
    by_cases hf : (l.getD i z102).f1 = true
    · by_cases ht : (l.getD i z102).f0 < t
      · refine .inl ⟨_, ⟨decI_step t _ h, h2⟩, 2, Evt.all fun k => ?_⟩
        show spec_DecideAt.l0 (k + 1 + 1) l t s (i : Int) = _
        rw [spec_DecideAt.l0]
        simp only [rd_ch, if_pos g1, if_pos g2, stepD, decJ, if_pos hf, decide_eq_true ht, if_pos ht]
        rw [spec_DecideAt.j2]
        simp only [if_true, if_pos l1, e1, w1, wi]
        rfl
      · refine .inl ⟨_, ⟨decI_step t _ h, h2⟩, 3, Evt.all fun k => ?_⟩
        show spec_DecideAt.l0 (k + 2 + 1) l t s (i : Int) = _
        rw [spec_DecideAt.l0]
        simp only [rd_ch, if_pos g1, if_pos g2, stepD, decJ, if_pos hf, decide_eq_false ht, if_neg ht]
        rw [spec_DecideAt.j2]
        simp only [rd_ch, if_pos g1, if_pos g2, if_pos hf]
        rw [if_neg (by simp), spec_DecideAt.j3]
        simp only [rd_ch, if_pos g1, if_pos g2, if_pos hf, if_pos l0, e0, w0, wi]
        rw [if_neg (by simp), if_pos (by omega)]
        rfl
    · refine .inl ⟨_, ⟨decI_step t _ h, h2⟩, 3, Evt.all fun k => ?_⟩
      show spec_DecideAt.l0 (k + 2 + 1) l t s (i : Int) = _
      rw [spec_DecideAt.l0]
      simp only [rd_ch, if_pos g1, if_pos g2, stepD, decJ, if_neg hf]
      rw [spec_DecideAt.j2]
      simp only [rd_ch, if_pos g1, if_pos g2, if_neg hf]
      rw [if_neg (by simp), spec_DecideAt.j3]
      by_cases ht : (l.getD i z102).f0 < t
      · simp only [rd_ch, if_pos g1, if_pos g2, if_neg hf, if_pos ht, if_pos l3, e3, w3, wi]
        rw [if_neg (by simpa using ht)]
        rfl
      · simp only [if_neg ht, if_pos l2, e2, w2, wi]
        rw [if_pos (decide_eq_true (by omega))]
        rfl
  · rintro s ⟨h, h2⟩
    rw [List.drop_of_length_le (Nat.le_refl _)] at h2
    refine Evt.succ (Evt.all fun k => ?_)
    show spec_DecideAt.l0 (k + 1) l t s (l.length : Int) = _
    simp only [spec_DecideAt.l0]
    rw [if_neg (by omega), ← h2]; rfl
theorem specDecideAt_ev (l : List S102) (t : Int) (hc : chancesB l = true) (ht : 0 ≤ t ∧ t ≤ 11) : Evt fun k => spec_DecideAt.f k l t = some (decideV l t, true) := by
  have hlen := chancesB_len hc
  refine Evt.succ (((Evt.shift (l21Good_ev l (by omega))).and (specDecide_loop l t (by omega))).mono ?_)
  rintro k ⟨h1, h2⟩
  simp only [spec_DecideAt.f, spec_DecideAt.j0, h1, hc, Option.bind_some, if_true, l1In_ok, decide_eq_true ht, Bool.not_true]
  rw [if_neg (by simp), if_pos (by omega)]
  exact h2
theorem stepD_at (t : Int) (c : S102) (s : List Int) (j : Nat) (hs : s.length = 4) (hj : j < 4) : (stepD t s c).getD j 0 = s.getD j 0 + (if decJ t c = j then 1 else 0) := by
  unfold stepD
  have hj4 : decJ t c < 4 := by unfold decJ; split <;> split <;> omega
  by_cases e : decJ t c = j
  · rw [if_pos e, e, getD_set_self _ _ _ _ (by omega)]
  · rw [if_neg e, getD_set_ne _ _ _ _ _ e]; omega
theorem decFold_at (t : Int) (j : Nat) (hj : j < 4) : ∀ (l : List S102) (s : List Int), s.length = 4 → (l.foldl (stepD t) s).getD j 0 = s.getD j 0 + ((l.countP fun c => decide (decJ t c = j) : Nat) : Int)
  | [], s, _ => by simp
  | c :: l, s, hs => by
    rw [List.foldl_cons, decFold_at t j hj l (stepD t s c) (by simp [stepD, hs]), stepD_at t c s j hs hj, List.countP_cons]
    by_cases e : decJ t c = j <;> simp [e] <;> omega
def cntD (l : List S102) (t : Int) (j : Nat) : Nat := l.countP fun c => decide (decJ t c = j)
theorem cntD_sum (t : Int) : ∀ l : List S102, cntD l t 0 + cntD l t 1 + cntD l t 2 + cntD l t 3 = l.length
  | [] => rfl
  | c :: l => by
    have ih := cntD_sum t l
    unfold cntD at ih ⊢
    have hj4 : decJ t c < 4 := by unfold decJ; split <;> split <;> omega
    simp only [List.countP_cons, List.length_cons, decide_eq_true_eq]
    rcases (show decJ t c = 0 ∨ decJ t c = 1 ∨ decJ t c = 2 ∨ decJ t c = 3 by omega) with e | e | e | e <;> simp only [e] <;> simp <;> omega
theorem decideV_form (l : List S102) (t : Int) (hl : l.length ≤ 1000000000) : decideV l t = [(cntD l t 0 : Int), (cntD l t 1 : Int), (cntD l t 2 : Int), (cntD l t 3 : Int)] := by
  have h4 := (decideAt_ev l t hl).2.1
  have h : ∀ j, j < 4 → (decideV l t).getD j 0 = (cntD l t j : Int) := by
    intro j hj
    unfold decideV cntD
    rw [decFold_at t j hj l _ (by simp)]
    have : (List.replicate 4 (0 : Int)).getD j 0 = 0 := decI_zero.2 j |>.elim fun a b => by omega
    omega
  have h0 := h 0 (by omega)
  have h1 := h 1 (by omega)
  have h2 := h 2 (by omega)
  have h3 := h 3 (by omega)
  match hv : decideV l t, h4 with
  | [a, b, c, d], _ =>
    rw [hv] at h0 h1 h2 h3
    simp at h0 h1 h2 h3
    rw [h0, h1, h2, h3]
theorem cntD_mono (t : Int) (j : Nat) (hj : j = 0 ∨ j = 2) (l : List S102) : cntD l (t + 1) j ≤ cntD l t j := by
  unfold cntD
  apply List.countP_mono_left
  intro c _ h
  simp only [decide_eq_true_eq] at h ⊢
  unfold decJ at h ⊢
  by_cases hf : c.f1 = true
  · rw [if_pos hf] at h ⊢
    by_cases ht : c.f0 < t + 1
    · rw [if_pos ht] at h; omega
    · rw [if_neg ht] at h; rw [if_neg (by omega)]; omega
  · rw [if_neg hf] at h ⊢
    by_cases ht : c.f0 < t + 1
    · rw [if_pos ht] at h; omega
    · rw [if_neg ht] at h; rw [if_neg (by omega)]; omega
def dAtV (l : List S102) (t : Int) : List Int × Bool := if chancesB l = true ∧ 0 ≤ t ∧ t ≤ 11 then (decideV l t, true) else ([], false)
theorem pair_DecideLaw (l : List S102) (t : Int) (hl : l.length ≤ 1048576) (_ : -9223372036854775808 ≤ t ∧ t ≤ 9223372036854775807) : ∃ v : List Int × Bool, v = dAtV l t ∧ (Evt fun k => impl_DecideAt.f k l t = some v) ∧ (Evt fun k => spec_DecideAt.f k l t = some v) ∧ v.1.length ≤ 1048576 := by
  have c1 := IsValidChances_ev l (by omega)
  have c2 := l21Good_ev l (by omega)
  cases hc : chancesB l with
  | false =>
    refine ⟨([], false), by simp [dAtV, hc], (Evt.pos.and c1).mono ?_, (Evt.pos.and c2).mono ?_, by simp⟩
    · rintro k ⟨⟨m, rfl⟩, hk⟩; simp [impl_DecideAt.f, hk, hc]
    · rintro k ⟨⟨m, rfl⟩, hk⟩; simp [spec_DecideAt.f, spec_DecideAt.j0, hk, hc]
  | true =>
    by_cases ht : 0 ≤ t ∧ t ≤ 11
    · obtain ⟨f1, hd⟩ := decideAt_ev l t (by omega)
      refine ⟨(decideV l t, true), by rw [dAtV, if_pos ⟨hc, ht⟩], (c1.and f1).mono ?_, specDecideAt_ev l t hc ht, by show (decideV l t).length ≤ _; rw [hd.1]; omega⟩
      rintro k ⟨h1, h2⟩
      simp only [impl_DecideAt.f, h1, hc, Option.bind_some, if_true, within_ok, decide_eq_true ht, h2]
    · refine ⟨([], false), by rw [dAtV, if_neg (fun h => ht h.2)], (Evt.pos.and c1).mono ?_, (Evt.pos.and c2).mono ?_, by simp⟩
      · rintro k ⟨⟨m, rfl⟩, hk⟩
        simp only [impl_DecideAt.f, hk, hc, Option.bind_some, if_true, within_ok, decide_eq_false ht]
        simp
      · rintro k ⟨⟨m, rfl⟩, hk⟩
        simp only [spec_DecideAt.f, spec_DecideAt.j0, hk, hc, Option.bind_some, if_true, l1In_ok, decide_eq_false ht, Bool.not_false]
theorem divisorOf_ok : ∀ (n m k : Nat), n < k → impl_divisorOf.f k (m : Int) (n : Int) = some ((Nat.gcd m n : Nat) : Int) := by
  have key : ∀ (d n m k : Nat), n ≤ d → n < k → impl_divisorOf.l0 k (m : Int) (n : Int) = some ((Nat.gcd m n : Nat) : Int) := by
    intro d
    induction d with
    | zero =>
      intro n m k hn hk
      obtain ⟨k, rfl⟩ : ∃ j, k = j + 1 := ⟨k - 1, by omega⟩
      obtain rfl : n = 0 := by omega
      simp only [impl_divisorOf.l0]
      rw [if_neg (by omega), Nat.gcd_zero_right]
    | succ d ih =>
      intro n m k hn hk
      obtain ⟨k, rfl⟩ : ∃ j, k = j + 1 := ⟨k - 1, by omega⟩
      simp only [impl_divisorOf.l0]
      by_cases h0 : n = 0
      · subst h0
        rw [if_neg (by omega), Nat.gcd_zero_right]
      · have hlt := Nat.mod_lt m (Nat.pos_of_ne_zero h0)
        rw [if_pos (by omega), if_neg (by omega), ← Int.ofNat_tmod, ih (m % n) n k (by omega) (by omega), Nat.gcd_comm n (m % n), ← Nat.gcd_rec n m, Nat.gcd_comm]
  intro n m k hk
  exact key n n m k (Nat.le_refl _) hk
theorem absOf_ok (a : Int) (h : -9223372036854775808 < a) (h2 : a ≤ 9223372036854775807) : impl_absOf.f a = some ((a.natAbs : Nat) : Int) := by
  unfold impl_absOf.f
  split
  · rw [wrap_id (by omega) (by omega)]; congr 1; omega
  · congr 1; omega
def ratioV (num den : Int) : Int × Int × Bool := if den = 0 then (0, 0, false) else (wrap64 (Int.tdiv num (Nat.gcd num.natAbs den.natAbs : Nat)), wrap64 (Int.tdiv den (Nat.gcd num.natAbs den.natAbs : Nat)), true)
theorem ratioOf_ok (num den : Int) (h : -9223372036854775808 < num) (h2 : num ≤ 9223372036854775807) (hd : 0 ≤ den) : ∀ k, num.natAbs < k → impl_ratioOf.f k num den = some (ratioV num den) := by
  intro k hk
  unfold impl_ratioOf.f ratioV
  by_cases h0 : den = 0
  · rw [if_pos h0, if_pos h0]
  · have hg := Nat.gcd_pos_of_pos_right num.natAbs (n := den.natAbs) (by omega)
    have hc := divisorOf_ok num.natAbs den.natAbs k hk
    rw [show ((den.natAbs : Nat) : Int) = den from by omega, Nat.gcd_comm] at hc
    rw [if_neg h0, if_neg h0, if_neg (by omega), absOf_ok num h h2, Option.bind_some, hc, Option.bind_some, if_neg (by omega)]
theorem l1MostNeg_ok (a : Int) (h : -9223372036854775808 < a) (h2 : a ≤ 9223372036854775807) : spec_l1Most.f a (wrap64 (-a)) = some ((a.natAbs : Nat) : Int) := by
  unfold spec_l1Most.f
  rw [wrap_id (by omega) (by omega)]
  split <;> congr 1 <;> omega
theorem l21Common0_ok : ∀ (d n m k : Nat), n ≤ d → n < k → spec_l21Common.l0 k (m : Int) (n : Int) = some ((Nat.gcd m n : Nat) : Int) := by
  intro d
  induction d with
  | zero =>
    intro n m k hn hk
    obtain ⟨k, rfl⟩ : ∃ j, k = j + 1 := ⟨k - 1, by omega⟩
    obtain rfl : n = 0 := by omega
    simp only [spec_l21Common.l0]
    rw [if_pos (by omega), Nat.gcd_zero_right]
  | succ d ih =>
    intro n m k hn hk
    obtain ⟨k, rfl⟩ : ∃ j, k = j + 1 := ⟨k - 1, by omega⟩
    simp only [spec_l21Common.l0]
    by_cases h0 : n = 0
    · subst h0
      rw [if_pos (by omega), Nat.gcd_zero_right]
    · have hlt := Nat.mod_lt m (Nat.pos_of_ne_zero h0)
      rw [if_neg (by omega), ← Int.ofNat_tmod, ih (m % n) n k (by omega) (by omega), Nat.gcd_comm n (m % n), ← Nat.gcd_rec n m, Nat.gcd_comm]
theorem l21Reduce_ok (num den : Int) (h : -9223372036854775808 < num) (h2 : num ≤ 9223372036854775807) (g : -9223372036854775808 < den) (g2 : den ≤ 9223372036854775807) (h0 : den ≠ 0) :
    ∀ k, den.natAbs < k → spec_l21Reduce.f k num den = some (wrap64 (Int.tdiv num (Nat.gcd num.natAbs den.natAbs : Nat)), wrap64 (Int.tdiv den (Nat.gcd num.natAbs den.natAbs : Nat))) := by
  intro k hk
  have hg := Nat.gcd_pos_of_pos_right num.natAbs (n := den.natAbs) (by omega)
  unfold spec_l21Reduce.f spec_l21Common.f
  rw [l1MostNeg_ok num h h2, Option.bind_some, l1MostNeg_ok den g g2, Option.bind_some, l21Common0_ok _ _ _ k (Nat.le_refl _) hk, Option.bind_some, if_neg (by omega)]
def stepH (s : Int) (c : S102) : Int := if c.f1 = true then s + 1 else s
def hapV (l : List S102) : Int := l.foldl stepH 0
theorem happened_ev (l : List S102) (hl : l.length ≤ 1000000000) : (Evt fun k => impl_happened.f k l = some (hapV l)) ∧ (0 ≤ hapV l ∧ hapV l ≤ (l.length : Int)) := by
  unfold impl_happened.f hapV
  refine evt_fold l z102 stepH id (fun i s => 0 ≤ s ∧ s ≤ (i : Int)) (fun k s i => impl_happened.l0 k s l (l.length : Int) i) ?_ ?_ 0 ⟨by omega, by omega⟩
  · rintro k i s hi ⟨h0, h1⟩
    refine ⟨by unfold stepH; split <;> omega, ?_⟩
    simp only [impl_happened.l0, rd_ch]
    rw [if_pos (by omega), if_pos (by omega), if_pos (by omega), wrap_id (x := (i : Int) + 1) (by omega) (by omega), wrap_id (x := s + 1) (by omega) (by omega)]
    unfold stepH
    split <;> rfl
  · rintro k s ⟨h0, h1⟩
    simp only [impl_happened.l0]
    rw [if_neg (by omega)]; rfl
theorem l21Happened_ev (l : List S102) (hl : l.length ≤ 1000000000) : Evt fun k => spec_l21Happened.f k l = some (hapV l) := by
  unfold spec_l21Happened.f hapV
  refine (evt_fold l z102 stepH id (fun i s => 0 ≤ s ∧ s ≤ (i : Int)) (fun k s i => spec_l21Happened.l0 k l s i) ?_ ?_ 0 ⟨by omega, by omega⟩).1
  · rintro k i s hi ⟨h0, h1⟩
    refine ⟨by unfold stepH; split <;> omega, ?_⟩
    simp only [spec_l21Happened.l0, rd_ch]
    rw [if_pos (by omega), if_pos (by omega), wrap_id (x := (i : Int) + 1) (by omega) (by omega), wrap_id (x := s + 1) (by omega) (by omega)]
    unfold stepH
    split <;> rfl
  · rintro k s ⟨h0, h1⟩
    simp only [spec_l21Happened.l0]
    rw [if_neg (by omega)]; rfl
def sqC (c : S102) : Int := if c.f1 = true then (c.f0 - 10) * (c.f0 - 10) else c.f0 * c.f0
def sqV (l : List S102) : Int := l.foldl (fun s c => s + sqC c) 0
theorem mul_self_le {x B : Int} (h0 : -B ≤ x) (h1 : x ≤ B) : 0 ≤ x * x ∧ x * x ≤ B * B := by
  rcases Int.le_total 0 x with h | h
  · exact ⟨Int.mul_nonneg h h, Int.mul_le_mul h1 h1 h (Int.le_trans h h1)⟩
  · have e : x * x = (-x) * (-x) := by rw [Int.neg_mul_neg]
    rw [e]
    exact ⟨Int.mul_nonneg (by omega) (by omega), Int.mul_le_mul (by omega) (by omega) (by omega) (by omega)⟩
theorem sqC_le (c : S102) (h : 0 ≤ c.f0 ∧ c.f0 ≤ 10) : 0 ≤ sqC c ∧ sqC c ≤ 100 := by
  unfold sqC
  split
  · have := mul_self_le (x := c.f0 - 10) (B := 10) (by omega) (by omega); omega
  · have := mul_self_le (x := c.f0) (B := 10) (by omega) (by omega); omega
theorem squareSum_ev (l : List S102) (hc : chancesB l = true) : (Evt fun k => impl_squareSum.f k l = some (sqV l)) ∧ (0 ≤ sqV l ∧ sqV l ≤ 100 * (l.length : Int)) := by
  have hat := chancesB_at hc
  have hlen := chancesB_len hc
  unfold impl_squareSum.f sqV
  refine evt_fold l z102 (fun s c => s + sqC c) id (fun i s => 0 ≤ s ∧ s ≤ 100 * (i : Int)) (fun k s i => impl_squareSum.l0 k s l (l.length : Int) i) ?_ ?_ 0 ⟨by omega, by omega⟩
  · rintro k i s hi ⟨h0, h1⟩
    have hb := hat i hi
    have hs := sqC_le _ hb
    refine ⟨by omega, ?_⟩
    simp only [impl_squareSum.l0, rd_ch]
    rw [if_pos (by omega), if_pos (by omega), if_pos (by omega), wrap_id (x := (i : Int) + 1) (by omega) (by omega), wrap_id (x := (l.getD i z102).f0 - 10) (by omega) (by omega)]
    unfold sqC at hs ⊢
    split
    · rename_i hf
      rw [if_pos hf] at hs
      rw [wrap_id (x := ((l.getD i z102).f0 - 10) * ((l.getD i z102).f0 - 10)) (by omega) (by omega), wrap_id (by omega) (by omega)]
    · rename_i hf
      rw [if_neg hf] at hs
      rw [wrap_id (x := (l.getD i z102).f0 * (l.getD i z102).f0) (by omega) (by omega), wrap_id (by omega) (by omega)]
  · rintro k s ⟨h0, h1⟩
    simp only [impl_squareSum.l0]
    rw [if_neg (by omega)]; rfl
theorem l21Square_ev (l : List S102) (hc : chancesB l = true) : Evt fun k => spec_l21Square.f k l = some (sqV l) := by
  have hat := chancesB_at hc
  have hlen := chancesB_len hc
  unfold spec_l21Square.f sqV
  refine (evt_fold l z102 (fun s c => s + sqC c) id (fun i s => 0 ≤ s ∧ s ≤ 100 * (i : Int)) (fun k s i => spec_l21Square.l0 k l s i) ?_ ?_ 0 ⟨by omega, by omega⟩).1
  · rintro k i s hi ⟨h0, h1⟩
    have hb := hat i hi
    have hs := sqC_le _ hb
    refine ⟨by omega, ?_⟩
    simp only [spec_l21Square.l0, rd_ch]
    rw [if_pos (by omega), if_pos (by omega), wrap_id (x := (i : Int) + 1) (by omega) (by omega), wrap_id (x := (l.getD i z102).f0 - 10) (by omega) (by omega)]
    unfold sqC at hs ⊢
    split
    · rename_i hf
      rw [if_pos hf] at hs
      rw [wrap_id (x := ((l.getD i z102).f0 - 10) * ((l.getD i z102).f0 - 10)) (by omega) (by omega), wrap_id (by omega) (by omega)]
    · rename_i hf
      rw [if_neg hf] at hs
      rw [wrap_id (x := (l.getD i z102).f0 * (l.getD i z102).f0) (by omega) (by omega), wrap_id (by omega) (by omega)]
  · rintro k s ⟨h0, h1⟩
    simp only [spec_l21Square.l0]
    rw [if_neg (by omega)]; rfl
theorem fraction_ev (num den : Int) (h : -9223372036854775808 < num) (h2 : num ≤ 9223372036854775807) (hd : 0 ≤ den) : Evt fun k => impl_fraction.f k num den = some (ratioV num den) := by
  refine (Evt.above _ (ratioOf_ok num den h h2 hd)).mono fun k hk => ?_
  simp only [impl_fraction.f, hk, Option.bind_some]
theorem l21Reduce_ev (num den : Int) (h : -9223372036854775808 < num) (h2 : num ≤ 9223372036854775807) (g : 0 < den) (g2 : den ≤ 9223372036854775807) :
    Evt fun k => spec_l21Reduce.f k num den = some ((ratioV num den).1, (ratioV num den).2.1) := by
  refine (Evt.above _ (l21Reduce_ok num den h h2 (by omega) g2 (by omega))).mono fun k hk => ?_
  rw [hk, ratioV, if_neg (by omega)]
theorem ratioV_pos {num den : Int} (h : 0 < den) : (ratioV num den).2.2 = true := by rw [ratioV, if_neg (by omega)]
theorem mul_le_big {x y A B : Int} (h0 : 0 ≤ x) (h1 : x ≤ A) (g0 : 0 ≤ y) (g1 : y ≤ B) : 0 ≤ x * y ∧ x * y ≤ A * B :=
  ⟨Int.mul_nonneg h0 g0, Int.mul_le_mul h1 g1 g0 (Int.le_trans h0 h1)⟩
theorem ratioV_law (n d : Int) (hd : 0 < d) (hd2 : d ≤ 9223372036854775807) (hn : -9223372036854775808 < n) (hn2 : n ≤ 9223372036854775807) :
    ∃ q r, ratioV n d = (q, r, true) ∧ (n ≤ d → q ≤ r) ∧ (q ≤ 0 ↔ n ≤ 0) := by
  unfold ratioV
  rw [if_neg (by omega)]
  have hg := Nat.gcd_pos_of_pos_right n.natAbs (n := d.natAbs) (by omega)
  obtain ⟨g, hG⟩ : ∃ g : Int, g = (Nat.gcd n.natAbs d.natAbs : Nat) := ⟨_, rfl⟩
  rw [← hG]
  have g0 : 0 < g := by omega
  obtain ⟨q, hq⟩ : g ∣ n := by rw [hG, ← Int.dvd_natAbs]; exact Int.natCast_dvd_natCast.2 (Nat.gcd_dvd_left _ _)
  obtain ⟨r, hr⟩ : g ∣ d := by rw [hG, ← Int.dvd_natAbs]; exact Int.natCast_dvd_natCast.2 (Nat.gcd_dvd_right _ _)
  have a1 : n.natAbs = g.natAbs * q.natAbs := by rw [hq, Int.natAbs_mul]
  have a2 : d.natAbs = g.natAbs * r.natAbs := by rw [hr, Int.natAbs_mul]
  have b1 : q.natAbs ≤ g.natAbs * q.natAbs := Nat.le_mul_of_pos_left _ (by omega)
  have b2 : r.natAbs ≤ g.natAbs * r.natAbs := Nat.le_mul_of_pos_left _ (by omega)
  have c1 : Int.tdiv n g = q := by rw [hq]; exact Int.mul_tdiv_cancel_left _ (by omega)
  have c2 : Int.tdiv d g = r := by rw [hr]; exact Int.mul_tdiv_cancel_left _ (by omega)
  rw [c1, c2, wrap_id (x := q) (by omega) (by omega), wrap_id (x := r) (by omega) (by omega)]
  refine ⟨q, r, rfl, fun h => ?_, ?_, ?_⟩
  · rw [hq, hr] at h; exact Int.le_of_mul_le_mul_left h g0
  · intro h; rw [hq]; exact Int.mul_nonpos_of_nonneg_of_nonpos (by omega) h
  · intro h
    rcases Int.lt_or_le 0 q with k | k
    · have := Int.mul_pos g0 k; omega
    · exact k
theorem ratioV_le (n d : Int) (hd : 0 ≤ d) (hd2 : d ≤ 9223372036854775807) (hn : -9223372036854775808 < n) (hn2 : n ≤ 9223372036854775807) (h : n ≤ d) : (ratioV n d).2.2 = true → (ratioV n d).1 ≤ (ratioV n d).2.1 := by
  intro ht
  by_cases h0 : d = 0
  · simp [ratioV, h0] at ht
  · obtain ⟨q, r, e, a, _⟩ := ratioV_law n d (by omega) hd2 hn hn2
    rw [e]; exact a h
theorem pair_SkillLaw (l : List S102) (hl : l.length ≤ 1048576) : ∃ v : Int × Int × Bool, (v.2.2 = true → v.1 ≤ v.2.1) ∧ (Evt fun k => impl_SkillScore.f k l = some v) ∧ (Evt fun k => spec_SkillScore.f k l = some v) := by
  have c1 := IsValidChances_ev l (by omega)
  have c2 := l21Good_ev l (by omega)
  obtain ⟨f1, hb⟩ := happened_ev l (by omega)
  have f2 := l21Happened_ev l (by omega)
  cases hc : chancesB l with
  | false =>
    refine ⟨(0, 0, false), by simp, (Evt.pos.and c1).mono ?_, (Evt.pos.and (c2.and f2)).mono ?_⟩
    · rintro k ⟨⟨m, rfl⟩, hk⟩; simp [impl_SkillScore.f, hk, hc]
    · rintro k ⟨⟨m, rfl⟩, hk, h2⟩; simp [spec_SkillScore.f, spec_SkillScore.j0, hk, hc, h2]
  | true =>
    have hlen := chancesB_len hc
    obtain ⟨q1, qb⟩ := squareSum_ev l hc
    have q2 := l21Square_ev l hc
    obtain ⟨H, hH⟩ : ∃ H, H = hapV l := ⟨_, rfl⟩
    obtain ⟨n, hn⟩ : ∃ n : Int, n = (l.length : Int) := ⟨_, rfl⟩
    obtain ⟨Q, hQ⟩ : ∃ Q, Q = sqV l := ⟨_, rfl⟩
    rw [← hH] at f1 f2
    rw [← hQ] at q1 q2
    have b1 := mul_le_big (x := 100 * H) (y := n - H) (A := 4000) (B := 40) (by omega) (by omega) (by omega) (by omega)
    have b2 := mul_le_big (x := Q) (y := n) (A := 4000) (B := 40) (by omega) (by omega) (by omega) (by omega)
    have w1 : wrap64 (100 * H) = 100 * H := wrap_id (by omega) (by omega)
    have w2 : wrap64 (n - H) = n - H := wrap_id (by omega) (by omega)
    have w3 : wrap64 (100 * H * (n - H)) = 100 * H * (n - H) := wrap_id (by omega) (by omega)
    have w4 : wrap64 (Q * n) = Q * n := wrap_id (by omega) (by omega)
    obtain ⟨E, hE⟩ : ∃ E, E = 100 * H * (n - H) := ⟨_, rfl⟩
    obtain ⟨F, hF⟩ : ∃ F, F = Q * n := ⟨_, rfl⟩
    rw [← hE] at b1 w3
    rw [← hF] at b2 w4
    have hF0 : 0 ≤ F := by rw [hF]; exact Int.mul_nonneg (by omega) (by omega)
    have hE0' : 0 ≤ E := by rw [hE]; exact Int.mul_nonneg (by omega) (by omega)
    have w5 : wrap64 (E - F) = E - F := wrap_id (by omega) (by omega)
    have g1 := fraction_ev (E - F) E (by omega) (by omega) (by omega)
    refine ⟨ratioV (E - F) E, ratioV_le (E - F) E (by omega) (by omega) (by omega) (by omega) (by omega), (c1.and (f1.and (q1.and g1))).mono ?_, Evt.succ ?_⟩
    · rintro k ⟨h1, h2, h3, h4⟩
      simp only [impl_SkillScore.f, h1, hc, Option.bind_some, if_true, h2, h3, ← hn, w1, w2, ← hE, ← hF, w3, w4, w5, h4]
    · by_cases h0 : H = 0 ∨ H = n
      · have hE0 : E = 0 := by
          rw [hE]
          rcases h0 with h | h
          · rw [h]; simp
          · rw [h]; simp
        refine ((Evt.shift c2).and (Evt.shift f2)).mono ?_
        rintro k ⟨h1, h2⟩
        rw [ratioV, if_pos hE0]
        by_cases h3 : H = 0
        · simp only [spec_SkillScore.f, spec_SkillScore.j0, h1, h2, hc, Option.bind_some, if_true, if_pos h3]
        · have h4 : H = n := h0.resolve_left h3
          simp only [spec_SkillScore.f, spec_SkillScore.j0, h1, h2, hc, Option.bind_some, if_true, if_neg h3, ← hn]
          rw [if_pos (by simpa using h4)]
      · have hEp : 0 < E := by
          rw [hE]
          exact Int.mul_pos (by omega) (by omega)
        have g2 := l21Reduce_ev (E - F) E (by omega) (by omega) hEp (by omega)
        refine ((Evt.shift c2).and ((Evt.shift f2).and (q2.and g2))).mono ?_
        rintro k ⟨h1, h2, h3, h4⟩
        simp only [spec_SkillScore.f, spec_SkillScore.j0, h1, h2, hc, Option.bind_some, if_true, if_neg (show ¬ H = 0 by omega), ← hn, h3, w1, w2, ← hE, ← hF, w3, w4, w5, h4]
        rw [if_neg (by simp; omega), ← ratioV_pos (num := E - F) hEp]
def stepS (a : Int) (s : Int) (c : S102) : Int := if c.f0 ≤ a ∨ c.f0 ≥ 10 - a then s + 1 else s
def sharpV (l : List S102) (a : Int) : Int × Bool := if chancesB l = true ∧ 0 ≤ a ∧ a ≤ 5 then (l.foldl (stepS a) 0, true) else (0, false)
theorem sharp_le (a : Int) : ∀ (l : List S102) (s : Int), l.foldl (stepS a) s ≤ s + l.length
  | [], s => by simp
  | c :: l, s => by
    have ih := sharp_le a l (stepS a s c)
    have h : stepS a s c ≤ s + 1 := by unfold stepS; split <;> omega
    rw [List.foldl_cons, List.length_cons]; omega
theorem sharp_mono (a : Int) : ∀ (l : List S102) (s t : Int), s ≤ t → l.foldl (stepS a) s ≤ l.foldl (stepS (a + 1)) t
  | [], s, t, h => h
  | c :: l, s, t, h => by
    rw [List.foldl_cons, List.foldl_cons]
    refine sharp_mono a l _ _ ?_
    unfold stepS
    by_cases q : c.f0 ≤ a ∨ c.f0 ≥ 10 - a
    · rw [if_pos q, if_pos (by omega)]; omega
    · rw [if_neg q]; split <;> omega
theorem pair_SharpLaw (l : List S102) (a : Int) (hl : l.length ≤ 1048576) (_ : -9223372036854775808 ≤ a ∧ a ≤ 9223372036854775807) : ∃ v : Int × Bool, v = sharpV l a ∧ (Evt fun k => impl_SharpForecasts.f k l a = some v) ∧ (Evt fun k => spec_SharpForecasts.f k l a = some v) := by
  have c1 := IsValidChances_ev l (by omega)
  have c2 := l21Good_ev l (by omega)
  cases hc : chancesB l with
  | false =>
    refine ⟨(0, false), by simp [sharpV, hc], (Evt.pos.and c1).mono ?_, (Evt.pos.and c2).mono ?_⟩
    · rintro k ⟨⟨m, rfl⟩, hk⟩; simp [impl_SharpForecasts.f, impl_SharpForecasts.j0, hk, hc]
    · rintro k ⟨⟨m, rfl⟩, hk⟩; simp [spec_SharpForecasts.f, spec_SharpForecasts.j0, hk, hc]
  | true =>
    by_cases ha : 0 ≤ a ∧ a ≤ 5
    · have w2 : wrap64 (10 - a) = 10 - a := wrap_id (by omega) (by omega)
      have f1 := (evt_fold l z102 (stepS a) (fun s => (s, true)) (fun i s => 0 ≤ s ∧ s ≤ (i : Int)) (fun k s i => impl_SharpForecasts.l0 k a s l (l.length : Int) i) (by
        rintro k i s hi ⟨h0, h1⟩
        refine ⟨by unfold stepS; split <;> omega, ?_⟩
        simp only [impl_SharpForecasts.l0, rd_ch, w2]
        rw [if_pos (by omega), if_pos (by omega), if_pos (by omega), wrap_id (x := (i : Int) + 1) (by omega) (by omega), wrap_id (x := s + 1) (by omega) (by omega)]
        unfold stepS
        by_cases h2 : (l.getD i z102).f0 ≤ a
        · rw [if_pos h2, if_pos (.inl h2)]
        · by_cases h3 : (l.getD i z102).f0 ≥ 10 - a
          · rw [if_neg h2, if_pos h3, if_pos (.inr h3)]
          · rw [if_neg h2, if_neg h3, if_neg (fun h => h.elim h2 h3)]) (by
        rintro k s ⟨h0, h1⟩
        simp only [impl_SharpForecasts.l0]
        rw [if_neg (by omega)]) 0 ⟨by omega, by omega⟩).1
      have f2 := (evt_fold l z102 (stepS a) (fun s => (s, true)) (fun i s => 0 ≤ s ∧ s ≤ (i : Int)) (fun k s i => spec_SharpForecasts.l0 k l a s i) (by
        rintro k i s hi ⟨h0, h1⟩
        refine ⟨by unfold stepS; split <;> omega, ?_⟩
        simp only [spec_SharpForecasts.l0, rd_ch, w2]
        rw [if_pos (by omega), if_pos (by omega), wrap_id (x := (i : Int) + 1) (by omega) (by omega), wrap_id (x := s + 1) (by omega) (by omega)]
        unfold stepS
        by_cases h2 : (l.getD i z102).f0 ≤ a
        · rw [if_pos h2, if_pos (.inl h2)]
        · by_cases h3 : (l.getD i z102).f0 ≥ 10 - a
          · rw [if_neg h2, if_pos h3, if_pos (.inr h3)]
          · rw [if_neg h2, if_neg h3, if_neg (fun h => h.elim h2 h3)]) (by
        rintro k s ⟨h0, h1⟩
        simp only [spec_SharpForecasts.l0]
        rw [if_neg (by omega)]) 0 ⟨by omega, by omega⟩).1
      refine ⟨(l.foldl (stepS a) 0, true), by rw [sharpV, if_pos ⟨hc, ha⟩], Evt.succ ?_, Evt.succ ?_⟩
      · refine (f1.and (Evt.shift c1)).mono ?_
        rintro k ⟨h1, h2⟩
        simp only [impl_SharpForecasts.f, impl_SharpForecasts.j0, h2, hc, Option.bind_some, if_true, within_ok, decide_eq_true ha, Bool.not_true]
        rw [if_neg (by simp), h1]
      · refine (f2.and (Evt.shift c2)).mono ?_
        rintro k ⟨h1, h2⟩
        simp only [spec_SharpForecasts.f, spec_SharpForecasts.j0, h2, hc, Option.bind_some, if_true, l1In_ok, decide_eq_true ha, Bool.not_true]
        rw [if_neg (by simp), h1]
    · refine ⟨(0, false), by rw [sharpV, if_neg (fun h => ha h.2)], (Evt.pos.and c1).mono ?_, (Evt.pos.and c2).mono ?_⟩
      · rintro k ⟨⟨m, rfl⟩, hk⟩
        simp only [impl_SharpForecasts.f, impl_SharpForecasts.j0, hk, hc, Option.bind_some, if_true, within_ok, decide_eq_false ha, Bool.not_false]
      · rintro k ⟨⟨m, rfl⟩, hk⟩
        simp only [spec_SharpForecasts.f, spec_SharpForecasts.j0, hk, hc, Option.bind_some, if_true, l1In_ok, decide_eq_false ha, Bool.not_false]
def flipC (c : S102) : S102 := ⟨10 - c.f0, !c.f1⟩
theorem pair_FlipChances (l : List S102) (hl : l.length ≤ 1048576) : ∃ v, (Evt fun k => impl_FlipChances.f k l = some v) ∧ (Evt fun k => spec_FlipChances.f k l = some v) ∧ v.1.length ≤ 1048576 := by
  have c1 := IsValidChances_ev l (by omega)
  have c2 := l21Good_ev l (by omega)
  cases hc : chancesB l with
  | false =>
    refine ⟨([], false), c1.mono fun k hk => ?_, c2.mono fun k hk => ?_, by simp⟩
    · simp [impl_FlipChances.f, hk, hc]
    · simp [spec_FlipChances.f, hk, hc]
  | true =>
    have hat := chancesB_at hc
    have hlen := chancesB_len hc
    have f1 := evt_loop0 l.length (fun k s i => impl_FlipChances.l0 k s l (l.length : Int) i) (l.map flipC, true) (fun i s => s.length = l.length ∧ ∀ j, j < i → s.getD j z102 = (l.map flipC).getD j z102) (by
      rintro i s hi ⟨h1, h2⟩
      refine .inl ⟨s.set i (flipC (l.getD i z102)), ⟨by simpa using h1, fun j hj => ?_⟩, 1, Evt.all fun k => ?_⟩
      · by_cases e : j = i
        · subst e; rw [getD_set_self _ _ _ _ (by omega), getD_map _ _ z102 _ _ hi]
        · rw [getD_set_ne _ _ _ _ _ (by omega)]; exact h2 j (by omega)
      · have := hat i hi
        show impl_FlipChances.l0 (k + 1) s l (l.length : Int) (i : Int) = _
        simp only [impl_FlipChances.l0, rd_ch]
        rw [if_pos (by omega), if_pos (by omega), if_pos (by omega), if_pos (by omega), wrap_id (x := (i : Int) + 1) (by omega) (by omega), wrap_id (x := 10 - _) (by omega) (by omega), Int.toNat_natCast]
        rfl) (by
      rintro s ⟨h1, h2⟩
      refine Evt.succ (Evt.all fun k => ?_)
      show impl_FlipChances.l0 (k + 1) s l (l.length : Int) (l.length : Int) = _
      simp only [impl_FlipChances.l0]
      rw [if_neg (by omega)]
      exact congrArg some (Prod.ext (list_ext_getD _ _ z102 (by simpa using h1) (fun j hj => h2 j (by simp only at hj; omega))) rfl)) (List.replicate l.length z102) ⟨by simp, fun j hj => by omega⟩
    have f2 := evt_loop0 l.length (fun k s i => spec_FlipChances.l0 k l s i) (l.map flipC, true) (fun i s => s = (l.take i).map flipC) (by
      rintro i s hi rfl
      refine .inl ⟨_, rfl, 1, Evt.all fun k => ?_⟩
      have := hat i hi
      have hlt : ((l.take i).map flipC).length ≤ i := by simp; omega
      show spec_FlipChances.l0 (k + 1) l ((l.take i).map flipC) (i : Int) = _
      simp only [spec_FlipChances.l0, rd_ch]
      rw [if_pos (by omega), if_pos (by omega), if_pos (by omega), wrap_id (x := (i : Int) + 1) (by omega) (by omega), wrap_id (x := 10 - _) (by omega) (by omega)]
      congr 1
      rw [List.take_succ_eq_append_getElem hi, List.map_append, getD_lt _ _ _ hi]
      rfl) (by
      rintro s rfl
      refine Evt.succ (Evt.all fun k => ?_)
      show spec_FlipChances.l0 (k + 1) l ((l.take l.length).map flipC) (l.length : Int) = _
      simp only [spec_FlipChances.l0]
      rw [if_neg (by omega), List.take_length]) [] (by simp)
    refine ⟨(l.map flipC, true), (c1.and f1).mono ?_, (c2.and f2).mono ?_, by simp; omega⟩
    · rintro k ⟨h1, h2⟩
      simp only [impl_FlipChances.f, h1, hc, Option.bind_some, if_true]
      rw [if_pos (by omega), if_pos (by omega), Int.toNat_natCast]
      exact h2
    · rintro k ⟨h1, h2⟩
      simp only [spec_FlipChances.f, h1, hc, Option.bind_some, if_true]
      exact h2
theorem FnDecisions : laws_FnDecisions.Pure := by
  intro l0 hl _ hw
  have hby := bytes_of l0 hw
  by_cases hbig : (l0.length : Int) > 65536
  · exact ⟨0, by simp [laws_FnDecisions.f, laws_rBig.f, hbig]⟩
  obtain ⟨L, t, hL, t0, t1, g1⟩ := DrawDecideAt_ev l0 hby
  obtain ⟨v1, q1, i1, s1, b1⟩ := pair_DecideLaw L t (by omega) (by omega)
  obtain ⟨v2, q2, i2, _, b2⟩ := pair_DecideLaw L (t + 1) (by omega) (by omega)
  obtain ⟨S, hS, g2⟩ := DrawIsValidChances_ev l0 hby
  obtain ⟨v3, q3, i3, s3⟩ := pair_SkillLaw S (by omega)
  obtain ⟨C, w, hC, w0, w1, g4⟩ := DrawSharp_ev l0 hby
  obtain ⟨v4, q4, i4, s4⟩ := pair_SharpLaw C w (by omega) (by omega)
  obtain ⟨v5, q5, i5, _⟩ := pair_SharpLaw C (w + 1) (by omega) (by omega)
  obtain ⟨v6, i6, s6, b6⟩ := pair_FlipChances S (by omega)
  have r1 := rInts_self v1.1 (by omega)
  have r6 := rChances_self v6.1 (by omega)
  have rs : Evt fun k => v1.2 = true → laws_rSum.f k v1.1 = some (L.length : Int) := by
    by_cases c : chancesB L = true ∧ 0 ≤ t ∧ t ≤ 11
    · have e : v1 = (decideV L t, true) := by rw [q1, dAtV, if_pos c]
      have hlen := chancesB_len c.1
      have hs := cntD_sum t L
      have hd := decideV_form L t (by omega)
      have := rSum_ev (decideV L t) (by rw [hd]; simp) (by rw [hd]; simp) (by rw [hd]; simp; omega)
      refine this.mono fun k hk _ => ?_
      rw [e]; dsimp only; rw [hk, hd]
      congr 1; simp; omega
    · have e : v1 = ([], false) := by rw [q1, dAtV, if_neg c]
      exact Evt.all fun k h => by rw [e] at h; simp at h
  have mono : v1.2 = true → v2.2 = true → ∃ a b c d a' b' c' d', v1.1 = [a, b, c, d] ∧ v2.1 = [a', b', c', d'] ∧ a' ≤ a ∧ c' ≤ c := by
    intro h1 h2
    have k1 : chancesB L = true ∧ 0 ≤ t ∧ t ≤ 11 := by
      rw [q1, dAtV] at h1; split at h1
      · assumption
      · simp at h1
    have k2 : chancesB L = true ∧ 0 ≤ t + 1 ∧ t + 1 ≤ 11 := by
      rw [q2, dAtV] at h2; split at h2
      · assumption
      · simp at h2
    rw [q1, q2, dAtV, dAtV, if_pos k1, if_pos k2]
    have hlen := chancesB_len k1.1
    refine ⟨_, _, _, _, _, _, _, _, decideV_form L t (by omega), decideV_form L (t + 1) (by omega), ?_, ?_⟩
    · have := cntD_mono t 0 (.inl rfl) L; omega
    · have := cntD_mono t 2 (.inr rfl) L; omega
  have sh1 : v4.2 = true → v4.1 ≤ (C.length : Int) := by
    intro h
    rw [q4, sharpV] at h ⊢
    split at h
    · rw [if_pos (by assumption)]; have := sharp_le w C 0; dsimp only; omega
    · simp at h
  have sh2 : v4.2 = true → v5.2 = true → v4.1 ≤ v5.1 := by
    intro h h'
    rw [q4, sharpV] at h ⊢
    rw [q5, sharpV] at h' ⊢
    split at h
    · split at h'
      · rw [if_pos (by assumption), if_pos (by assumption)]; exact sharp_mono w C 0 0 (Int.le_refl _)
      · simp at h'
    · simp at h
  obtain ⟨K, hK⟩ := (g1.and (i1.and (s1.and (i2.and (g2.and (i3.and (s3.and (g4.and (i4.and (s4.and (i5.and (i6.and (s6.and (r1.and (r6.and rs))))))))))))))).at
  have d1 := fun j => (hK j).1
  have d2 := fun j => (hK j).2.1
  have d3 := fun j => (hK j).2.2.1
  have d4 := fun j => (hK j).2.2.2.1
  have d5 := fun j => (hK j).2.2.2.2.1
  have d6 := fun j => (hK j).2.2.2.2.2.1
  have d7 := fun j => (hK j).2.2.2.2.2.2.1
  have d8 := fun j => (hK j).2.2.2.2.2.2.2.1
  have d9 := fun j => (hK j).2.2.2.2.2.2.2.2.1
  have d10 := fun j => (hK j).2.2.2.2.2.2.2.2.2.1
  have d11 := fun j => (hK j).2.2.2.2.2.2.2.2.2.2.1
  have d12 := fun j => (hK j).2.2.2.2.2.2.2.2.2.2.2.1
  have d13 := fun j => (hK j).2.2.2.2.2.2.2.2.2.2.2.2.1
  have d14 := fun j => (hK j).2.2.2.2.2.2.2.2.2.2.2.2.2.1
  have d15 := fun j => (hK j).2.2.2.2.2.2.2.2.2.2.2.2.2.2.1
  have d16 := fun j => (hK j).2.2.2.2.2.2.2.2.2.2.2.2.2.2.2
  have wt : wrap64 (t + 1) = t + 1 := wrap_id (by omega) (by omega)
  have ww : wrap64 (w + 1) = w + 1 := wrap_id (by omega) (by omega)
  have j5 : ∀ j, laws_FnDecisions.j5 (K + (j + 1)) l0 false = some true := by
    intro j
    show laws_FnDecisions.j5 ((K + j) + 1) l0 false = some true
    simp only [laws_FnDecisions.j5, spec_DrawFlipChances.f, d5, d12, d13, d15, Option.bind_some, Bool.false_eq_true, if_false, beq_self_eq_true, if_true]
  have j4 : ∀ j, laws_FnDecisions.j4 (K + (j + 2)) l0 C w v4.1 v4.2 false = some true := by
    intro j
    show laws_FnDecisions.j4 ((K + (j + 1)) + 1) l0 C w v4.1 v4.2 false = some true
    simp only [laws_FnDecisions.j4, ww, d11, Option.bind_some, Bool.false_eq_true, if_false, j5]
    cases h4 : v4.2 with
    | false => simp
    | true =>
      cases h5 : v5.2 with
      | false => simp
      | true =>
        have := sh2 h4 h5
        rw [if_pos rfl, if_pos rfl, decide_eq_false (by omega), j5]
  have j3 : ∀ j, laws_FnDecisions.j3 (K + (j + 3)) l0 false = some true := by
    intro j
    show laws_FnDecisions.j3 ((K + (j + 2)) + 1) l0 false = some true
    simp only [laws_FnDecisions.j3, d8, d9, d10, Option.bind_some, Bool.false_eq_true, if_false, if_true, bne_self_eq_false, j4]
    by_cases h4 : v4.2 = true
    · have := sh1 h4
      rw [if_pos h4, decide_eq_false (by omega), j4]
    · rw [if_neg h4]
  have j2 : ∀ j, laws_FnDecisions.j2 (K + (j + 4)) l0 false = some true := by
    intro j
    show laws_FnDecisions.j2 ((K + (j + 3)) + 1) l0 false = some true
    simp only [laws_FnDecisions.j2, spec_DrawSkillScore.f, d5, d6, d7, Option.bind_some, Bool.false_eq_true, if_false, if_true, bne_self_eq_false, j3]
    by_cases h3 : v3.2.2 = true
    · have := q3 h3
      rw [if_pos h3, decide_eq_false (by omega), j3]
    · rw [if_neg h3]
  have j1 : ∀ j, laws_FnDecisions.j1 (K + (j + 5)) l0 L t v1.1 v1.2 false = some true := by
    intro j
    show laws_FnDecisions.j1 ((K + (j + 4)) + 1) l0 L t v1.1 v1.2 false = some true
    simp only [laws_FnDecisions.j1, wt, d4, Option.bind_some, Bool.false_eq_true, if_false, j2]
    cases h1 : v1.2 with
    | false => simp
    | true =>
      cases h2 : v2.2 with
      | false => simp
      | true =>
        obtain ⟨a, b, c, d, a', b', c', d', m1, m2, m3, m4⟩ := mono h1 h2
        rw [m1, m2, if_pos rfl, if_pos rfl]
        have x0 : rd [a, b, c, d] 0 = a := rfl
        have x2 : rd [a, b, c, d] 2 = c := rfl
        have y0 : rd [a', b', c', d'] 0 = a' := rfl
        have y2 : rd [a', b', c', d'] 2 = c' := rfl
        rw [x0, x2, y0, y2, if_pos (by simp), if_pos (by simp), if_neg (by omega), if_pos (by simp), if_pos (by simp), decide_eq_false (by omega), j2]
  have j0 : laws_FnDecisions.j0 (K + 7) l0 L t v1.1 v1.2 false = some true := by
    show laws_FnDecisions.j0 ((K + (1 + 5)) + 1) l0 L t v1.1 v1.2 false = some true
    simp only [laws_FnDecisions.j0, Bool.false_eq_true, if_false]
    by_cases h1 : v1.2 = true
    · rw [if_pos h1, d16 (1 + 5) h1, Option.bind_some, bne_self_eq_false, j1]
    · rw [if_neg h1, j1]
  refine ⟨K + 7, ?_⟩
  unfold laws_FnDecisions.f
  simp only [laws_rBig.f, Option.bind_some, decide_eq_false hbig, d1, d2, d3, d14, Bool.false_eq_true, if_false, bne_self_eq_false, Bool.not_true]
  exact j0
end Go.Proofs.Ytmgckbjdhjbciaa.Pure
