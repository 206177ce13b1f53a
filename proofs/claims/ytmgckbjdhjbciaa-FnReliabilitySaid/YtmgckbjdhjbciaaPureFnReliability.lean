/-
  The pure statement of the law FnReliability: what its printed function answers is 'true' for all numbers and lists of its kinds. Conditions: the kinds' own bounds, as the statement lays them.
-/
import Derived.Test.YtmgckbjdhjbciaaXFnReliabilityx8
import Derived.DataShut
namespace Go.Proofs.Ytmgckbjdhjbciaa.Pure
open Go.RowKit Go.Proofs.Ytmgckbjdhjbciaa.XFnReliability Go.Proofs.YtmgckbjdhjbciaaW.PrintWords Go.Proofs.YtmgckbjdhjbciaaW.PrintLast Go.Proofs.YtmgckbjdhjbciaaW.PrintMore
set_option linter.unusedVariables false
set_option linter.unusedSimpArgs false
theorem wrap_id {x : Int} (h0 : -9223372036854775808 ≤ x) (h1 : x ≤ 9223372036854775807) : wrap64 x = x := by unfold wrap64; omega
theorem getD_drop {α : Type} (xs : List α) (z : α) (i : Nat) (h : i < xs.length) : xs.drop i = xs.getD i z :: xs.drop (i + 1) := by
  rw [List.drop_eq_getElem_cons h, List.getD_eq_getElem?_getD, List.getElem?_eq_getElem h]; rfl
def Evt (P : Nat → Prop) : Prop := ∃ K, ∀ k, K ≤ k → P k
theorem Evt.all {P : Nat → Prop} (h : ∀ k, P k) : Evt P := ⟨0, fun k _ => h k⟩
theorem Evt.above {P : Nat → Prop} (K : Nat) (h : ∀ k, K < k → P k) : Evt P := ⟨K + 1, fun k hk => h k hk⟩
theorem Evt.and {P Q : Nat → Prop} (h : Evt P) (g : Evt Q) : Evt fun k => P k ∧ Q k := by
  obtain ⟨K, h⟩ := h
  obtain ⟨M, g⟩ := g
  exact ⟨K + M, fun k hk => ⟨h k (by omega), g k (by omega)⟩⟩
theorem Evt.mono {P Q : Nat → Prop} (h : Evt P) (g : ∀ k, P k → Q k) : Evt Q := by
  obtain ⟨K, h⟩ := h
  exact ⟨K, fun k hk => g k (h k hk)⟩
theorem Evt.succ {Q : Nat → Prop} (h : Evt fun k => Q (k + 1)) : Evt Q := by
  obtain ⟨K, h⟩ := h
  refine ⟨K + 1, fun k hk => ?_⟩
  obtain ⟨m, rfl⟩ : ∃ m, k = m + 1 := ⟨k - 1, by omega⟩
  exact h m (by omega)
theorem Evt.add {Q : Nat → Prop} (c : Nat) (h : Evt fun k => Q (k + c)) : Evt Q := by
  obtain ⟨K, h⟩ := h
  refine ⟨K + c, fun k hk => ?_⟩
  obtain ⟨m, rfl⟩ : ∃ m, k = m + c := ⟨k - c, by omega⟩
  exact h m (by omega)
theorem Evt.shift {Q : Nat → Prop} (h : Evt Q) : Evt fun k => Q (k + 1) := by
  obtain ⟨K, h⟩ := h
  exact ⟨K, fun k hk => h _ (by omega)⟩
theorem Evt.at {P : Nat → Prop} (h : Evt P) : ∃ K, ∀ j, P (K + j) := by
  obtain ⟨K, h⟩ := h
  exact ⟨K, fun j => h _ (by omega)⟩
theorem Evt.pos : Evt fun k => ∃ m, k = m + 1 := ⟨1, fun k hk => ⟨k - 1, by omega⟩⟩
theorem evt_loop {σ ρ : Type} (n : Nat) (L : Nat → σ → Int → Option ρ) (v : ρ) (Inv : Nat → σ → Prop)
    (step : ∀ i s, i < n → Inv i s → (∃ s', Inv (i + 1) s' ∧ ∃ c, Evt fun k => L (k + c) s (i : Int) = L k s' ((i : Int) + 1)) ∨ Evt fun k => L k s (i : Int) = some v)
    (fin : ∀ s, Inv n s → Evt fun k => L k s (n : Int) = some v) :
    ∀ i s, i ≤ n → Inv i s → Evt fun k => L k s (i : Int) = some v := by
  have key : ∀ d i s, i + d = n → Inv i s → Evt fun k => L k s (i : Int) = some v := by
    intro d
    induction d with
    | zero =>
      intro i s hi h
      obtain rfl : i = n := by omega
      exact fin s h
    | succ d ih =>
      intro i s hi h
      rcases step i s (by omega) h with ⟨s', h', c, e⟩ | e
      · have h2 := ih (i + 1) s' (by omega) h'
        rw [show ((i + 1 : Nat) : Int) = (i : Int) + 1 from by omega] at h2
        exact Evt.add c ((e.and h2).mono fun k hk => hk.1.trans hk.2)
      · exact e
  intro i s hi h
  exact key (n - i) i s (by omega) h
theorem evt_loop0 {σ ρ : Type} (n : Nat) (L : Nat → σ → Int → Option ρ) (v : ρ) (Inv : Nat → σ → Prop)
    (step : ∀ i s, i < n → Inv i s → (∃ s', Inv (i + 1) s' ∧ ∃ c, Evt fun k => L (k + c) s (i : Int) = L k s' ((i : Int) + 1)) ∨ Evt fun k => L k s (i : Int) = some v)
    (fin : ∀ s, Inv n s → Evt fun k => L k s (n : Int) = some v) (s : σ) (h0 : Inv 0 s) : Evt fun k => L k s 0 = some v :=
  evt_loop n L v Inv step fin 0 s (Nat.zero_le _) h0
theorem getD_lt {α : Type} (xs : List α) (z : α) (i : Nat) (h : i < xs.length) : xs.getD i z = xs[i] := by
  rw [List.getD_eq_getElem?_getD, List.getElem?_eq_getElem h]; rfl
theorem getD_set_self {α : Type} (xs : List α) (z v : α) (i : Nat) (h : i < xs.length) : (xs.set i v).getD i z = v := by
  rw [List.getD_eq_getElem?_getD, List.getElem?_set_self h]; rfl
theorem getD_set_ne {α : Type} (xs : List α) (z v : α) (i j : Nat) (h : i ≠ j) : (xs.set i v).getD j z = xs.getD j z := by
  rw [List.getD_eq_getElem?_getD, List.getElem?_set_ne h, List.getD_eq_getElem?_getD]
theorem getD_map {α β : Type} (f : α → β) (xs : List α) (z : α) (y : β) (i : Nat) (h : i < xs.length) : (xs.map f).getD i y = f (xs.getD i z) := by
  rw [getD_lt _ _ _ (by simpa using h), getD_lt _ _ _ h, List.getElem_map]
theorem list_ext_getD {α : Type} (xs ys : List α) (z : α) (h : xs.length = ys.length) (e : ∀ j, j < xs.length → xs.getD j z = ys.getD j z) : xs = ys := by
  apply List.ext_getElem h
  intro j h1 h2
  have := e j h1
  rwa [getD_lt _ _ _ h1, getD_lt _ _ _ h2] at this
theorem evt_loop_ex {σ ρ : Type} (n : Nat) (L : Nat → σ → Int → Option ρ) (R : ρ → Prop) (Inv : Nat → σ → Prop)
    (step : ∀ i s, i < n → Inv i s → (∃ s', Inv (i + 1) s' ∧ ∃ c, Evt fun k => L (k + c) s (i : Int) = L k s' ((i : Int) + 1)) ∨ ∃ v, R v ∧ Evt fun k => L k s (i : Int) = some v)
    (fin : ∀ s, Inv n s → ∃ v, R v ∧ Evt fun k => L k s (n : Int) = some v) (s : σ) (h0 : Inv 0 s) : ∃ v, R v ∧ Evt fun k => L k s 0 = some v := by
  have key : ∀ d i s, i + d = n → Inv i s → ∃ v, R v ∧ Evt fun k => L k s (i : Int) = some v := by
    intro d
    induction d with
    | zero =>
      intro i s hi h
      obtain rfl : i = n := by omega
      exact fin s h
    | succ d ih =>
      intro i s hi h
      rcases step i s (by omega) h with ⟨s', h', c, e⟩ | e
      · obtain ⟨v, hv, h2⟩ := ih (i + 1) s' (by omega) h'
        rw [show ((i + 1 : Nat) : Int) = (i : Int) + 1 from by omega] at h2
        exact ⟨v, hv, Evt.add c ((e.and h2).mono fun k hk => hk.1.trans hk.2)⟩
      · exact e
  exact key n 0 s (by omega) h0
theorem u64_range (x : Int) : 0 ≤ IntKind.u64.wrap x ∧ IntKind.u64.wrap x ≤ 18446744073709551615 := by
  simp [IntKind.wrap, IntKind.signed, IntKind.bits]; omega
theorem and255 (x : Int) : 0 ≤ wrap64 (Go.bits .and .u64 (IntKind.u64.wrap x / 1099511627776) 255) ∧ wrap64 (Go.bits .and .u64 (IntKind.u64.wrap x / 1099511627776) 255) ≤ 255 := by
  obtain ⟨h0, h1⟩ := u64_range x
  obtain ⟨y, hy⟩ : ∃ y, y = IntKind.u64.wrap x / 1099511627776 := ⟨_, rfl⟩
  rw [← hy]
  have h := bits_and_u64_nat y.toNat 255 (by omega) (by omega)
  have e : ((y.toNat : Nat) : Int) = y := by omega
  have h2 : bits BinOp.and IntKind.u64 y 255 = ((y.toNat &&& 255 : Nat) : Int) := by rw [← e]; exact h
  have h3 : y.toNat &&& 255 ≤ 255 := Nat.and_le_right
  rw [show Go.bits .and .u64 y 255 = bits BinOp.and IntKind.u64 y 255 from rfl, h2, wrap_id (by omega) (by omega)]
  omega
theorem next_ok (l : List Int) (hb : ∀ x ∈ l, 0 ≤ x ∧ x ≤ 255) (p s : Int) (h0 : 0 ≤ p) (h1 : p ≤ 4611686018427387904) : ∃ v s', spec_l1Cur_next.f l p s = some (v, p + 1, s') ∧ 0 ≤ v ∧ v ≤ 255 := by
  unfold spec_l1Cur_next.f
  have e : wrap64 (p + 1) = p + 1 := wrap_id (by omega) (by omega)
  by_cases c : p < (l.length : Int)
  · have hm : rd l p ∈ l := by
      have : rd l p = l.getD p.toNat 0 := by simp [rd]
      rw [this, List.getD_eq_getElem?_getD, List.getElem?_eq_getElem (by omega), Option.getD_some]
      exact List.getElem_mem _
    obtain ⟨b0, b1⟩ := hb _ hm
    rw [if_pos c, if_pos h0, e, if_pos (by omega)]
    exact ⟨_, _, rfl, by rw [wrap_id (by omega) (by omega)]; exact ⟨b0, b1⟩⟩
  · rw [if_neg c, e, if_neg (by omega)]
    exact ⟨_, _, rfl, and255 _⟩
theorem tmod_range (x a : Int) (h0 : 0 ≤ x) (ha : 1 ≤ a) : 0 ≤ Int.tmod x a ∧ Int.tmod x a < a := ⟨Int.tmod_nonneg a h0, Int.tmod_lt_of_pos x (by omega)⟩
theorem pick_ok (l : List Int) (hb : ∀ x ∈ l, 0 ≤ x ∧ x ≤ 255) (p s a : Int) (h0 : 0 ≤ p) (h1 : p ≤ 4611686018427387000) (ha : 1 ≤ a) :
    ∃ v p' s', spec_l1Cur_pick.f l p s a = some (v, p', s') ∧ p ≤ p' ∧ p' ≤ p + 2 ∧ 0 ≤ v ∧ v < a := by
  unfold spec_l1Cur_pick.f
  by_cases c : a ≤ 1
  · rw [if_pos c]; exact ⟨0, p, s, rfl, by omega, by omega, by omega, by omega⟩
  · obtain ⟨v, s1, e1, v0, v1⟩ := next_ok l hb p s h0 (by omega)
    rw [if_neg c, e1, Option.bind_some]
    by_cases c2 : a > 200
    · obtain ⟨u, s2, e2, u0, u1⟩ := next_ok l hb (p + 1) s1 (by omega) (by omega)
      rw [if_pos c2]; dsimp only; rw [e2, Option.bind_some, if_neg (by omega)]
      have q : 0 ≤ wrap64 (wrap64 (v * 256) + u) := by rw [wrap_id (x := v * 256) (by omega) (by omega), wrap_id (by omega) (by omega)]; omega
      exact ⟨_, _, _, rfl, by dsimp only; omega, by dsimp only; omega, tmod_range _ a q ha⟩
    · rw [if_neg c2, if_neg (by omega)]
      exact ⟨_, _, _, rfl, by dsimp only; omega, by dsimp only; omega, tmod_range _ a v0 ha⟩
theorem among_ok (l : List Int) (hb : ∀ x ∈ l, 0 ≤ x ∧ x ≤ 255) (p s : Int) (h0 : 0 ≤ p) (h1 : p ≤ 4611686018427387000) (xs : List Int) (hx : 1 ≤ xs.length) :
    ∃ v p' s', spec_l1Cur_among.f l p s xs = some (v, p', s') ∧ p ≤ p' ∧ p' ≤ p + 2 ∧ v ∈ xs := by
  obtain ⟨v, p', s', e, q0, q1, v0, v1⟩ := pick_ok l hb p s (xs.length : Int) h0 h1 (by omega)
  unfold spec_l1Cur_among.f
  rw [e, Option.bind_some, if_pos v0, if_pos v1]
  refine ⟨_, _, _, rfl, q0, q1, ?_⟩
  have : rd xs v = xs.getD v.toNat 0 := by simp [rd]
  dsimp only
  rw [this, List.getD_eq_getElem?_getD, List.getElem?_eq_getElem (by omega), Option.getD_some]
  exact List.getElem_mem _
theorem bytes_of (l : List Int) (h : ∀ x ∈ l, (Lit.int .u8 x).wf = true) : ∀ x ∈ l, 0 ≤ x ∧ x ≤ 255 := by
  intro x hx
  have := h x hx
  simpa [Lit.wf, IntKind.min, IntKind.max, IntKind.signed, IntKind.bits] using this
theorem chances_l1 (l : List Int) (hb : ∀ x ∈ l, 0 ≤ x ∧ x ≤ 255) : ∀ (m : Nat) (xs : List S102) (p s : Int), xs.length + m = 45 → 0 ≤ p → p + 2 * m ≤ 4611686018427380000 →
    ∃ r : List S102 × Int × Int, (r.1.length ≤ 45 ∧ p ≤ r.2.1 ∧ r.2.1 ≤ p + 2 * m + 2) ∧ Evt fun k => spec_l1Cur_chances.l1 k xs l p s = some r := by
  intro m
  induction m with
  | zero =>
    intro xs p s hx h0 h1
    obtain ⟨v, p1, s1, e1, a1, b1, v0, v1⟩ := pick_ok l hb p s 2 h0 (by omega) (by omega)
    refine ⟨(xs, p1, s1), ⟨by dsimp only; omega, by dsimp only; omega, by dsimp only; omega⟩, Evt.succ (Evt.all fun k => ?_)⟩
    simp only [spec_l1Cur_chances.l1]
    rw [e1, Option.bind_some, wrap_id (by omega) (by omega), if_neg (by omega)]
  | succ m ih =>
    intro xs p s hx h0 h1
    obtain ⟨v, p1, s1, e1, a1, b1, v0, v1⟩ := pick_ok l hb p s 2 h0 (by omega) (by omega)
    by_cases c : (xs.length : Int) < 40 + v
    · obtain ⟨r, ⟨r1, r2, r3⟩, ev⟩ := ih (xs ++ [(⟨2, (((xs.length : Int) % 4) == 0)⟩ : S102)]) p1 s1 (by simp; omega) (by omega) (by omega)
      refine ⟨r, ⟨r1, by omega, by omega⟩, Evt.succ (ev.mono fun k hk => ?_)⟩
      simp only [spec_l1Cur_chances.l1]
      rw [e1, Option.bind_some, wrap_id (by omega) (by omega), if_pos c, if_pos (by omega)]; exact hk
    · refine ⟨(xs, p1, s1), ⟨by dsimp only; omega, by dsimp only; omega, by dsimp only; omega⟩, Evt.succ (Evt.all fun k => ?_)⟩
      simp only [spec_l1Cur_chances.l1]
      rw [e1, Option.bind_some, wrap_id (by omega) (by omega), if_neg c]
theorem chances_l2 (l : List Int) (n : Nat) (hn : n ≤ 45) (xs : List S102) (hx : xs.length = n) (p s : Int) :
    ∃ r : List S102 × Int × Int, (r.1.length = n ∧ r.2.1 = p) ∧ Evt fun k => spec_l1Cur_chances.l2 k xs 0 l p s = some r := by
  refine evt_loop_ex n (fun k (q : List S102) i => spec_l1Cur_chances.l2 k q i l p s) _ (fun i q => q.length = n) ?_ ?_ xs hx
  · rintro i q hi hq
    have e : rd_T102 q (i : Int) = q.getD i z102 := by unfold rd_T102; rw [Int.toNat_natCast]
    refine .inl ⟨q.set i (⟨(q.getD i z102).f0, true⟩ : S102), by rw [List.length_set]; exact hq, 1, Evt.all fun k => ?_⟩
    show spec_l1Cur_chances.l2 (k + 1) q (i : Int) l p s = _
    simp only [spec_l1Cur_chances.l2]
    rw [if_pos (by omega), if_pos (by omega), wrap_id (by omega) (by omega), e, Int.toNat_natCast]
  · rintro q hq
    refine ⟨(q, p, s), ⟨hq, rfl⟩, Evt.succ (Evt.all fun k => ?_)⟩
    show spec_l1Cur_chances.l2 (k + 1) q (n : Int) l p s = _
    simp only [spec_l1Cur_chances.l2]
    rw [if_neg (by omega)]
theorem chances_l0 (l : List Int) (hb : ∀ x ∈ l, 0 ≤ x ∧ x ≤ 255) : ∀ (n : Nat) (xs : List S102) (p s : Int), xs.length + n ≤ 12 → 0 ≤ p → p + 4 * n ≤ 4611686018427370000 →
    ∃ r : List S102 × Int × Int, (r.1.length ≤ 45 ∧ p ≤ r.2.1 ∧ r.2.1 ≤ p + 4 * n + 100) ∧ Evt fun k => spec_l1Cur_chances.l0 k xs (n : Int) l p s = some r := by
  intro n
  induction n with
  | zero =>
    intro xs p s hx h0 h1
    obtain ⟨v, p1, s1, e1, a1, b1, v0, v1⟩ := pick_ok l hb p s 40 h0 (by omega) (by omega)
    obtain ⟨u, p2, s2, e2, a2, b2, _⟩ := among_ok l hb p1 s1 (by omega) (by omega) [-1, 11] (by decide)
    obtain ⟨q3, ⟨r1, r2, r3⟩, ev3⟩ := chances_l1 l hb (45 - xs.length) xs p1 s1 (by omega) (by omega) (by omega)
    obtain ⟨q4, ⟨t1, t2⟩, ev4⟩ := chances_l2 l xs.length (by omega) xs rfl p1 s1
    by_cases k0 : v = 0
    · refine ⟨(xs ++ [(⟨u, false⟩ : S102)], p2, s2), ⟨by simp; omega, by dsimp only; omega, by dsimp only; omega⟩, Evt.succ (Evt.all fun k => ?_)⟩
      simp only [spec_l1Cur_chances.l0]
      rw [if_neg (by omega), e1, Option.bind_some, if_pos k0]; dsimp only
      rw [e2, Option.bind_some, if_pos (by omega)]
    · by_cases k1 : v = 1
      · refine ⟨q3, ⟨r1, by omega, by omega⟩, Evt.succ (ev3.mono fun k hk => ?_)⟩
        simp only [spec_l1Cur_chances.l0]
        rw [if_neg (by omega), e1, Option.bind_some, if_neg k0, if_pos k1]; exact hk
      · by_cases k2 : v = 2
        · refine ⟨q4, ⟨by omega, by omega, by omega⟩, Evt.succ (ev4.mono fun k hk => ?_)⟩
          simp only [spec_l1Cur_chances.l0]
          rw [if_neg (by omega), e1, Option.bind_some, if_neg k0, if_neg k1, if_pos k2]; exact hk
        · refine ⟨(xs, p1, s1), ⟨by dsimp only; omega, by dsimp only; omega, by dsimp only; omega⟩, Evt.succ (Evt.all fun k => ?_)⟩
          simp only [spec_l1Cur_chances.l0]
          rw [if_neg (by omega), e1, Option.bind_some, if_neg k0, if_neg k1, if_neg k2]
  | succ n ih =>
    intro xs p s hx h0 h1
    obtain ⟨u, p2, s2, e2, a2, b2, _⟩ := among_ok l hb p s h0 (by omega) [0, 1, 3, 5, 5, 8, 10] (by decide)
    obtain ⟨v, p1, s1, e1, a1, b1, v0, v1⟩ := pick_ok l hb p2 s2 10 (by omega) (by omega) (by omega)
    obtain ⟨r, ⟨r1, r2, r3⟩, ev⟩ := ih (xs ++ [(⟨u, decide (v < u)⟩ : S102)]) p1 s1 (by simp; omega) (by omega) (by omega)
    refine ⟨r, ⟨r1, by omega, by omega⟩, Evt.succ (ev.mono fun k hk => ?_)⟩
    simp only [spec_l1Cur_chances.l0]
    rw [if_pos (by omega), e2, Option.bind_some]; dsimp only
    rw [e1, Option.bind_some, if_pos (by omega), wrap_id (by omega) (by omega), show (((n + 1 : Nat) : Int) - 1) = (n : Int) from by omega]; exact hk
theorem chances_draw (l : List Int) (hb : ∀ x ∈ l, 0 ≤ x ∧ x ≤ 255) (p s : Int) (h0 : 0 ≤ p) (h1 : p ≤ 4611686018427360000) :
    ∃ r : List S102 × Int × Int, (r.1.length ≤ 45 ∧ p ≤ r.2.1 ∧ r.2.1 ≤ p + 200) ∧ Evt fun k => spec_l1Cur_chances.f k l p s = some r := by
  obtain ⟨v, p1, s1, e1, a1, b1, v0, v1⟩ := pick_ok l hb p s 10 h0 (by omega) (by omega)
  obtain ⟨r, ⟨r1, r2, r3⟩, ev⟩ := chances_l0 l hb v.toNat [] p1 s1 (by simp; omega) (by omega) (by omega)
  refine ⟨r, ⟨r1, by omega, by omega⟩, ev.mono fun k hk => ?_⟩
  unfold spec_l1Cur_chances.f
  rw [e1, Option.bind_some]
  rw [show ((v.toNat : Nat) : Int) = v from by omega] at hk
  exact hk
theorem DrawIsValidChances_ev (l : List Int) (hb : ∀ x ∈ l, 0 ≤ x ∧ x ≤ 255) : ∃ cs : List S102, cs.length ≤ 45 ∧ Evt fun k => spec_DrawIsValidChances.f k l = some cs := by
  obtain ⟨r, ⟨hr, _⟩, ev⟩ := chances_draw l hb 0 0 (by omega) (by omega)
  refine ⟨r.1, hr, ev.mono fun k hk => ?_⟩
  unfold spec_DrawIsValidChances.f
  rw [hk, Option.bind_some]
theorem rInts_self (l : List Int) (hl : l.length ≤ 4503599627370496) : Evt fun k => laws_rInts.f k l l = some true := by
  refine Evt.mono (P := fun k => laws_rInts.l0 k l l 0 = some true) ?_ (fun k hk => by unfold laws_rInts.f; rw [if_pos rfl]; exact hk)
  refine evt_loop0 l.length (fun k (_ : Unit) i => laws_rInts.l0 k l l i) true (fun _ _ => True) ?_ ?_ () trivial
  · rintro i s hi _
    refine .inl ⟨(), trivial, 1, Evt.all fun k => ?_⟩
    show laws_rInts.l0 (k + 1) l l (i : Int) = _
    simp only [laws_rInts.l0]
    rw [if_pos (by omega), if_pos (by omega), if_pos (by omega), wrap_id (by omega) (by omega)]; simp
  · rintro s _
    refine Evt.succ (Evt.all fun k => ?_)
    show laws_rInts.l0 (k + 1) l l (l.length : Int) = _
    simp only [laws_rInts.l0]
    rw [if_neg (by omega)]
theorem rChances_self (l : List S102) (hl : l.length ≤ 4503599627370496) : Evt fun k => laws_rChances.f k l l = some true := by
  refine Evt.mono (P := fun k => laws_rChances.l0 k l l 0 = some true) ?_ (fun k hk => by unfold laws_rChances.f; rw [if_pos rfl]; exact hk)
  refine evt_loop0 l.length (fun k (_ : Unit) i => laws_rChances.l0 k l l i) true (fun _ _ => True) ?_ ?_ () trivial
  · rintro i s hi _
    refine .inl ⟨(), trivial, 1, Evt.all fun k => ?_⟩
    show laws_rChances.l0 (k + 1) l l (i : Int) = _
    simp only [laws_rChances.l0]
    rw [if_pos (by omega), if_pos (by omega), if_pos (by omega), wrap_id (by omega) (by omega)]; simp
  · rintro s _
    refine Evt.succ (Evt.all fun k => ?_)
    show laws_rChances.l0 (k + 1) l l (l.length : Int) = _
    simp only [laws_rChances.l0]
    rw [if_neg (by omega)]
theorem within_ok (a b c : Int) : impl_within.f a b c = some (decide (b ≤ a ∧ a ≤ c)) := by
  unfold impl_within.f
  split <;> simp <;> omega
theorem l1In_ok (a b c : Int) : spec_l1In.f a b c = some (decide (b ≤ a ∧ a ≤ c)) := by
  unfold spec_l1In.f
  split <;> simp <;> omega
theorem evt_fold {α σ ρ : Type} (xs : List α) (z : α) (g : σ → α → σ) (out : σ → ρ) (I : Nat → σ → Prop) (L : Nat → σ → Int → Option ρ)
    (step : ∀ k i s, i < xs.length → I i s → I (i + 1) (g s (xs.getD i z)) ∧ L (k + 1) s (i : Int) = L k (g s (xs.getD i z)) ((i : Int) + 1))
    (fin : ∀ k s, I xs.length s → L (k + 1) s (xs.length : Int) = some (out s)) (s : σ) (h0 : I 0 s) : (Evt fun k => L k s 0 = some (out (xs.foldl g s))) ∧ I xs.length (xs.foldl g s) := by
  have key : ∀ d i s, i + d = xs.length → I i s → (Evt fun k => L k s (i : Int) = some (out ((xs.drop i).foldl g s))) ∧ I xs.length ((xs.drop i).foldl g s) := by
    intro d
    induction d with
    | zero =>
      intro i s hi h
      obtain rfl : i = xs.length := by omega
      rw [List.drop_of_length_le (Nat.le_refl _)]
      exact ⟨Evt.succ (Evt.all fun k => fin k s h), h⟩
    | succ d ih =>
      intro i s hi h
      have hlt : i < xs.length := by omega
      rw [getD_drop xs z i hlt, List.foldl_cons]
      have h1 := fun k => step k i s hlt h
      obtain ⟨h2, h3⟩ := ih (i + 1) _ (by omega) (h1 0).1
      rw [show ((i + 1 : Nat) : Int) = (i : Int) + 1 from by omega] at h2
      exact ⟨Evt.succ (h2.mono fun k hk => (h1 k).2.trans hk), h3⟩
  exact key xs.length 0 s (by omega) h0
def chOk (c : S102) : Bool := decide (0 ≤ c.f0 ∧ c.f0 ≤ 10)
def chancesB (l : List S102) : Bool := l.all chOk && decide (l.length ≤ 40)
theorem chancesB_len {l : List S102} (h : chancesB l = true) : l.length ≤ 40 := by
  unfold chancesB at h
  simp only [Bool.and_eq_true, decide_eq_true_eq] at h
  exact h.2
theorem chancesB_at {l : List S102} (h : chancesB l = true) (i : Nat) (hi : i < l.length) : 0 ≤ (l.getD i z102).f0 ∧ (l.getD i z102).f0 ≤ 10 := by
  unfold chancesB at h
  simp only [Bool.and_eq_true, decide_eq_true_eq] at h
  rw [getD_lt _ _ _ hi]
  have := List.all_eq_true.1 h.1 _ (List.getElem_mem hi)
  unfold chOk at this
  exact of_decide_eq_true this
theorem rd_ch (l : List S102) (i : Nat) : rd_T102 l (i : Int) = l.getD i z102 := by unfold rd_T102; rw [Int.toNat_natCast]
theorem IndexFunc_ev (l : List S102) (hl : l.length ≤ 4503599627370496) : ∃ r, decide (r ≥ (0 : Int)) = !(l.all chOk) ∧ Evt fun k => slices_IndexFunc_Chance.f k l = some r := by
  unfold slices_IndexFunc_Chance.f
  refine evt_loop_ex l.length (fun k (_ : Unit) i => slices_IndexFunc_Chance.l0 k l (l.length : Int) i) _ (fun i _ => (l.drop i).all chOk = l.all chOk) ?_ ?_ () rfl
  · intro i s hi h
    rw [getD_drop l z102 i hi, List.all_cons] at h
    by_cases hp : 0 ≤ (l.getD i z102).f0 ∧ (l.getD i z102).f0 ≤ 10
    · refine .inl ⟨(), by rw [← h, chOk, decide_eq_true hp, Bool.true_and], 1, Evt.all fun k => ?_⟩
      show slices_IndexFunc_Chance.l0 (k + 1) l (l.length : Int) (i : Int) = _
      simp only [slices_IndexFunc_Chance.l0, impl_IsValidChances_1.f, within_ok, Option.bind_some, rd_ch, decide_eq_true hp, Bool.not_true]
      rw [if_pos (by omega), if_pos (by omega), if_pos (by omega), if_neg (by simp), wrap_id (by omega) (by omega)]
    · refine .inr ⟨(i : Int), ?_, Evt.succ (Evt.all fun k => ?_)⟩
      · rw [← h, chOk, decide_eq_false hp, Bool.false_and]; simp
      · show slices_IndexFunc_Chance.l0 (k + 1) l (l.length : Int) (i : Int) = _
        simp only [slices_IndexFunc_Chance.l0, impl_IsValidChances_1.f, within_ok, Option.bind_some, rd_ch, decide_eq_false hp, Bool.not_false]
        rw [if_pos (by omega), if_pos (by omega), if_pos (by omega), if_pos trivial]
  · intro s h
    rw [List.drop_of_length_le (Nat.le_refl _)] at h
    refine ⟨-1, by rw [← h]; simp, Evt.succ (Evt.all fun k => ?_)⟩
    show slices_IndexFunc_Chance.l0 (k + 1) l (l.length : Int) (l.length : Int) = _
    simp only [slices_IndexFunc_Chance.l0]
    rw [if_neg (by omega)]
theorem IsValidChances_ev (l : List S102) (hl : l.length ≤ 4503599627370496) : Evt fun k => impl_IsValidChances.f k l = some (chancesB l) := by
  obtain ⟨r, hr, e⟩ := IndexFunc_ev l hl
  refine e.mono fun k hk => ?_
  simp only [impl_IsValidChances.f, slices_ContainsFunc_Chance.f, hk, Option.bind_some, hr, Bool.not_not, chancesB]
  by_cases h : l.length ≤ 40
  · rw [if_pos (by omega), decide_eq_true h, Bool.and_true]
  · rw [if_neg (by omega), decide_eq_false h, Bool.and_false]
theorem l21Good_ev (l : List S102) (hl : l.length ≤ 4503599627370496) : Evt fun k => spec_l21Good.f k l = some (chancesB l) := by
  unfold spec_l21Good.f
  refine evt_loop0 l.length (fun k (_ : Unit) i => spec_l21Good.l0 k l i) (chancesB l) (fun i _ => (l.drop i).all chOk = l.all chOk) ?_ ?_ () rfl
  · intro i s hi h
    rw [getD_drop l z102 i hi, List.all_cons] at h
    by_cases hp : 0 ≤ (l.getD i z102).f0 ∧ (l.getD i z102).f0 ≤ 10
    · refine .inl ⟨(), by rw [← h, chOk, decide_eq_true hp, Bool.true_and], 1, Evt.all fun k => ?_⟩
      show spec_l21Good.l0 (k + 1) l (i : Int) = _
      simp only [spec_l21Good.l0, l1In_ok, Option.bind_some, rd_ch, decide_eq_true hp, if_true]
      rw [if_pos (by omega), if_pos (by omega), wrap_id (by omega) (by omega)]
    · refine .inr (Evt.succ (Evt.all fun k => ?_))
      show spec_l21Good.l0 (k + 1) l (i : Int) = _
      simp only [spec_l21Good.l0, l1In_ok, Option.bind_some, rd_ch, decide_eq_false hp]
      rw [if_pos (by omega), if_pos (by omega), if_neg (by simp), chancesB, ← h, chOk, decide_eq_false hp, Bool.false_and, Bool.false_and]
  · intro s h
    rw [List.drop_of_length_le (Nat.le_refl _)] at h
    refine Evt.succ (Evt.all fun k => ?_)
    show spec_l21Good.l0 (k + 1) l (l.length : Int) = _
    simp only [spec_l21Good.l0]
    rw [if_neg (by omega), chancesB, ← h, List.all_nil, Bool.true_and]
    exact congrArg some (decide_eq_decide.2 (by omega))
theorem l1MostNeg_ok (a : Int) (h : -9223372036854775808 < a) (h2 : a ≤ 9223372036854775807) : spec_l1Most.f a (wrap64 (-a)) = some ((a.natAbs : Nat) : Int) := by
  unfold spec_l1Most.f
  rw [wrap_id (by omega) (by omega)]
  split <;> congr 1 <;> omega
theorem l21Common0_ok : ∀ (d n m k : Nat), n ≤ d → n < k → spec_l21Common.l0 k (m : Int) (n : Int) = some ((Nat.gcd m n : Nat) : Int) := by
  intro d
  induction d with
  | zero =>
    intro n m k hn hk
    obtain ⟨k, rfl⟩ : ∃ j, k = j + 1 := ⟨k - 1, by omega⟩
    obtain rfl : n = 0 := by omega
    simp only [spec_l21Common.l0]
    rw [if_pos (by omega), Nat.gcd_zero_right]
  | succ d ih =>
    intro n m k hn hk
    obtain ⟨k, rfl⟩ : ∃ j, k = j + 1 := ⟨k - 1, by omega⟩
    simp only [spec_l21Common.l0]
    by_cases h0 : n = 0
    · subst h0
      rw [if_pos (by omega), Nat.gcd_zero_right]
    · have hlt := Nat.mod_lt m (Nat.pos_of_ne_zero h0)
      rw [if_neg (by omega), ← Int.ofNat_tmod, ih (m % n) n k (by omega) (by omega), Nat.gcd_comm n (m % n), ← Nat.gcd_rec n m, Nat.gcd_comm]
theorem l21Reduce_ok (num den : Int) (h : -9223372036854775808 < num) (h2 : num ≤ 9223372036854775807) (g : -9223372036854775808 < den) (g2 : den ≤ 9223372036854775807) (h0 : den ≠ 0) :
    ∀ k, den.natAbs < k → spec_l21Reduce.f k num den = some (wrap64 (Int.tdiv num (Nat.gcd num.natAbs den.natAbs : Nat)), wrap64 (Int.tdiv den (Nat.gcd num.natAbs den.natAbs : Nat))) := by
  intro k hk
  have hg := Nat.gcd_pos_of_pos_right num.natAbs (n := den.natAbs) (by omega)
  unfold spec_l21Reduce.f spec_l21Common.f
  rw [l1MostNeg_ok num h h2, Option.bind_some, l1MostNeg_ok den g g2, Option.bind_some, l21Common0_ok _ _ _ k (Nat.le_refl _) hk, Option.bind_some, if_neg (by omega)]
theorem divisorOf_ok : ∀ (n m k : Nat), n < k → impl_divisorOf.f k (m : Int) (n : Int) = some ((Nat.gcd m n : Nat) : Int) := by
  have key : ∀ (d n m k : Nat), n ≤ d → n < k → impl_divisorOf.l0 k (m : Int) (n : Int) = some ((Nat.gcd m n : Nat) : Int) := by
    intro d
    induction d with
    | zero =>
      intro n m k hn hk
      obtain ⟨k, rfl⟩ : ∃ j, k = j + 1 := ⟨k - 1, by omega⟩
      obtain rfl : n = 0 := by omega
      simp only [impl_divisorOf.l0]
      rw [if_neg (by omega), Nat.gcd_zero_right]
    | succ d ih =>
      intro n m k hn hk
      obtain ⟨k, rfl⟩ : ∃ j, k = j + 1 := ⟨k - 1, by omega⟩
      simp only [impl_divisorOf.l0]
      by_cases h0 : n = 0
      · subst h0
        rw [if_neg (by omega), Nat.gcd_zero_right]
      · have hlt := Nat.mod_lt m (Nat.pos_of_ne_zero h0)
        rw [if_pos (by omega), if_neg (by omega), ← Int.ofNat_tmod, ih (m % n) n k (by omega) (by omega), Nat.gcd_comm n (m % n), ← Nat.gcd_rec n m, Nat.gcd_comm]
  intro n m k hk
  exact key n n m k (Nat.le_refl _) hk
theorem absOf_ok (a : Int) (h : -9223372036854775808 < a) (h2 : a ≤ 9223372036854775807) : impl_absOf.f a = some ((a.natAbs : Nat) : Int) := by
  unfold impl_absOf.f
  split
  · rw [wrap_id (by omega) (by omega)]; congr 1; omega
  · congr 1; omega
def stepR (t : Int) (s : Int × Int) (c : S102) : Int × Int := if c.f0 = t then (s.1 + 1, if c.f1 = true then s.2 + 1 else s.2) else s
def binV (l : List S102) (t : Int) : Int × Int := l.foldl (stepR t) (0, 0)
def binI (i : Nat) (s : Int × Int) : Prop := (0 ≤ s.1 ∧ s.1 ≤ (i : Int)) ∧ (0 ≤ s.2 ∧ s.2 ≤ (i : Int))
theorem binI_step (t : Int) (c : S102) {i : Nat} {s : Int × Int} (h : binI i s) : binI (i + 1) (stepR t s c) := by
  unfold stepR binI at *
  split
  · refine ⟨by simp only; omega, ?_⟩
    simp only
    split <;> omega
  · omega
theorem l21Bin_ev (l : List S102) (t : Int) (hl : l.length ≤ 1000000000) : (Evt fun k => spec_l21Bin.f k l t = some (binV l t)) ∧ binI l.length (binV l t) := by
  unfold spec_l21Bin.f binV
  refine evt_fold l z102 (stepR t) id binI (fun k s i => spec_l21Bin.l0 k l t s.1 s.2 i) ?_ ?_ (0, 0) ⟨by simp, by simp⟩
  · rintro k i ⟨s, u⟩ hi h
    refine ⟨binI_step t _ h, ?_⟩
    unfold binI at h
    simp only at h
    simp only [spec_l21Bin.l0, rd_ch]
    rw [if_pos (by omega), if_pos (by omega), wrap_id (x := (i : Int) + 1) (by omega) (by omega), wrap_id (x := s + 1) (by omega) (by omega), wrap_id (x := u + 1) (by omega) (by omega)]
    unfold stepR
    by_cases h1 : (l.getD i z102).f0 = t
    · rw [if_pos h1, if_pos h1]
      by_cases h2 : (l.getD i z102).f1 = true
      · simp only [if_pos h2]
      · simp only [if_neg h2]
    · rw [if_neg h1, if_neg h1]
  · rintro k s h
    simp only [spec_l21Bin.l0]
    rw [if_neg (by omega)]; rfl
def rowV (l : List S102) (t : Nat) : List Int := [(t : Int), (binV l t).1, (binV l t).2]
def relTo (l : List S102) : Nat → List (List Int)
  | 0 => []
  | m + 1 => relTo l m ++ if (binV l m).1 > 0 then [rowV l m] else []
theorem relTo_len (l : List S102) : ∀ m, (relTo l m).length ≤ m
  | 0 => Nat.le_refl _
  | m + 1 => by have := relTo_len l m; simp only [relTo, List.length_append]; split <;> simp <;> omega
theorem relTo_mem (l : List S102) : ∀ m, ∀ r ∈ relTo l m, ∃ t, t < m ∧ r = rowV l t
  | 0 => by simp [relTo]
  | m + 1 => by
    intro r hr
    simp only [relTo, List.mem_append] at hr
    rcases hr with hr | hr
    · obtain ⟨t, ht, e⟩ := relTo_mem l m r hr; exact ⟨t, by omega, e⟩
    · split at hr
      · exact ⟨m, by omega, by simpa using hr⟩
      · simp at hr
theorem relInner (l : List S102) (hl : l.length ≤ 1000000000) (tb : List (List Int)) (htb : tb.length ≤ 100) (t : Nat) (ht : t < 100) : ∀ (d i : Nat) (s : Int × Int) (k : Nat), i + d = l.length → binI i s →
    impl_reliabilityTable.l1 (k + (d + 1)) l tb (t : Int) [(t : Int), s.1, s.2] (t : Int) l (l.length : Int) (i : Int) = impl_reliabilityTable.l0 k l (tb ++ if ((l.drop i).foldl (stepR t) s).1 > 0 then [[(t : Int), ((l.drop i).foldl (stepR t) s).1, ((l.drop i).foldl (stepR t) s).2]] else []) ((t : Int) + 1) := by
  intro d
  induction d with
  | zero =>
    intro i s k hi h
    obtain rfl : i = l.length := by omega
    rw [List.drop_of_length_le (Nat.le_refl _), List.foldl_nil]
    show impl_reliabilityTable.l1 (k + 1) l tb (t : Int) [(t : Int), s.1, s.2] (t : Int) l (l.length : Int) (l.length : Int) = _
    rw [impl_reliabilityTable.l1]
    have e1 : rd [(t : Int), s.1, s.2] 1 = s.1 := rfl
    rw [if_neg (by omega), if_pos (by simp), e1, wrap_id (x := (t : Int) + 1) (by omega) (by omega)]
    by_cases h1 : s.1 > 0
    · rw [if_pos h1, if_pos h1, if_pos (by omega)]
    · rw [if_neg h1, if_neg h1, List.append_nil]
  | succ d ih =>
    intro i s k hi h
    have hlt : i < l.length := by omega
    rw [getD_drop l z102 i hlt, List.foldl_cons]
    have h2 := ih (i + 1) (stepR t s (l.getD i z102)) k (by omega) (binI_step _ _ h)
    rw [show ((i + 1 : Nat) : Int) = (i : Int) + 1 from by omega] at h2
    rw [← h2]
    show impl_reliabilityTable.l1 ((k + (d + 1)) + 1) l tb (t : Int) [(t : Int), s.1, s.2] (t : Int) l (l.length : Int) (i : Int) = _
    rw [impl_reliabilityTable.l1]
    unfold binI at h
    rw [if_pos (by omega), if_pos (by omega), if_pos (by omega), rd_ch, wrap_id (x := (i : Int) + 1) (by omega) (by omega)]
    unfold stepR
    by_cases h1 : (l.getD i z102).f0 = (t : Int)
    · rw [if_pos h1, if_pos h1, if_pos (by simp), Option.bind_some]
      have e1 : rd [(t : Int), s.1, s.2] 1 = s.1 := rfl
      rw [e1, wrap_id (x := s.1 + 1) (by omega) (by omega)]
      have e2 : ([(t : Int), s.1, s.2] : List Int).set (1 : Int).toNat (s.1 + 1) = [(t : Int), s.1 + 1, s.2] := rfl
      rw [e2]
      have e3 : rd [(t : Int), s.1 + 1, s.2] 2 = s.2 := rfl
      rw [e3, wrap_id (x := s.2 + 1) (by omega) (by omega)]
      by_cases h3 : (l.getD i z102).f1 = true
      · rw [if_pos h3, if_pos h3, if_pos (by simp)]; rfl
      · rw [if_neg h3, if_neg h3]
    · rw [if_neg h1, if_neg h1]
theorem reliabilityTable_ev (l : List S102) (hl : l.length ≤ 1000000000) (n : Nat) (hn : n = 11) : Evt fun k => impl_reliabilityTable.f k l = some (relTo l n) := by
  unfold impl_reliabilityTable.f
  refine evt_loop0 n (fun k s i => impl_reliabilityTable.l0 k l s i) (relTo l n) (fun i s => s = relTo l i) ?_ ?_ [] rfl
  · rintro i s hi rfl
    have hlen := relTo_len l i
    refine .inl ⟨_, rfl, l.length + 2, Evt.all fun k => ?_⟩
    show impl_reliabilityTable.l0 ((k + (l.length + 1)) + 1) l (relTo l i) (i : Int) = _
    rw [impl_reliabilityTable.l0, if_pos (by omega)]
    have := relInner l hl (relTo l i) (by omega) i (by omega) l.length 0 (0, 0) k (by omega) ⟨by simp, by simp⟩
    exact this
  · rintro s rfl
    refine Evt.succ (Evt.all fun k => ?_)
    show impl_reliabilityTable.l0 (k + 1) l (relTo l n) (n : Int) = _
    simp only [impl_reliabilityTable.l0]
    rw [if_neg (by omega)]
def biasR (r : List Int) : Int := r.getD 1 0 * r.getD 0 0 - 10 * r.getD 2 0
def stepB (s : Int × Int × Bool) (r : List Int) : Int × Int × Bool := if s.2.2 = true then (if (biasR r).natAbs > s.2.1.natAbs then (r.getD 0 0, biasR r, true) else s) else (r.getD 0 0, biasR r, true)
def smallR (r : List Int) : Prop := r.length = 3 ∧ (0 ≤ r.getD 0 0 ∧ r.getD 0 0 ≤ 10) ∧ (0 ≤ r.getD 1 0 ∧ r.getD 1 0 ≤ 40) ∧ (0 ≤ r.getD 2 0 ∧ r.getD 2 0 ≤ 40)
theorem biasR_le {r : List Int} (h : smallR r) : (0 ≤ r.getD 1 0 * r.getD 0 0 ∧ r.getD 1 0 * r.getD 0 0 ≤ 400) ∧ -400 ≤ biasR r ∧ biasR r ≤ 400 := by
  unfold smallR at h
  have h1 : 0 ≤ r.getD 1 0 * r.getD 0 0 := Int.mul_nonneg (by omega) (by omega)
  have h2 : r.getD 1 0 * r.getD 0 0 ≤ 40 * 10 := Int.mul_le_mul (by omega) (by omega) (by omega) (by omega)
  unfold biasR
  omega
theorem rowV_small (l : List S102) (hl : l.length ≤ 40) (t : Nat) (ht : t < 11) : smallR (rowV l t) := by
  obtain ⟨_, h⟩ := l21Bin_ev l (t : Int) (by omega)
  unfold binI at h
  unfold smallR rowV
  exact ⟨rfl, by simp; omega, by simp; omega, by simp; omega⟩
theorem biasImpl_loop (tb : List (List Int)) (htb : tb.length ≤ 100) (hs : ∀ r ∈ tb, smallR r) : Evt fun k => impl_MostBiased.l0 k 0 0 false tb (tb.length : Int) 0 = some ((tb.foldl stepB (0, 0, false)).1, (tb.foldl stepB (0, 0, false)).2.1, true) := by
  refine (evt_fold tb [] stepB (fun s => (s.1, s.2.1, true)) (fun _ s => -400 ≤ s.2.1 ∧ s.2.1 ≤ 400) (fun k s i => impl_MostBiased.l0 k s.1 s.2.1 s.2.2 tb (tb.length : Int) i) ?_ ?_ (0, 0, false) ⟨by simp, by simp⟩).1
  · rintro k i ⟨s, u, b⟩ hi h
    simp only at h
    have hr : smallR (tb.getD i []) := by rw [getD_lt _ _ _ hi]; exact hs _ (List.getElem_mem hi)
    have hb := biasR_le hr
    have er : rd_L4 tb (i : Int) = tb.getD i [] := by unfold rd_L4; rw [Int.toNat_natCast]
    refine ⟨by unfold stepB; split <;> (try split) <;> (try simp only) <;> omega, ?_⟩
    simp only [impl_MostBiased.l0, er]
    generalize tb.getD i [] = r at *
    have h3 := hr.1
    have e0 : rd r 0 = r.getD 0 0 := rfl
    have e1 : rd r 1 = r.getD 1 0 := rfl
    have e2 : rd r 2 = r.getD 2 0 := rfl
    unfold smallR at hr
    have w1 : wrap64 (wrap64 (r.getD 1 0 * r.getD 0 0) - wrap64 (10 * r.getD 2 0)) = biasR r := by
      rw [wrap_id (x := r.getD 1 0 * r.getD 0 0) (by omega) (by omega), wrap_id (x := 10 * r.getD 2 0) (by omega) (by omega)]
      exact wrap_id (x := biasR r) (by omega) (by omega)
    rw [if_pos (by omega), if_pos (by omega), if_pos (by omega), if_pos (by omega), if_pos (by omega), if_pos (by omega), e0, e1, e2, w1, absOf_ok _ (by omega) (by omega), absOf_ok _ (by omega) (by omega), wrap_id (x := (i : Int) + 1) (by omega) (by omega)]
    simp only [Option.bind_some]
    unfold stepB
    cases b
    · simp
    · by_cases hg : (biasR r).natAbs > u.natAbs
      · simp only [if_true]
        rw [if_pos (by omega), if_pos hg]
      · simp only [if_true]
        rw [if_neg (by omega), if_neg hg]
  · rintro k ⟨s, u, b⟩ h
    simp only [impl_MostBiased.l0]
    rw [if_neg (by omega)]
theorem biasSpec_loop (l : List S102) (hl : l.length ≤ 40) (n : Nat) (hn : n = 11) : Evt fun k => spec_MostBiased.l0 k l 0 0 false 0 = some (((relTo l n).foldl stepB (0, 0, false)).1, ((relTo l n).foldl stepB (0, 0, false)).2.1, true) := by
  refine evt_loop0 n (fun k (s : Int × Int × Bool) i => spec_MostBiased.l0 k l s.1 s.2.1 s.2.2 i) _ (fun i s => s = (relTo l i).foldl stepB (0, 0, false) ∧ -400 ≤ s.2.1 ∧ s.2.1 ≤ 400) ?_ ?_ (0, 0, false) ⟨rfl, by simp, by simp⟩
  · rintro i s hi ⟨hs, h⟩
    have hr := rowV_small l hl i (by omega)
    have hb := biasR_le hr
    obtain ⟨e1, e2⟩ := l21Bin_ev l (i : Int) (by omega)
    unfold binI at e2
    have w1 : wrap64 (wrap64 ((binV l i).1 * (i : Int)) - wrap64 (10 * (binV l i).2)) = biasR (rowV l i) := by
      have x1 : (binV l i).1 * (i : Int) = (rowV l i).getD 1 0 * (rowV l i).getD 0 0 := rfl
      rw [wrap_id (x := (binV l i).1 * (i : Int)) (by omega) (by omega), wrap_id (x := 10 * (binV l i).2) (by omega) (by omega)]
      exact wrap_id (x := biasR (rowV l i)) (by omega) (by omega)
    refine .inl ⟨(relTo l (i + 1)).foldl stepB (0, 0, false), ⟨rfl, ?_⟩, 1, e1.mono fun k hk => ?_⟩
    · simp only [relTo, List.foldl_append, ← hs]
      split
      · simp only [List.foldl_cons, List.foldl_nil]
        unfold stepB; split <;> (try split) <;> (try simp only) <;> omega
      · exact h
    · obtain ⟨s, u, b⟩ := s
      simp only at h
      show spec_MostBiased.l0 (k + 1) l s u b (i : Int) = _
      simp only [spec_MostBiased.l0, hk, Option.bind_some, w1, relTo, List.foldl_append, ← hs]
      rw [if_pos (by omega), wrap_id (x := (i : Int) + 1) (by omega) (by omega), l1MostNeg_ok _ (by omega) (by omega), l1MostNeg_ok _ (by omega) (by omega)]
      by_cases h0 : (binV l i).1 > 0
      · rw [if_pos h0, if_pos h0]
        simp only [Option.bind_some, List.foldl_cons, List.foldl_nil]
        unfold stepB
        cases b
        · simp [rowV]
        · by_cases hg : (biasR (rowV l i)).natAbs > u.natAbs
          · simp only [if_true]
            rw [if_pos (by omega), if_pos hg]; rfl
          · simp only [if_true]
            rw [if_neg (by omega), if_neg hg]
      · rw [if_neg h0, if_neg h0]; rfl
  · rintro s ⟨hs, h⟩
    refine Evt.succ (Evt.all fun k => ?_)
    show spec_MostBiased.l0 (k + 1) l s.1 s.2.1 s.2.2 (n : Int) = _
    simp only [spec_MostBiased.l0]
    rw [if_neg (by omega), hs]
theorem pair_MostBiased (l : List S102) (hl : l.length ≤ 1048576) : ∃ v, (Evt fun k => impl_MostBiased.f k l = some v) ∧ (Evt fun k => spec_MostBiased.f k l = some v) := by
  have c1 := IsValidChances_ev l (by omega)
  have c2 := l21Good_ev l (by omega)
  cases hc : chancesB l with
  | false =>
    refine ⟨(0, 0, false), (Evt.pos.and c1).mono ?_, (Evt.pos.and c2).mono ?_⟩
    · rintro k ⟨⟨m, rfl⟩, hk⟩; simp [impl_MostBiased.f, impl_MostBiased.j0, hk, hc]
    · rintro k ⟨⟨m, rfl⟩, hk⟩; simp [spec_MostBiased.f, spec_MostBiased.j0, hk, hc]
  | true =>
    have hlen := chancesB_len hc
    by_cases h0 : l.length = 0
    · refine ⟨(0, 0, false), (Evt.pos.and c1).mono ?_, (Evt.pos.and c2).mono ?_⟩
      · rintro k ⟨⟨m, rfl⟩, hk⟩; simp [impl_MostBiased.f, impl_MostBiased.j0, hk, hc, h0]
      · rintro k ⟨⟨m, rfl⟩, hk⟩; simp [spec_MostBiased.f, spec_MostBiased.j0, hk, hc, h0]
    · obtain ⟨n, hn⟩ : ∃ n : Nat, n = 11 := ⟨_, rfl⟩
      have ht := relTo_len l n
      have f1 := biasImpl_loop (relTo l n) (by omega) (fun r hr => by obtain ⟨t, ht, rfl⟩ := relTo_mem l n r hr; exact rowV_small l hlen t (by omega))
      have f2 := biasSpec_loop l hlen n hn
      have f3 := reliabilityTable_ev l (by omega) n hn
      refine ⟨(((relTo l n).foldl stepB (0, 0, false)).1, ((relTo l n).foldl stepB (0, 0, false)).2.1, true), Evt.succ (((Evt.shift c1).and (f3.and f1)).mono ?_), Evt.succ (((Evt.shift c2).and f2).mono ?_)⟩
      · rintro k ⟨h1, h2, h3⟩
        simp only [impl_MostBiased.f, impl_MostBiased.j0, h1, hc, Option.bind_some, if_true, h2]
        rw [if_neg (by rw [beq_iff_eq]; omega), h3]
      · rintro k ⟨h1, h2⟩
        simp only [spec_MostBiased.f, spec_MostBiased.j0, h1, hc, Option.bind_some, if_true]
        rw [if_neg (by rw [beq_iff_eq]; omega), h2]
def ratioV (num den : Int) : Int × Int × Bool := if den = 0 then (0, 0, false) else (wrap64 (Int.tdiv num (Nat.gcd num.natAbs den.natAbs : Nat)), wrap64 (Int.tdiv den (Nat.gcd num.natAbs den.natAbs : Nat)), true)
theorem ratioOf_ok (num den : Int) (h : -9223372036854775808 < num) (h2 : num ≤ 9223372036854775807) (hd : 0 ≤ den) : ∀ k, num.natAbs < k → impl_ratioOf.f k num den = some (ratioV num den) := by
  intro k hk
  unfold impl_ratioOf.f ratioV
  by_cases h0 : den = 0
  · rw [if_pos h0, if_pos h0]
  · have hg := Nat.gcd_pos_of_pos_right num.natAbs (n := den.natAbs) (by omega)
    have hc := divisorOf_ok num.natAbs den.natAbs k hk
    rw [show ((den.natAbs : Nat) : Int) = den from by omega, Nat.gcd_comm] at hc
    rw [if_neg h0, if_neg h0, if_neg (by omega), absOf_ok num h h2, Option.bind_some, hc, Option.bind_some, if_neg (by omega)]
def stepH (s : Int) (c : S102) : Int := if c.f1 = true then s + 1 else s
def hapV (l : List S102) : Int := l.foldl stepH 0
theorem happened_ev (l : List S102) (hl : l.length ≤ 1000000000) : (Evt fun k => impl_happened.f k l = some (hapV l)) ∧ (0 ≤ hapV l ∧ hapV l ≤ (l.length : Int)) := by
  unfold impl_happened.f hapV
  refine evt_fold l z102 stepH id (fun i s => 0 ≤ s ∧ s ≤ (i : Int)) (fun k s i => impl_happened.l0 k s l (l.length : Int) i) ?_ ?_ 0 ⟨by omega, by omega⟩
  · rintro k i s hi ⟨h0, h1⟩
    refine ⟨by unfold stepH; split <;> omega, ?_⟩
    simp only [impl_happened.l0, rd_ch]
    rw [if_pos (by omega), if_pos (by omega), if_pos (by omega), wrap_id (x := (i : Int) + 1) (by omega) (by omega), wrap_id (x := s + 1) (by omega) (by omega)]
    unfold stepH
    split <;> rfl
  · rintro k s ⟨h0, h1⟩
    simp only [impl_happened.l0]
    rw [if_neg (by omega)]; rfl
theorem l21Happened_ev (l : List S102) (hl : l.length ≤ 1000000000) : Evt fun k => spec_l21Happened.f k l = some (hapV l) := by
  unfold spec_l21Happened.f hapV
  refine (evt_fold l z102 stepH id (fun i s => 0 ≤ s ∧ s ≤ (i : Int)) (fun k s i => spec_l21Happened.l0 k l s i) ?_ ?_ 0 ⟨by omega, by omega⟩).1
  · rintro k i s hi ⟨h0, h1⟩
    refine ⟨by unfold stepH; split <;> omega, ?_⟩
    simp only [spec_l21Happened.l0, rd_ch]
    rw [if_pos (by omega), if_pos (by omega), wrap_id (x := (i : Int) + 1) (by omega) (by omega), wrap_id (x := s + 1) (by omega) (by omega)]
    unfold stepH
    split <;> rfl
  · rintro k s ⟨h0, h1⟩
    simp only [spec_l21Happened.l0]
    rw [if_neg (by omega)]; rfl
def sqC (c : S102) : Int := if c.f1 = true then (c.f0 - 10) * (c.f0 - 10) else c.f0 * c.f0
def sqV (l : List S102) : Int := l.foldl (fun s c => s + sqC c) 0
theorem mul_self_le {x B : Int} (h0 : -B ≤ x) (h1 : x ≤ B) : 0 ≤ x * x ∧ x * x ≤ B * B := by
  rcases Int.le_total 0 x with h | h
  · exact ⟨Int.mul_nonneg h h, Int.mul_le_mul h1 h1 h (Int.le_trans h h1)⟩
  · have e : x * x = (-x) * (-x) := by rw [Int.neg_mul_neg]
    rw [e]
    exact ⟨Int.mul_nonneg (by omega) (by omega), Int.mul_le_mul (by omega) (by omega) (by omega) (by omega)⟩
theorem sqC_le (c : S102) (h : 0 ≤ c.f0 ∧ c.f0 ≤ 10) : 0 ≤ sqC c ∧ sqC c ≤ 100 := by
  unfold sqC
  split
  · have := mul_self_le (x := c.f0 - 10) (B := 10) (by omega) (by omega); omega
  · have := mul_self_le (x := c.f0) (B := 10) (by omega) (by omega); omega
theorem squareSum_ev (l : List S102) (hc : chancesB l = true) : (Evt fun k => impl_squareSum.f k l = some (sqV l)) ∧ (0 ≤ sqV l ∧ sqV l ≤ 100 * (l.length : Int)) := by
  have hat := chancesB_at hc
  have hlen := chancesB_len hc
  unfold impl_squareSum.f sqV
  refine evt_fold l z102 (fun s c => s + sqC c) id (fun i s => 0 ≤ s ∧ s ≤ 100 * (i : Int)) (fun k s i => impl_squareSum.l0 k s l (l.length : Int) i) ?_ ?_ 0 ⟨by omega, by omega⟩
  · rintro k i s hi ⟨h0, h1⟩
    have hb := hat i hi
    have hs := sqC_le _ hb
    refine ⟨by omega, ?_⟩
    simp only [impl_squareSum.l0, rd_ch]
    rw [if_pos (by omega), if_pos (by omega), if_pos (by omega), wrap_id (x := (i : Int) + 1) (by omega) (by omega), wrap_id (x := (l.getD i z102).f0 - 10) (by omega) (by omega)]
    unfold sqC at hs ⊢
    split
    · rename_i hf
      rw [if_pos hf] at hs
      rw [wrap_id (x := ((l.getD i z102).f0 - 10) * ((l.getD i z102).f0 - 10)) (by omega) (by omega), wrap_id (by omega) (by omega)]
    · rename_i hf
      rw [if_neg hf] at hs
      rw [wrap_id (x := (l.getD i z102).f0 * (l.getD i z102).f0) (by omega) (by omega), wrap_id (by omega) (by omega)]
  · rintro k s ⟨h0, h1⟩
    simp only [impl_squareSum.l0]
    rw [if_neg (by omega)]; rfl
theorem l21Square_ev (l : List S102) (hc : chancesB l = true) : Evt fun k => spec_l21Square.f k l = some (sqV l) := by
  have hat := chancesB_at hc
  have hlen := chancesB_len hc
  unfold spec_l21Square.f sqV
  refine (evt_fold l z102 (fun s c => s + sqC c) id (fun i s => 0 ≤ s ∧ s ≤ 100 * (i : Int)) (fun k s i => spec_l21Square.l0 k l s i) ?_ ?_ 0 ⟨by omega, by omega⟩).1
  · rintro k i s hi ⟨h0, h1⟩
    have hb := hat i hi
    have hs := sqC_le _ hb
    refine ⟨by omega, ?_⟩
    simp only [spec_l21Square.l0, rd_ch]
    rw [if_pos (by omega), if_pos (by omega), wrap_id (x := (i : Int) + 1) (by omega) (by omega), wrap_id (x := (l.getD i z102).f0 - 10) (by omega) (by omega)]
    unfold sqC at hs ⊢
    split
    · rename_i hf
      rw [if_pos hf] at hs
      rw [wrap_id (x := ((l.getD i z102).f0 - 10) * ((l.getD i z102).f0 - 10)) (by omega) (by omega), wrap_id (by omega) (by omega)]
    · rename_i hf
      rw [if_neg hf] at hs
      rw [wrap_id (x := (l.getD i z102).f0 * (l.getD i z102).f0) (by omega) (by omega), wrap_id (by omega) (by omega)]
  · rintro k s ⟨h0, h1⟩
    simp only [spec_l21Square.l0]
    rw [if_neg (by omega)]; rfl
theorem fraction_ev (num den : Int) (h : -9223372036854775808 < num) (h2 : num ≤ 9223372036854775807) (hd : 0 ≤ den) : Evt fun k => impl_fraction.f k num den = some (ratioV num den) := by
  refine (Evt.above _ (ratioOf_ok num den h h2 hd)).mono fun k hk => ?_
  simp only [impl_fraction.f, hk, Option.bind_some]
theorem l21Reduce_ev (num den : Int) (h : -9223372036854775808 < num) (h2 : num ≤ 9223372036854775807) (g : 0 < den) (g2 : den ≤ 9223372036854775807) :
    Evt fun k => spec_l21Reduce.f k num den = some ((ratioV num den).1, (ratioV num den).2.1) := by
  refine (Evt.above _ (l21Reduce_ok num den h h2 (by omega) g2 (by omega))).mono fun k hk => ?_
  rw [hk, ratioV, if_neg (by omega)]
theorem ratioV_pos {num den : Int} (h : 0 < den) : (ratioV num den).2.2 = true := by rw [ratioV, if_neg (by omega)]
def flipC (c : S102) : S102 := ⟨10 - c.f0, !c.f1⟩
def flipV (l : List S102) : List S102 × Bool := if chancesB l = true then (l.map flipC, true) else ([], false)
theorem FlipImpl_ev (l : List S102) (hl : l.length ≤ 1048576) : Evt fun k => impl_FlipChances.f k l = some (flipV l) := by
  have c1 := IsValidChances_ev l (by omega)
  cases hc : chancesB l with
  | false =>
    refine c1.mono fun k hk => ?_
    simp [impl_FlipChances.f, hk, hc, flipV]
  | true =>
    have hat := chancesB_at hc
    have hlen := chancesB_len hc
    have f1 := evt_loop0 l.length (fun k s i => impl_FlipChances.l0 k s l (l.length : Int) i) (l.map flipC, true) (fun i s => s.length = l.length ∧ ∀ j, j < i → s.getD j z102 = (l.map flipC).getD j z102) (by
      rintro i s hi ⟨h1, h2⟩
      refine .inl ⟨s.set i (flipC (l.getD i z102)), ⟨by simpa using h1, fun j hj => ?_⟩, 1, Evt.all fun k => ?_⟩
      · by_cases e : j = i
        · subst e; rw [getD_set_self _ _ _ _ (by omega), getD_map _ _ z102 _ _ hi]
        · rw [getD_set_ne _ _ _ _ _ (by omega)]; exact h2 j (by omega)
      · have := hat i hi
        show impl_FlipChances.l0 (k + 1) s l (l.length : Int) (i : Int) = _
        simp only [impl_FlipChances.l0, rd_ch]
        rw [if_pos (by omega), if_pos (by omega), if_pos (by omega), if_pos (by omega), wrap_id (x := (i : Int) + 1) (by omega) (by omega), wrap_id (x := 10 - _) (by omega) (by omega), Int.toNat_natCast]
        rfl) (by
      rintro s ⟨h1, h2⟩
      refine Evt.succ (Evt.all fun k => ?_)
      show impl_FlipChances.l0 (k + 1) s l (l.length : Int) (l.length : Int) = _
      simp only [impl_FlipChances.l0]
      rw [if_neg (by omega)]
      exact congrArg some (Prod.ext (list_ext_getD _ _ z102 (by simpa using h1) (fun j hj => h2 j (by simp only at hj; omega))) rfl)) (List.replicate l.length z102) ⟨by simp, fun j hj => by omega⟩
    refine (c1.and f1).mono ?_
    rintro k ⟨h1, h2⟩
    rw [flipV, if_pos hc]
    simp only [impl_FlipChances.f, h1, hc, Option.bind_some, if_true]
    rw [if_pos (by omega), if_pos (by omega), Int.toNat_natCast]
    exact h2
def cntT (l : List S102) (t : Int) : Nat := l.countP fun c => decide (c.f0 = t)
def cntH (l : List S102) (t : Int) : Nat := l.countP fun c => decide (c.f0 = t) && c.f1
def belT (l : List S102) (m : Nat) : Nat := l.countP fun c => decide (0 ≤ c.f0 ∧ c.f0 < (m : Int))
def belH (l : List S102) (m : Nat) : Nat := l.countP fun c => decide (0 ≤ c.f0 ∧ c.f0 < (m : Int)) && c.f1
theorem binFold (t : Int) : ∀ (l : List S102) (s : Int × Int), l.foldl (stepR t) s = (s.1 + (cntT l t : Int), s.2 + (cntH l t : Int))
  | [], s => by simp [cntT, cntH]
  | c :: l, s => by
    rw [List.foldl_cons, binFold t l]
    unfold stepR cntT cntH
    rw [List.countP_cons, List.countP_cons]
    by_cases h : c.f0 = t
    · cases hf : c.f1 <;> simp [h, hf] <;> omega
    · simp [h]
theorem binV_cnt (l : List S102) (t : Int) : binV l t = ((cntT l t : Int), (cntH l t : Int)) := by
  unfold binV; rw [binFold]; simp
theorem cntH_le (t : Int) (l : List S102) : cntH l t ≤ cntT l t := by
  unfold cntH cntT
  apply List.countP_mono_left
  intro c _ h
  simp only [Bool.and_eq_true] at h
  exact h.1
theorem belT_succ (m : Nat) : ∀ l : List S102, belT l (m + 1) = belT l m + cntT l (m : Int)
  | [] => rfl
  | c :: l => by
    have ih := belT_succ m l
    unfold belT cntT at ih ⊢
    simp only [List.countP_cons, decide_eq_true_eq]
    rw [ih]
    by_cases h1 : 0 ≤ c.f0 ∧ c.f0 < (m : Int)
    · rw [if_pos h1, if_pos (by omega), if_neg (by omega)]; omega
    · by_cases h2 : c.f0 = (m : Int)
      · rw [if_neg h1, if_pos h2, if_pos (by omega)]; omega
      · rw [if_neg h1, if_neg h2, if_neg (by omega)]
        omega
theorem belH_succ (m : Nat) : ∀ l : List S102, belH l (m + 1) = belH l m + cntH l (m : Int)
  | [] => rfl
  | c :: l => by
    have ih := belH_succ m l
    unfold belH cntH at ih ⊢
    simp only [List.countP_cons, Bool.and_eq_true, decide_eq_true_eq]
    rw [ih]
    by_cases hf : c.f1 = true
    · simp only [hf, and_true]
      by_cases h1 : 0 ≤ c.f0 ∧ c.f0 < (m : Int)
      · rw [if_pos h1, if_pos (by omega), if_neg (by omega)]; omega
      · by_cases h2 : c.f0 = (m : Int)
        · rw [if_neg h1, if_pos h2, if_pos (by omega)]; omega
        · rw [if_neg h1, if_neg h2, if_neg (by omega)]
          omega
    · have hf' : c.f1 = false := by simpa using hf
      simp only [hf', Bool.false_eq_true, and_false, if_false]; omega
theorem relTo_sum1 (l : List S102) : ∀ m, ((relTo l m).map fun r => r.getD 1 0).sum = (belT l m : Int)
  | 0 => by
    have : belT l 0 = 0 := by unfold belT; rw [List.countP_eq_zero]; intro c _; simp; try omega
    simp [relTo, this]
  | m + 1 => by
    have ih := relTo_sum1 l m
    have hb := binV_cnt l (m : Int)
    rw [belT_succ]
    simp only [relTo, List.map_append, List.sum_append, ih, hb]
    by_cases h : (cntT l (m : Int) : Int) > 0
    · rw [if_pos h]; simp [rowV, hb]
    · rw [if_neg h]; simp; omega
theorem relTo_sum2 (l : List S102) : ∀ m, ((relTo l m).map fun r => r.getD 2 0).sum = (belH l m : Int)
  | 0 => by
    have : belH l 0 = 0 := by unfold belH; rw [List.countP_eq_zero]; intro c _; simp; try omega
    simp [relTo, this]
  | m + 1 => by
    have ih := relTo_sum2 l m
    have hb := binV_cnt l (m : Int)
    have hle := cntH_le (m : Int) l
    rw [belH_succ]
    simp only [relTo, List.map_append, List.sum_append, ih, hb]
    by_cases h : (cntT l (m : Int) : Int) > 0
    · rw [if_pos h]; simp [rowV, hb]
    · rw [if_neg h]; simp; omega
theorem belT_all (l : List S102) (h : ∀ c ∈ l, 0 ≤ c.f0 ∧ c.f0 ≤ 10) (m : Nat) (hm : m = 11) : belT l m = l.length := by
  unfold belT
  rw [List.countP_eq_length]
  intro c hc
  have := h c hc
  simp; omega
theorem hapFold : ∀ (l : List S102) (s : Int), l.foldl stepH s = s + ((l.countP fun c => c.f1 : Nat) : Int)
  | [], s => by simp
  | c :: l, s => by
    rw [List.foldl_cons, hapFold l, List.countP_cons]
    unfold stepH
    cases hf : c.f1 <;> simp; omega
theorem belH_all (l : List S102) (h : ∀ c ∈ l, 0 ≤ c.f0 ∧ c.f0 ≤ 10) (m : Nat) (hm : m = 11) : (belH l m : Int) = hapV l := by
  unfold hapV belH
  rw [hapFold, Int.zero_add]
  congr 1
  apply List.countP_congr
  intro c hc
  have := h c hc
  simp; omega
theorem relSpecT_loop (l : List S102) (hl : l.length ≤ 1000000000) (n : Nat) (hn : n = 11) : Evt fun k => spec_ReliabilityTable.l0 k l [] 0 = some (relTo l n, true) := by
  refine evt_loop0 n (fun k s i => spec_ReliabilityTable.l0 k l s i) (relTo l n, true) (fun i s => s = relTo l i) ?_ ?_ [] rfl
  · rintro i s hi rfl
    have hx := relTo_len l i
    refine .inl ⟨_, rfl, 1, (l21Bin_ev l (i : Int) hl).1.mono fun k hk => ?_⟩
    show spec_ReliabilityTable.l0 (k + 1) l (relTo l i) (i : Int) = _
    simp only [spec_ReliabilityTable.l0, hk, Option.bind_some, relTo]
    rw [if_pos (by omega), wrap_id (by omega) (by omega)]
    by_cases h : (binV l (i : Int)).1 > 0
    · rw [if_pos h, if_pos h, if_pos (by omega)]; rfl
    · rw [if_neg h, if_neg h, List.append_nil]
  · rintro s rfl
    refine Evt.succ (Evt.all fun k => ?_)
    show spec_ReliabilityTable.l0 (k + 1) l (relTo l n) (n : Int) = _
    simp only [spec_ReliabilityTable.l0]
    rw [if_neg (by omega)]
theorem rTable_self (tb : List (List Int)) (hl : tb.length ≤ 1000000) (hr : ∀ r ∈ tb, r.length ≤ 1000000) : Evt fun k => laws_rTable.f k tb tb = some true := by
  refine Evt.mono (P := fun k => laws_rTable.l0 k tb tb 0 = some true) ?_ (fun k hk => by unfold laws_rTable.f; rw [if_pos rfl]; exact hk)
  refine evt_loop0 tb.length (fun k (_ : Unit) i => laws_rTable.l0 k tb tb i) true (fun _ _ => True) ?_ ?_ () trivial
  · rintro i s hi _
    have e : rd_L4 tb (i : Int) = tb.getD i [] := by unfold rd_L4; rw [Int.toNat_natCast]
    have hm : tb.getD i [] ∈ tb := by rw [getD_lt _ _ _ hi]; exact List.getElem_mem hi
    refine .inl ⟨(), trivial, 1, (rInts_self (tb.getD i []) (by have := hr _ hm; omega)).mono fun k hk => ?_⟩
    show laws_rTable.l0 (k + 1) tb tb (i : Int) = _
    simp only [laws_rTable.l0, e, hk, Option.bind_some]
    rw [if_pos (by omega), if_pos (by omega), if_pos (by omega), wrap_id (by omega) (by omega)]; simp
  · rintro s _
    refine Evt.succ (Evt.all fun k => ?_)
    show laws_rTable.l0 (k + 1) tb tb (tb.length : Int) = _
    simp only [laws_rTable.l0]
    rw [if_neg (by omega)]
theorem flip_ok (l : List S102) (hc : chancesB l = true) : chancesB (l.map flipC) = true := by
  unfold chancesB at hc ⊢
  simp only [Bool.and_eq_true, decide_eq_true_eq, List.length_map, List.all_map] at hc ⊢
  refine ⟨?_, hc.2⟩
  rw [List.all_eq_true] at hc ⊢
  intro c h
  have := hc.1 c h
  unfold chOk at this ⊢
  have := of_decide_eq_true this
  simp only [Function.comp, flipC]
  exact decide_eq_true (by omega)
theorem flip_flip (l : List S102) : (l.map flipC).map flipC = l := by
  rw [List.map_map]
  have : (flipC ∘ flipC) = id := by
    funext c
    cases c with
    | mk a b => simp [flipC, Function.comp]; omega
  rw [this, List.map_id]
theorem flip_sq (l : List S102) : sqV (l.map flipC) = sqV l := by
  unfold sqV
  rw [List.foldl_map]
  congr 1
  funext s c
  have : sqC (flipC c) = sqC c := by
    unfold sqC flipC
    cases hf : c.f1
    · simp
      rw [show 10 - c.f0 - 10 = - c.f0 by omega, Int.neg_mul_neg]
    · simp
      rw [show 10 - c.f0 = - (c.f0 - 10) by omega, Int.neg_mul_neg]
  rw [this]
theorem flip_hap (l : List S102) : hapV (l.map flipC) = (l.length : Int) - hapV l := by
  unfold hapV
  rw [hapFold, hapFold, List.countP_map]
  have : ∀ l : List S102, (List.countP ((fun c => c.f1) ∘ flipC) l : Int) = (l.length : Int) - (List.countP (fun c => c.f1) l : Int) := by
    intro l
    induction l with
    | nil => rfl
    | cons c l ih =>
      rw [List.countP_cons, List.countP_cons, List.length_cons]
      simp only [Function.comp, flipC] at ih ⊢
      by_cases hf : c.f1 = true
      · simp only [hf, if_true, Bool.not_true, Bool.false_eq_true, if_false]; omega
      · have hf' : c.f1 = false := by simpa using hf
        simp only [hf', Bool.not_false, if_true, Bool.false_eq_true, if_false]; omega
  rw [this]; omega
def baseV (l : List S102) : Int × Int × Bool := if chancesB l = true then ratioV (hapV l) (l.length : Int) else (0, 0, false)
theorem pair_BaseLaw (l : List S102) (hl : l.length ≤ 1048576) : ∃ v : Int × Int × Bool, v = baseV l ∧ (Evt fun k => impl_BaseRate.f k l = some v) ∧ (Evt fun k => spec_BaseRate.f k l = some v) := by
  have c1 := IsValidChances_ev l (by omega)
  have c2 := l21Good_ev l (by omega)
  obtain ⟨f1, hb⟩ := happened_ev l (by omega)
  have f2 := l21Happened_ev l (by omega)
  cases hc : chancesB l with
  | false =>
    refine ⟨(0, 0, false), by simp [baseV, hc], (Evt.pos.and c1).mono ?_, (Evt.pos.and c2).mono ?_⟩
    · rintro k ⟨⟨m, rfl⟩, hk⟩; simp [impl_BaseRate.f, hk, hc]
    · rintro k ⟨⟨m, rfl⟩, hk⟩; simp [spec_BaseRate.f, spec_BaseRate.j0, hk, hc]
  | true =>
    have hlen := chancesB_len hc
    have g1 := fraction_ev (hapV l) (l.length : Int) (by omega) (by omega) (by omega)
    refine ⟨ratioV (hapV l) (l.length : Int), by rw [baseV, if_pos hc], (c1.and (f1.and g1)).mono ?_, Evt.succ ?_⟩
    · rintro k ⟨h1, h2, h3⟩
      simp only [impl_BaseRate.f, h1, hc, Option.bind_some, if_true, h2, h3]
    · by_cases h0 : l.length = 0
      · refine (Evt.shift c2).mono fun k hk => ?_
        simp only [spec_BaseRate.f, spec_BaseRate.j0, hk, hc, Option.bind_some, if_true]
        rw [if_pos (by simp [h0]), ratioV, if_pos (by omega)]
      · have g2 := l21Reduce_ev (hapV l) (l.length : Int) (by omega) (by omega) (by omega) (by omega)
        refine ((Evt.shift c2).and (f2.and g2)).mono ?_
        rintro k ⟨h1, h2, h3⟩
        simp only [spec_BaseRate.f, spec_BaseRate.j0, h1, hc, Option.bind_some, if_true, h2, h3]
        rw [if_neg (by rw [beq_iff_eq]; omega), ← ratioV_pos (num := hapV l) (den := (l.length : Int)) (by omega)]
def brierV (l : List S102) : Int × Int × Bool := if chancesB l = true then ratioV (sqV l) (100 * (l.length : Int)) else (0, 0, false)
theorem pair_BrierLaw (l : List S102) (hl : l.length ≤ 1048576) : ∃ v : Int × Int × Bool, v = brierV l ∧ (Evt fun k => impl_BrierScore.f k l = some v) ∧ (Evt fun k => spec_BrierScore.f k l = some v) := by
  have c1 := IsValidChances_ev l (by omega)
  have c2 := l21Good_ev l (by omega)
  cases hc : chancesB l with
  | false =>
    refine ⟨(0, 0, false), by simp [brierV, hc], (Evt.pos.and c1).mono ?_, (Evt.pos.and c2).mono ?_⟩
    · rintro k ⟨⟨m, rfl⟩, hk⟩; simp [impl_BrierScore.f, hk, hc]
    · rintro k ⟨⟨m, rfl⟩, hk⟩; simp [spec_BrierScore.f, spec_BrierScore.j0, hk, hc]
  | true =>
    have hlen := chancesB_len hc
    obtain ⟨f1, hb⟩ := squareSum_ev l hc
    have f2 := l21Square_ev l hc
    have w : wrap64 (100 * (l.length : Int)) = 100 * (l.length : Int) := wrap_id (by omega) (by omega)
    have g1 := fraction_ev (sqV l) (100 * (l.length : Int)) (by omega) (by omega) (by omega)
    refine ⟨ratioV (sqV l) (100 * (l.length : Int)), by rw [brierV, if_pos hc], (c1.and (f1.and g1)).mono ?_, Evt.succ ?_⟩
    · rintro k ⟨h1, h2, h3⟩
      simp only [impl_BrierScore.f, h1, hc, Option.bind_some, if_true, h2, w, h3]
    · by_cases h0 : l.length = 0
      · refine (Evt.shift c2).mono fun k hk => ?_
        simp only [spec_BrierScore.f, spec_BrierScore.j0, hk, hc, Option.bind_some, if_true]
        rw [if_pos (by simp [h0]), ratioV, if_pos (by omega)]
      · have g2 := l21Reduce_ev (sqV l) (100 * (l.length : Int)) (by omega) (by omega) (by omega) (by omega)
        refine ((Evt.shift c2).and (f2.and g2)).mono ?_
        rintro k ⟨h1, h2, h3⟩
        simp only [spec_BrierScore.f, spec_BrierScore.j0, h1, hc, Option.bind_some, if_true, h2, w, h3]
        rw [if_neg (by rw [beq_iff_eq]; omega), ← ratioV_pos (num := sqV l) (den := 100 * (l.length : Int)) (by omega)]
theorem ratioV_law (n d : Int) (hd : 0 < d) (hd2 : d ≤ 9223372036854775807) (hn : -9223372036854775808 < n) (hn2 : n ≤ 9223372036854775807) :
    ∃ q r, ratioV n d = (q, r, true) ∧ (n ≤ d → q ≤ r) ∧ (q ≤ 0 ↔ n ≤ 0) := by
  unfold ratioV
  rw [if_neg (by omega)]
  have hg := Nat.gcd_pos_of_pos_right n.natAbs (n := d.natAbs) (by omega)
  obtain ⟨g, hG⟩ : ∃ g : Int, g = (Nat.gcd n.natAbs d.natAbs : Nat) := ⟨_, rfl⟩
  rw [← hG]
  have g0 : 0 < g := by omega
  obtain ⟨q, hq⟩ : g ∣ n := by rw [hG, ← Int.dvd_natAbs]; exact Int.natCast_dvd_natCast.2 (Nat.gcd_dvd_left _ _)
  obtain ⟨r, hr⟩ : g ∣ d := by rw [hG, ← Int.dvd_natAbs]; exact Int.natCast_dvd_natCast.2 (Nat.gcd_dvd_right _ _)
  have a1 : n.natAbs = g.natAbs * q.natAbs := by rw [hq, Int.natAbs_mul]
  have a2 : d.natAbs = g.natAbs * r.natAbs := by rw [hr, Int.natAbs_mul]
  have b1 : q.natAbs ≤ g.natAbs * q.natAbs := Nat.le_mul_of_pos_left _ (by omega)
  have b2 : r.natAbs ≤ g.natAbs * r.natAbs := Nat.le_mul_of_pos_left _ (by omega)
  have c1 : Int.tdiv n g = q := by rw [hq]; exact Int.mul_tdiv_cancel_left _ (by omega)
  have c2 : Int.tdiv d g = r := by rw [hr]; exact Int.mul_tdiv_cancel_left _ (by omega)
  rw [c1, c2, wrap_id (x := q) (by omega) (by omega), wrap_id (x := r) (by omega) (by omega)]
  refine ⟨q, r, rfl, fun h => ?_, ?_, ?_⟩
  · rw [hq, hr] at h; exact Int.le_of_mul_le_mul_left h g0
  · intro h; rw [hq]; exact Int.mul_nonpos_of_nonneg_of_nonpos (by omega) h
  · intro h
    rcases Int.lt_or_le 0 q with k | k
    · have := Int.mul_pos g0 k; omega
    · exact k
theorem mul_le_big {x y A B : Int} (h0 : 0 ≤ x) (h1 : x ≤ A) (g0 : 0 ≤ y) (g1 : y ≤ B) : 0 ≤ x * y ∧ x * y ≤ A * B :=
  ⟨Int.mul_nonneg h0 g0, Int.mul_le_mul h1 g1 g0 (Int.le_trans h0 h1)⟩
theorem ratioV_form (n d : Int) (hd : 0 < d) (hd2 : d ≤ 9223372036854775807) (hn : -9223372036854775808 < n) (hn2 : n ≤ 9223372036854775807) :
    ∃ g q r, ratioV n d = (q, r, true) ∧ 0 < g ∧ n = g * q ∧ d = g * r := by
  unfold ratioV
  rw [if_neg (by omega)]
  have hg := Nat.gcd_pos_of_pos_right n.natAbs (n := d.natAbs) (by omega)
  obtain ⟨g, hG⟩ : ∃ g : Int, g = (Nat.gcd n.natAbs d.natAbs : Nat) := ⟨_, rfl⟩
  rw [← hG]
  have g0 : 0 < g := by omega
  obtain ⟨q, hq⟩ : g ∣ n := by rw [hG, ← Int.dvd_natAbs]; exact Int.natCast_dvd_natCast.2 (Nat.gcd_dvd_left _ _)
  obtain ⟨r, hr⟩ : g ∣ d := by rw [hG, ← Int.dvd_natAbs]; exact Int.natCast_dvd_natCast.2 (Nat.gcd_dvd_right _ _)
  have a1 : n.natAbs = g.natAbs * q.natAbs := by rw [hq, Int.natAbs_mul]
  have a2 : d.natAbs = g.natAbs * r.natAbs := by rw [hr, Int.natAbs_mul]
  have b1 : q.natAbs ≤ g.natAbs * q.natAbs := Nat.le_mul_of_pos_left _ (by omega)
  have b2 : r.natAbs ≤ g.natAbs * r.natAbs := Nat.le_mul_of_pos_left _ (by omega)
  have c1 : Int.tdiv n g = q := by rw [hq]; exact Int.mul_tdiv_cancel_left _ (by omega)
  have c2 : Int.tdiv d g = r := by rw [hr]; exact Int.mul_tdiv_cancel_left _ (by omega)
  rw [c1, c2, wrap_id (x := q) (by omega) (by omega), wrap_id (x := r) (by omega) (by omega)]
  exact ⟨g, q, r, rfl, g0, hq, hr⟩
theorem small_factor {g q n : Int} (hg : 0 < g) (h : n = g * q) (h0 : 0 ≤ n) : 0 ≤ q ∧ q ≤ n := by
  have h1 : 0 ≤ q := by
    rcases Int.lt_or_le q 0 with k | k
    · have := Int.mul_neg_of_pos_of_neg hg k; omega
    · exact k
  have : 1 * q ≤ g * q := Int.mul_le_mul_of_nonneg_right (by omega) h1
  exact ⟨h1, by omega⟩
theorem relLaw_loop (l : List S102) (tb : List (List Int)) (b : Bool) (htb : tb.length ≤ 100) (hs : ∀ r ∈ tb, smallR r) (h2 : Evt fun k => (if b = true then laws_FnReliability.j2 k l (tb.map fun r => r.getD 1 0).sum (tb.map fun r => r.getD 2 0).sum ((tb.map fun r => r.getD 1 0).sum != (l.length : Int)) else laws_FnReliability.j2 k l (tb.map fun r => r.getD 1 0).sum (tb.map fun r => r.getD 2 0).sum false) = some true) :
    Evt fun k => laws_FnReliability.l0 k l tb b 0 0 0 = some true := by
  refine evt_loop0 tb.length (fun k (s : Int × Int) i => laws_FnReliability.l0 k l tb b s.1 s.2 i) true
    (fun i s => (0 ≤ s.1 ∧ s.1 ≤ 40 * i) ∧ (0 ≤ s.2 ∧ s.2 ≤ 40 * i) ∧ s.1 + ((tb.drop i).map fun r => r.getD 1 0).sum = (tb.map fun r => r.getD 1 0).sum ∧ s.2 + ((tb.drop i).map fun r => r.getD 2 0).sum = (tb.map fun r => r.getD 2 0).sum) ?_ ?_ (0, 0) ⟨by simp, by simp, by simp, by simp⟩
  · rintro i ⟨x, y⟩ hi ⟨i1, i2, i3, i4⟩
    dsimp only at i1 i2 i3 i4
    have e : rd_L4 tb (i : Int) = tb.getD i [] := by unfold rd_L4; rw [Int.toNat_natCast]
    have hm : tb.getD i [] ∈ tb := by rw [getD_lt _ _ _ hi]; exact List.getElem_mem hi
    obtain ⟨s1, s2, s3, s4⟩ := hs _ hm
    obtain ⟨r, hr⟩ : ∃ r, r = tb.getD i [] := ⟨_, rfl⟩
    rw [getD_drop tb [] i hi, List.map_cons, List.sum_cons, ← hr] at i3 i4
    rw [← hr] at s1 s2 s3 s4 e
    have r1 : rd r 1 = r.getD 1 0 := rfl
    have r2 : rd r 2 = r.getD 2 0 := rfl
    refine .inl ⟨(x + r.getD 1 0, y + r.getD 2 0), ⟨by dsimp only; omega, by dsimp only; omega, by dsimp only; omega, by dsimp only; omega⟩, 1, Evt.all fun k => ?_⟩
    show laws_FnReliability.l0 (k + 1) l tb b x y (i : Int) = _
    simp only [laws_FnReliability.l0, e, r1, r2]
    rw [if_pos (by omega), if_pos (by omega), if_pos (by omega), if_pos (by omega), wrap_id (x := x + _) (by omega) (by omega), wrap_id (x := y + _) (by omega) (by omega), wrap_id (by omega) (by omega)]
  · rintro ⟨x, y⟩ ⟨i1, i2, i3, i4⟩
    rw [List.drop_of_length_le (Nat.le_refl _)] at i3 i4
    simp only [List.map_nil, List.sum_nil, Int.add_zero] at i3 i4
    refine Evt.succ (h2.mono fun k hk => ?_)
    show laws_FnReliability.l0 (k + 1) l tb b x y (tb.length : Int) = _
    simp only [laws_FnReliability.l0]
    rw [if_neg (by omega), i3, i4]; exact hk
theorem ReliabilityTable_ok (l : List S102) (hl : l.length ≤ 1000) (n : Nat) (hn : n = 11) : (Evt fun k => impl_ReliabilityTable.f k l = some (if chancesB l = true then (relTo l n, true) else ([], false))) ∧ (Evt fun k => spec_ReliabilityTable.f k l = some (if chancesB l = true then (relTo l n, true) else ([], false))) := by
  refine ⟨((IsValidChances_ev l (by omega)).and (reliabilityTable_ev l (by omega) n hn)).mono ?_, ((l21Good_ev l (by omega)).and (relSpecT_loop l (by omega) n hn)).mono ?_⟩
  · rintro k ⟨h1, h2⟩
    simp only [impl_ReliabilityTable.f, h1, h2, Option.bind_some]
    cases chancesB l <;> simp
  · rintro k ⟨h1, h2⟩
    simp only [spec_ReliabilityTable.f, h1, h2, Option.bind_some]
    cases chancesB l <;> simp
theorem FnReliability : laws_FnReliability.Pure := by
  intro l0 hl _ hw
  have hby := bytes_of l0 hw
  by_cases hbig : (l0.length : Int) > 65536
  · exact ⟨0, by simp [laws_FnReliability.f, laws_rBig.f, hbig]⟩
  obtain ⟨l, hL, g1⟩ := DrawIsValidChances_ev l0 hby
  obtain ⟨n, hn⟩ : ∃ n : Nat, n = 11 := ⟨_, rfl⟩
  obtain ⟨t1, t2⟩ := ReliabilityTable_ok l (by omega) n hn
  have iv := IsValidChances_ev l (by omega)
  obtain ⟨vb, qb, ib, sb⟩ := pair_BaseLaw l (by omega)
  obtain ⟨vm, im, sm⟩ := pair_MostBiased l (by omega)
  have j4 : Evt fun k => laws_FnReliability.j4 k l false = some true := by
    refine Evt.succ ((im.and sm).mono ?_)
    rintro k ⟨h1, h2⟩
    simp [laws_FnReliability.j4, h1, h2]
  have j3f : ∀ a b, Evt fun k => laws_FnReliability.j3 k l a b false false = some true := by
    intro a b
    refine Evt.succ ((im.and sm).mono ?_)
    rintro k ⟨h1, h2⟩
    simp [laws_FnReliability.j3, h1, h2]
  have main : Evt fun k => laws_FnReliability.j0 k l (if chancesB l = true then (relTo l n, true) else ([], false)).1 (if chancesB l = true then (relTo l n, true) else ([], false)).2 false = some true := by
    cases hc : chancesB l with
    | false =>
      have e : vb = (0, 0, false) := by rw [qb, baseV, hc]; rfl
      rw [e] at ib sb
      simp only [Bool.false_eq_true, if_false]
      have j2 : Evt fun k => laws_FnReliability.j2 k l 0 0 false = some true := by
        refine Evt.succ ((ib.and (sb.and (j3f 0 0))).mono ?_)
        rintro k ⟨h1, h2, h3⟩
        simp [laws_FnReliability.j2, h1, h2, h3]
      have := relLaw_loop l [] false (by simp) (by simp) (by simpa using j2)
      refine Evt.succ (this.mono fun k hk => ?_)
      simp [laws_FnReliability.j0, hk]
    | true =>
      have hlen := chancesB_len hc
      have e : vb = ratioV (hapV l) (l.length : Int) := by rw [qb, baseV, if_pos hc]
      rw [e] at ib sb
      simp only [if_true]
      have hall : ∀ c ∈ l, 0 ≤ c.f0 ∧ c.f0 ≤ 10 := by
        intro c h
        have hc' := hc
        unfold chancesB at hc'
        simp only [Bool.and_eq_true, decide_eq_true_eq] at hc'
        have := List.all_eq_true.1 hc'.1 c h
        unfold chOk at this
        exact of_decide_eq_true this
      have s1 : ((relTo l n).map fun r => r.getD 1 0).sum = (l.length : Int) := by rw [relTo_sum1, belT_all l hall n hn]
      have s2 : ((relTo l n).map fun r => r.getD 2 0).sum = hapV l := by rw [relTo_sum2, belH_all l hall n hn]
      have hsm : ∀ r ∈ relTo l n, smallR r := by
        intro r hr
        obtain ⟨t, ht, rfl⟩ := relTo_mem l n r hr
        exact rowV_small l hlen t (by omega)
      have hH := (happened_ev l (by omega)).2
      have j2 : Evt fun k => laws_FnReliability.j2 k l (l.length : Int) (hapV l) false = some true := by
        by_cases h0 : l.length = 0
        · have r0 : ratioV (hapV l) (l.length : Int) = (0, 0, false) := by rw [ratioV, if_pos (by omega)]
          rw [r0] at ib sb
          refine Evt.succ ((ib.and (sb.and (j3f 0 0))).mono ?_)
          rintro k ⟨h1, h2, h3⟩
          simp [laws_FnReliability.j2, h1, h2, h3]
        · obtain ⟨g, q, r, er, g0, hq, hr⟩ := ratioV_form (hapV l) (l.length : Int) (by omega) (by omega) (by omega) (by omega)
          obtain ⟨q0, q1⟩ := small_factor g0 hq (by omega)
          obtain ⟨r0, r1⟩ := small_factor g0 hr (by omega)
          rw [er] at ib sb
          have fl := flip_ok l hc
          have i1 := FlipImpl_ev l (by omega)
          have i2 := FlipImpl_ev (l.map flipC) (by rw [List.length_map]; omega)
          obtain ⟨v1, y1, c1, d1⟩ := pair_BrierLaw l (by omega)
          obtain ⟨v2, y2, c2, _⟩ := pair_BrierLaw (l.map flipC) (by rw [List.length_map]; omega)
          obtain ⟨v3, y3, c3, _⟩ := pair_BaseLaw (l.map flipC) (by rw [List.length_map]; omega)
          rw [flipV, if_pos hc] at i1
          rw [flipV, if_pos fl, flip_flip] at i2
          rw [brierV, if_pos hc] at y1
          rw [brierV, if_pos fl, flip_sq, List.length_map, ← y1] at y2
          rw [baseV, if_pos fl, flip_hap, List.length_map] at y3
          have hQ := (squareSum_ev l hc).2
          obtain ⟨bq, br, be, ble, _⟩ := ratioV_law (sqV l) (100 * (l.length : Int)) (by omega) (by omega) (by omega) (by omega)
          obtain ⟨g', p', q', er', g0', hp', hq'⟩ := ratioV_form ((l.length : Int) - hapV l) (l.length : Int) (by omega) (by omega) (by omega) (by omega)
          obtain ⟨p0', p1'⟩ := small_factor g0' hp' (by omega)
          obtain ⟨q0', q1'⟩ := small_factor g0' hq' (by omega)
          rw [be] at y1
          rw [er'] at y3
          have k1 : q * (l.length : Int) = hapV l * r := by rw [hq]; conv => lhs; rw [hr]
                                                            rw [← Int.mul_assoc, Int.mul_comm q g]
          have k2 : p' * r = (r - q) * q' := by
            have a1 : g * g' * (p' * r) = (g' * p') * (g * r) := by ac_rfl
            have a2 : g * g' * ((r - q) * q') = (g * r - g * q) * (g' * q') := by rw [← Int.mul_sub]; ac_rfl
            rw [← hp', ← hr] at a1
            rw [← hr, ← hq, ← hq'] at a2
            exact Int.eq_of_mul_eq_mul_left (Int.ne_of_gt (Int.mul_pos g0 g0')) (a1.trans a2.symm)
          have m1 := mul_le_big (x := q) (y := (l.length : Int)) (A := 40) (B := 40) (by omega) (by omega) (by omega) (by omega)
          have m2 := mul_le_big (x := p') (y := r) (A := 40) (B := 40) (by omega) (by omega) (by omega) (by omega)
          have w1 : wrap64 (q * (l.length : Int)) = q * (l.length : Int) := wrap_id (by omega) (by omega)
          have w2 : wrap64 (hapV l * r) = q * (l.length : Int) := by rw [← k1]; exact w1
          have w3 : wrap64 (p' * r) = p' * r := wrap_id (by omega) (by omega)
          have w4 : wrap64 (r - q) = r - q := wrap_id (by omega) (by omega)
          have w5 : wrap64 ((r - q) * q') = p' * r := by rw [← k2]; exact w3
          have rc := rChances_self l (by omega)
          have j3 : Evt fun k => laws_FnReliability.j3 k l q r true false = some true := by
            refine Evt.succ ((i1.and (i2.and (c1.and (d1.and (c2.and (c3.and (rc.and j4))))))).mono ?_)
            rintro k ⟨x1, x2, x3, x4, x5, x6, x7, x8⟩
            rw [y2, y1] at x5
            rw [y1] at x3 x4
            rw [y3] at x6
            simp only [laws_FnReliability.j3, x1, x2, x3, x4, x5, x6, x7, Option.bind_some, if_true, Bool.false_eq_true, if_false, w3, w4, w5]
            rw [decide_eq_false (by have := ble (by omega); omega)]; exact x8
          refine Evt.succ ((ib.and (sb.and j3)).mono ?_)
          rintro k ⟨h1, h2, h3⟩
          simp only [laws_FnReliability.j2, h1, h2, Option.bind_some, if_true, Bool.false_eq_true, if_false, bne_self_eq_false, w1, w2]
          exact h3
      have := relLaw_loop l (relTo l n) true (by have := relTo_len l n; omega) hsm (by rw [s1, s2]; simpa using j2)
      refine Evt.succ (this.mono fun k hk => ?_)
      simp [laws_FnReliability.j0, hk]
  have rt : Evt fun k => laws_rTable.f k (if chancesB l = true then (relTo l n, true) else ([], false)).1 (if chancesB l = true then (relTo l n, true) else ([], false)).1 = some true := by
    refine rTable_self _ ?_ ?_
    · have := relTo_len l n
      split <;> simp; omega
    · intro r hr
      split at hr
      · obtain ⟨t, ht, rfl⟩ := relTo_mem l n r hr; simp [rowV]
      · simp at hr
  obtain ⟨K, hK⟩ := (g1.and (t1.and (t2.and (iv.and (main.and rt))))).at
  obtain ⟨h1, h2, h3, h4, h5, h6⟩ := hK 0
  refine ⟨K + 0, ?_⟩
  unfold laws_FnReliability.f
  simp only [laws_rBig.f, Option.bind_some, decide_eq_false hbig, spec_DrawReliabilityTable.f, h1, h2, h3, h4, Bool.false_eq_true, if_false, bne_self_eq_false]
  rw [h6, Option.bind_some, if_pos rfl]
  have e2 : ((if chancesB l = true then (relTo l n, true) else ([], false)).2 != chancesB l) = false := by cases chancesB l <;> rfl
  rw [e2]; exact h5
end Go.Proofs.Ytmgckbjdhjbciaa.Pure
