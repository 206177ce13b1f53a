/-
  The pure statement of the law FnRetries: what its printed function answers is 'true' for all numbers and lists of its kinds. Conditions: the kinds' own bounds, as the statement lays them.
-/
import Derived.Test.YtkegkbpadhddkaaXFnRetriesx12
import Derived.DataShut
namespace Go.Proofs.Ytkegkbpadhddkaa.Pure
open Go.RowKit Go.Proofs.Ytkegkbpadhddkaa.XFnRetries Go.Proofs.YtkegkbpadhddkaaW.PrintWords Go.Proofs.YtkegkbpadhddkaaW.PrintLast Go.Proofs.YtkegkbpadhddkaaW.PrintMore
set_option linter.unusedVariables false
set_option linter.unusedSimpArgs false
theorem wrap_id {x : Int} (h0 : -9223372036854775808 ≤ x) (h1 : x ≤ 9223372036854775807) : wrap64 x = x := by unfold wrap64; omega
theorem getD_drop {α : Type} (xs : List α) (z : α) (i : Nat) (h : i < xs.length) : xs.drop i = xs.getD i z :: xs.drop (i + 1) := by
  rw [List.drop_eq_getElem_cons h, List.getD_eq_getElem?_getD, List.getElem?_eq_getElem h]; rfl
def Evt (P : Nat → Prop) : Prop := ∃ K, ∀ k, K ≤ k → P k
theorem Evt.all {P : Nat → Prop} (h : ∀ k, P k) : Evt P := ⟨0, fun k _ => h k⟩
theorem Evt.and {P Q : Nat → Prop} (h : Evt P) (g : Evt Q) : Evt fun k => P k ∧ Q k := by
  obtain ⟨K, h⟩ := h
  obtain ⟨M, g⟩ := g
  exact ⟨K + M, fun k hk => ⟨h k (by omega), g k (by omega)⟩⟩
theorem Evt.mono {P Q : Nat → Prop} (h : Evt P) (g : ∀ k, P k → Q k) : Evt Q := by
  obtain ⟨K, h⟩ := h
  exact ⟨K, fun k hk => g k (h k hk)⟩
theorem Evt.succ {Q : Nat → Prop} (h : Evt fun k => Q (k + 1)) : Evt Q := by
  obtain ⟨K, h⟩ := h
  refine ⟨K + 1, fun k hk => ?_⟩
  obtain ⟨m, rfl⟩ : ∃ m, k = m + 1 := ⟨k - 1, by omega⟩
  exact h m (by omega)
theorem Evt.add {Q : Nat → Prop} (c : Nat) (h : Evt fun k => Q (k + c)) : Evt Q := by
  obtain ⟨K, h⟩ := h
  refine ⟨K + c, fun k hk => ?_⟩
  obtain ⟨m, rfl⟩ : ∃ m, k = m + c := ⟨k - c, by omega⟩
  exact h m (by omega)
theorem Evt.pos : Evt fun k => ∃ m, k = m + 1 := ⟨1, fun k hk => ⟨k - 1, by omega⟩⟩
theorem evt_loop {σ ρ : Type} (n : Nat) (L : Nat → σ → Int → Option ρ) (v : ρ) (Inv : Nat → σ → Prop)
    (step : ∀ i s, i < n → Inv i s → (∃ s', Inv (i + 1) s' ∧ ∃ c, Evt fun k => L (k + c) s (i : Int) = L k s' ((i : Int) + 1)) ∨ Evt fun k => L k s (i : Int) = some v)
    (fin : ∀ s, Inv n s → Evt fun k => L k s (n : Int) = some v) :
    ∀ i s, i ≤ n → Inv i s → Evt fun k => L k s (i : Int) = some v := by
  have key : ∀ d i s, i + d = n → Inv i s → Evt fun k => L k s (i : Int) = some v := by
    intro d
    induction d with
    | zero =>
      intro i s hi h
      obtain rfl : i = n := by omega
      exact fin s h
    | succ d ih =>
      intro i s hi h
      rcases step i s (by omega) h with ⟨s', h', c, e⟩ | e
      · have h2 := ih (i + 1) s' (by omega) h'
        rw [show ((i + 1 : Nat) : Int) = (i : Int) + 1 from by omega] at h2
        exact Evt.add c ((e.and h2).mono fun k hk => hk.1.trans hk.2)
      · exact e
  intro i s hi h
  exact key (n - i) i s (by omega) h
theorem evt_loop0 {σ ρ : Type} (n : Nat) (L : Nat → σ → Int → Option ρ) (v : ρ) (Inv : Nat → σ → Prop)
    (step : ∀ i s, i < n → Inv i s → (∃ s', Inv (i + 1) s' ∧ ∃ c, Evt fun k => L (k + c) s (i : Int) = L k s' ((i : Int) + 1)) ∨ Evt fun k => L k s (i : Int) = some v)
    (fin : ∀ s, Inv n s → Evt fun k => L k s (n : Int) = some v) (s : σ) (h0 : Inv 0 s) : Evt fun k => L k s 0 = some v :=
  evt_loop n L v Inv step fin 0 s (Nat.zero_le _) h0
theorem getD_lt {α : Type} (xs : List α) (z : α) (i : Nat) (h : i < xs.length) : xs.getD i z = xs[i] := by
  rw [List.getD_eq_getElem?_getD, List.getElem?_eq_getElem h]; rfl
theorem getD_set_self {α : Type} (xs : List α) (z v : α) (i : Nat) (h : i < xs.length) : (xs.set i v).getD i z = v := by
  rw [List.getD_eq_getElem?_getD, List.getElem?_set_self h]; rfl
theorem getD_set_ne {α : Type} (xs : List α) (z v : α) (i j : Nat) (h : i ≠ j) : (xs.set i v).getD j z = xs.getD j z := by
  rw [List.getD_eq_getElem?_getD, List.getElem?_set_ne h, List.getD_eq_getElem?_getD]
theorem getD_map {α β : Type} (f : α → β) (xs : List α) (z : α) (y : β) (i : Nat) (h : i < xs.length) : (xs.map f).getD i y = f (xs.getD i z) := by
  rw [getD_lt _ _ _ (by simpa using h), getD_lt _ _ _ h, List.getElem_map]
theorem list_ext_getD {α : Type} (xs ys : List α) (z : α) (h : xs.length = ys.length) (e : ∀ j, j < xs.length → xs.getD j z = ys.getD j z) : xs = ys := by
  apply List.ext_getElem h
  intro j h1 h2
  have := e j h1
  rwa [getD_lt _ _ _ h1, getD_lt _ _ _ h2] at this
theorem u64_range (x : Int) : 0 ≤ IntKind.u64.wrap x ∧ IntKind.u64.wrap x ≤ 18446744073709551615 := by
  simp [IntKind.wrap, IntKind.signed, IntKind.bits]; omega
theorem and255 (x : Int) : 0 ≤ wrap64 (Go.bits .and .u64 (IntKind.u64.wrap x / 1099511627776) 255) ∧ wrap64 (Go.bits .and .u64 (IntKind.u64.wrap x / 1099511627776) 255) ≤ 255 := by
  obtain ⟨h0, h1⟩ := u64_range x
  obtain ⟨y, hy⟩ : ∃ y, y = IntKind.u64.wrap x / 1099511627776 := ⟨_, rfl⟩
  rw [← hy]
  have h := bits_and_u64_nat y.toNat 255 (by omega) (by omega)
  have e : ((y.toNat : Nat) : Int) = y := by omega
  have h2 : bits BinOp.and IntKind.u64 y 255 = ((y.toNat &&& 255 : Nat) : Int) := by rw [← e]; exact h
  have h3 : y.toNat &&& 255 ≤ 255 := Nat.and_le_right
  rw [show Go.bits .and .u64 y 255 = bits BinOp.and IntKind.u64 y 255 from rfl, h2, wrap_id (by omega) (by omega)]
  omega
theorem next_ok (l : List Int) (hb : ∀ x ∈ l, 0 ≤ x ∧ x ≤ 255) (p s : Int) (h0 : 0 ≤ p) (h1 : p ≤ 4611686018427387904) : ∃ v s', spec_l1Cur_next.f l p s = some (v, p + 1, s') ∧ 0 ≤ v ∧ v ≤ 255 := by
  unfold spec_l1Cur_next.f
  have e : wrap64 (p + 1) = p + 1 := wrap_id (by omega) (by omega)
  by_cases c : p < (l.length : Int)
  · have hm : rd l p ∈ l := by
      have : rd l p = l.getD p.toNat 0 := by simp [rd]
      rw [this, List.getD_eq_getElem?_getD, List.getElem?_eq_getElem (by omega), Option.getD_some]
      exact List.getElem_mem _
    obtain ⟨b0, b1⟩ := hb _ hm
    rw [if_pos c, if_pos h0, e, if_pos (by omega)]
    exact ⟨_, _, rfl, by rw [wrap_id (by omega) (by omega)]; exact ⟨b0, b1⟩⟩
  · rw [if_neg c, e, if_neg (by omega)]
    exact ⟨_, _, rfl, and255 _⟩
theorem tmod_range (x a : Int) (h0 : 0 ≤ x) (ha : 1 ≤ a) : 0 ≤ Int.tmod x a ∧ Int.tmod x a < a := ⟨Int.tmod_nonneg a h0, Int.tmod_lt_of_pos x (by omega)⟩
theorem pick_ok (l : List Int) (hb : ∀ x ∈ l, 0 ≤ x ∧ x ≤ 255) (p s a : Int) (h0 : 0 ≤ p) (h1 : p ≤ 4611686018427387000) (ha : 1 ≤ a) :
    ∃ v p' s', spec_l1Cur_pick.f l p s a = some (v, p', s') ∧ p ≤ p' ∧ p' ≤ p + 2 ∧ 0 ≤ v ∧ v < a := by
  unfold spec_l1Cur_pick.f
  by_cases c : a ≤ 1
  · rw [if_pos c]; exact ⟨0, p, s, rfl, by omega, by omega, by omega, by omega⟩
  · obtain ⟨v, s1, e1, v0, v1⟩ := next_ok l hb p s h0 (by omega)
    rw [if_neg c, e1, Option.bind_some]
    by_cases c2 : a > 200
    · obtain ⟨u, s2, e2, u0, u1⟩ := next_ok l hb (p + 1) s1 (by omega) (by omega)
      rw [if_pos c2]; dsimp only; rw [e2, Option.bind_some, if_neg (by omega)]
      have q : 0 ≤ wrap64 (wrap64 (v * 256) + u) := by rw [wrap_id (x := v * 256) (by omega) (by omega), wrap_id (by omega) (by omega)]; omega
      exact ⟨_, _, _, rfl, by dsimp only; omega, by dsimp only; omega, tmod_range _ a q ha⟩
    · rw [if_neg c2, if_neg (by omega)]
      exact ⟨_, _, _, rfl, by dsimp only; omega, by dsimp only; omega, tmod_range _ a v0 ha⟩
theorem among_ok (l : List Int) (hb : ∀ x ∈ l, 0 ≤ x ∧ x ≤ 255) (p s : Int) (h0 : 0 ≤ p) (h1 : p ≤ 4611686018427387000) (xs : List Int) (hx : 1 ≤ xs.length) :
    ∃ v p' s', spec_l1Cur_among.f l p s xs = some (v, p', s') ∧ p ≤ p' ∧ p' ≤ p + 2 ∧ v ∈ xs := by
  obtain ⟨v, p', s', e, q0, q1, v0, v1⟩ := pick_ok l hb p s (xs.length : Int) h0 h1 (by omega)
  unfold spec_l1Cur_among.f
  rw [e, Option.bind_some, if_pos v0, if_pos v1]
  refine ⟨_, _, _, rfl, q0, q1, ?_⟩
  have : rd xs v = xs.getD v.toNat 0 := by simp [rd]
  dsimp only
  rw [this, List.getD_eq_getElem?_getD, List.getElem?_eq_getElem (by omega), Option.getD_some]
  exact List.getElem_mem _
theorem bytes_of (l : List Int) (h : ∀ x ∈ l, (Lit.int .u8 x).wf = true) : ∀ x ∈ l, 0 ≤ x ∧ x ≤ 255 := by
  intro x hx
  have := h x hx
  simpa [Lit.wf, IntKind.min, IntKind.max, IntKind.signed, IntKind.bits] using this
theorem tdiv11 (v : Int) (v0 : 0 ≤ v) (v1 : v < 24) : 0 ≤ Int.tdiv v 11 ∧ Int.tdiv v 11 ≤ 2 := by
  rw [Int.tdiv_eq_ediv_of_nonneg v0]; omega
theorem queue_l1 (l : List Int) (hb : ∀ x ∈ l, 0 ≤ x ∧ x ≤ 255) (x7 a b c d : Int) : ∀ (n : Nat) (xs : List S59) (at_ p s : Int), xs.length + n = 13 → (0 ≤ x7 ∧ x7 < (xs.length : Int)) → 0 ≤ p → p + 2 * n ≤ 4611686018427370000 →
    ∃ r : List S59 × Int × Int, (r.1.length ≤ 13 ∧ p ≤ r.2.1 ∧ r.2.1 ≤ p + 2 * n + 2) ∧ Evt fun k => spec_l1Cur_queue.l1 k xs at_ x7 l p s a b c d = some r := by
  intro n
  induction n with
  | zero =>
    intro xs at_ p s hx h7 h0 h1
    obtain ⟨v, p1, s1, e1, a1, b1, v0, v1⟩ := pick_ok l hb p s 2 h0 (by omega) (by omega)
    refine ⟨(xs.set (x7 : Int).toNat ⟨a, b, c, d⟩, p1, s1), ⟨by simp only [List.length_set]; omega, by dsimp only; omega, by dsimp only; omega⟩, Evt.succ (Evt.all fun k => ?_)⟩
    simp only [spec_l1Cur_queue.l1]
    rw [e1, Option.bind_some]; dsimp only
    rw [wrap_id (by omega) (by omega), if_neg (by omega), if_pos h7.1, if_pos h7.2]
  | succ n ih =>
    intro xs at_ p s hx h7 h0 h1
    obtain ⟨v, p1, s1, e1, a1, b1, v0, v1⟩ := pick_ok l hb p s 2 h0 (by omega) (by omega)
    by_cases g : (xs.length : Int) < 12 + v
    · obtain ⟨r, ⟨r1, r2, r3⟩, ev⟩ := ih (xs ++ [⟨wrap64 (at_ + 1), 1, 0, 0⟩]) (wrap64 (at_ + 1)) p1 s1 (by rw [List.length_append, List.length_singleton]; omega) (by rw [List.length_append, List.length_singleton]; omega) (by omega) (by omega)
      refine ⟨r, ⟨r1, by omega, by omega⟩, Evt.succ (ev.mono fun k hk => ?_)⟩
      simp only [spec_l1Cur_queue.l1]
      rw [e1, Option.bind_some]; dsimp only
      rw [wrap_id (x := 12 + v) (by omega) (by omega), if_pos g, if_pos (by omega)]
      exact hk
    · refine ⟨(xs.set (x7 : Int).toNat ⟨a, b, c, d⟩, p1, s1), ⟨by simp only [List.length_set]; omega, by dsimp only; omega, by dsimp only; omega⟩, Evt.succ (Evt.all fun k => ?_)⟩
      simp only [spec_l1Cur_queue.l1]
      rw [e1, Option.bind_some]; dsimp only
      rw [wrap_id (by omega) (by omega), if_neg g, if_pos h7.1, if_pos h7.2]
theorem queue_l0 (l : List Int) (hb : ∀ x ∈ l, 0 ≤ x ∧ x ≤ 255) : ∀ (n : Nat) (xs : List S59) (at_ p s : Int), xs.length + n ≤ 6 → 0 ≤ p → p + 10 * n ≤ 4611686018427360000 →
    ∃ r : List S59 × Int × Int, (r.1.length ≤ 13 ∧ p ≤ r.2.1 ∧ r.2.1 ≤ p + 10 * n + 40) ∧ Evt fun k => spec_l1Cur_queue.l0 k xs at_ (n : Int) l p s = some r := by
  intro n
  induction n with
  | zero =>
    intro xs at_ p s hx h0 h1
    by_cases he : (xs.length : Int) = 0
    · refine ⟨(xs, p, s), ⟨by dsimp only; omega, by dsimp only; omega, by dsimp only; omega⟩, Evt.succ (Evt.all fun k => ?_)⟩
      simp only [spec_l1Cur_queue.l0]
      rw [if_neg (by omega), if_pos he]
    · obtain ⟨v, p1, s1, e1, a1, b1, v0, v1⟩ := pick_ok l hb p s (xs.length : Int) h0 (by omega) (by omega)
      obtain ⟨q, p2, s2, e2, a2, b2, q0, q1⟩ := pick_ok l hb p1 s1 40 (by omega) (by omega) (by omega)
      obtain ⟨u1, p3, s3, e3, a3, b3, _⟩ := among_ok l hb p2 s2 (by omega) (by omega) [0, 999, 1000] (by decide)
      obtain ⟨u2, p4, s4, e4, a4, b4, _⟩ := among_ok l hb p2 s2 (by omega) (by omega) [0, 5, 4, 1] (by decide)
      obtain ⟨u3, p5, s5, e5, a5, b5, _⟩ := among_ok l hb p2 s2 (by omega) (by omega) [-1, 0, 5, 6] (by decide)
      obtain ⟨u4, p6, s6, e6, a6, b6, _⟩ := among_ok l hb p2 s2 (by omega) (by omega) [-1, 100000, 100001] (by decide)
      obtain ⟨r, ⟨r1, r2, r3⟩, ev⟩ := queue_l1 l hb v (rd_T59 xs v).f0 (rd_T59 xs v).f1 (rd_T59 xs v).f2 (rd_T59 xs v).f3 (13 - xs.length) xs at_ p2 s2 (by omega) ⟨v0, v1⟩ (by omega) (by omega)
      obtain ⟨d, hd⟩ : ∃ d, d = rd_T59 xs v := ⟨_, rfl⟩
      rw [← hd] at ev
      have base : ∀ k, spec_l1Cur_queue.l0 (k + 1) xs at_ ((0 : Nat) : Int) l p s = if q = 0 then some (xs.set (v : Int).toNat ⟨u1, d.f1, d.f2, d.f3⟩, p3, s3) else if q = 1 then some (xs.set (v : Int).toNat ⟨d.f0, u2, d.f2, d.f3⟩, p4, s4) else if q = 2 then some (xs.set (v : Int).toNat ⟨d.f0, d.f1, u3, d.f3⟩, p5, s5) else if q = 3 then some (xs.set (v : Int).toNat ⟨d.f0, d.f1, d.f2, u4⟩, p6, s6) else if q = 4 then spec_l1Cur_queue.l1 k xs at_ v l p2 s2 d.f0 d.f1 d.f2 d.f3 else some (xs.set (v : Int).toNat ⟨d.f0, d.f1, d.f2, d.f3⟩, p2, s2) := by
        intro k
        simp only [spec_l1Cur_queue.l0]
        rw [if_neg (by omega), if_neg he, e1, Option.bind_some]; dsimp only
        rw [if_pos v0, if_pos v1, e2, Option.bind_some]; dsimp only
        rw [e3, e4, e5, e6, ← hd]; rfl
      by_cases k0 : q = 0
      · refine ⟨(xs.set (v : Int).toNat ⟨u1, d.f1, d.f2, d.f3⟩, p3, s3), ⟨by simp only [List.length_set]; omega, by dsimp only; omega, by dsimp only; omega⟩, Evt.succ (Evt.all fun k => ?_)⟩
        rw [base, if_pos k0]
      by_cases k1 : q = 1
      · refine ⟨(xs.set (v : Int).toNat ⟨d.f0, u2, d.f2, d.f3⟩, p4, s4), ⟨by simp only [List.length_set]; omega, by dsimp only; omega, by dsimp only; omega⟩, Evt.succ (Evt.all fun k => ?_)⟩
        rw [base, if_neg k0, if_pos k1]
      by_cases k2 : q = 2
      · refine ⟨(xs.set (v : Int).toNat ⟨d.f0, d.f1, u3, d.f3⟩, p5, s5), ⟨by simp only [List.length_set]; omega, by dsimp only; omega, by dsimp only; omega⟩, Evt.succ (Evt.all fun k => ?_)⟩
        rw [base, if_neg k0, if_neg k1, if_pos k2]
      by_cases k3 : q = 3
      · refine ⟨(xs.set (v : Int).toNat ⟨d.f0, d.f1, d.f2, u4⟩, p6, s6), ⟨by simp only [List.length_set]; omega, by dsimp only; omega, by dsimp only; omega⟩, Evt.succ (Evt.all fun k => ?_)⟩
        rw [base, if_neg k0, if_neg k1, if_neg k2, if_pos k3]
      by_cases k4 : q = 4
      · refine ⟨r, ⟨r1, by omega, by omega⟩, Evt.succ (ev.mono fun k hk => ?_)⟩
        rw [base, if_neg k0, if_neg k1, if_neg k2, if_neg k3, if_pos k4]; exact hk
      · refine ⟨(xs.set (v : Int).toNat ⟨d.f0, d.f1, d.f2, d.f3⟩, p2, s2), ⟨by simp only [List.length_set]; omega, by dsimp only; omega, by dsimp only; omega⟩, Evt.succ (Evt.all fun k => ?_)⟩
        rw [base, if_neg k0, if_neg k1, if_neg k2, if_neg k3, if_neg k4]
  | succ n ih =>
    intro xs at_ p s hx h0 h1
    obtain ⟨g, p1, s1, e1, a1, b1, _, _⟩ := pick_ok l hb p s 3 h0 (by omega) (by omega)
    obtain ⟨st, p2, s2, e2, a2, b2, _⟩ := among_ok l hb p1 s1 (by omega) (by omega) [1, 1, 2, 2, 3, 4] (by decide)
    obtain ⟨w, p3, s3, e3, a3, b3, _, _⟩ := pick_ok l hb p2 s2 4 (by omega) (by omega) (by omega)
    obtain ⟨m, p4, s4, e4, a4, b4, _⟩ := among_ok l hb p3 s3 (by omega) (by omega) [0, 5, 10, 20, 20, 60] (by decide)
    obtain ⟨y, p5, s5, e5, a5, b5, _, _⟩ := pick_ok l hb p4 s4 5 (by omega) (by omega) (by omega)
    have hn : wrap64 (((n + 1 : Nat) : Int) - 1) = (n : Int) := by rw [wrap_id (by omega) (by omega)]; omega
    have hx2 : xs.length < 4398046511104 := by omega
    have go : ∀ (t : S59) (p' s' : Int), p ≤ p' → p' ≤ p + 10 → ∃ r : List S59 × Int × Int, (r.1.length ≤ 13 ∧ p ≤ r.2.1 ∧ r.2.1 ≤ p + 10 * (n + 1 : Nat) + 40) ∧ Evt fun k => spec_l1Cur_queue.l0 k (xs ++ [t]) (wrap64 ((wrap64 (at_ + 1)) + g)) (n : Int) l p' s' = some r := by
      intro t p' s' c1 c2
      obtain ⟨r, ⟨r1, r2, r3⟩, ev⟩ := ih (xs ++ [t]) (wrap64 ((wrap64 (at_ + 1)) + g)) p' s' (by rw [List.length_append, List.length_singleton]; omega) (by omega) (by omega)
      exact ⟨r, ⟨r1, by omega, by omega⟩, ev⟩
    have step : ∃ (t : S59) (p' s' : Int), p ≤ p' ∧ p' ≤ p + 10 ∧ ∀ k, spec_l1Cur_queue.l0 (k + 1) xs at_ ((n + 1 : Nat) : Int) l p s = spec_l1Cur_queue.l0 k (xs ++ [t]) (wrap64 ((wrap64 (at_ + 1)) + g)) (n : Int) l p' s' := by
      have base : ∀ k, spec_l1Cur_queue.l0 (k + 1) xs at_ ((n + 1 : Nat) : Int) l p s = if st = 1 then spec_l1Cur_queue.l0 k (xs ++ [(⟨wrap64 ((wrap64 (at_ + 1)) + g), st, y, m⟩ : S59)]) (wrap64 ((wrap64 (at_ + 1)) + g)) (n : Int) l p5 s5 else if st = 2 then spec_l1Cur_queue.l0 k (xs ++ [(⟨wrap64 ((wrap64 (at_ + 1)) + g), st, wrap64 (1 + y), m⟩ : S59)]) (wrap64 ((wrap64 (at_ + 1)) + g)) (n : Int) l p5 s5 else if st = 3 then spec_l1Cur_queue.l0 k (xs ++ [(⟨wrap64 ((wrap64 (at_ + 1)) + g), st, wrap64 (1 + w), 0⟩ : S59)]) (wrap64 ((wrap64 (at_ + 1)) + g)) (n : Int) l p4 s4 else spec_l1Cur_queue.l0 k (xs ++ [(⟨wrap64 ((wrap64 (at_ + 1)) + g), st, 5, 0⟩ : S59)]) (wrap64 ((wrap64 (at_ + 1)) + g)) (n : Int) l p4 s4 := by
        intro k
        simp only [spec_l1Cur_queue.l0]
        rw [if_pos (by omega), e1, Option.bind_some]; dsimp only
        rw [e2, Option.bind_some]; dsimp only
        rw [e3, Option.bind_some]; dsimp only
        rw [e4, Option.bind_some]; dsimp only
        simp only [e5, Option.bind_some, if_pos hx2, hn]
      by_cases c1 : st = 1
      · exact ⟨_, p5, s5, by omega, by omega, fun k => by rw [base, if_pos c1]⟩
      by_cases c2 : st = 2
      · exact ⟨_, p5, s5, by omega, by omega, fun k => by rw [base, if_neg c1, if_pos c2]⟩
      by_cases c3 : st = 3
      · exact ⟨_, p4, s4, by omega, by omega, fun k => by rw [base, if_neg c1, if_neg c2, if_pos c3]⟩
      · exact ⟨_, p4, s4, by omega, by omega, fun k => by rw [base, if_neg c1, if_neg c2, if_neg c3]⟩
    obtain ⟨t, p', s', q1, q2, ht⟩ := step
    obtain ⟨r, hr, ev⟩ := go t p' s' q1 q2
    exact ⟨r, hr, Evt.succ (ev.mono fun k hk => by rw [ht]; exact hk)⟩
theorem queue_draw (l : List Int) (hb : ∀ x ∈ l, 0 ≤ x ∧ x ≤ 255) (p s : Int) (h0 : 0 ≤ p) (h1 : p ≤ 4611686018427350000) :
    ∃ r : List S59 × Int × Int, (r.1.length ≤ 13 ∧ p ≤ r.2.1 ∧ r.2.1 ≤ p + 200) ∧ Evt fun k => spec_l1Cur_queue.f k l p s = some r := by
  obtain ⟨v, p2, s2, e2, a2, b2, v0, v1⟩ := pick_ok l hb p s 7 (by omega) (by omega) (by omega)
  obtain ⟨r, ⟨r1, r2, r3⟩, ev⟩ := queue_l0 l hb v.toNat [] 0 p2 s2 (by simp; omega) (by omega) (by omega)
  rw [show ((v.toNat : Nat) : Int) = v by omega] at ev
  refine ⟨r, ⟨r1, by omega, by omega⟩, ev.mono fun k hk => ?_⟩
  simp only [spec_l1Cur_queue.f, Option.bind_some, e2]
  exact hk
theorem minute19_draw (l : List Int) (hb : ∀ x ∈ l, 0 ≤ x ∧ x ≤ 255) (p s : Int) (h0 : 0 ≤ p) (h1 : p ≤ 4611686018427370000) :
    ∃ v p' s', spec_l1Cur_minute19.f l p s = some (v, p', s') ∧ p ≤ p' ∧ p' ≤ p + 4 ∧ -1 ≤ v ∧ v ≤ 50001 := by
  obtain ⟨v, p1, s1, e1, a1, b1, v0, v1⟩ := pick_ok l hb p s 24 h0 (by omega) (by omega)
  have t0 := tdiv11 v v0 v1
  obtain ⟨z, p2, s2, e2, a2, b2, m⟩ := among_ok l hb p1 s1 (by omega) (by omega) (([0, 5, 9, 10, 20, 60, 50000, -1, 50001] : List Int).take (7 + Int.tdiv v 11).toNat) (by rw [List.length_take]; simp only [List.length_cons, List.length_nil]; omega)
  have m' := List.mem_of_mem_take m
  refine ⟨z, p2, s2, ?_, by omega, by omega, ?_⟩
  · simp only [spec_l1Cur_minute19.f, Option.bind_some, e1]
    rw [wrap_id (x := Int.tdiv v 11) (by omega) (by omega), wrap_id (x := 7 + Int.tdiv v 11) (by omega) (by omega), if_pos (by omega), if_pos (by simp only [List.length_cons, List.length_nil]; omega), e2, Option.bind_some]
  · simp only [List.mem_cons, List.not_mem_nil, or_false] at m'
    omega
theorem DrawPassMinute_ev (l : List Int) (hb : ∀ x ∈ l, 0 ≤ x ∧ x ≤ 255) : ∃ q t, List.length (q : List S59) ≤ 13 ∧ (-1 ≤ t ∧ t ≤ 50001) ∧ Evt fun k => spec_DrawPassMinute.f k l = some (q, t) := by
  obtain ⟨⟨q, p1, s1⟩, ⟨r1, r2, r3⟩, ev⟩ := queue_draw l hb 0 0 (by omega) (by omega)
  dsimp only at r1 r2 r3
  obtain ⟨t, p2, s2, e2, a2, b2, m2, m3⟩ := minute19_draw l hb p1 s1 (by omega) (by omega)
  refine ⟨q, t, r1, ⟨m2, m3⟩, ev.mono fun k hk => ?_⟩
  simp only [spec_DrawPassMinute.f, spec_DrawSendNext.f, hk, Option.bind_some, e2]
theorem DrawNextMinute_ev (l : List Int) (hb : ∀ x ∈ l, 0 ≤ x ∧ x ≤ 255) : ∃ q, List.length (q : List S59) ≤ 13 ∧ Evt fun k => spec_DrawNextMinute.f k l = some q := by
  obtain ⟨⟨q, p1, s1⟩, ⟨r1, r2, r3⟩, ev⟩ := queue_draw l hb 0 0 (by omega) (by omega)
  refine ⟨q, r1, ev.mono fun k hk => ?_⟩
  simp only [spec_DrawNextMinute.f, spec_DrawIsValidQueue.f, hk, Option.bind_some]
theorem rInts_self (l : List Int) (hl : l.length ≤ 4503599627370496) : Evt fun k => laws_rInts.f k l l = some true := by
  refine Evt.mono (P := fun k => laws_rInts.l0 k l l 0 = some true) ?_ (fun k hk => by unfold laws_rInts.f; rw [if_pos rfl]; exact hk)
  refine evt_loop0 l.length (fun k (_ : Unit) i => laws_rInts.l0 k l l i) true (fun _ _ => True) ?_ ?_ () trivial
  · rintro i s hi _
    refine .inl ⟨(), trivial, 1, Evt.all fun k => ?_⟩
    show laws_rInts.l0 (k + 1) l l (i : Int) = _
    simp only [laws_rInts.l0]
    rw [if_pos (by omega), if_pos (by omega), if_pos (by omega), wrap_id (by omega) (by omega)]; simp
  · rintro s _
    refine Evt.succ (Evt.all fun k => ?_)
    show laws_rInts.l0 (k + 1) l l (l.length : Int) = _
    simp only [laws_rInts.l0]
    rw [if_neg (by omega)]
theorem rQueues_self (l : List S59) (hl : l.length ≤ 1048576) : Evt fun k => laws_rQueues.f k l l = some true := by
  refine Evt.mono (P := fun k => laws_rQueues.l0 k l l 0 = some true) ?_ (fun k hk => by unfold laws_rQueues.f; rw [if_pos rfl]; exact hk)
  refine evt_loop0 l.length (fun k (_ : Unit) i => laws_rQueues.l0 k l l i) true (fun _ _ => True) ?_ ?_ () trivial
  · rintro i s hi _
    refine .inl ⟨(), trivial, 1, Evt.all fun k => ?_⟩
    show laws_rQueues.l0 (k + 1) l l (i : Int) = _
    simp only [laws_rQueues.l0]
    rw [if_pos (by omega), if_pos (by omega), if_pos (by omega), wrap_id (by omega) (by omega)]; simp
  · rintro s _
    refine Evt.succ (Evt.all fun k => ?_)
    show laws_rQueues.l0 (k + 1) l l (l.length : Int) = _
    simp only [laws_rQueues.l0]
    rw [if_neg (by omega)]
theorem rHas_ev (l : List Int) (x : Int) (hl : l.length ≤ 1048576) : Evt fun k => laws_rHas.f k l x = some (decide (x ∈ l)) := by
  unfold laws_rHas.f
  refine evt_loop0 l.length (fun k (_ : Unit) i => laws_rHas.l0 k l x i) (decide (x ∈ l)) (fun i _ => ∀ j, j < i → l.getD j 0 ≠ x) ?_ ?_ () (fun j hj => by omega)
  · rintro i s hi h
    have e : rd l (i : Int) = l.getD i 0 := by unfold rd; rw [Int.toNat_natCast]
    by_cases c : l.getD i 0 = x
    · refine .inr (Evt.succ (Evt.all fun k => ?_))
      show laws_rHas.l0 (k + 1) l x (i : Int) = _
      simp only [laws_rHas.l0, e]
      have : x ∈ l := by rw [← c, getD_lt _ _ _ hi]; exact List.getElem_mem hi
      rw [if_pos (by omega), if_pos (by omega), if_pos c, decide_eq_true this]
    · refine .inl ⟨(), fun j hj => ?_, 1, Evt.all fun k => ?_⟩
      · by_cases q : j = i
        · subst q; exact c
        · exact h j (by omega)
      · show laws_rHas.l0 (k + 1) l x (i : Int) = _
        simp only [laws_rHas.l0, e]
        rw [if_pos (by omega), if_pos (by omega), if_neg c, wrap_id (by omega) (by omega)]
  · rintro s h
    refine Evt.succ (Evt.all fun k => ?_)
    show laws_rHas.l0 (k + 1) l x (l.length : Int) = _
    simp only [laws_rHas.l0]
    have : ¬ x ∈ l := by
      intro m
      obtain ⟨i, hi, e⟩ := List.mem_iff_getElem.1 m
      exact h i hi (by rw [getD_lt _ _ _ hi]; exact e)
    rw [if_neg (by omega), decide_eq_false this]
theorem within_ok (a b c : Int) : impl_within.f a b c = some (decide (b ≤ a ∧ a ≤ c)) := by
  unfold impl_within.f
  split <;> simp <;> omega
theorem l1In_ok (a b c : Int) : spec_l1In.f a b c = some (decide (b ≤ a ∧ a ≤ c)) := by
  unfold spec_l1In.f
  split <;> simp <;> omega
abbrev delivP (a b c d : Int) : Prop := (1 ≤ a ∧ a ≤ 999) ∧ (0 ≤ d ∧ d ≤ 100000) ∧ ((b = 1 ∧ 0 ≤ c ∧ c ≤ 4) ∨ (b = 2 ∧ 1 ≤ c ∧ c ≤ 5) ∨ (b = 3 ∧ (1 ≤ c ∧ c ≤ 5) ∧ d = 0) ∨ (b = 4 ∧ c = 5 ∧ d = 0))
def delivB (s : S59) : Bool := decide (delivP s.f0 s.f1 s.f2 s.f3)
theorem isDelivery_ok (k : Nat) (a b c d : Int) : impl_isDelivery.f (k + 1) a b c d = some (decide (delivP a b c d)) := by
  unfold delivP
  simp only [impl_isDelivery.f, impl_isDelivery.j0, within_ok, Option.bind_some, impl_isOpen.f]
  by_cases h1 : 1 ≤ a ∧ a ≤ 999
  · by_cases h2 : 0 ≤ d ∧ d ≤ 100000
    · simp only [decide_eq_true h1, decide_eq_true h2, if_true]
      by_cases s1 : b = 1
      · simp only [if_pos s1, Option.bind_some, if_true]
        rw [if_neg (by simp)]
        exact congrArg some (decide_eq_decide.2 (by omega))
      · simp only [if_neg s1, Option.bind_some]
        by_cases s2 : b = 2
        · rw [if_pos (by simpa using s2), if_neg (by simp)]
          simp only [if_pos s2]
          exact congrArg some (decide_eq_decide.2 (by omega))
        · rw [if_neg (by simpa using s2)]
          by_cases hd : d = 0
          · rw [if_neg (by simpa using hd), if_neg s2]
            by_cases s3 : b = 3
            · rw [if_pos s3]; exact congrArg some (decide_eq_decide.2 (by omega))
            · rw [if_neg s3]
              by_cases s4 : b = 4
              · rw [if_pos s4]
                show some (decide (c = 5)) = _
                exact congrArg some (decide_eq_decide.2 (by omega))
              · rw [if_neg s4, decide_eq_false (by omega)]
          · rw [if_pos (by simpa using hd), decide_eq_false (by omega)]
    · simp only [decide_eq_true h1, decide_eq_false h2, if_true]
      rw [if_neg (by simp), decide_eq_false (by omega)]
  · simp only [decide_eq_false h1, if_true]
    rw [if_neg (by simp), decide_eq_false (by omega)]
theorem l19Delivery_ok (k : Nat) (a b c d : Int) : spec_l19Delivery.f (k + 1) a b c d = some (decide (delivP a b c d)) := by
  unfold delivP
  simp only [spec_l19Delivery.f, spec_l19Delivery.j0, l1In_ok, Option.bind_some]
  by_cases h1 : 1 ≤ a ∧ a ≤ 999
  · by_cases h2 : 0 ≤ d ∧ d ≤ 100000
    · simp only [decide_eq_true h1, decide_eq_true h2, if_true, Bool.not_true]
      rw [if_neg (by simp)]
      by_cases s1 : b = 1
      · rw [if_pos s1]; exact congrArg some (decide_eq_decide.2 (by omega))
      · rw [if_neg s1]
        by_cases s2 : b = 2
        · rw [if_pos s2]; exact congrArg some (decide_eq_decide.2 (by omega))
        · rw [if_neg s2]
          by_cases s3 : b = 3
          · rw [if_pos s3]
            by_cases hc : 1 ≤ c ∧ c ≤ 5
            · rw [if_pos (decide_eq_true hc)]
              show some (decide (d = 0)) = _
              exact congrArg some (decide_eq_decide.2 (by omega))
            · rw [if_neg (by simpa using hc), decide_eq_false (by omega)]
          · rw [if_neg s3]
            by_cases s4 : b = 4
            · rw [if_pos s4]
              by_cases hc : c = 5
              · rw [if_pos hc]
                show some (decide (d = 0)) = _
                exact congrArg some (decide_eq_decide.2 (by omega))
              · rw [if_neg hc, decide_eq_false (by omega)]
            · rw [if_neg s4, decide_eq_false (by omega)]
    · simp only [decide_eq_true h1, decide_eq_false h2, if_true, Bool.not_false]
      rw [decide_eq_false (by omega)]
  · simp only [decide_eq_false h1, if_true]
    rw [if_neg (by simp), decide_eq_false (by omega)]
def atQ (l : List S59) (i : Nat) : Bool := delivB (l.getD i z59) && (decide (i = 0) || decide ((l.getD (i - 1) z59).f0 < (l.getD i z59).f0))
def queueB (l : List S59) : Bool := decide (∀ i, i < l.length → atQ l i = true) && decide (l.length ≤ 12)
theorem queueB_at {l : List S59} (h : queueB l = true) : ∀ i, i < l.length → atQ l i = true := by
  unfold queueB at h
  simp only [Bool.and_eq_true, decide_eq_true_eq] at h
  exact h.1
theorem queueB_len {l : List S59} (h : queueB l = true) : l.length ≤ 12 := by
  unfold queueB at h
  simp only [Bool.and_eq_true, decide_eq_true_eq] at h
  exact h.2
theorem queueB_deliv {l : List S59} (h : queueB l = true) (i : Nat) (hi : i < l.length) : delivP (l.getD i z59).f0 (l.getD i z59).f1 (l.getD i z59).f2 (l.getD i z59).f3 := by
  have := queueB_at h i hi
  unfold atQ delivB at this
  simp only [Bool.and_eq_true, decide_eq_true_eq] at this
  exact this.1
theorem rd_del (l : List S59) (i : Nat) : rd_T59 l (i : Int) = l.getD i z59 := by unfold rd_T59; rw [Int.toNat_natCast]
theorem rd_del_pred (l : List S59) (i : Nat) : rd_T59 l ((i : Int) - 1) = l.getD (i - 1) z59 := by unfold rd_T59; congr 1; omega
theorem validQueue_step (l : List S59) (hl : l.length ≤ 4503599627370496) (k i : Nat) (hi : i < l.length) :
    impl_IsValidQueue.l0 (k + 1 + 1) l l (l.length : Int) (i : Int) = if atQ l i = true then impl_IsValidQueue.l0 (k + 1) l l (l.length : Int) ((i : Int) + 1) else some false := by
  obtain ⟨s, hs⟩ : ∃ s, l.getD i z59 = s := ⟨_, rfl⟩
  obtain ⟨p, hp⟩ : ∃ p, l.getD (i - 1) z59 = p := ⟨_, rfl⟩
  have w1 : wrap64 ((i : Int) + 1) = (i : Int) + 1 := wrap_id (by omega) (by omega)
  have w2 : wrap64 ((i : Int) - 1) = (i : Int) - 1 := wrap_id (by omega) (by omega)
  rw [impl_IsValidQueue.l0]
  rw [if_pos (by omega), if_pos (by omega), if_pos (by omega)]
  simp only [isDelivery_ok, Option.bind_some, rd_del, w1, w2, rd_del_pred, atQ, delivB, hs, hp]
  by_cases h1 : delivP s.f0 s.f1 s.f2 s.f3
  · simp only [decide_eq_true h1, if_true, Bool.true_and]
    by_cases h3 : i = 0
    · rw [if_neg (by omega), if_pos (by simp [h3])]
    · rw [if_pos (by omega), if_pos (by omega), if_pos (by omega)]
      by_cases h4 : p.f0 < s.f0
      · rw [if_neg (by omega), if_pos (by simp [h4])]
      · rw [if_pos (by omega), if_neg (by simp [h3, h4])]
  · simp only [decide_eq_false h1, Bool.false_and]
    rw [if_neg (by simp), if_neg (by simp)]
theorem IsValidQueue_ev (l : List S59) (hl : l.length ≤ 4503599627370496) : Evt fun k => impl_IsValidQueue.f k l = some (queueB l) := by
  unfold impl_IsValidQueue.f
  refine Evt.succ ?_
  refine evt_loop0 l.length (fun k (_ : Unit) i => impl_IsValidQueue.l0 (k + 1) l l (l.length : Int) i) (queueB l) (fun i _ => ∀ j, j < i → atQ l j = true) ?_ ?_ () (fun j hj => by omega)
  · intro i s hi h
    by_cases hb : atQ l i = true
    · refine .inl ⟨(), fun j hj => ?_, 1, Evt.all fun k => ?_⟩
      · by_cases e : j = i
        · subst e; exact hb
        · exact h j (by omega)
      · show impl_IsValidQueue.l0 (k + 1 + 1) l l (l.length : Int) (i : Int) = _
        rw [validQueue_step l hl k i hi, if_pos hb]
    · refine .inr (Evt.succ (Evt.all fun k => ?_))
      show impl_IsValidQueue.l0 (k + 1 + 1) l l (l.length : Int) (i : Int) = _
      rw [validQueue_step l hl k i hi, if_neg hb]
      unfold queueB
      rw [decide_eq_false (fun hA => hb (hA i hi)), Bool.false_and]
  · intro s h
    refine Evt.all fun k => ?_
    show impl_IsValidQueue.l0 (k + 1) l l (l.length : Int) (l.length : Int) = _
    simp only [impl_IsValidQueue.l0]
    rw [if_neg (by omega)]
    unfold queueB
    rw [decide_eq_true h, Bool.true_and]
    exact congrArg some (decide_eq_decide.2 (by omega))
theorem l19Good_step (l : List S59) (hl : l.length ≤ 4503599627370496) (k i : Nat) (hi : i < l.length) :
    spec_l19Good.l0 (k + 1 + 1) l (i : Int) = if atQ l i = true then spec_l19Good.l0 (k + 1) l ((i : Int) + 1) else some false := by
  obtain ⟨s, hs⟩ : ∃ s, l.getD i z59 = s := ⟨_, rfl⟩
  obtain ⟨p, hp⟩ : ∃ p, l.getD (i - 1) z59 = p := ⟨_, rfl⟩
  have w1 : wrap64 ((i : Int) + 1) = (i : Int) + 1 := wrap_id (by omega) (by omega)
  have w2 : wrap64 ((i : Int) - 1) = (i : Int) - 1 := wrap_id (by omega) (by omega)
  rw [spec_l19Good.l0]
  rw [if_pos (by omega), if_pos (by omega)]
  simp only [l19Delivery_ok, Option.bind_some, rd_del, w1, w2, rd_del_pred, atQ, delivB, hs, hp]
  by_cases h1 : delivP s.f0 s.f1 s.f2 s.f3
  · simp only [decide_eq_true h1, if_true, Bool.true_and]
    by_cases h3 : i = 0
    · rw [if_neg (by omega), if_pos (by simp [h3])]
    · rw [if_pos (by omega), if_pos (by omega), if_pos (by omega)]
      by_cases h4 : p.f0 < s.f0
      · rw [if_neg (by omega), if_pos (by simp [h4])]
      · rw [if_pos (by omega), if_neg (by simp [h3, h4])]
  · simp only [decide_eq_false h1, Bool.false_and]
    rw [if_neg (by simp), if_neg (by simp)]
theorem l19Good_ev (l : List S59) (hl : l.length ≤ 4503599627370496) : Evt fun k => spec_l19Good.f k l = some (queueB l) := by
  unfold spec_l19Good.f
  refine Evt.succ ?_
  refine evt_loop0 l.length (fun k (_ : Unit) i => spec_l19Good.l0 (k + 1) l i) (queueB l) (fun i _ => ∀ j, j < i → atQ l j = true) ?_ ?_ () (fun j hj => by omega)
  · intro i s hi h
    by_cases hb : atQ l i = true
    · refine .inl ⟨(), fun j hj => ?_, 1, Evt.all fun k => ?_⟩
      · by_cases e : j = i
        · subst e; exact hb
        · exact h j (by omega)
      · show spec_l19Good.l0 (k + 1 + 1) l (i : Int) = _
        rw [l19Good_step l hl k i hi, if_pos hb]
    · refine .inr (Evt.succ (Evt.all fun k => ?_))
      show spec_l19Good.l0 (k + 1 + 1) l (i : Int) = _
      rw [l19Good_step l hl k i hi, if_neg hb]
      unfold queueB
      rw [decide_eq_false (fun hA => hb (hA i hi)), Bool.false_and]
  · intro s h
    refine Evt.all fun k => ?_
    show spec_l19Good.l0 (k + 1) l (l.length : Int) = _
    simp only [spec_l19Good.l0]
    rw [if_neg (by omega)]
    unfold queueB
    rw [decide_eq_true h, Bool.true_and]
    exact congrArg some (decide_eq_decide.2 (by omega))
theorem cloneD (l : List S59) (hl : l.length ≤ 1000000000) : slices_Clone_Delivery.f l = some l := by
  unfold slices_Clone_Delivery.f
  rw [Option.bind_some, if_pos (by simp; omega), List.nil_append]
theorem ownD (l : List S59) (hl : l.length ≤ 1000000000) : spec_l19Own.f l = some l := by
  unfold spec_l19Own.f
  rw [Option.bind_some, if_pos (by simp; omega), List.nil_append]
theorem isMinute_ok (t : Int) : impl_isMinute.f t = some (decide (0 ≤ t ∧ t ≤ 50000)) := by simp only [impl_isMinute.f, within_ok, Option.bind_some]
theorem l19Minute_ok (t : Int) : spec_l19Minute.f t = some (decide (0 ≤ t ∧ t ≤ 50000)) := by simp only [spec_l19Minute.f, l1In_ok, Option.bind_some]
def pstep (t : Int) (acc : List S59 × List Int) (i : Nat) : List S59 × List Int :=
  if (acc.1.getD i z59).f1 = 2 ∧ (acc.1.getD i z59).f3 ≤ t then
    if (acc.1.getD i z59).f2 = 5 then (acc.1.set i ⟨(acc.1.getD i z59).f0, 4, (acc.1.getD i z59).f2, 0⟩, acc.2 ++ [(acc.1.getD i z59).f0])
    else (acc.1.set i ⟨(acc.1.getD i z59).f0, 1, (acc.1.getD i z59).f2, wrap64 (t + (shl .i64 1 (acc.1.getD i z59).f2))⟩, acc.2)
  else acc
def prun (l : List S59) (t : Int) : Nat → List S59 × List Int
  | 0 => (l, [])
  | n + 1 => pstep t (prun l t n) n
theorem prun_len (l : List S59) (t : Int) : ∀ n, (prun l t n).1.length = l.length ∧ (prun l t n).2.length ≤ n
  | 0 => ⟨rfl, Nat.le_refl _⟩
  | n + 1 => by
    have h := prun_len l t n
    simp only [prun, pstep]
    split
    · split
      · simp only [List.length_set, List.length_append, List.length_singleton]; omega
      · simp only [List.length_set]; omega
    · omega
theorem prun_rest (l : List S59) (t : Int) : ∀ n j, n ≤ j → (prun l t n).1.getD j z59 = l.getD j z59
  | 0, _, _ => rfl
  | n + 1, j, hj => by
    have h := prun_rest l t n j (by omega)
    simp only [prun, pstep]
    split
    · split
      · rw [getD_set_ne _ _ _ _ _ (by omega)]; exact h
      · rw [getD_set_ne _ _ _ _ _ (by omega)]; exact h
    · exact h
def passV (l : List S59) (t : Int) : List S59 × List Int × Bool := if queueB l = true ∧ (0 ≤ t ∧ t ≤ 50000) then ((prun l t l.length).1, (prun l t l.length).2, true) else ([], [], false)
theorem passImpl_loop (l : List S59) (t : Int) (hv : queueB l = true) : Evt fun k => impl_PassMinute.l0 k t l [] (l.length : Int) 0 = some ((prun l t l.length).1, (prun l t l.length).2, true) := by
  have hl := queueB_len hv
  refine evt_loop0 l.length (fun k (s : List S59 × List Int) i => impl_PassMinute.l0 k t s.1 s.2 (l.length : Int) i) _ (fun i s => s = prun l t i) ?_ ?_ (l, []) rfl
  · rintro i s hi rfl
    have hd := queueB_deliv hv i hi
    have hr := prun_rest l t i i (Nat.le_refl _)
    have hn := prun_len l t i
    refine .inl ⟨_, rfl, 2, Evt.all fun k => ?_⟩
    show impl_PassMinute.l0 (k + 1 + 1) t (prun l t i).1 (prun l t i).2 (l.length : Int) (i : Int) = impl_PassMinute.l0 k t (pstep t (prun l t i) i).1 (pstep t (prun l t i) i).2 (l.length : Int) ((i : Int) + 1)
    obtain ⟨acc, hacc⟩ : ∃ acc, acc = prun l t i := ⟨_, rfl⟩
    rw [← hacc] at hr hn ⊢
    obtain ⟨s, hs⟩ : ∃ s, s = acc.1.getD i z59 := ⟨_, rfl⟩
    rw [← hs] at hr
    rw [← hr] at hd
    unfold delivP at hd
    have w : wrap64 ((i : Int) + 1) = (i : Int) + 1 := wrap_id (by omega) (by omega)
    have g1 : (i : Int) < (l.length : Int) := by omega
    have g2 : 0 ≤ (i : Int) := by omega
    have g3 : (i : Int) < (acc.1.length : Int) := by omega
    have g4 : acc.2.length < 17592186044416 := by omega
    have e0 : ∀ v : S59, (acc.1.set i v).getD i z59 = v := fun v => getD_set_self _ _ _ _ (by omega)
    simp only [impl_PassMinute.l0, rd_del, if_pos g1, if_pos g2, if_pos g3, ← hs, pstep, w]
    by_cases c1 : s.f1 = 2
    · rw [if_pos c1]
      by_cases c2 : s.f3 ≤ t
      · rw [if_pos ⟨c1, c2⟩, decide_eq_false (by omega)]
        simp only [impl_PassMinute.j2, Bool.false_eq_true, if_false, if_pos g2, if_pos g3, rd_del, ← hs, Option.bind_some, Int.toNat_natCast, e0, List.set_set, if_pos g4, w]
        by_cases c3 : s.f2 = 5
        · rw [if_pos c3, if_pos c3]
        · rw [if_neg c3, if_neg c3, if_pos (by omega)]
      · rw [if_neg (fun q => c2 q.2), decide_eq_true (by omega)]
        simp only [impl_PassMinute.j2, if_true, w]
    · rw [if_neg c1, if_neg (fun q => c1 q.1)]
      simp only [impl_PassMinute.j2, if_true, w]
  · rintro s rfl
    refine Evt.succ (Evt.all fun k => ?_)
    show impl_PassMinute.l0 (k + 1) t (prun l t l.length).1 (prun l t l.length).2 (l.length : Int) (l.length : Int) = _
    simp only [impl_PassMinute.l0]
    rw [if_neg (by omega)]
theorem passSpec_loop (l : List S59) (t : Int) (hv : queueB l = true) : Evt fun k => spec_PassMinute.l0 k t [] l 0 = some ((prun l t l.length).1, (prun l t l.length).2, true) := by
  have hl := queueB_len hv
  refine evt_loop0 l.length (fun k (s : List S59 × List Int) i => spec_PassMinute.l0 k t s.2 s.1 i) _ (fun i s => s = prun l t i) ?_ ?_ (l, []) rfl
  · rintro i s hi rfl
    have hd := queueB_deliv hv i hi
    have hr := prun_rest l t i i (Nat.le_refl _)
    have hn := prun_len l t i
    refine .inl ⟨_, rfl, 2, Evt.all fun k => ?_⟩
    show spec_PassMinute.l0 (k + 1 + 1) t (prun l t i).2 (prun l t i).1 (i : Int) = spec_PassMinute.l0 k t (pstep t (prun l t i) i).2 (pstep t (prun l t i) i).1 ((i : Int) + 1)
    obtain ⟨acc, hacc⟩ : ∃ acc, acc = prun l t i := ⟨_, rfl⟩
    rw [← hacc] at hr hn ⊢
    obtain ⟨s, hs⟩ : ∃ s, s = acc.1.getD i z59 := ⟨_, rfl⟩
    rw [← hs] at hr
    rw [← hr] at hd
    unfold delivP at hd
    have w : wrap64 ((i : Int) + 1) = (i : Int) + 1 := wrap_id (by omega) (by omega)
    have g2 : 0 ≤ (i : Int) := by omega
    have g3 : (i : Int) < (acc.1.length : Int) := by omega
    have g4 : acc.2.length < 17592186044416 := by omega
    simp only [spec_PassMinute.l0, rd_del, if_pos g2, if_pos g3, ← hs, pstep, w]
    by_cases c1 : s.f1 = 2
    · rw [if_pos c1]
      by_cases c2 : s.f3 ≤ t
      · rw [if_pos ⟨c1, c2⟩, decide_eq_false (by omega)]
        have u : IntKind.u64.wrap s.f2 = s.f2 := by
          show s.f2 % 18446744073709551616 = s.f2
          omega
        simp only [spec_PassMinute.j2, Bool.false_eq_true, if_false, if_pos g2, if_pos g3, Int.toNat_natCast, if_pos g4, w, u]
        by_cases c3 : s.f2 = 5
        · rw [if_pos c3, if_pos c3]
        · rw [if_neg c3, if_neg c3, if_pos (by omega)]
      · rw [if_neg (fun q => c2 q.2), decide_eq_true (by omega)]
        simp only [spec_PassMinute.j2, if_true, w]
    · rw [if_neg c1, if_neg (fun q => c1 q.1)]
      simp only [spec_PassMinute.j2, if_true, w]
  · rintro s rfl
    have hn := prun_len l t l.length
    refine Evt.succ (Evt.all fun k => ?_)
    show spec_PassMinute.l0 (k + 1) t (prun l t l.length).2 (prun l t l.length).1 (l.length : Int) = _
    simp only [spec_PassMinute.l0]
    rw [if_neg (by omega)]
theorem PassMinute_ok (l : List S59) (t : Int) (hl : l.length ≤ 1048576) : (Evt fun k => impl_PassMinute.f k l t = some (passV l t)) ∧ (Evt fun k => spec_PassMinute.f k l t = some (passV l t)) := by
  have c1 := IsValidQueue_ev l (by omega)
  have c2 := l19Good_ev l (by omega)
  unfold passV
  by_cases hq : queueB l = true
  · by_cases ht : 0 ≤ t ∧ t ≤ 50000
    · rw [if_pos ⟨hq, ht⟩]
      refine ⟨?_, ?_⟩
      · obtain ⟨K, hK⟩ := c1.and (passImpl_loop l t hq)
        refine ⟨K + 1, fun k hk => ?_⟩
        obtain ⟨m, rfl⟩ : ∃ m, k = m + 1 := ⟨k - 1, by omega⟩
        simp only [impl_PassMinute.f, impl_PassMinute.j0, (hK (m + 1) (by omega)).1, (hK m (by omega)).2, hq, Option.bind_some, if_true, isMinute_ok, decide_eq_true ht, Bool.not_true, Bool.false_eq_true, if_false, cloneD l (by omega)]
      · obtain ⟨K, hK⟩ := c2.and (passSpec_loop l t hq)
        refine ⟨K + 1, fun k hk => ?_⟩
        obtain ⟨m, rfl⟩ : ∃ m, k = m + 1 := ⟨k - 1, by omega⟩
        simp only [spec_PassMinute.f, spec_PassMinute.j0, (hK (m + 1) (by omega)).1, (hK m (by omega)).2, hq, Option.bind_some, if_true, l19Minute_ok, decide_eq_true ht, Bool.not_true, Bool.false_eq_true, if_false, ownD l (by omega)]
    · rw [if_neg (fun q => ht q.2)]
      refine ⟨(Evt.pos.and c1).mono ?_, (Evt.pos.and c2).mono ?_⟩
      · rintro k ⟨⟨m, rfl⟩, hk⟩
        simp only [impl_PassMinute.f, impl_PassMinute.j0, hk, hq, Option.bind_some, if_true, isMinute_ok, decide_eq_false ht, Bool.not_false]
      · rintro k ⟨⟨m, rfl⟩, hk⟩
        simp only [spec_PassMinute.f, spec_PassMinute.j0, hk, hq, Option.bind_some, if_true, l19Minute_ok, decide_eq_false ht, Bool.not_false]
  · rw [if_neg (fun q => hq q.1)]
    rw [Bool.not_eq_true] at hq
    refine ⟨(Evt.pos.and c1).mono ?_, (Evt.pos.and c2).mono ?_⟩
    · rintro k ⟨⟨m, rfl⟩, hk⟩; simp [impl_PassMinute.f, impl_PassMinute.j0, hk, hq]
    · rintro k ⟨⟨m, rfl⟩, hk⟩; simp [spec_PassMinute.f, spec_PassMinute.j0, hk, hq]
def openB (s : S59) : Bool := decide (s.f1 = 1) || decide (s.f1 = 2)
theorem isOpen_ok (a b c d : Int) : impl_isOpen.f a b c d = some (decide (b = 1) || decide (b = 2)) := by
  unfold impl_isOpen.f
  by_cases h : b = 1
  · rw [if_pos h, decide_eq_true h]; rfl
  · rw [if_neg h, decide_eq_false h]; rfl
theorem prune1_ok (s : S59) : impl_PruneQueue_1.f s.f0 s.f1 s.f2 s.f3 = some (!openB s) := by
  simp only [impl_PruneQueue_1.f, isOpen_ok, Option.bind_some, openB]
theorem take_set_succ (xs : List S59) (i : Nat) (e : S59) (h : i < xs.length) : (xs.set i e).take (i + 1) = xs.take i ++ [e] := by
  rw [List.take_succ_eq_append_getElem (by rw [List.length_set]; exact h), List.getElem_set_self]
  congr 1
  apply List.ext_getElem?
  intro j
  rw [List.getElem?_take, List.getElem?_take]
  split
  · rw [List.getElem?_set_ne (by omega)]
  · rfl
theorem drop_set_lt (xs : List S59) (i j : Nat) (e : S59) (h : i < j) : (xs.set i e).drop j = xs.drop j := by
  apply List.ext_getElem?
  intro q
  rw [List.getElem?_drop, List.getElem?_drop, List.getElem?_set_ne (by omega)]
theorem filt_succ (l : List S59) (j : Nat) (h : j < l.length) : (l.take (j + 1)).filter openB = (l.take j).filter openB ++ if openB (l.getD j z59) = true then [l.getD j z59] else [] := by
  rw [List.take_succ_eq_append_getElem h, List.filter_append, getD_lt _ _ _ h]
  congr 1
  cases hq : openB l[j] <;> simp [hq]
theorem delLoop (l : List S59) (hl : l.length ≤ 1048576) : ∀ (j : Nat) (s : List S59 × Nat), j ≤ l.length → (s.1.length = l.length ∧ s.2 ≤ j ∧ s.1.take s.2 = (l.take j).filter openB ∧ s.1.drop j = l.drop j) →
    Evt fun k => slices_DeleteFunc_Delivery.l0 k s.1 (s.2 : Int) (j : Int) = some (l.filter openB) := by
  refine evt_loop l.length (fun k (s : List S59 × Nat) j => slices_DeleteFunc_Delivery.l0 k s.1 (s.2 : Int) j) (l.filter openB) (fun j s => s.1.length = l.length ∧ s.2 ≤ j ∧ s.1.take s.2 = (l.take j).filter openB ∧ s.1.drop j = l.drop j) ?_ ?_
  · rintro j ⟨xs, i⟩ hj ⟨h1, h2, h3, h4⟩
    dsimp only at h1 h2 h3 h4
    have he : xs.getD j z59 = l.getD j z59 := by
      have a := getD_drop xs z59 j (by omega)
      have b := getD_drop l z59 j hj
      rw [h4, b] at a
      exact (List.cons.inj a).1.symm
    have hd : xs.drop (j + 1) = l.drop (j + 1) := by
      have a := getD_drop xs z59 j (by omega)
      have b := getD_drop l z59 j hj
      rw [h4, b] at a
      exact (List.cons.inj a).2.symm
    have fs := filt_succ l j hj
    have g1 : (j : Int) < (xs.length : Int) := by omega
    have g2 : 0 ≤ (j : Int) := by omega
    have w1 : wrap64 ((j : Int) + 1) = (j : Int) + 1 := wrap_id (by omega) (by omega)
    have w2 : wrap64 ((i : Int) + 1) = (i : Int) + 1 := wrap_id (by omega) (by omega)
    cases hq : openB (l.getD j z59) with
    | false =>
      rw [hq] at fs
      refine .inl ⟨(xs, i), ⟨h1, by dsimp only; omega, by dsimp only; rw [fs, h3]; simp, hd⟩, 1, Evt.all fun k => ?_⟩
      show slices_DeleteFunc_Delivery.l0 (k + 1) xs (i : Int) (j : Int) = slices_DeleteFunc_Delivery.l0 k xs (i : Int) ((j : Int) + 1)
      simp only [slices_DeleteFunc_Delivery.l0, rd_del, he, prune1_ok, hq, Option.bind_some, if_pos g1, if_pos g2, w1, Bool.not_false, if_true]
    | true =>
      rw [hq, if_pos rfl] at fs
      refine .inl ⟨(xs.set i (l.getD j z59), i + 1), ⟨by simpa using h1, by dsimp only; omega, by dsimp only; rw [take_set_succ _ _ _ (by omega), fs, h3], by dsimp only; rw [drop_set_lt _ _ _ _ (by omega)]; exact hd⟩, 1, Evt.all fun k => ?_⟩
      show slices_DeleteFunc_Delivery.l0 (k + 1) xs (i : Int) (j : Int) = slices_DeleteFunc_Delivery.l0 k (xs.set i (l.getD j z59)) ((i + 1 : Nat) : Int) ((j : Int) + 1)
      simp only [slices_DeleteFunc_Delivery.l0, rd_del, he, prune1_ok, hq, Option.bind_some, if_pos g1, if_pos g2, w1, w2, Bool.not_true, Bool.false_eq_true, if_false, Int.toNat_natCast]
      rw [if_pos (by omega), if_pos (by omega)]
      rfl
  · rintro ⟨xs, i⟩ ⟨h1, h2, h3, h4⟩
    dsimp only at h1 h2 h3 h4
    rw [List.take_length] at h3
    refine Evt.succ (Evt.all fun k => ?_)
    show slices_DeleteFunc_Delivery.l0 (k + 1) xs (i : Int) (l.length : Int) = _
    simp only [slices_DeleteFunc_Delivery.l0, Int.toNat_natCast]
    rw [if_neg (by omega), if_pos (by omega), if_pos (by omega), h3]
theorem first_shut (l : List S59) : ∀ m, m ≤ l.length → (∃ n, n < m ∧ openB (l.getD n z59) = false ∧ ∀ i, i < n → openB (l.getD i z59) = true) ∨ ∀ i, i < m → openB (l.getD i z59) = true
  | 0, _ => .inr (fun i hi => by omega)
  | m + 1, hm => by
    rcases first_shut l m (by omega) with ⟨n, h1, h2, h3⟩ | h
    · exact .inl ⟨n, by omega, h2, h3⟩
    · cases c : openB (l.getD m z59) with
      | false => exact .inl ⟨m, by omega, c, h⟩
      | true =>
        refine .inr (fun i hi => ?_)
        by_cases e : i = m
        · subst e; exact c
        · exact h i (by omega)
theorem filt_all (l : List S59) : ∀ n, n ≤ l.length → (∀ i, i < n → openB (l.getD i z59) = true) → (l.take n).filter openB = l.take n
  | 0, _, _ => by simp
  | n + 1, hn, h => by
    rw [filt_succ l n (by omega), filt_all l n (by omega) (fun i hi => h i (by omega)), if_pos (h n (by omega)), List.take_succ_eq_append_getElem (by omega), getD_lt _ _ _ (by omega)]
theorem indexP_ev (l : List S59) (hl : l.length ≤ 1048576) (n : Nat) (hn : n ≤ l.length) (hb : ∀ i, i < n → openB (l.getD i z59) = true) (v : Int)
    (he : (n < l.length ∧ openB (l.getD n z59) = false ∧ v = n) ∨ (n = l.length ∧ v = -1)) : Evt fun k => slices_IndexFunc_Delivery.f k l = some v := by
  unfold slices_IndexFunc_Delivery.f
  refine evt_loop0 n (fun k (_ : Unit) i => slices_IndexFunc_Delivery.l0 k l (l.length : Int) i) v (fun _ _ => True) ?_ ?_ () trivial
  · rintro i s hi _
    have ne := hb i hi
    refine .inl ⟨(), trivial, 1, Evt.all fun k => ?_⟩
    show slices_IndexFunc_Delivery.l0 (k + 1) l (l.length : Int) (i : Int) = _
    simp only [slices_IndexFunc_Delivery.l0, rd_del, prune1_ok, Option.bind_some, ne]
    rw [if_pos (by omega), if_pos (by omega), if_pos (by omega), if_neg (by simp), wrap_id (by omega) (by omega)]
  · rintro s _
    refine Evt.succ (Evt.all fun k => ?_)
    show slices_IndexFunc_Delivery.l0 (k + 1) l (l.length : Int) (n : Int) = _
    rcases he with ⟨h1, h2, h3⟩ | ⟨h1, h2⟩
    · simp only [slices_IndexFunc_Delivery.l0, rd_del, prune1_ok, Option.bind_some, h2]
      rw [if_pos (by omega), if_pos (by omega), if_pos (by omega), if_pos (by simp), h3]
    · simp only [slices_IndexFunc_Delivery.l0]
      rw [if_neg (by omega), h2]
theorem DeleteFunc_ev (l : List S59) (hl : l.length ≤ 1048576) : Evt fun k => slices_DeleteFunc_Delivery.f k l = some (l.filter openB) := by
  rcases first_shut l l.length (Nat.le_refl _) with ⟨n, h1, h2, h3⟩ | h
  · have a := indexP_ev l hl n (by omega) h3 (n : Int) (.inl ⟨h1, h2, rfl⟩)
    have b := delLoop l hl (n + 1) (l, n) (by omega) ⟨rfl, by dsimp only; omega, by dsimp only; rw [filt_succ l n h1, h2, filt_all l n (by omega) h3]; simp, rfl⟩
    refine (a.and b).mono fun k hk => ?_
    simp only [slices_DeleteFunc_Delivery.f, hk.1, Option.bind_some]
    rw [if_neg (by omega), wrap_id (by omega) (by omega)]
    exact hk.2
  · have a := indexP_ev l hl l.length (Nat.le_refl _) h (-1) (.inr ⟨rfl, rfl⟩)
    have f := filt_all l l.length (Nat.le_refl _) h
    rw [List.take_length] at f
    refine a.mono fun k hk => ?_
    simp only [slices_DeleteFunc_Delivery.f, hk, Option.bind_some, f]
    rw [if_pos trivial]
def pruneV (l : List S59) : List S59 × Bool := if queueB l = true then (l.filter openB, true) else ([], false)
theorem PruneImpl_ok (l : List S59) (hl : l.length ≤ 1048576) : Evt fun k => impl_PruneQueue.f k l = some (pruneV l) := by
  have c1 := IsValidQueue_ev l (by omega)
  unfold pruneV
  cases hc : queueB l with
  | false =>
    rw [hc] at c1
    exact c1.mono fun k hk => by simp [impl_PruneQueue.f, hk]
  | true =>
    rw [hc] at c1
    rw [if_pos rfl]
    refine (c1.and (DeleteFunc_ev l hl)).mono fun k hk => ?_
    simp only [impl_PruneQueue.f, hk.1, hk.2, Option.bind_some, if_true, cloneD l (by omega)]
theorem queue_mono {l : List S59} (h : queueB l = true) (i : Nat) : ∀ d, i + (d + 1) < l.length → (l.getD i z59).f0 < (l.getD (i + (d + 1)) z59).f0 := by
  have st : ∀ j, j + 1 < l.length → (l.getD j z59).f0 < (l.getD (j + 1) z59).f0 := by
    intro j hj
    have := queueB_at h (j + 1) hj
    unfold atQ at this
    simp only [Bool.and_eq_true, Bool.or_eq_true, decide_eq_true_eq] at this
    rcases this.2 with e | e
    · omega
    · rw [Nat.add_sub_cancel] at e; exact e
  intro d
  induction d with
  | zero => intro hd; exact st i hd
  | succ d ih =>
    intro hd
    have a := ih (by omega)
    have b := st (i + (d + 1)) (by omega)
    rw [show i + (d + 1) + 1 = i + (d + 1 + 1) from by omega] at b
    omega
theorem queue_one {l : List S59} (h : queueB l = true) {i j : Nat} (hi : i < l.length) (hj : j < l.length) (e : (l.getD i z59).f0 = (l.getD j z59).f0) : i = j := by
  rcases Nat.lt_trichotomy i j with c | c | c
  · have := queue_mono h i (j - i - 1) (by omega)
    rw [show i + (j - i - 1 + 1) = j from by omega] at this
    omega
  · exact c
  · have := queue_mono h j (i - j - 1) (by omega)
    rw [show j + (i - j - 1 + 1) = i from by omega] at this
    omega
def stepN (acc : List Int) (d : S59) : List Int := acc.set (d.f1 - 1).toNat (acc.getD (d.f1 - 1).toNat 0 + 1)
def countsN (l : List S59) : List Int := l.foldl stepN [0, 0, 0, 0]
theorem stepN_inv {acc : List Int} {i : Nat} (d : S59) (h : acc.length = 4 ∧ ∀ j, 0 ≤ acc.getD j 0 ∧ acc.getD j 0 ≤ (i : Int)) : (stepN acc d).length = 4 ∧ ∀ j, 0 ≤ (stepN acc d).getD j 0 ∧ (stepN acc d).getD j 0 ≤ ((i + 1 : Nat) : Int) := by
  refine ⟨by simp [stepN, h.1], fun j => ?_⟩
  unfold stepN
  by_cases hj : (d.f1 - 1).toNat = j ∧ j < acc.length
  · have := h.2 j
    rw [hj.1, getD_set_self _ _ _ _ hj.2]; omega
  · have := h.2 j
    by_cases e : (d.f1 - 1).toNat = j
    · rw [List.set_eq_of_length_le (by omega)]; omega
    · rw [getD_set_ne _ _ _ _ _ e]; omega
theorem countImpl_loop (l : List S59) (hv : queueB l = true) : Evt fun k => impl_CountStates.l0 k (List.replicate 4 0) l (l.length : Int) 0 = some (countsN l, true) := by
  have hlen := queueB_len hv
  refine evt_loop0 l.length (fun k s i => impl_CountStates.l0 k s l (l.length : Int) i) (countsN l, true) (fun i s => (s.length = 4 ∧ ∀ j, 0 ≤ s.getD j 0 ∧ s.getD j 0 ≤ (i : Int)) ∧ (l.drop i).foldl stepN s = countsN l) ?_ ?_ _ ⟨⟨by simp, fun j => by rcases j with _ | _ | _ | _ | j <;> simp [List.replicate]⟩, rfl⟩
  · rintro i s hi ⟨h1, h2⟩
    have hd := queueB_deliv hv i hi
    unfold delivP at hd
    rw [getD_drop l z59 i hi, List.foldl_cons] at h2
    refine .inl ⟨_, ⟨stepN_inv _ h1, h2⟩, 1, Evt.all fun k => ?_⟩
    have hb := h1.2 ((l.getD i z59).f1 - 1).toNat
    have h4 := h1.1
    show impl_CountStates.l0 (k + 1) s l (l.length : Int) (i : Int) = _
    have w2 : wrap64 ((l.getD i z59).f1 - 1) = (l.getD i z59).f1 - 1 := wrap_id (by omega) (by omega)
    simp only [impl_CountStates.l0, rd_del, w2, rd]
    rw [if_pos (by omega), if_pos (by omega), if_pos (by omega), if_pos (by omega), if_pos (by omega), wrap_id (x := (i : Int) + 1) (by omega) (by omega), wrap_id (by omega) (by omega)]
    rfl
  · rintro s ⟨h1, h2⟩
    rw [List.drop_of_length_le (Nat.le_refl _)] at h2
    refine Evt.succ (Evt.all fun k => ?_)
    show impl_CountStates.l0 (k + 1) s l (l.length : Int) (l.length : Int) = _
    simp only [impl_CountStates.l0]
    rw [if_neg (by omega), ← h2]; rfl
theorem countsN_len (l : List S59) : (countsN l).length = 4 := by
  unfold countsN
  have : ∀ acc : List Int, (l.foldl stepN acc).length = acc.length := by
    induction l with
    | nil => intro acc; rfl
    | cons d l ih => intro acc; rw [List.foldl_cons, ih]; simp [stepN]
  rw [this]; rfl
def stepM (st : Int × Bool) (d : S59) : Int × Bool := if d.f1 ≤ 2 then (if st.2 = true then (if d.f3 < st.1 then (d.f3, true) else st) else (d.f3, true)) else st
def nextV (l : List S59) : Int × Bool := l.foldl stepM (0, false)
theorem nextSpec_loop (l : List S59) (hv : queueB l = true) : Evt fun k => spec_NextMinute.l0 k l 0 false 0 = some (nextV l) := by
  have hlen := queueB_len hv
  refine evt_loop0 l.length (fun k (s : Int × Bool) i => spec_NextMinute.l0 k l s.1 s.2 i) (nextV l) (fun i s => (l.drop i).foldl stepM s = nextV l) ?_ ?_ (0, false) rfl
  · rintro i ⟨s, b⟩ hi h2
    rw [getD_drop l z59 i hi, List.foldl_cons] at h2
    refine .inl ⟨_, h2, 1, Evt.all fun k => ?_⟩
    show spec_NextMinute.l0 (k + 1) l s b (i : Int) = _
    simp only [spec_NextMinute.l0, rd_del]
    rw [if_pos (by omega), if_pos (by omega), wrap_id (by omega) (by omega)]
    simp only [stepM]
    by_cases h1 : (l.getD i z59).f1 ≤ 2
    · rw [if_pos h1, if_pos h1]
      cases b
      · simp
      · by_cases h3 : (l.getD i z59).f3 < s
        · simp only [if_pos h3, if_true]
        · simp only [if_neg h3, if_true]
    · rw [if_neg h1, if_neg h1]
  · rintro ⟨s, b⟩ h2
    rw [List.drop_of_length_le (Nat.le_refl _)] at h2
    refine Evt.succ (Evt.all fun k => ?_)
    show spec_NextMinute.l0 (k + 1) l s b (l.length : Int) = _
    simp only [spec_NextMinute.l0]
    rw [if_neg (by omega), ← h2]; rfl
theorem nextImpl_loop (l : List S59) (hv : queueB l = true) : Evt fun k => impl_NextMinute.l0 k (-1) l (l.length : Int) 0 = some (nextV l) := by
  have hlen := queueB_len hv
  refine evt_loop0 l.length (fun k (s : Int) i => impl_NextMinute.l0 k s l (l.length : Int) i) (nextV l) (fun i s => ∃ st : Int × Bool, (l.drop i).foldl stepM st = nextV l ∧ ((st = (0, false) ∧ s = -1) ∨ (st = (s, true) ∧ 0 ≤ s))) ?_ ?_ (-1) ⟨(0, false), rfl, .inl ⟨rfl, rfl⟩⟩
  · rintro i s hi ⟨st, h2, h3⟩
    have hd := queueB_deliv hv i hi
    unfold delivP at hd
    rw [getD_drop l z59 i hi, List.foldl_cons] at h2
    have e0 := rd_del l i
    obtain ⟨d, hd0⟩ : ∃ d, l.getD i z59 = d := ⟨_, rfl⟩
    rw [hd0] at hd h2 e0
    have hopen : impl_isOpen.f d.f0 d.f1 d.f2 d.f3 = some (decide (d.f1 ≤ 2)) := by
      unfold impl_isOpen.f
      by_cases s1 : d.f1 = 1
      · rw [if_pos s1, decide_eq_true (by omega)]
      · rw [if_neg s1]
        show some (decide (d.f1 = 2)) = _
        exact congrArg some (decide_eq_decide.2 (by omega))
    refine .inl ⟨if d.f1 ≤ 2 then (if s < 0 then d.f3 else if d.f3 < s then d.f3 else s) else s, ⟨_, h2, ?_⟩, 1, Evt.all fun k => ?_⟩
    · unfold stepM
      by_cases h1 : d.f1 ≤ 2
      · rw [if_pos h1, if_pos h1]
        rcases h3 with ⟨rfl, rfl⟩ | ⟨rfl, h0⟩
        · refine .inr ?_
          simp
          omega
        · have hs : ¬ s < 0 := by omega
          refine .inr ?_
          by_cases h5 : d.f3 < s
          · simp [hs, h5] <;> omega
          · simp [hs, h5] <;> omega
      · rw [if_neg h1, if_neg h1]; exact h3
    · show impl_NextMinute.l0 (k + 1) s l (l.length : Int) (i : Int) = _
      simp only [impl_NextMinute.l0, e0, hopen, Option.bind_some]
      rw [if_pos (by omega), if_pos (by omega), if_pos (by omega), wrap_id (by omega) (by omega)]
      by_cases h1 : d.f1 ≤ 2
      · rw [if_pos h1, if_pos (decide_eq_true h1)]
        by_cases h4 : s < 0
        · rw [if_pos h4, if_pos h4]
        · rw [if_neg h4, if_neg h4]
          by_cases h5 : d.f3 < s
          · rw [if_pos h5, if_pos h5]
          · rw [if_neg h5, if_neg h5]
      · rw [if_neg h1, if_neg (by simpa using h1)]
  · rintro s ⟨st, h2, h3⟩
    rw [List.drop_of_length_le (Nat.le_refl _)] at h2
    refine Evt.succ (Evt.all fun k => ?_)
    show impl_NextMinute.l0 (k + 1) s l (l.length : Int) (l.length : Int) = _
    simp only [impl_NextMinute.l0]
    rw [if_neg (by omega), ← h2]
    rcases h3 with ⟨rfl, rfl⟩ | ⟨rfl, h0⟩
    · rw [if_pos (by omega)]; rfl
    · rw [if_neg (by omega)]; rfl
def stepd (t : Int) (d : S59) : S59 :=
  if d.f1 = 2 ∧ d.f3 ≤ t then (if d.f2 = 5 then ⟨d.f0, 4, d.f2, 0⟩ else ⟨d.f0, 1, d.f2, wrap64 (t + (shl .i64 1 d.f2))⟩) else d
theorem prun_at (l : List S59) (t : Int) : ∀ n, n ≤ l.length → ∀ i, i < n → (prun l t n).1.getD i z59 = stepd t (l.getD i z59)
  | 0, _, i, hi => by omega
  | n + 1, hn, i, hi => by
    have hl := (prun_len l t n).1
    have hr := prun_rest l t n n (Nat.le_refl _)
    by_cases e : i = n
    · subst e
      simp only [prun, pstep, hr, stepd]
      split
      · split
        · rw [getD_set_self _ _ _ _ (by omega)]
        · rw [getD_set_self _ _ _ _ (by omega)]
      · exact hr
    · have ih := prun_at l t n (by omega) i (by omega)
      simp only [prun, pstep]
      split
      · split
        · rw [getD_set_ne _ _ _ _ _ (by omega)]; exact ih
        · rw [getD_set_ne _ _ _ _ _ (by omega)]; exact ih
      · exact ih
theorem prun_fail (l : List S59) (t : Int) : ∀ n, ∀ x ∈ (prun l t n).2, ∃ i, i < n ∧ x = (l.getD i z59).f0 ∧ (l.getD i z59).f1 = 2 ∧ (l.getD i z59).f3 ≤ t ∧ (l.getD i z59).f2 = 5
  | 0, x, hx => by simp [prun] at hx
  | n + 1, x, hx => by
    have hr := prun_rest l t n n (Nat.le_refl _)
    have ih := prun_fail l t n
    simp only [prun, pstep, hr] at hx
    split at hx
    · rename_i c
      split at hx
      · rename_i c2
        rcases List.mem_append.1 hx with m | m
        · obtain ⟨i, h1, h2⟩ := ih x m
          exact ⟨i, by omega, h2⟩
        · rw [List.mem_singleton] at m
          exact ⟨n, by omega, m, c.1, c.2, c2⟩
      · obtain ⟨i, h1, h2⟩ := ih x hx
        exact ⟨i, by omega, h2⟩
    · obtain ⟨i, h1, h2⟩ := ih x hx
      exact ⟨i, by omega, h2⟩
theorem prun_map (l : List S59) (t : Int) : (prun l t l.length).1 = l.map (stepd t) := by
  have hl := (prun_len l t l.length).1
  refine list_ext_getD _ _ z59 (by rw [hl, List.length_map]) (fun j hj => ?_)
  rw [prun_at l t l.length (Nat.le_refl _) j (by omega), getD_map _ _ z59 _ _ (by omega)]
theorem prun_id (l : List S59) (t : Int) (h : ∀ i, i < l.length → ¬ ((l.getD i z59).f1 = 2 ∧ (l.getD i z59).f3 ≤ t)) : ∀ n, n ≤ l.length → prun l t n = (l, [])
  | 0, _ => rfl
  | n + 1, hn => by
    simp only [prun, prun_id l t h n (by omega), pstep]
    rw [if_neg (h n (by omega))]
theorem stepd_id (t : Int) (d : S59) : (stepd t d).f0 = d.f0 := by
  unfold stepd
  split
  · split <;> rfl
  · rfl
theorem stepd_no (t : Int) (d : S59) : ¬ ((stepd t d).f1 = 2 ∧ (stepd t d).f3 ≤ t) := by
  unfold stepd
  split
  · split
    · intro h; exact absurd h.1 (by dsimp only; omega)
    · intro h; exact absurd h.1 (by dsimp only; omega)
  · assumption
theorem shl_small (c : Int) (h : 1 ≤ c ∧ c ≤ 4) : 0 ≤ shl .i64 1 c ∧ shl .i64 1 c ≤ 16 := by
  obtain rfl | rfl | rfl | rfl : c = 1 ∨ c = 2 ∨ c = 3 ∨ c = 4 := by omega
  all_goals decide +kernel
theorem stepd_good (t : Int) (d : S59) (ht : 0 ≤ t ∧ t ≤ 50000) (h : delivB d = true) : delivB (stepd t d) = true := by
  unfold delivB at h ⊢
  rw [decide_eq_true_eq] at h ⊢
  unfold delivP at h ⊢
  unfold stepd
  split
  · rename_i c
    split
    · dsimp only
      omega
    · rename_i c2
      have s := shl_small d.f2 (by omega)
      have w : wrap64 (t + (shl .i64 1 d.f2)) = t + shl .i64 1 d.f2 := wrap_id (by omega) (by omega)
      dsimp only
      rw [w]
      omega
  · exact h
theorem queueB_pw {l : List S59} (h : queueB l = true) : l.Pairwise (fun a b => a.f0 < b.f0) := by
  rw [List.pairwise_iff_getElem]
  intro i j hi hj hij
  have := queue_mono h i (j - i - 1) (by omega)
  rw [show i + (j - i - 1 + 1) = j by omega, getD_lt _ _ _ hi, getD_lt _ _ _ hj] at this
  exact this
theorem queueB_all {l : List S59} (h : queueB l = true) : ∀ d ∈ l, delivB d = true := by
  intro d hd
  obtain ⟨i, hi, rfl⟩ := List.mem_iff_getElem.1 hd
  have := queueB_at h i hi
  unfold atQ at this
  simp only [Bool.and_eq_true] at this
  rw [getD_lt _ _ _ hi] at this
  exact this.1
theorem queueB_mk {l : List S59} (h1 : ∀ d ∈ l, delivB d = true) (h2 : l.Pairwise (fun a b => a.f0 < b.f0)) (h3 : l.length ≤ 12) : queueB l = true := by
  unfold queueB
  rw [Bool.and_eq_true, decide_eq_true_eq, decide_eq_true_eq]
  refine ⟨fun i hi => ?_, h3⟩
  unfold atQ
  rw [getD_lt _ _ _ hi, h1 _ (List.getElem_mem hi), Bool.true_and]
  by_cases c : i = 0
  · rw [decide_eq_true c, Bool.true_or]
  · rw [getD_lt _ _ _ (by omega : i - 1 < l.length), decide_eq_true (List.pairwise_iff_getElem.1 h2 (i - 1) i (by omega) hi (by omega)), Bool.or_true]
theorem queueB_step {l : List S59} (t : Int) (ht : 0 ≤ t ∧ t ≤ 50000) (h : queueB l = true) : queueB (l.map (stepd t)) = true := by
  refine queueB_mk ?_ ?_ (by rw [List.length_map]; exact queueB_len h)
  · intro d hd
    obtain ⟨e, he, rfl⟩ := List.mem_map.1 hd
    exact stepd_good t e ht (queueB_all h e he)
  · rw [List.pairwise_map]
    refine (queueB_pw h).imp ?_
    intro a b q
    rw [stepd_id, stepd_id]; exact q
theorem queueB_filter {l : List S59} (f : S59 → Bool) (h : queueB l = true) : queueB (l.filter f) = true :=
  queueB_mk (fun d hd => queueB_all h d (List.mem_filter.1 hd).1) ((queueB_pw h).filter f) (Nat.le_trans (List.length_filter_le _ _) (queueB_len h))
theorem countsN_open (l : List S59) (h : ∀ d ∈ l, openB d = true) : (countsN l).getD 2 0 = 0 ∧ (countsN l).getD 3 0 = 0 := by
  have key : ∀ (l : List S59) (acc : List Int), (∀ d ∈ l, openB d = true) → (l.foldl stepN acc).getD 2 0 = acc.getD 2 0 ∧ (l.foldl stepN acc).getD 3 0 = acc.getD 3 0 := by
    intro l
    induction l with
    | nil => intro acc _; exact ⟨rfl, rfl⟩
    | cons d l ih =>
      intro acc hd
      have g := ih (stepN acc d) (fun x hx => hd x (List.mem_cons_of_mem _ hx))
      have o := hd d List.mem_cons_self
      unfold openB at o
      rw [Bool.or_eq_true, decide_eq_true_eq, decide_eq_true_eq] at o
      rw [List.foldl_cons, g.1, g.2]
      unfold stepN
      rw [getD_set_ne _ _ _ _ _ (by omega), getD_set_ne _ _ _ _ _ (by omega)]
      exact ⟨rfl, rfl⟩
  exact key l [0, 0, 0, 0] h
theorem openB_iff {d : S59} (h : delivB d = true) : openB d = true ↔ d.f1 ≤ 2 := by
  unfold delivB at h
  rw [decide_eq_true_eq] at h
  unfold delivP at h
  unfold openB
  rw [Bool.or_eq_true, decide_eq_true_eq, decide_eq_true_eq]
  omega
theorem nextV_fine {l : List S59} (h : queueB l = true) : (nextV l).2 = decide (((l.filter openB).length : Int) > 0) := by
  have key : ∀ (l : List S59) (st : Int × Bool), (∀ d ∈ l, delivB d = true) → (l.foldl stepM st).2 = (st.2 || decide (((l.filter openB).length : Int) > 0)) := by
    intro l
    induction l with
    | nil => intro st _; simp
    | cons d l ih =>
      intro st hd
      have g := ih (stepM st d) (fun x hx => hd x (List.mem_cons_of_mem _ hx))
      have o := openB_iff (hd d List.mem_cons_self)
      rw [List.foldl_cons, g]
      by_cases c : d.f1 ≤ 2
      · rw [List.filter_cons_of_pos (o.2 c), List.length_cons, decide_eq_true (p := (((l.filter openB).length + 1 : Nat) : Int) > 0) (by omega), Bool.or_true]
        have e : (stepM st d).2 = true := by
          unfold stepM
          rw [if_pos c]
          cases hs : st.2
          · rfl
          · rw [if_pos rfl]
            split
            · rfl
            · exact hs
        rw [e, Bool.true_or]
      · rw [List.filter_cons_of_neg (fun q => c (o.1 q))]
        unfold stepM
        rw [if_neg c]
  have := key l (0, false) (queueB_all h)
  rw [Bool.false_or] at this
  exact this
theorem NextMinute_ok (l : List S59) (hl : l.length ≤ 1048576) : (Evt fun k => impl_NextMinute.f k l = some (if queueB l = true then nextV l else (0, false))) ∧ (Evt fun k => spec_NextMinute.f k l = some (if queueB l = true then nextV l else (0, false))) := by
  have c1 := IsValidQueue_ev l (by omega)
  have c2 := l19Good_ev l (by omega)
  cases hc : queueB l with
  | false =>
    refine ⟨c1.mono fun k hk => ?_, c2.mono fun k hk => ?_⟩
    · simp [impl_NextMinute.f, hk, hc]
    · simp [spec_NextMinute.f, hk, hc]
  | true =>
    rw [if_pos rfl]
    refine ⟨(c1.and (nextImpl_loop l hc)).mono ?_, (c2.and (nextSpec_loop l hc)).mono ?_⟩
    · rintro k ⟨h1, h2⟩
      simp only [impl_NextMinute.f, h1, hc, Option.bind_some, if_true, h2]
    · rintro k ⟨h1, h2⟩
      simp only [spec_NextMinute.f, h1, hc, Option.bind_some, if_true, h2]
theorem CountStates_ok {l : List S59} (hc : queueB l = true) : Evt fun k => impl_CountStates.f k l = some (countsN l, true) := by
  have c1 := IsValidQueue_ev l (by have := queueB_len hc; omega)
  refine (c1.and (countImpl_loop l hc)).mono ?_
  rintro k ⟨h1, h2⟩
  simp only [impl_CountStates.f, h1, hc, Option.bind_some, if_true, if_pos (show (4 : Nat) ≤ 35184372088832 by omega), h2]
theorem WorstWait_ok (n : Int) : ∃ v, (Evt fun k => impl_WorstWait.f k n = some v) ∧ (Evt fun k => spec_WorstWait.f k n = some v) := by
  by_cases h : 1 ≤ n ∧ n ≤ 6
  · have mi : ∀ k, impl_WorstWait.f (k + 20) n = impl_WorstWait.f 20 n ∧ spec_WorstWait.f (k + 20) n = spec_WorstWait.f 20 n := by
      intro k
      have a : ∃ r, impl_WorstWait.f 20 n = some r := by
        obtain rfl | rfl | rfl | rfl | rfl | rfl : n = 1 ∨ n = 2 ∨ n = 3 ∨ n = 4 ∨ n = 5 ∨ n = 6 := by omega
        all_goals exact Option.isSome_iff_exists.1 (by decide +kernel)
      have b : ∃ r, spec_WorstWait.f 20 n = some r := by
        obtain rfl | rfl | rfl | rfl | rfl | rfl : n = 1 ∨ n = 2 ∨ n = 3 ∨ n = 4 ∨ n = 5 ∨ n = 6 := by omega
        all_goals exact Option.isSome_iff_exists.1 (by decide +kernel)
      obtain ⟨r, hr⟩ := a
      obtain ⟨q, hq⟩ := b
      induction k with
      | zero => exact ⟨rfl, rfl⟩
      | succ k ih =>
        have x := impl_WorstWait.mono n (k + 20) r (ih.1.trans hr)
        have y := spec_WorstWait.mono n (k + 20) q (ih.2.trans hq)
        rw [show k + 1 + 20 = k + 20 + 1 by omega, x, y, hr, hq]
        exact ⟨rfl, rfl⟩
    have e : ∃ v, impl_WorstWait.f 20 n = some v ∧ spec_WorstWait.f 20 n = some v := by
      have s : (impl_WorstWait.f 20 n).isSome = true ∧ spec_WorstWait.f 20 n = impl_WorstWait.f 20 n := by
        obtain rfl | rfl | rfl | rfl | rfl | rfl : n = 1 ∨ n = 2 ∨ n = 3 ∨ n = 4 ∨ n = 5 ∨ n = 6 := by omega
        all_goals decide +kernel
      obtain ⟨v, hv⟩ := Option.isSome_iff_exists.1 s.1
      exact ⟨v, hv, s.2.trans hv⟩
    obtain ⟨v, e1, e2⟩ := e
    refine ⟨v, ⟨20, fun k hk => ?_⟩, ⟨20, fun k hk => ?_⟩⟩
    · have := (mi (k - 20)).1
      rw [show k - 20 + 20 = k by omega] at this
      exact this.trans e1
    · have := (mi (k - 20)).2
      rw [show k - 20 + 20 = k by omega] at this
      exact this.trans e2
  · exact ⟨(0, false), Evt.all fun k => by simp [impl_WorstWait.f, within_ok, h], Evt.all fun k => by simp [spec_WorstWait.f, l1In_ok, h]⟩
theorem retriesLoop (l0 : List Int) (l : List S59) (t : Int) (R : List S59) (F : List Int) (hlen : R.length = l.length) (h12 : l.length ≤ 12) (hfl : F.length ≤ 12)
    (hb : ∀ i, i < l.length → ¬ ((R.getD i z59).f1 = 2 ∧ (R.getD i z59).f3 ≤ t) ∧ ((R.getD i z59).f0 ∈ F → (R.getD i z59).f1 = 4 ∧ (l.getD i z59).f2 = 5))
    (fin : Evt fun k => laws_FnRetries.l0 k l0 l t R F (l.length : Int) = some true) : Evt fun k => laws_FnRetries.l0 k l0 l t R F 0 = some true := by
  refine evt_loop0 l.length (fun k (_ : Unit) i => laws_FnRetries.l0 k l0 l t R F i) true (fun _ _ => True) ?_ (fun _ _ => fin) () trivial
  rintro i s hi _
  have hs := rHas_ev F (R.getD i z59).f0 (by omega)
  refine .inl ⟨(), trivial, 1, hs.mono fun k hk => ?_⟩
  show laws_FnRetries.l0 (k + 1) l0 l t R F (i : Int) = laws_FnRetries.l0 k l0 l t R F ((i : Int) + 1)
  obtain ⟨no, hm⟩ := hb i hi
  have w : wrap64 ((i : Int) + 1) = (i : Int) + 1 := wrap_id (by omega) (by omega)
  have k1 : (i : Int) < (R.length : Int) := by omega
  have k2 : 0 ≤ (i : Int) := by omega
  have k3 : (i : Int) < (l.length : Int) := by omega
  simp only [laws_FnRetries.l0, rd_del, if_pos k1, if_pos k2, if_pos k3, hk, Option.bind_some, w]
  obtain ⟨d, hd⟩ : ∃ d, d = R.getD i z59 := ⟨_, rfl⟩
  obtain ⟨f, hf⟩ : ∃ f, f = l.getD i z59 := ⟨_, rfl⟩
  rw [← hd] at no hm ⊢
  rw [← hf] at hm ⊢
  by_cases m : d.f0 ∈ F
  · obtain ⟨m1, m2⟩ := hm m
    have m3 : ¬ d.f1 = 2 := by rw [m1]; decide
    rw [if_neg m3, decide_eq_true m, if_pos rfl, if_pos m1, if_pos m2]
  · rw [decide_eq_false m]
    by_cases s2 : d.f1 = 2
    · rw [if_pos s2, if_neg (fun q => no ⟨s2, q⟩), if_neg Bool.false_ne_true]
    · rw [if_neg s2, if_neg Bool.false_ne_true]
theorem retriesFin (l0 : List Int) (l : List S59) (t : Int) (ht : 0 ≤ t ∧ t ≤ 50000) (R : List S59) (F : List Int) (hlen : R.length = l.length) (hqR : queueB R = true)
    (hno : ∀ i, i < R.length → ¬ ((R.getD i z59).f1 = 2 ∧ (R.getD i z59).f3 ≤ t)) (j2 : Evt fun k => laws_FnRetries.j2 k l0 = some true) : Evt fun k => laws_FnRetries.l0 k l0 l t R F (l.length : Int) = some true := by
  have h12 := queueB_len hqR
  have again : passV R t = (R, [], true) := by
    unfold passV
    rw [if_pos ⟨hqR, ht⟩, prun_id R t hno R.length (Nat.le_refl _)]
  obtain ⟨q1, _⟩ := PassMinute_ok R t (by omega)
  rw [again] at q1
  have q2 := PruneImpl_ok R (by omega)
  have e2 : pruneV R = (R.filter openB, true) := by unfold pruneV; rw [if_pos hqR]
  rw [e2] at q2
  have q3 := CountStates_ok (queueB_filter openB hqR)
  have q4 := countsN_open (R.filter openB) (fun d hd => (List.mem_filter.1 hd).2)
  have q5 := countsN_len (R.filter openB)
  have q6 := rQueues_self R (by omega)
  have q7 := IsValidQueue_ev R (by omega)
  rw [hqR] at q7
  have g1 : ¬ (l.length : Int) < (R.length : Int) := by omega
  have g2 : 2 < ((countsN (R.filter openB)).length : Int) := by omega
  have g3 : 3 < ((countsN (R.filter openB)).length : Int) := by omega
  refine Evt.succ ((q1.and (q2.and (q3.and (q6.and (q7.and j2))))).mono ?_)
  rintro k ⟨h1, h2, h3, h4, h5, h6⟩
  have e0 : rd (countsN (R.filter openB)) 2 = 0 := q4.1
  have e1 : rd (countsN (R.filter openB)) 3 = 0 := q4.2
  simp only [laws_FnRetries.l0]
  rw [if_neg g1, h2, Option.bind_some]
  dsimp only
  rw [h3, Option.bind_some, h1, Option.bind_some]
  dsimp only
  rw [if_pos rfl, if_pos rfl, if_pos rfl, if_pos g2, if_pos e0, if_pos g3, if_pos e1, if_pos (by simp), h4, Option.bind_some, if_pos rfl, h5, Option.bind_some, if_pos rfl]
  exact h6
theorem retriesJ0 (l0 : List Int) (l : List S59) (t : Int) (c : queueB l = true ∧ (0 ≤ t ∧ t ≤ 50000)) (j2 : Evt fun k => laws_FnRetries.j2 k l0 = some true) :
    Evt fun k => laws_FnRetries.l0 k l0 l t (prun l t l.length).1 (prun l t l.length).2 0 = some true := by
  have hfail := prun_fail l t l.length
  have hone := @queue_one l c.1
  have hqR := queueB_step t c.2 c.1
  have h12 := queueB_len c.1
  have hfl : (prun l t l.length).2.length ≤ 12 := Nat.le_trans (prun_len l t l.length).2 h12
  obtain ⟨F, hF⟩ : ∃ F, F = (prun l t l.length).2 := ⟨_, rfl⟩
  obtain ⟨R, hRR⟩ : ∃ R, R = l.map (stepd t) := ⟨_, rfl⟩
  rw [prun_map l t, ← hF, ← hRR]
  rw [← hF] at hfail hfl
  rw [← hRR] at hqR
  have hlen : R.length = l.length := by rw [hRR, List.length_map]
  have hat : ∀ i, i < l.length → R.getD i z59 = stepd t (l.getD i z59) := fun i hi => by rw [hRR, getD_map _ _ z59 _ _ hi]
  have hno : ∀ i, i < l.length → ¬ ((R.getD i z59).f1 = 2 ∧ (R.getD i z59).f3 ≤ t) := fun i hi => by rw [hat i hi]; exact stepd_no t _
  refine retriesLoop l0 l t R F hlen h12 hfl (fun i hi => ⟨hno i hi, fun m => ?_⟩) (retriesFin l0 l t c.2 R F hlen hqR (fun i hi => hno i (by rw [← hlen]; exact hi)) j2)
  obtain ⟨j, hj, a1, a2, a3, a4⟩ := hfail _ m
  rw [hat i hi, stepd_id] at a1
  obtain rfl := hone hi hj a1
  refine ⟨?_, a4⟩
  rw [hat i hi]
  unfold stepd
  rw [if_pos ⟨a2, a3⟩, if_pos a4]
theorem FnRetries : laws_FnRetries.Pure := by
  intro l0 hl _ hw
  have hby := bytes_of l0 hw
  by_cases hbig : (l0.length : Int) > 65536
  · exact ⟨0, by simp [laws_FnRetries.f, laws_rBig.f, hbig]⟩
  obtain ⟨l, t, hL, hT, g1⟩ := DrawPassMinute_ev l0 hby
  obtain ⟨p, hP, g2⟩ := DrawNextMinute_ev l0 hby
  obtain ⟨n, g3⟩ : ∃ n, spec_DrawWorstWait.f l0 = some n := by
    obtain ⟨v, p', s', e, _⟩ := pick_ok l0 hby 0 0 9 (by omega) (by omega) (by omega)
    exact ⟨wrap64 (v - 1), by simp only [spec_DrawWorstWait.f, e, Option.bind_some]⟩
  obtain ⟨wv, wi, ws⟩ := WorstWait_ok n
  have j4 : Evt fun k => laws_FnRetries.j4 k l0 false = some true := by
    refine Evt.succ ((wi.and ws).mono ?_)
    rintro k ⟨h1, h2⟩
    simp [laws_FnRetries.j4, g3, h1, h2]
  obtain ⟨n1, n2⟩ := NextMinute_ok p (by omega)
  have r1 := PruneImpl_ok p (by omega)
  have j3 : Evt fun k => laws_FnRetries.j3 k l0 p (if queueB p = true then nextV p else (0, false)).2 false = some true := by
    refine Evt.succ ((r1.and j4).mono ?_)
    rintro k ⟨h1, h2⟩
    simp only [laws_FnRetries.j3, h1, Option.bind_some, pruneV, Bool.false_eq_true, if_false]
    by_cases hq : queueB p = true
    · rw [if_pos hq, if_pos hq, nextV_fine hq]
      simp only [if_true, bne_self_eq_false]
      exact h2
    · rw [if_neg hq, if_neg hq]
      simp only [Bool.false_eq_true, if_false]
      exact h2
  have j2 : Evt fun k => laws_FnRetries.j2 k l0 = some true := by
    refine Evt.succ ((g2.and (n1.and (n2.and j3))).mono ?_)
    rintro k ⟨h1, h2, h3, h4⟩
    simp only [laws_FnRetries.j2, h1, h2, h3, Option.bind_some, if_true, bne_self_eq_false]
    exact h4
  obtain ⟨pi, ps⟩ := PassMinute_ok l t (by omega)
  have j0 : Evt fun k => laws_FnRetries.j0 k l0 l t (passV l t).1 (passV l t).2.1 (passV l t).2.2 false = some true := by
    by_cases c : queueB l = true ∧ (0 ≤ t ∧ t ≤ 50000)
    · have e : passV l t = ((prun l t l.length).1, (prun l t l.length).2, true) := by unfold passV; rw [if_pos c]
      rw [e]
      have loop := retriesJ0 l0 l t c j2
      refine Evt.succ (loop.mono fun k hk => ?_)
      simp only [laws_FnRetries.j0, Bool.false_eq_true, if_false, if_true]
      exact hk
    · have e : passV l t = ([], [], false) := by unfold passV; rw [if_neg c]
      rw [e]
      refine Evt.succ (j2.mono fun k hk => ?_)
      simp only [laws_FnRetries.j0, Bool.false_eq_true, if_false]
      exact hk
  have hv := prun_len l t l.length
  have b1 : (passV l t).1.length ≤ 1048576 ∧ (passV l t).2.1.length ≤ 1048576 := by
    unfold passV
    split
    · exact ⟨by dsimp only; omega, by dsimp only; omega⟩
    · simp
  have i1 := rInts_self (passV l t).2.1 (by omega)
  have i2 := rQueues_self (passV l t).1 b1.1
  obtain ⟨K, hK⟩ := g1.and (pi.and (ps.and (i1.and (i2.and j0))))
  refine ⟨K, ?_⟩
  obtain ⟨h1, h2, h3, h4, h5, h6⟩ := hK K (Nat.le_refl _)
  simp only [laws_FnRetries.f, laws_rBig.f, Option.bind_some, decide_eq_false hbig, Bool.false_eq_true, if_false, h1, h2, h3, bne_self_eq_false, h4, if_true, h5, Bool.not_true]
  exact h6
end Go.Proofs.Ytkegkbpadhddkaa.Pure
