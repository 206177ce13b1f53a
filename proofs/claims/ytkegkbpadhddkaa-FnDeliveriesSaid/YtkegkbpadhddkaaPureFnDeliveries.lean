/-
  The pure statement of the law FnDeliveries: what its printed function answers is 'true' for all numbers and lists of its kinds. Conditions: the kinds' own bounds, as the statement lays them.
-/
import Derived.Test.YtkegkbpadhddkaaXFnDeliveriesx15
import Derived.DataShut
namespace Go.Proofs.Ytkegkbpadhddkaa.Pure
open Go.RowKit Go.Proofs.Ytkegkbpadhddkaa.XFnDeliveries Go.Proofs.YtkegkbpadhddkaaW.PrintWords Go.Proofs.YtkegkbpadhddkaaW.PrintLast Go.Proofs.YtkegkbpadhddkaaW.PrintMore
set_option linter.unusedVariables false
set_option linter.unusedSimpArgs false
theorem wrap_id {x : Int} (h0 : -9223372036854775808 ≤ x) (h1 : x ≤ 9223372036854775807) : wrap64 x = x := by unfold wrap64; omega
theorem getD_drop {α : Type} (xs : List α) (z : α) (i : Nat) (h : i < xs.length) : xs.drop i = xs.getD i z :: xs.drop (i + 1) := by
  rw [List.drop_eq_getElem_cons h, List.getD_eq_getElem?_getD, List.getElem?_eq_getElem h]; rfl
def Evt (P : Nat → Prop) : Prop := ∃ K, ∀ k, K ≤ k → P k
theorem Evt.all {P : Nat → Prop} (h : ∀ k, P k) : Evt P := ⟨0, fun k _ => h k⟩
theorem Evt.and {P Q : Nat → Prop} (h : Evt P) (g : Evt Q) : Evt fun k => P k ∧ Q k := by
  obtain ⟨K, h⟩ := h
  obtain ⟨M, g⟩ := g
  exact ⟨K + M, fun k hk => ⟨h k (by omega), g k (by omega)⟩⟩
theorem Evt.mono {P Q : Nat → Prop} (h : Evt P) (g : ∀ k, P k → Q k) : Evt Q := by
  obtain ⟨K, h⟩ := h
  exact ⟨K, fun k hk => g k (h k hk)⟩
theorem Evt.succ {Q : Nat → Prop} (h : Evt fun k => Q (k + 1)) : Evt Q := by
  obtain ⟨K, h⟩ := h
  refine ⟨K + 1, fun k hk => ?_⟩
  obtain ⟨m, rfl⟩ : ∃ m, k = m + 1 := ⟨k - 1, by omega⟩
  exact h m (by omega)
theorem Evt.add {Q : Nat → Prop} (c : Nat) (h : Evt fun k => Q (k + c)) : Evt Q := by
  obtain ⟨K, h⟩ := h
  refine ⟨K + c, fun k hk => ?_⟩
  obtain ⟨m, rfl⟩ : ∃ m, k = m + c := ⟨k - c, by omega⟩
  exact h m (by omega)
theorem Evt.shift {Q : Nat → Prop} (h : Evt Q) : Evt fun k => Q (k + 1) := by
  obtain ⟨K, h⟩ := h
  exact ⟨K, fun k hk => h _ (by omega)⟩
theorem Evt.pos : Evt fun k => ∃ m, k = m + 1 := ⟨1, fun k hk => ⟨k - 1, by omega⟩⟩
theorem evt_loop {σ ρ : Type} (n : Nat) (L : Nat → σ → Int → Option ρ) (v : ρ) (Inv : Nat → σ → Prop)
    (step : ∀ i s, i < n → Inv i s → (∃ s', Inv (i + 1) s' ∧ ∃ c, Evt fun k => L (k + c) s (i : Int) = L k s' ((i : Int) + 1)) ∨ Evt fun k => L k s (i : Int) = some v)
    (fin : ∀ s, Inv n s → Evt fun k => L k s (n : Int) = some v) :
    ∀ i s, i ≤ n → Inv i s → Evt fun k => L k s (i : Int) = some v := by
  have key : ∀ d i s, i + d = n → Inv i s → Evt fun k => L k s (i : Int) = some v := by
    intro d
    induction d with
    | zero =>
      intro i s hi h
      obtain rfl : i = n := by omega
      exact fin s h
    | succ d ih =>
      intro i s hi h
      rcases step i s (by omega) h with ⟨s', h', c, e⟩ | e
      · have h2 := ih (i + 1) s' (by omega) h'
        rw [show ((i + 1 : Nat) : Int) = (i : Int) + 1 from by omega] at h2
        exact Evt.add c ((e.and h2).mono fun k hk => hk.1.trans hk.2)
      · exact e
  intro i s hi h
  exact key (n - i) i s (by omega) h
theorem evt_loop0 {σ ρ : Type} (n : Nat) (L : Nat → σ → Int → Option ρ) (v : ρ) (Inv : Nat → σ → Prop)
    (step : ∀ i s, i < n → Inv i s → (∃ s', Inv (i + 1) s' ∧ ∃ c, Evt fun k => L (k + c) s (i : Int) = L k s' ((i : Int) + 1)) ∨ Evt fun k => L k s (i : Int) = some v)
    (fin : ∀ s, Inv n s → Evt fun k => L k s (n : Int) = some v) (s : σ) (h0 : Inv 0 s) : Evt fun k => L k s 0 = some v :=
  evt_loop n L v Inv step fin 0 s (Nat.zero_le _) h0
theorem getD_lt {α : Type} (xs : List α) (z : α) (i : Nat) (h : i < xs.length) : xs.getD i z = xs[i] := by
  rw [List.getD_eq_getElem?_getD, List.getElem?_eq_getElem h]; rfl
theorem getD_set_self {α : Type} (xs : List α) (z v : α) (i : Nat) (h : i < xs.length) : (xs.set i v).getD i z = v := by
  rw [List.getD_eq_getElem?_getD, List.getElem?_set_self h]; rfl
theorem getD_set_ne {α : Type} (xs : List α) (z v : α) (i j : Nat) (h : i ≠ j) : (xs.set i v).getD j z = xs.getD j z := by
  rw [List.getD_eq_getElem?_getD, List.getElem?_set_ne h, List.getD_eq_getElem?_getD]
theorem u64_range (x : Int) : 0 ≤ IntKind.u64.wrap x ∧ IntKind.u64.wrap x ≤ 18446744073709551615 := by
  simp [IntKind.wrap, IntKind.signed, IntKind.bits]; omega
theorem and255 (x : Int) : 0 ≤ wrap64 (Go.bits .and .u64 (IntKind.u64.wrap x / 1099511627776) 255) ∧ wrap64 (Go.bits .and .u64 (IntKind.u64.wrap x / 1099511627776) 255) ≤ 255 := by
  obtain ⟨h0, h1⟩ := u64_range x
  obtain ⟨y, hy⟩ : ∃ y, y = IntKind.u64.wrap x / 1099511627776 := ⟨_, rfl⟩
  rw [← hy]
  have h := bits_and_u64_nat y.toNat 255 (by omega) (by omega)
  have e : ((y.toNat : Nat) : Int) = y := by omega
  have h2 : bits BinOp.and IntKind.u64 y 255 = ((y.toNat &&& 255 : Nat) : Int) := by rw [← e]; exact h
  have h3 : y.toNat &&& 255 ≤ 255 := Nat.and_le_right
  rw [show Go.bits .and .u64 y 255 = bits BinOp.and IntKind.u64 y 255 from rfl, h2, wrap_id (by omega) (by omega)]
  omega
theorem next_ok (l : List Int) (hb : ∀ x ∈ l, 0 ≤ x ∧ x ≤ 255) (p s : Int) (h0 : 0 ≤ p) (h1 : p ≤ 4611686018427387904) : ∃ v s', spec_l1Cur_next.f l p s = some (v, p + 1, s') ∧ 0 ≤ v ∧ v ≤ 255 := by
  unfold spec_l1Cur_next.f
  have e : wrap64 (p + 1) = p + 1 := wrap_id (by omega) (by omega)
  by_cases c : p < (l.length : Int)
  · have hm : rd l p ∈ l := by
      have : rd l p = l.getD p.toNat 0 := by simp [rd]
      rw [this, List.getD_eq_getElem?_getD, List.getElem?_eq_getElem (by omega), Option.getD_some]
      exact List.getElem_mem _
    obtain ⟨b0, b1⟩ := hb _ hm
    rw [if_pos c, if_pos h0, e, if_pos (by omega)]
    exact ⟨_, _, rfl, by rw [wrap_id (by omega) (by omega)]; exact ⟨b0, b1⟩⟩
  · rw [if_neg c, e, if_neg (by omega)]
    exact ⟨_, _, rfl, and255 _⟩
theorem tmod_range (x a : Int) (h0 : 0 ≤ x) (ha : 1 ≤ a) : 0 ≤ Int.tmod x a ∧ Int.tmod x a < a := ⟨Int.tmod_nonneg a h0, Int.tmod_lt_of_pos x (by omega)⟩
theorem pick_ok (l : List Int) (hb : ∀ x ∈ l, 0 ≤ x ∧ x ≤ 255) (p s a : Int) (h0 : 0 ≤ p) (h1 : p ≤ 4611686018427387000) (ha : 1 ≤ a) :
    ∃ v p' s', spec_l1Cur_pick.f l p s a = some (v, p', s') ∧ p ≤ p' ∧ p' ≤ p + 2 ∧ 0 ≤ v ∧ v < a := by
  unfold spec_l1Cur_pick.f
  by_cases c : a ≤ 1
  · rw [if_pos c]; exact ⟨0, p, s, rfl, by omega, by omega, by omega, by omega⟩
  · obtain ⟨v, s1, e1, v0, v1⟩ := next_ok l hb p s h0 (by omega)
    rw [if_neg c, e1, Option.bind_some]
    by_cases c2 : a > 200
    · obtain ⟨u, s2, e2, u0, u1⟩ := next_ok l hb (p + 1) s1 (by omega) (by omega)
      rw [if_pos c2]; dsimp only; rw [e2, Option.bind_some, if_neg (by omega)]
      have q : 0 ≤ wrap64 (wrap64 (v * 256) + u) := by rw [wrap_id (x := v * 256) (by omega) (by omega), wrap_id (by omega) (by omega)]; omega
      exact ⟨_, _, _, rfl, by dsimp only; omega, by dsimp only; omega, tmod_range _ a q ha⟩
    · rw [if_neg c2, if_neg (by omega)]
      exact ⟨_, _, _, rfl, by dsimp only; omega, by dsimp only; omega, tmod_range _ a v0 ha⟩
theorem one_ok (l : List Int) (hb : ∀ x ∈ l, 0 ≤ x ∧ x ≤ 255) (p s a : Int) (h0 : 0 ≤ p) (h1 : p ≤ 4611686018427387000) (ha : 1 ≤ a) :
    ∃ b p' s', spec_l1Cur_one.f l p s a = some (b, p', s') ∧ p ≤ p' ∧ p' ≤ p + 2 := by
  obtain ⟨v, p', s', e, q0, q1, _, _⟩ := pick_ok l hb p s a h0 h1 ha
  unfold spec_l1Cur_one.f
  rw [e]; exact ⟨_, _, _, rfl, q0, q1⟩
theorem among_ok (l : List Int) (hb : ∀ x ∈ l, 0 ≤ x ∧ x ≤ 255) (p s : Int) (h0 : 0 ≤ p) (h1 : p ≤ 4611686018427387000) (xs : List Int) (hx : 1 ≤ xs.length) :
    ∃ v p' s', spec_l1Cur_among.f l p s xs = some (v, p', s') ∧ p ≤ p' ∧ p' ≤ p + 2 ∧ v ∈ xs := by
  obtain ⟨v, p', s', e, q0, q1, v0, v1⟩ := pick_ok l hb p s (xs.length : Int) h0 h1 (by omega)
  unfold spec_l1Cur_among.f
  rw [e, Option.bind_some, if_pos v0, if_pos v1]
  refine ⟨_, _, _, rfl, q0, q1, ?_⟩
  have : rd xs v = xs.getD v.toNat 0 := by simp [rd]
  dsimp only
  rw [this, List.getD_eq_getElem?_getD, List.getElem?_eq_getElem (by omega), Option.getD_some]
  exact List.getElem_mem _
theorem bytes_of (l : List Int) (h : ∀ x ∈ l, (Lit.int .u8 x).wf = true) : ∀ x ∈ l, 0 ≤ x ∧ x ≤ 255 := by
  intro x hx
  have := h x hx
  simpa [Lit.wf, IntKind.min, IntKind.max, IntKind.signed, IntKind.bits] using this
theorem tdiv11 (v : Int) (v0 : 0 ≤ v) (v1 : v < 24) : 0 ≤ Int.tdiv v 11 ∧ Int.tdiv v 11 ≤ 2 := by
  rw [Int.tdiv_eq_ediv_of_nonneg v0]; omega
theorem queue_l1 (l : List Int) (hb : ∀ x ∈ l, 0 ≤ x ∧ x ≤ 255) (x7 a b c d : Int) : ∀ (n : Nat) (xs : List S59) (at_ p s : Int), xs.length + n = 13 → (0 ≤ x7 ∧ x7 < (xs.length : Int)) → 0 ≤ p → p + 2 * n ≤ 4611686018427370000 →
    ∃ r : List S59 × Int × Int, (r.1.length ≤ 13 ∧ p ≤ r.2.1 ∧ r.2.1 ≤ p + 2 * n + 2) ∧ Evt fun k => spec_l1Cur_queue.l1 k xs at_ x7 l p s a b c d = some r := by
  intro n
  induction n with
  | zero =>
    intro xs at_ p s hx h7 h0 h1
    obtain ⟨v, p1, s1, e1, a1, b1, v0, v1⟩ := pick_ok l hb p s 2 h0 (by omega) (by omega)
    refine ⟨(xs.set (x7 : Int).toNat ⟨a, b, c, d⟩, p1, s1), ⟨by simp only [List.length_set]; omega, by dsimp only; omega, by dsimp only; omega⟩, Evt.succ (Evt.all fun k => ?_)⟩
    simp only [spec_l1Cur_queue.l1]
    rw [e1, Option.bind_some]; dsimp only
    rw [wrap_id (by omega) (by omega), if_neg (by omega), if_pos h7.1, if_pos h7.2]
  | succ n ih =>
    intro xs at_ p s hx h7 h0 h1
    obtain ⟨v, p1, s1, e1, a1, b1, v0, v1⟩ := pick_ok l hb p s 2 h0 (by omega) (by omega)
    by_cases g : (xs.length : Int) < 12 + v
    · obtain ⟨r, ⟨r1, r2, r3⟩, ev⟩ := ih (xs ++ [⟨wrap64 (at_ + 1), 1, 0, 0⟩]) (wrap64 (at_ + 1)) p1 s1 (by rw [List.length_append, List.length_singleton]; omega) (by rw [List.length_append, List.length_singleton]; omega) (by omega) (by omega)
      refine ⟨r, ⟨r1, by omega, by omega⟩, Evt.succ (ev.mono fun k hk => ?_)⟩
      simp only [spec_l1Cur_queue.l1]
      rw [e1, Option.bind_some]; dsimp only
      rw [wrap_id (x := 12 + v) (by omega) (by omega), if_pos g, if_pos (by omega)]
      exact hk
    · refine ⟨(xs.set (x7 : Int).toNat ⟨a, b, c, d⟩, p1, s1), ⟨by simp only [List.length_set]; omega, by dsimp only; omega, by dsimp only; omega⟩, Evt.succ (Evt.all fun k => ?_)⟩
      simp only [spec_l1Cur_queue.l1]
      rw [e1, Option.bind_some]; dsimp only
      rw [wrap_id (by omega) (by omega), if_neg g, if_pos h7.1, if_pos h7.2]
theorem queue_l0 (l : List Int) (hb : ∀ x ∈ l, 0 ≤ x ∧ x ≤ 255) : ∀ (n : Nat) (xs : List S59) (at_ p s : Int), xs.length + n ≤ 6 → 0 ≤ p → p + 10 * n ≤ 4611686018427360000 →
    ∃ r : List S59 × Int × Int, (r.1.length ≤ 13 ∧ p ≤ r.2.1 ∧ r.2.1 ≤ p + 10 * n + 40) ∧ Evt fun k => spec_l1Cur_queue.l0 k xs at_ (n : Int) l p s = some r := by
  intro n
  induction n with
  | zero =>
    intro xs at_ p s hx h0 h1
    by_cases he : (xs.length : Int) = 0
    · refine ⟨(xs, p, s), ⟨by dsimp only; omega, by dsimp only; omega, by dsimp only; omega⟩, Evt.succ (Evt.all fun k => ?_)⟩
      simp only [spec_l1Cur_queue.l0]
      rw [if_neg (by omega), if_pos he]
    · obtain ⟨v, p1, s1, e1, a1, b1, v0, v1⟩ := pick_ok l hb p s (xs.length : Int) h0 (by omega) (by omega)
      obtain ⟨q, p2, s2, e2, a2, b2, q0, q1⟩ := pick_ok l hb p1 s1 40 (by omega) (by omega) (by omega)
      obtain ⟨u1, p3, s3, e3, a3, b3, _⟩ := among_ok l hb p2 s2 (by omega) (by omega) [0, 999, 1000] (by decide)
      obtain ⟨u2, p4, s4, e4, a4, b4, _⟩ := among_ok l hb p2 s2 (by omega) (by omega) [0, 5, 4, 1] (by decide)
      obtain ⟨u3, p5, s5, e5, a5, b5, _⟩ := among_ok l hb p2 s2 (by omega) (by omega) [-1, 0, 5, 6] (by decide)
      obtain ⟨u4, p6, s6, e6, a6, b6, _⟩ := among_ok l hb p2 s2 (by omega) (by omega) [-1, 100000, 100001] (by decide)
      obtain ⟨r, ⟨r1, r2, r3⟩, ev⟩ := queue_l1 l hb v (rd_T59 xs v).f0 (rd_T59 xs v).f1 (rd_T59 xs v).f2 (rd_T59 xs v).f3 (13 - xs.length) xs at_ p2 s2 (by omega) ⟨v0, v1⟩ (by omega) (by omega)
      obtain ⟨d, hd⟩ : ∃ d, d = rd_T59 xs v := ⟨_, rfl⟩
      rw [← hd] at ev
      have base : ∀ k, spec_l1Cur_queue.l0 (k + 1) xs at_ ((0 : Nat) : Int) l p s = if q = 0 then some (xs.set (v : Int).toNat ⟨u1, d.f1, d.f2, d.f3⟩, p3, s3) else if q = 1 then some (xs.set (v : Int).toNat ⟨d.f0, u2, d.f2, d.f3⟩, p4, s4) else if q = 2 then some (xs.set (v : Int).toNat ⟨d.f0, d.f1, u3, d.f3⟩, p5, s5) else if q = 3 then some (xs.set (v : Int).toNat ⟨d.f0, d.f1, d.f2, u4⟩, p6, s6) else if q = 4 then spec_l1Cur_queue.l1 k xs at_ v l p2 s2 d.f0 d.f1 d.f2 d.f3 else some (xs.set (v : Int).toNat ⟨d.f0, d.f1, d.f2, d.f3⟩, p2, s2) := by
        intro k
        simp only [spec_l1Cur_queue.l0]
        rw [if_neg (by omega), if_neg he, e1, Option.bind_some]; dsimp only
        rw [if_pos v0, if_pos v1, e2, Option.bind_some]; dsimp only
        rw [e3, e4, e5, e6, ← hd]; rfl
      by_cases k0 : q = 0
      · refine ⟨(xs.set (v : Int).toNat ⟨u1, d.f1, d.f2, d.f3⟩, p3, s3), ⟨by simp only [List.length_set]; omega, by dsimp only; omega, by dsimp only; omega⟩, Evt.succ (Evt.all fun k => ?_)⟩
        rw [base, if_pos k0]
      by_cases k1 : q = 1
      · refine ⟨(xs.set (v : Int).toNat ⟨d.f0, u2, d.f2, d.f3⟩, p4, s4), ⟨by simp only [List.length_set]; omega, by dsimp only; omega, by dsimp only; omega⟩, Evt.succ (Evt.all fun k => ?_)⟩
        rw [base, if_neg k0, if_pos k1]
      by_cases k2 : q = 2
      · refine ⟨(xs.set (v : Int).toNat ⟨d.f0, d.f1, u3, d.f3⟩, p5, s5), ⟨by simp only [List.length_set]; omega, by dsimp only; omega, by dsimp only; omega⟩, Evt.succ (Evt.all fun k => ?_)⟩
        rw [base, if_neg k0, if_neg k1, if_pos k2]
      by_cases k3 : q = 3
      · refine ⟨(xs.set (v : Int).toNat ⟨d.f0, d.f1, d.f2, u4⟩, p6, s6), ⟨by simp only [List.length_set]; omega, by dsimp only; omega, by dsimp only; omega⟩, Evt.succ (Evt.all fun k => ?_)⟩
        rw [base, if_neg k0, if_neg k1, if_neg k2, if_pos k3]
      by_cases k4 : q = 4
      · refine ⟨r, ⟨r1, by omega, by omega⟩, Evt.succ (ev.mono fun k hk => ?_)⟩
        rw [base, if_neg k0, if_neg k1, if_neg k2, if_neg k3, if_pos k4]; exact hk
      · refine ⟨(xs.set (v : Int).toNat ⟨d.f0, d.f1, d.f2, d.f3⟩, p2, s2), ⟨by simp only [List.length_set]; omega, by dsimp only; omega, by dsimp only; omega⟩, Evt.succ (Evt.all fun k => ?_)⟩
        rw [base, if_neg k0, if_neg k1, if_neg k2, if_neg k3, if_neg k4]
  | succ n ih =>
    intro xs at_ p s hx h0 h1
    obtain ⟨g, p1, s1, e1, a1, b1, _, _⟩ := pick_ok l hb p s 3 h0 (by omega) (by omega)
    obtain ⟨st, p2, s2, e2, a2, b2, _⟩ := among_ok l hb p1 s1 (by omega) (by omega) [1, 1, 2, 2, 3, 4] (by decide)
    obtain ⟨w, p3, s3, e3, a3, b3, _, _⟩ := pick_ok l hb p2 s2 4 (by omega) (by omega) (by omega)
    obtain ⟨m, p4, s4, e4, a4, b4, _⟩ := among_ok l hb p3 s3 (by omega) (by omega) [0, 5, 10, 20, 20, 60] (by decide)
    obtain ⟨y, p5, s5, e5, a5, b5, _, _⟩ := pick_ok l hb p4 s4 5 (by omega) (by omega) (by omega)
    have hn : wrap64 (((n + 1 : Nat) : Int) - 1) = (n : Int) := by rw [wrap_id (by omega) (by omega)]; omega
    have hx2 : xs.length < 4398046511104 := by omega
    have go : ∀ (t : S59) (p' s' : Int), p ≤ p' → p' ≤ p + 10 → ∃ r : List S59 × Int × Int, (r.1.length ≤ 13 ∧ p ≤ r.2.1 ∧ r.2.1 ≤ p + 10 * (n + 1 : Nat) + 40) ∧ Evt fun k => spec_l1Cur_queue.l0 k (xs ++ [t]) (wrap64 ((wrap64 (at_ + 1)) + g)) (n : Int) l p' s' = some r := by
      intro t p' s' c1 c2
      obtain ⟨r, ⟨r1, r2, r3⟩, ev⟩ := ih (xs ++ [t]) (wrap64 ((wrap64 (at_ + 1)) + g)) p' s' (by rw [List.length_append, List.length_singleton]; omega) (by omega) (by omega)
      exact ⟨r, ⟨r1, by omega, by omega⟩, ev⟩
    have step : ∃ (t : S59) (p' s' : Int), p ≤ p' ∧ p' ≤ p + 10 ∧ ∀ k, spec_l1Cur_queue.l0 (k + 1) xs at_ ((n + 1 : Nat) : Int) l p s = spec_l1Cur_queue.l0 k (xs ++ [t]) (wrap64 ((wrap64 (at_ + 1)) + g)) (n : Int) l p' s' := by
      have base : ∀ k, spec_l1Cur_queue.l0 (k + 1) xs at_ ((n + 1 : Nat) : Int) l p s = if st = 1 then spec_l1Cur_queue.l0 k (xs ++ [(⟨wrap64 ((wrap64 (at_ + 1)) + g), st, y, m⟩ : S59)]) (wrap64 ((wrap64 (at_ + 1)) + g)) (n : Int) l p5 s5 else if st = 2 then spec_l1Cur_queue.l0 k (xs ++ [(⟨wrap64 ((wrap64 (at_ + 1)) + g), st, wrap64 (1 + y), m⟩ : S59)]) (wrap64 ((wrap64 (at_ + 1)) + g)) (n : Int) l p5 s5 else if st = 3 then spec_l1Cur_queue.l0 k (xs ++ [(⟨wrap64 ((wrap64 (at_ + 1)) + g), st, wrap64 (1 + w), 0⟩ : S59)]) (wrap64 ((wrap64 (at_ + 1)) + g)) (n : Int) l p4 s4 else spec_l1Cur_queue.l0 k (xs ++ [(⟨wrap64 ((wrap64 (at_ + 1)) + g), st, 5, 0⟩ : S59)]) (wrap64 ((wrap64 (at_ + 1)) + g)) (n : Int) l p4 s4 := by
        intro k
        simp only [spec_l1Cur_queue.l0]
        rw [if_pos (by omega), e1, Option.bind_some]; dsimp only
        rw [e2, Option.bind_some]; dsimp only
        rw [e3, Option.bind_some]; dsimp only
        rw [e4, Option.bind_some]; dsimp only
        simp only [e5, Option.bind_some, if_pos hx2, hn]
      by_cases c1 : st = 1
      · exact ⟨_, p5, s5, by omega, by omega, fun k => by rw [base, if_pos c1]⟩
      by_cases c2 : st = 2
      · exact ⟨_, p5, s5, by omega, by omega, fun k => by rw [base, if_neg c1, if_pos c2]⟩
      by_cases c3 : st = 3
      · exact ⟨_, p4, s4, by omega, by omega, fun k => by rw [base, if_neg c1, if_neg c2, if_pos c3]⟩
      · exact ⟨_, p4, s4, by omega, by omega, fun k => by rw [base, if_neg c1, if_neg c2, if_neg c3]⟩
    obtain ⟨t, p', s', q1, q2, ht⟩ := step
    obtain ⟨r, hr, ev⟩ := go t p' s' q1 q2
    exact ⟨r, hr, Evt.succ (ev.mono fun k hk => by rw [ht]; exact hk)⟩
theorem queue_draw (l : List Int) (hb : ∀ x ∈ l, 0 ≤ x ∧ x ≤ 255) (p s : Int) (h0 : 0 ≤ p) (h1 : p ≤ 4611686018427350000) :
    ∃ r : List S59 × Int × Int, (r.1.length ≤ 13 ∧ p ≤ r.2.1 ∧ r.2.1 ≤ p + 200) ∧ Evt fun k => spec_l1Cur_queue.f k l p s = some r := by
  obtain ⟨v, p2, s2, e2, a2, b2, v0, v1⟩ := pick_ok l hb p s 7 (by omega) (by omega) (by omega)
  obtain ⟨r, ⟨r1, r2, r3⟩, ev⟩ := queue_l0 l hb v.toNat [] 0 p2 s2 (by simp; omega) (by omega) (by omega)
  rw [show ((v.toNat : Nat) : Int) = v by omega] at ev
  refine ⟨r, ⟨r1, by omega, by omega⟩, ev.mono fun k hk => ?_⟩
  simp only [spec_l1Cur_queue.f, Option.bind_some, e2]
  exact hk
theorem minute19_draw (l : List Int) (hb : ∀ x ∈ l, 0 ≤ x ∧ x ≤ 255) (p s : Int) (h0 : 0 ≤ p) (h1 : p ≤ 4611686018427370000) :
    ∃ v p' s', spec_l1Cur_minute19.f l p s = some (v, p', s') ∧ p ≤ p' ∧ p' ≤ p + 4 ∧ -1 ≤ v ∧ v ≤ 50001 := by
  obtain ⟨v, p1, s1, e1, a1, b1, v0, v1⟩ := pick_ok l hb p s 24 h0 (by omega) (by omega)
  have t0 := tdiv11 v v0 v1
  obtain ⟨z, p2, s2, e2, a2, b2, m⟩ := among_ok l hb p1 s1 (by omega) (by omega) (([0, 5, 9, 10, 20, 60, 50000, -1, 50001] : List Int).take (7 + Int.tdiv v 11).toNat) (by rw [List.length_take]; simp only [List.length_cons, List.length_nil]; omega)
  have m' := List.mem_of_mem_take m
  refine ⟨z, p2, s2, ?_, by omega, by omega, ?_⟩
  · simp only [spec_l1Cur_minute19.f, Option.bind_some, e1]
    rw [wrap_id (x := Int.tdiv v 11) (by omega) (by omega), wrap_id (x := 7 + Int.tdiv v 11) (by omega) (by omega), if_pos (by omega), if_pos (by simp only [List.length_cons, List.length_nil]; omega), e2, Option.bind_some]
  · simp only [List.mem_cons, List.not_mem_nil, or_false] at m'
    omega
theorem rQueues_self (l : List S59) (hl : l.length ≤ 1048576) : Evt fun k => laws_rQueues.f k l l = some true := by
  refine Evt.mono (P := fun k => laws_rQueues.l0 k l l 0 = some true) ?_ (fun k hk => by unfold laws_rQueues.f; rw [if_pos rfl]; exact hk)
  refine evt_loop0 l.length (fun k (_ : Unit) i => laws_rQueues.l0 k l l i) true (fun _ _ => True) ?_ ?_ () trivial
  · rintro i s hi _
    refine .inl ⟨(), trivial, 1, Evt.all fun k => ?_⟩
    show laws_rQueues.l0 (k + 1) l l (i : Int) = _
    simp only [laws_rQueues.l0]
    rw [if_pos (by omega), if_pos (by omega), if_pos (by omega), wrap_id (by omega) (by omega)]; simp
  · rintro s _
    refine Evt.succ (Evt.all fun k => ?_)
    show laws_rQueues.l0 (k + 1) l l (l.length : Int) = _
    simp only [laws_rQueues.l0]
    rw [if_neg (by omega)]
theorem within_ok (a b c : Int) : impl_within.f a b c = some (decide (b ≤ a ∧ a ≤ c)) := by
  unfold impl_within.f
  split <;> simp <;> omega
theorem l1In_ok (a b c : Int) : spec_l1In.f a b c = some (decide (b ≤ a ∧ a ≤ c)) := by
  unfold spec_l1In.f
  split <;> simp <;> omega
abbrev delivP (a b c d : Int) : Prop := (1 ≤ a ∧ a ≤ 999) ∧ (0 ≤ d ∧ d ≤ 100000) ∧ ((b = 1 ∧ 0 ≤ c ∧ c ≤ 4) ∨ (b = 2 ∧ 1 ≤ c ∧ c ≤ 5) ∨ (b = 3 ∧ (1 ≤ c ∧ c ≤ 5) ∧ d = 0) ∨ (b = 4 ∧ c = 5 ∧ d = 0))
def delivB (s : S59) : Bool := decide (delivP s.f0 s.f1 s.f2 s.f3)
theorem isDelivery_ok (k : Nat) (a b c d : Int) : impl_isDelivery.f (k + 1) a b c d = some (decide (delivP a b c d)) := by
  unfold delivP
  simp only [impl_isDelivery.f, impl_isDelivery.j0, within_ok, Option.bind_some, impl_isOpen.f]
  by_cases h1 : 1 ≤ a ∧ a ≤ 999
  · by_cases h2 : 0 ≤ d ∧ d ≤ 100000
    · simp only [decide_eq_true h1, decide_eq_true h2, if_true]
      by_cases s1 : b = 1
      · simp only [if_pos s1, Option.bind_some, if_true]
        rw [if_neg (by simp)]
        exact congrArg some (decide_eq_decide.2 (by omega))
      · simp only [if_neg s1, Option.bind_some]
        by_cases s2 : b = 2
        · rw [if_pos (by simpa using s2), if_neg (by simp)]
          simp only [if_pos s2]
          exact congrArg some (decide_eq_decide.2 (by omega))
        · rw [if_neg (by simpa using s2)]
          by_cases hd : d = 0
          · rw [if_neg (by simpa using hd), if_neg s2]
            by_cases s3 : b = 3
            · rw [if_pos s3]; exact congrArg some (decide_eq_decide.2 (by omega))
            · rw [if_neg s3]
              by_cases s4 : b = 4
              · rw [if_pos s4]
                show some (decide (c = 5)) = _
                exact congrArg some (decide_eq_decide.2 (by omega))
              · rw [if_neg s4, decide_eq_false (by omega)]
          · rw [if_pos (by simpa using hd), decide_eq_false (by omega)]
    · simp only [decide_eq_true h1, decide_eq_false h2, if_true]
      rw [if_neg (by simp), decide_eq_false (by omega)]
  · simp only [decide_eq_false h1, if_true]
    rw [if_neg (by simp), decide_eq_false (by omega)]
theorem l19Delivery_ok (k : Nat) (a b c d : Int) : spec_l19Delivery.f (k + 1) a b c d = some (decide (delivP a b c d)) := by
  unfold delivP
  simp only [spec_l19Delivery.f, spec_l19Delivery.j0, l1In_ok, Option.bind_some]
  by_cases h1 : 1 ≤ a ∧ a ≤ 999
  · by_cases h2 : 0 ≤ d ∧ d ≤ 100000
    · simp only [decide_eq_true h1, decide_eq_true h2, if_true, Bool.not_true]
      rw [if_neg (by simp)]
      by_cases s1 : b = 1
      · rw [if_pos s1]; exact congrArg some (decide_eq_decide.2 (by omega))
      · rw [if_neg s1]
        by_cases s2 : b = 2
        · rw [if_pos s2]; exact congrArg some (decide_eq_decide.2 (by omega))
        · rw [if_neg s2]
          by_cases s3 : b = 3
          · rw [if_pos s3]
            by_cases hc : 1 ≤ c ∧ c ≤ 5
            · rw [if_pos (decide_eq_true hc)]
              show some (decide (d = 0)) = _
              exact congrArg some (decide_eq_decide.2 (by omega))
            · rw [if_neg (by simpa using hc), decide_eq_false (by omega)]
          · rw [if_neg s3]
            by_cases s4 : b = 4
            · rw [if_pos s4]
              by_cases hc : c = 5
              · rw [if_pos hc]
                show some (decide (d = 0)) = _
                exact congrArg some (decide_eq_decide.2 (by omega))
              · rw [if_neg hc, decide_eq_false (by omega)]
            · rw [if_neg s4, decide_eq_false (by omega)]
    · simp only [decide_eq_true h1, decide_eq_false h2, if_true, Bool.not_false]
      rw [decide_eq_false (by omega)]
  · simp only [decide_eq_false h1, if_true]
    rw [if_neg (by simp), decide_eq_false (by omega)]
def atQ (l : List S59) (i : Nat) : Bool := delivB (l.getD i z59) && (decide (i = 0) || decide ((l.getD (i - 1) z59).f0 < (l.getD i z59).f0))
def queueB (l : List S59) : Bool := decide (∀ i, i < l.length → atQ l i = true) && decide (l.length ≤ 12)
theorem queueB_at {l : List S59} (h : queueB l = true) : ∀ i, i < l.length → atQ l i = true := by
  unfold queueB at h
  simp only [Bool.and_eq_true, decide_eq_true_eq] at h
  exact h.1
theorem queueB_len {l : List S59} (h : queueB l = true) : l.length ≤ 12 := by
  unfold queueB at h
  simp only [Bool.and_eq_true, decide_eq_true_eq] at h
  exact h.2
theorem queueB_deliv {l : List S59} (h : queueB l = true) (i : Nat) (hi : i < l.length) : delivP (l.getD i z59).f0 (l.getD i z59).f1 (l.getD i z59).f2 (l.getD i z59).f3 := by
  have := queueB_at h i hi
  unfold atQ delivB at this
  simp only [Bool.and_eq_true, decide_eq_true_eq] at this
  exact this.1
theorem rd_del (l : List S59) (i : Nat) : rd_T59 l (i : Int) = l.getD i z59 := by unfold rd_T59; rw [Int.toNat_natCast]
theorem rd_del_pred (l : List S59) (i : Nat) : rd_T59 l ((i : Int) - 1) = l.getD (i - 1) z59 := by unfold rd_T59; congr 1; omega
theorem validQueue_step (l : List S59) (hl : l.length ≤ 4503599627370496) (k i : Nat) (hi : i < l.length) :
    impl_IsValidQueue.l0 (k + 1 + 1) l l (l.length : Int) (i : Int) = if atQ l i = true then impl_IsValidQueue.l0 (k + 1) l l (l.length : Int) ((i : Int) + 1) else some false := by
  obtain ⟨s, hs⟩ : ∃ s, l.getD i z59 = s := ⟨_, rfl⟩
  obtain ⟨p, hp⟩ : ∃ p, l.getD (i - 1) z59 = p := ⟨_, rfl⟩
  have w1 : wrap64 ((i : Int) + 1) = (i : Int) + 1 := wrap_id (by omega) (by omega)
  have w2 : wrap64 ((i : Int) - 1) = (i : Int) - 1 := wrap_id (by omega) (by omega)
  rw [impl_IsValidQueue.l0]
  rw [if_pos (by omega), if_pos (by omega), if_pos (by omega)]
  simp only [isDelivery_ok, Option.bind_some, rd_del, w1, w2, rd_del_pred, atQ, delivB, hs, hp]
  by_cases h1 : delivP s.f0 s.f1 s.f2 s.f3
  · simp only [decide_eq_true h1, if_true, Bool.true_and]
    by_cases h3 : i = 0
    · rw [if_neg (by omega), if_pos (by simp [h3])]
    · rw [if_pos (by omega), if_pos (by omega), if_pos (by omega)]
      by_cases h4 : p.f0 < s.f0
      · rw [if_neg (by omega), if_pos (by simp [h4])]
      · rw [if_pos (by omega), if_neg (by simp [h3, h4])]
  · simp only [decide_eq_false h1, Bool.false_and]
    rw [if_neg (by simp), if_neg (by simp)]
theorem IsValidQueue_ev (l : List S59) (hl : l.length ≤ 4503599627370496) : Evt fun k => impl_IsValidQueue.f k l = some (queueB l) := by
  unfold impl_IsValidQueue.f
  refine Evt.succ ?_
  refine evt_loop0 l.length (fun k (_ : Unit) i => impl_IsValidQueue.l0 (k + 1) l l (l.length : Int) i) (queueB l) (fun i _ => ∀ j, j < i → atQ l j = true) ?_ ?_ () (fun j hj => by omega)
  · intro i s hi h
    by_cases hb : atQ l i = true
    · refine .inl ⟨(), fun j hj => ?_, 1, Evt.all fun k => ?_⟩
      · by_cases e : j = i
        · subst e; exact hb
        · exact h j (by omega)
      · show impl_IsValidQueue.l0 (k + 1 + 1) l l (l.length : Int) (i : Int) = _
        rw [validQueue_step l hl k i hi, if_pos hb]
    · refine .inr (Evt.succ (Evt.all fun k => ?_))
      show impl_IsValidQueue.l0 (k + 1 + 1) l l (l.length : Int) (i : Int) = _
      rw [validQueue_step l hl k i hi, if_neg hb]
      unfold queueB
      rw [decide_eq_false (fun hA => hb (hA i hi)), Bool.false_and]
  · intro s h
    refine Evt.all fun k => ?_
    show impl_IsValidQueue.l0 (k + 1) l l (l.length : Int) (l.length : Int) = _
    simp only [impl_IsValidQueue.l0]
    rw [if_neg (by omega)]
    unfold queueB
    rw [decide_eq_true h, Bool.true_and]
    exact congrArg some (decide_eq_decide.2 (by omega))
theorem l19Good_step (l : List S59) (hl : l.length ≤ 4503599627370496) (k i : Nat) (hi : i < l.length) :
    spec_l19Good.l0 (k + 1 + 1) l (i : Int) = if atQ l i = true then spec_l19Good.l0 (k + 1) l ((i : Int) + 1) else some false := by
  obtain ⟨s, hs⟩ : ∃ s, l.getD i z59 = s := ⟨_, rfl⟩
  obtain ⟨p, hp⟩ : ∃ p, l.getD (i - 1) z59 = p := ⟨_, rfl⟩
  have w1 : wrap64 ((i : Int) + 1) = (i : Int) + 1 := wrap_id (by omega) (by omega)
  have w2 : wrap64 ((i : Int) - 1) = (i : Int) - 1 := wrap_id (by omega) (by omega)
  rw [spec_l19Good.l0]
  rw [if_pos (by omega), if_pos (by omega)]
  simp only [l19Delivery_ok, Option.bind_some, rd_del, w1, w2, rd_del_pred, atQ, delivB, hs, hp]
  by_cases h1 : delivP s.f0 s.f1 s.f2 s.f3
  · simp only [decide_eq_true h1, if_true, Bool.true_and]
    by_cases h3 : i = 0
    · rw [if_neg (by omega), if_pos (by simp [h3])]
    · rw [if_pos (by omega), if_pos (by omega), if_pos (by omega)]
      by_cases h4 : p.f0 < s.f0
      · rw [if_neg (by omega), if_pos (by simp [h4])]
      · rw [if_pos (by omega), if_neg (by simp [h3, h4])]
  · simp only [decide_eq_false h1, Bool.false_and]
    rw [if_neg (by simp), if_neg (by simp)]
theorem l19Good_ev (l : List S59) (hl : l.length ≤ 4503599627370496) : Evt fun k => spec_l19Good.f k l = some (queueB l) := by
  unfold spec_l19Good.f
  refine Evt.succ ?_
  refine evt_loop0 l.length (fun k (_ : Unit) i => spec_l19Good.l0 (k + 1) l i) (queueB l) (fun i _ => ∀ j, j < i → atQ l j = true) ?_ ?_ () (fun j hj => by omega)
  · intro i s hi h
    by_cases hb : atQ l i = true
    · refine .inl ⟨(), fun j hj => ?_, 1, Evt.all fun k => ?_⟩
      · by_cases e : j = i
        · subst e; exact hb
        · exact h j (by omega)
      · show spec_l19Good.l0 (k + 1 + 1) l (i : Int) = _
        rw [l19Good_step l hl k i hi, if_pos hb]
    · refine .inr (Evt.succ (Evt.all fun k => ?_))
      show spec_l19Good.l0 (k + 1 + 1) l (i : Int) = _
      rw [l19Good_step l hl k i hi, if_neg hb]
      unfold queueB
      rw [decide_eq_false (fun hA => hb (hA i hi)), Bool.false_and]
  · intro s h
    refine Evt.all fun k => ?_
    show spec_l19Good.l0 (k + 1) l (l.length : Int) = _
    simp only [spec_l19Good.l0]
    rw [if_neg (by omega)]
    unfold queueB
    rw [decide_eq_true h, Bool.true_and]
    exact congrArg some (decide_eq_decide.2 (by omega))
def bestI (l : List S59) (t : Int) : Nat → Int
  | 0 => -1
  | n + 1 => if (l.getD n z59).f1 = 1 ∧ (l.getD n z59).f3 ≤ t ∧ (bestI l t n < 0 ∨ (l.getD n z59).f3 < (l.getD (bestI l t n).toNat z59).f3) then (n : Int) else bestI l t n
theorem bestI_le (l : List S59) (t : Int) : ∀ n : Nat, -1 ≤ bestI l t n ∧ bestI l t n < (n : Int)
  | 0 => by simp [bestI]
  | n + 1 => by have := bestI_le l t n; unfold bestI; split <;> omega
def sendV (l : List S59) (t : Int) : List S59 × Int × Bool :=
  if bestI l t l.length < 0 then ([], 0, false) else (l.set (bestI l t l.length).toNat ⟨(l.getD (bestI l t l.length).toNat z59).f0, 2, (l.getD (bestI l t l.length).toNat z59).f2 + 1, t + 10⟩, (l.getD (bestI l t l.length).toNat z59).f0, true)
theorem cloneD (l : List S59) (hl : l.length ≤ 1000000000) : slices_Clone_Delivery.f l = some l := by
  unfold slices_Clone_Delivery.f
  rw [Option.bind_some, if_pos (by simp; omega), List.nil_append]
theorem ownD (l : List S59) (hl : l.length ≤ 1000000000) : spec_l19Own.f l = some l := by
  unfold spec_l19Own.f
  rw [Option.bind_some, if_pos (by simp; omega), List.nil_append]
theorem sendImpl_loop (l : List S59) (t : Int) (hv : queueB l = true) (ht : 0 ≤ t ∧ t ≤ 50000) : Evt fun k => impl_SendNext.l0 k l t (-1) l (l.length : Int) 0 = some (sendV l t) := by
  have hlen := queueB_len hv
  refine evt_loop0 l.length (fun k s i => impl_SendNext.l0 k l t s l (l.length : Int) i) (sendV l t) (fun i s => s = bestI l t i) ?_ ?_ (-1) rfl
  · rintro i s hi rfl
    have hb := bestI_le l t i
    refine .inl ⟨_, rfl, 1, Evt.all fun k => ?_⟩
    show impl_SendNext.l0 (k + 1) l t (bestI l t i) l (l.length : Int) (i : Int) = _
    have er : rd_T59 l (bestI l t i) = l.getD (bestI l t i).toNat z59 := rfl
    simp only [impl_SendNext.l0, rd_del, er, bestI]
    rw [if_pos (by omega), if_pos (by omega), if_pos (by omega), wrap_id (by omega) (by omega)]
    by_cases h1 : (l.getD i z59).f1 = 1
    · by_cases h2 : (l.getD i z59).f3 ≤ t
      · by_cases h3 : bestI l t i < 0
        · rw [if_pos h1, if_pos h2, if_pos h3, if_pos ⟨h1, h2, .inl h3⟩]
        · by_cases h4 : (l.getD i z59).f3 < (l.getD (bestI l t i).toNat z59).f3
          · rw [if_pos h1, if_pos h2, if_neg h3, if_pos (by omega), if_pos (by omega), if_pos h4, if_pos ⟨h1, h2, .inr h4⟩]
          · rw [if_pos h1, if_pos h2, if_neg h3, if_pos (by omega), if_pos (by omega), if_neg h4, if_neg (fun h => h.2.2.elim h3 h4)]
      · rw [if_pos h1, if_neg h2, if_neg (fun h => h2 h.2.1)]
    · rw [if_neg h1, if_neg (fun h => h1 h.1)]
  · rintro s rfl
    have hb := bestI_le l t l.length
    refine Evt.succ (Evt.all fun k => ?_)
    show impl_SendNext.l0 (k + 1) l t (bestI l t l.length) l (l.length : Int) (l.length : Int) = _
    simp only [impl_SendNext.l0, cloneD l (by omega), Option.bind_some]
    rw [if_neg (by omega)]
    unfold sendV
    by_cases h : bestI l t l.length < 0
    · rw [if_pos h, if_pos h]
    · have hd := queueB_deliv hv (bestI l t l.length).toNat (by omega)
      unfold delivP at hd
      have er : rd_T59 l (bestI l t l.length) = l.getD (bestI l t l.length).toNat z59 := rfl
      rw [if_neg h, if_neg h, if_pos (by omega), if_pos (by omega), if_pos (by omega), er, wrap_id (x := _ + 1) (by omega) (by omega), wrap_id (x := t + 10) (by omega) (by omega)]
theorem sendSpec_loop (l : List S59) (t : Int) (hv : queueB l = true) (ht : 0 ≤ t ∧ t ≤ 50000) : Evt fun k => spec_SendNext.l0 k l t (-1) 0 = some (sendV l t) := by
  have hlen := queueB_len hv
  refine evt_loop0 l.length (fun k s i => spec_SendNext.l0 k l t s i) (sendV l t) (fun i s => s = bestI l t i) ?_ ?_ (-1) rfl
  · rintro i s hi rfl
    have hb := bestI_le l t i
    refine .inl ⟨_, rfl, 1, Evt.all fun k => ?_⟩
    show spec_SendNext.l0 (k + 1) l t (bestI l t i) (i : Int) = _
    have er : rd_T59 l (bestI l t i) = l.getD (bestI l t i).toNat z59 := rfl
    simp only [spec_SendNext.l0, rd_del, er, bestI]
    rw [if_pos (by omega), if_pos (by omega), wrap_id (by omega) (by omega)]
    by_cases h1 : (l.getD i z59).f1 = 1
    · by_cases h2 : (l.getD i z59).f3 ≤ t
      · by_cases h3 : bestI l t i < 0
        · rw [if_pos h1, if_pos h2, if_pos h3, if_pos ⟨h1, h2, .inl h3⟩]
        · by_cases h4 : (l.getD i z59).f3 < (l.getD (bestI l t i).toNat z59).f3
          · rw [if_pos h1, if_pos h2, if_neg h3, if_pos (by omega), if_pos (by omega), if_pos h4, if_pos ⟨h1, h2, .inr h4⟩]
          · rw [if_pos h1, if_pos h2, if_neg h3, if_pos (by omega), if_pos (by omega), if_neg h4, if_neg (fun h => h.2.2.elim h3 h4)]
      · rw [if_pos h1, if_neg h2, if_neg (fun h => h2 h.2.1)]
    · rw [if_neg h1, if_neg (fun h => h1 h.1)]
  · rintro s rfl
    have hb := bestI_le l t l.length
    refine Evt.succ (Evt.all fun k => ?_)
    show spec_SendNext.l0 (k + 1) l t (bestI l t l.length) (l.length : Int) = _
    simp only [spec_SendNext.l0, ownD l (by omega), Option.bind_some]
    rw [if_neg (by omega)]
    unfold sendV
    by_cases h : bestI l t l.length < 0
    · rw [if_pos h, if_pos h]
    · have hd := queueB_deliv hv (bestI l t l.length).toNat (by omega)
      unfold delivP at hd
      have er : rd_T59 l (bestI l t l.length) = l.getD (bestI l t l.length).toNat z59 := rfl
      rw [if_neg h, if_neg h, if_pos (by omega), if_pos (by omega), if_pos (by omega), er, wrap_id (x := _ + 1) (by omega) (by omega), wrap_id (x := t + 10) (by omega) (by omega)]
theorem isMinute_ok (t : Int) : impl_isMinute.f t = some (decide (0 ≤ t ∧ t ≤ 50000)) := by simp only [impl_isMinute.f, within_ok, Option.bind_some]
theorem l19Minute_ok (t : Int) : spec_l19Minute.f t = some (decide (0 ≤ t ∧ t ≤ 50000)) := by simp only [spec_l19Minute.f, l1In_ok, Option.bind_some]
theorem queue_mono {l : List S59} (h : queueB l = true) (i : Nat) : ∀ d, i + (d + 1) < l.length → (l.getD i z59).f0 < (l.getD (i + (d + 1)) z59).f0 := by
  have st : ∀ j, j + 1 < l.length → (l.getD j z59).f0 < (l.getD (j + 1) z59).f0 := by
    intro j hj
    have := queueB_at h (j + 1) hj
    unfold atQ at this
    simp only [Bool.and_eq_true, Bool.or_eq_true, decide_eq_true_eq] at this
    rcases this.2 with e | e
    · omega
    · rw [Nat.add_sub_cancel] at e; exact e
  intro d
  induction d with
  | zero => intro hd; exact st i hd
  | succ d ih =>
    intro hd
    have a := ih (by omega)
    have b := st (i + (d + 1)) (by omega)
    rw [show i + (d + 1) + 1 = i + (d + 1 + 1) from by omega] at b
    omega
theorem queue_one {l : List S59} (h : queueB l = true) {i j : Nat} (hi : i < l.length) (hj : j < l.length) (e : (l.getD i z59).f0 = (l.getD j z59).f0) : i = j := by
  rcases Nat.lt_trichotomy i j with c | c | c
  · have := queue_mono h i (j - i - 1) (by omega)
    rw [show i + (j - i - 1 + 1) = j from by omega] at this
    omega
  · exact c
  · have := queue_mono h j (i - j - 1) (by omega)
    rw [show j + (i - j - 1 + 1) = i from by omega] at this
    omega
theorem deliveryAt_ev (l : List S59) (id : Int) (hl : l.length ≤ 1048576) (n : Nat) (hn : n ≤ l.length) (hb : ∀ i, i < n → (l.getD i z59).f0 ≠ id) (v : Int)
    (he : (n < l.length ∧ (l.getD n z59).f0 = id ∧ v = n) ∨ (n = l.length ∧ v = -1)) : Evt fun k => impl_deliveryAt.f k l id = some v := by
  have lp : Evt fun k => slices_IndexFunc_Delivery.f k l id = some v := by
    unfold slices_IndexFunc_Delivery.f
    refine evt_loop0 n (fun k (_ : Unit) i => slices_IndexFunc_Delivery.l0 k l id (l.length : Int) i) v (fun _ _ => True) ?_ ?_ () trivial
    · rintro i s hi _
      have ne := hb i hi
      refine .inl ⟨(), trivial, 1, Evt.all fun k => ?_⟩
      show slices_IndexFunc_Delivery.l0 (k + 1) l id (l.length : Int) (i : Int) = _
      simp only [slices_IndexFunc_Delivery.l0, rd_del, impl_deliveryAt_1.f, Option.bind_some, beq_eq_false_iff_ne.2 ne]
      rw [if_pos (by omega), if_pos (by omega), if_pos (by omega), if_neg (by simp), wrap_id (by omega) (by omega)]
    · rintro s _
      refine Evt.succ (Evt.all fun k => ?_)
      show slices_IndexFunc_Delivery.l0 (k + 1) l id (l.length : Int) (n : Int) = _
      rcases he with ⟨h1, h2, h3⟩ | ⟨h1, h2⟩
      · simp only [slices_IndexFunc_Delivery.l0, rd_del, impl_deliveryAt_1.f, Option.bind_some, h2, beq_self_eq_true]
        rw [if_pos (by omega), if_pos (by omega), if_pos (by omega), if_pos trivial, h3]
      · simp only [slices_IndexFunc_Delivery.l0]
        rw [if_neg (by omega), h2]
  exact lp.mono fun k hk => by simp only [impl_deliveryAt.f, hk, Option.bind_some]
theorem takeSpec_loop (l : List S59) (id : Int) (hl : l.length ≤ 1048576) (v : List S59 × Bool)
    (hv : ∀ i, i < l.length → (l.getD i z59).f0 = id → ((l.getD i z59).f1 = 2 ∨ (l.getD i z59).f1 = 3) → v = (l.set i ⟨id, 3, (l.getD i z59).f2, 0⟩, true))
    (hn : (∀ i, i < l.length → (l.getD i z59).f0 = id → ¬ ((l.getD i z59).f1 = 2 ∨ (l.getD i z59).f1 = 3)) → v = ([], false)) : Evt fun k => spec_TakeReceipt.l0 k id l 0 = some v := by
  refine evt_loop0 l.length (fun k (_ : Unit) i => spec_TakeReceipt.l0 k id l i) v (fun i _ => ∀ j, j < i → (l.getD j z59).f0 = id → ¬ ((l.getD j z59).f1 = 2 ∨ (l.getD j z59).f1 = 3)) ?_ ?_ () (fun j hj => by omega)
  · rintro i s hi h
    by_cases c1 : (l.getD i z59).f0 = id
    · by_cases c2 : (l.getD i z59).f1 = 2 ∨ (l.getD i z59).f1 = 3
      · refine .inr (Evt.succ (Evt.all fun k => ?_))
        show spec_TakeReceipt.l0 (k + 1) id l (i : Int) = _
        simp only [spec_TakeReceipt.l0, rd_del, Int.toNat_natCast]
        rw [if_pos (by omega), if_pos (by omega), if_pos c1, hv i hi c1 c2]
        rcases c2 with c2 | c2
        · rw [if_pos c2]
        · rw [if_neg (by omega), if_pos c2]
      · refine .inl ⟨(), fun j hj => ?_, 1, Evt.all fun k => ?_⟩
        · by_cases e : j = i
          · subst e; exact fun _ => c2
          · exact h j (by omega)
        · show spec_TakeReceipt.l0 (k + 1) id l (i : Int) = _
          simp only [spec_TakeReceipt.l0, rd_del]
          rw [if_pos (by omega), if_pos (by omega), if_pos c1, if_neg (fun q => c2 (.inl q)), if_neg (fun q => c2 (.inr q)), wrap_id (by omega) (by omega)]
    · refine .inl ⟨(), fun j hj => ?_, 1, Evt.all fun k => ?_⟩
      · by_cases e : j = i
        · subst e; exact fun q => absurd q c1
        · exact h j (by omega)
      · show spec_TakeReceipt.l0 (k + 1) id l (i : Int) = _
        simp only [spec_TakeReceipt.l0, rd_del]
        rw [if_pos (by omega), if_pos (by omega), if_neg c1, wrap_id (by omega) (by omega)]
  · rintro s h
    refine Evt.succ (Evt.all fun k => ?_)
    show spec_TakeReceipt.l0 (k + 1) id l (l.length : Int) = _
    simp only [spec_TakeReceipt.l0]
    rw [if_neg (by omega), hn h]
theorem first_or (l : List S59) (id : Int) : ∀ m, m ≤ l.length → (∃ n, n < m ∧ (l.getD n z59).f0 = id ∧ ∀ i, i < n → (l.getD i z59).f0 ≠ id) ∨ ∀ i, i < m → (l.getD i z59).f0 ≠ id
  | 0, _ => .inr (fun i hi => by omega)
  | m + 1, hm => by
    rcases first_or l id m (by omega) with ⟨n, h1, h2, h3⟩ | h
    · exact .inl ⟨n, by omega, h2, h3⟩
    · by_cases c : (l.getD m z59).f0 = id
      · exact .inl ⟨m, by omega, c, h⟩
      · refine .inr (fun i hi => ?_)
        by_cases e : i = m
        · subst e; exact c
        · exact h i (by omega)
theorem pairTake_all (l : List S59) (id : Int) (hl : l.length ≤ 1048576) : ∃ v, (Evt fun k => impl_TakeReceipt.f k l id = some v) ∧ (Evt fun k => spec_TakeReceipt.f k l id = some v) ∧ v.1.length ≤ 1048576 := by
  have c1 := IsValidQueue_ev l (by omega)
  have c2 := l19Good_ev l (by omega)
  cases hc : queueB l with
  | false =>
    rw [hc] at c1 c2
    refine ⟨([], false), c1.mono fun k hk => ?_, c2.mono fun k hk => ?_, by simp⟩
    · simp [impl_TakeReceipt.f, hk]
    · simp [spec_TakeReceipt.f, hk]
  | true =>
    rw [hc] at c1 c2
    rcases first_or l id l.length (Nat.le_refl _) with ⟨n, h1, h2, h3⟩ | h
    · have at_ := deliveryAt_ev l id hl n (by omega) h3 (n : Int) (.inl ⟨h1, h2, rfl⟩)
      by_cases q : (l.getD n z59).f1 = 2 ∨ (l.getD n z59).f1 = 3
      · have sp := takeSpec_loop l id hl (l.set n ⟨id, 3, (l.getD n z59).f2, 0⟩, true)
          (fun i hi e _ => by rw [queue_one hc hi h1 (e.trans h2.symm)]) (fun hn => absurd q (hn n h1 h2))
        refine ⟨(l.set n ⟨id, 3, (l.getD n z59).f2, 0⟩, true), (c1.and at_).mono fun k hk => ?_, (c2.and sp).mono fun k hk => ?_, by simp only [List.length_set]; exact hl⟩
        · have e0 : ∀ u : S59, (l.set n u).getD n z59 = u := fun u => getD_set_self _ _ _ _ h1
          simp only [impl_TakeReceipt.f, hk.1, hk.2, Option.bind_some, if_true, rd_del, cloneD l (by omega), Int.toNat_natCast, e0, List.set_set]
          rw [if_neg (by omega), if_pos (by omega), if_pos (by omega)]
          rcases q with q | q
          · rw [if_pos q, if_pos (by omega), h2]
          · rw [if_neg (by omega), if_pos q, if_pos (by omega), h2]
        · simp only [spec_TakeReceipt.f, hk.1, hk.2, Option.bind_some, if_true, ownD l (by omega)]
      · have sp := takeSpec_loop l id hl ([], false) (fun i hi e c => absurd (queue_one hc hi h1 (e.trans h2.symm) ▸ c) q) (fun _ => rfl)
        refine ⟨([], false), (c1.and at_).mono fun k hk => ?_, (c2.and sp).mono fun k hk => ?_, by simp⟩
        · simp only [impl_TakeReceipt.f, hk.1, hk.2, Option.bind_some, if_true, rd_del]
          rw [if_neg (by omega), if_pos (by omega), if_pos (by omega), if_neg (fun c => q (.inl c)), if_neg (fun c => q (.inr c))]
        · simp only [spec_TakeReceipt.f, hk.1, hk.2, Option.bind_some, if_true, ownD l (by omega)]
    · have at_ := deliveryAt_ev l id hl l.length (Nat.le_refl _) h (-1) (.inr ⟨rfl, rfl⟩)
      have sp := takeSpec_loop l id hl ([], false) (fun i hi e _ => absurd e (h i hi)) (fun _ => rfl)
      refine ⟨([], false), (c1.and at_).mono fun k hk => ?_, (c2.and sp).mono fun k hk => ?_, by simp⟩
      · simp [impl_TakeReceipt.f, hk.1, hk.2]
      · simp only [spec_TakeReceipt.f, hk.1, hk.2, Option.bind_some, if_true, ownD l (by omega)]
def stepN (acc : List Int) (d : S59) : List Int := acc.set (d.f1 - 1).toNat (acc.getD (d.f1 - 1).toNat 0 + 1)
def countsN (l : List S59) : List Int := l.foldl stepN [0, 0, 0, 0]
theorem stepN_inv {acc : List Int} {i : Nat} (d : S59) (h : acc.length = 4 ∧ ∀ j, 0 ≤ acc.getD j 0 ∧ acc.getD j 0 ≤ (i : Int)) : (stepN acc d).length = 4 ∧ ∀ j, 0 ≤ (stepN acc d).getD j 0 ∧ (stepN acc d).getD j 0 ≤ ((i + 1 : Nat) : Int) := by
  refine ⟨by simp [stepN, h.1], fun j => ?_⟩
  unfold stepN
  by_cases hj : (d.f1 - 1).toNat = j ∧ j < acc.length
  · have := h.2 j
    rw [hj.1, getD_set_self _ _ _ _ hj.2]; omega
  · have := h.2 j
    by_cases e : (d.f1 - 1).toNat = j
    · rw [List.set_eq_of_length_le (by omega)]; omega
    · rw [getD_set_ne _ _ _ _ _ e]; omega
theorem countImpl_loop (l : List S59) (hv : queueB l = true) : Evt fun k => impl_CountStates.l0 k (List.replicate 4 0) l (l.length : Int) 0 = some (countsN l, true) := by
  have hlen := queueB_len hv
  refine evt_loop0 l.length (fun k s i => impl_CountStates.l0 k s l (l.length : Int) i) (countsN l, true) (fun i s => (s.length = 4 ∧ ∀ j, 0 ≤ s.getD j 0 ∧ s.getD j 0 ≤ (i : Int)) ∧ (l.drop i).foldl stepN s = countsN l) ?_ ?_ _ ⟨⟨by simp, fun j => by rcases j with _ | _ | _ | _ | j <;> simp [List.replicate]⟩, rfl⟩
  · rintro i s hi ⟨h1, h2⟩
    have hd := queueB_deliv hv i hi
    unfold delivP at hd
    rw [getD_drop l z59 i hi, List.foldl_cons] at h2
    refine .inl ⟨_, ⟨stepN_inv _ h1, h2⟩, 1, Evt.all fun k => ?_⟩
    have hb := h1.2 ((l.getD i z59).f1 - 1).toNat
    have h4 := h1.1
    show impl_CountStates.l0 (k + 1) s l (l.length : Int) (i : Int) = _
    have w2 : wrap64 ((l.getD i z59).f1 - 1) = (l.getD i z59).f1 - 1 := wrap_id (by omega) (by omega)
    simp only [impl_CountStates.l0, rd_del, w2, rd]
    rw [if_pos (by omega), if_pos (by omega), if_pos (by omega), if_pos (by omega), if_pos (by omega), wrap_id (x := (i : Int) + 1) (by omega) (by omega), wrap_id (by omega) (by omega)]
    rfl
  · rintro s ⟨h1, h2⟩
    rw [List.drop_of_length_le (Nat.le_refl _)] at h2
    refine Evt.succ (Evt.all fun k => ?_)
    show impl_CountStates.l0 (k + 1) s l (l.length : Int) (l.length : Int) = _
    simp only [impl_CountStates.l0]
    rw [if_neg (by omega), ← h2]; rfl
theorem countsN_len (l : List S59) : (countsN l).length = 4 := by
  unfold countsN
  have : ∀ acc : List Int, (l.foldl stepN acc).length = acc.length := by
    induction l with
    | nil => intro acc; rfl
    | cons d l ih => intro acc; rw [List.foldl_cons, ih]; simp [stepN]
  rw [this]; rfl
theorem queueB_pw {l : List S59} (h : queueB l = true) : l.Pairwise (fun a b => a.f0 < b.f0) := by
  rw [List.pairwise_iff_getElem]
  intro i j hi hj hij
  have := queue_mono h i (j - i - 1) (by omega)
  rw [show i + (j - i - 1 + 1) = j by omega, getD_lt _ _ _ hi, getD_lt _ _ _ hj] at this
  exact this
theorem queueB_all {l : List S59} (h : queueB l = true) : ∀ d ∈ l, delivB d = true := by
  intro d hd
  obtain ⟨i, hi, rfl⟩ := List.mem_iff_getElem.1 hd
  have := queueB_at h i hi
  unfold atQ at this
  simp only [Bool.and_eq_true] at this
  rw [getD_lt _ _ _ hi] at this
  exact this.1
theorem queueB_mk {l : List S59} (h1 : ∀ d ∈ l, delivB d = true) (h2 : l.Pairwise (fun a b => a.f0 < b.f0)) (h3 : l.length ≤ 12) : queueB l = true := by
  unfold queueB
  rw [Bool.and_eq_true, decide_eq_true_eq, decide_eq_true_eq]
  refine ⟨fun i hi => ?_, h3⟩
  unfold atQ
  rw [getD_lt _ _ _ hi, h1 _ (List.getElem_mem hi), Bool.true_and]
  by_cases c : i = 0
  · rw [decide_eq_true c, Bool.true_or]
  · rw [getD_lt _ _ _ (by omega : i - 1 < l.length), decide_eq_true (List.pairwise_iff_getElem.1 h2 (i - 1) i (by omega) hi (by omega)), Bool.or_true]
theorem CountStates_ok {l : List S59} (hc : queueB l = true) : Evt fun k => impl_CountStates.f k l = some (countsN l, true) := by
  have c1 := IsValidQueue_ev l (by have := queueB_len hc; omega)
  refine (c1.and (countImpl_loop l hc)).mono ?_
  rintro k ⟨h1, h2⟩
  simp only [impl_CountStates.f, h1, hc, Option.bind_some, if_true, if_pos (show (4 : Nat) ≤ 35184372088832 by omega), h2]
def putD (l : List S59) (id t : Int) (n : Nat) : List S59 := l.take n ++ [⟨id, 1, 0, t⟩] ++ l.drop n
def addV (l : List S59) : List S59 × Bool := if queueB l = true then (l, true) else ([], false)
theorem putD_len (l : List S59) (id t : Int) (n : Nat) (hn : n ≤ l.length) : (putD l id t n).length = l.length + 1 := by
  simp only [putD, List.length_append, List.length_take, List.length_drop, List.length_singleton]
  omega
theorem place_of (l : List S59) (id : Int) : ∀ m, m ≤ l.length → ∃ n, n ≤ m ∧ (∀ i, i < n → (l.getD i z59).f0 < id) ∧ (n < m → ¬ (l.getD n z59).f0 < id)
  | 0, _ => ⟨0, Nat.le_refl _, fun i hi => by omega, fun h => by omega⟩
  | m + 1, hm => by
    obtain ⟨n, h1, h2, h3⟩ := place_of l id m (by omega)
    by_cases e : n < m
    · exact ⟨n, by omega, h2, fun _ => h3 e⟩
    · obtain rfl : n = m := by omega
      by_cases c : (l.getD n z59).f0 < id
      · refine ⟨n + 1, Nat.le_refl _, fun i hi => ?_, fun h => by omega⟩
        by_cases q : i = n
        · subst q; exact c
        · exact h2 i (by omega)
      · exact ⟨n, by omega, h2, fun _ => c⟩
theorem addSpec_ev (l : List S59) (id t : Int) (hl : l.length ≤ 1048576) (n : Nat) (hn : n ≤ l.length) (h2 : ∀ i, i < n → (l.getD i z59).f0 < id) (h3 : n < l.length → ¬ (l.getD n z59).f0 < id) : Evt fun k => spec_AddDelivery.l0 k l id t 0 = some (addV (putD l id t n)) := by
  have j2 : Evt fun k => spec_AddDelivery.j2 k l id t (n : Int) = some (addV (putD l id t n)) := by
    have hp := putD_len l id t n hn
    refine Evt.succ ((l19Good_ev (putD l id t n) (by omega)).mono fun k hk => ?_)
    have e1 : ((l.take n).length + 1 < 4398046511104) := by rw [List.length_take]; omega
    have e2 : ((l.take n ++ [(⟨id, 1, 0, t⟩ : S59)]).length + (l.drop n).length < 4398046511104) := by
      rw [List.length_append, List.length_take, List.length_drop, List.length_singleton]; omega
    have e3 : (l.take n).length ≤ 1000000000 := by rw [List.length_take]; omega
    simp only [spec_AddDelivery.j2]
    rw [if_pos (by omega), if_pos (by omega), Int.toNat_natCast, ownD _ e3, Option.bind_some, Option.bind_some, List.length_singleton, if_pos e1, Option.bind_some, Option.bind_some, if_pos e2, Option.bind_some]
    show (spec_l19Good.f k (putD l id t n)).bind _ = _
    rw [hk, Option.bind_some]
    unfold addV
    split <;> rfl
  refine evt_loop0 n (fun k (_ : Unit) i => spec_AddDelivery.l0 k l id t i) _ (fun _ _ => True) ?_ ?_ () trivial
  · rintro i s hi _
    have c := h2 i hi
    refine .inl ⟨(), trivial, 1, Evt.all fun k => ?_⟩
    show spec_AddDelivery.l0 (k + 1) l id t (i : Int) = _
    simp only [spec_AddDelivery.l0, rd_del]
    rw [if_pos (by omega), if_pos (by omega), if_pos c, wrap_id (by omega) (by omega)]
  · rintro s _
    refine Evt.succ (j2.mono fun k hk => ?_)
    show spec_AddDelivery.l0 (k + 1) l id t (n : Int) = _
    simp only [spec_AddDelivery.l0, rd_del]
    by_cases e : n < l.length
    · rw [if_pos (by omega), if_pos (by omega), if_neg (h3 e)]; exact hk
    · rw [if_neg (by omega)]; exact hk
theorem queue_pw {l : List S59} (h : queueB l = true) : l.Pairwise (fun a b => a.f0 < b.f0) := by
  rw [List.pairwise_iff_getElem]
  intro i j hi hj hij
  have := queue_mono h i (j - i - 1) (by omega)
  rw [show i + (j - i - 1 + 1) = j from by omega, getD_lt _ _ _ hi, getD_lt _ _ _ hj] at this
  exact this
theorem mem_getD {l : List S59} {x : S59} (h : x ∈ l) : ∃ i, i < l.length ∧ l.getD i z59 = x := by
  obtain ⟨i, hi, e⟩ := List.mem_iff_getElem.1 h
  exact ⟨i, hi, by rw [getD_lt _ _ _ hi]; exact e⟩
theorem sortD_put {l : List S59} (hq : queueB l = true) (id t : Int) (n : Nat) (hn : n ≤ l.length) (h2 : ∀ i, i < n → (l.getD i z59).f0 < id) (h3 : n < l.length → ¬ (l.getD n z59).f0 < id) (hne : ∀ i, i < l.length → (l.getD i z59).f0 ≠ id) :
    sortD (l ++ [⟨id, 1, 0, t⟩]) = putD l id t n := by
  obtain ⟨hp, ho⟩ := sortD_perm (l ++ [(⟨id, 1, 0, t⟩ : S59)])
  have hpw := queue_pw hq
  have hsplit : l.take n ++ l.drop n = l := List.take_append_drop n l
  have hp2 : (putD l id t n).Perm (l ++ [(⟨id, 1, 0, t⟩ : S59)]) := by
    unfold putD
    rw [List.append_assoc, List.singleton_append]
    refine List.perm_middle.trans ?_
    rw [hsplit]
    exact (List.perm_append_singleton _ _).symm
  have lt1 : ∀ a, a ∈ l.take n → a.f0 < id := by
    intro a ha
    obtain ⟨i, hi, e⟩ := List.mem_iff_getElem.1 ha
    rw [List.length_take] at hi
    rw [List.getElem_take] at e
    have := h2 i (by omega)
    rw [getD_lt _ _ _ (by omega), e] at this
    exact this
  have gt1 : ∀ a, a ∈ l.drop n → id < a.f0 := by
    intro a ha
    obtain ⟨i, hi, e⟩ := List.mem_iff_getElem.1 ha
    rw [List.length_drop] at hi
    rw [List.getElem_drop] at e
    have g0 := h3 (by omega)
    have g1 := hne n (by omega)
    have g2 : (l.getD n z59).f0 ≤ (l.getD (n + i) z59).f0 := by
      rcases Nat.eq_zero_or_pos i with q | q
      · subst q; exact Int.le_refl _
      · have := queue_mono hq n (i - 1) (by omega)
        rw [show n + (i - 1 + 1) = n + i from by omega] at this
        omega
    rw [getD_lt l z59 (n + i) (by omega), e] at g2
    omega
  have pw2 : (putD l id t n).Pairwise (fun a b => a.f0 ≤ b.f0) := by
    unfold putD
    rw [List.append_assoc, List.singleton_append, List.pairwise_append]
    refine ⟨(hpw.sublist (List.take_sublist _ _)).imp (fun h => Int.le_of_lt h), ?_, ?_⟩
    · rw [List.pairwise_cons]
      exact ⟨fun a ha => Int.le_of_lt (gt1 a ha), (hpw.sublist (List.drop_sublist _ _)).imp (fun h => Int.le_of_lt h)⟩
    · intro a ha b hb
      have := lt1 a ha
      rcases List.mem_cons.1 hb with rfl | hb
      · exact Int.le_of_lt this
      · have := gt1 b hb; omega
  have pw1 : (sortD (l ++ [(⟨id, 1, 0, t⟩ : S59)])).Pairwise (fun a b => a.f0 ≤ b.f0) := by
    have hlen := hp.length_eq
    rw [List.pairwise_iff_getElem]
    intro i j hi hj hij
    have := ho i j hij (by omega)
    rw [getD_lt _ _ _ hi, getD_lt _ _ _ hj] at this
    omega
  refine List.Perm.eq_of_pairwise (le := fun a b : S59 => a.f0 ≤ b.f0) ?_ pw1 pw2 (hp.trans hp2.symm)
  intro a b ha hb h1 h2'
  have ma := hp.mem_iff.1 ha
  have mb := hp2.mem_iff.1 hb
  have e : a.f0 = b.f0 := Int.le_antisymm h1 h2'
  rcases List.mem_append.1 ma with ma | ma
  · obtain ⟨i, hi, ei⟩ := mem_getD ma
    rcases List.mem_append.1 mb with mb | mb
    · obtain ⟨j, hj, ej⟩ := mem_getD mb
      have := queue_one hq hi hj (by rw [ei, ej]; exact e)
      rw [← ei, ← ej, this]
    · rw [List.mem_singleton] at mb
      exact absurd (by rw [ei, e, mb]) (hne i hi)
  · rw [List.mem_singleton] at ma
    rcases List.mem_append.1 mb with mb | mb
    · obtain ⟨j, hj, ej⟩ := mem_getD mb
      exact absurd (by rw [ej, ← e, ma]) (hne j hj)
    · rw [List.mem_singleton] at mb
      rw [ma, mb]
theorem putD_taken {l : List S59} (id t : Int) (n : Nat) (hn : n < l.length) (he : (l.getD n z59).f0 = id) : queueB (putD l id t n) = false := by
  cases hq : queueB (putD l id t n) with
  | false => rfl
  | true =>
    have hp := putD_len l id t n (by omega)
    have m := queue_mono hq n 0 (by omega)
    have e1 : (putD l id t n).getD n z59 = ⟨id, 1, 0, t⟩ := by
      unfold putD
      rw [List.append_assoc, List.getD_eq_getElem?_getD, List.getElem?_append_right (by rw [List.length_take]; omega), List.length_take, show n - min n l.length = 0 from by omega]
      rfl
    have e2 : (putD l id t n).getD (n + (0 + 1)) z59 = l.getD n z59 := by
      unfold putD
      rw [List.getD_eq_getElem?_getD, List.getElem?_append_right (by rw [List.length_append, List.length_take, List.length_singleton]; omega), List.length_append, List.length_take, List.length_singleton, show n + (0 + 1) - (min n l.length + 1) = 0 from by omega, List.getElem?_drop, Nat.add_zero, List.getD_eq_getElem?_getD]
    rw [e1, e2, he] at m
    exact absurd m (Int.lt_irrefl _)
theorem pairAdd_all (l : List S59) (id t : Int) (hl : l.length ≤ 1048576) : ∃ v, (Evt fun k => impl_AddDelivery.f k l id t = some v) ∧ (Evt fun k => spec_AddDelivery.f k l id t = some v) ∧ v.1.length ≤ 1048576 ∧ (v.2 = true → v.1.length = l.length + 1 ∧ queueB v.1 = true) := by
  have c1 := IsValidQueue_ev l (by omega)
  have c2 := l19Good_ev l (by omega)
  cases hc : queueB l with
  | false =>
    rw [hc] at c1 c2
    refine ⟨([], false), Evt.succ (c1.shift.mono fun k hk => ?_), Evt.succ (c2.shift.mono fun k hk => ?_), by simp, fun h => by cases h⟩
    · simp [impl_AddDelivery.f, impl_AddDelivery.j0, hk]
    · simp [spec_AddDelivery.f, spec_AddDelivery.j0, hk]
  | true =>
    rw [hc] at c1 c2
    have h12 := queueB_len hc
    by_cases ht : 0 ≤ t ∧ t ≤ 50000
    · obtain ⟨n, hn, h2, h3⟩ := place_of l id l.length (Nat.le_refl _)
      have sp := addSpec_ev l id t hl n hn h2 h3
      have hp := putD_len l id t n hn
      have vl : (addV (putD l id t n)).1.length ≤ 1048576 := by
        unfold addV
        split
        · simp only; omega
        · simp
      refine ⟨addV (putD l id t n), ?_, Evt.succ ((c2.shift.and sp).mono fun k hk => ?_), vl, fun hv => ?_⟩
      rotate_right
      · unfold addV at hv ⊢
        split at hv
        · rename_i hq
          rw [if_pos hq]
          exact ⟨hp, hq⟩
        · cases hv
      · rcases first_or l id l.length (Nat.le_refl _) with ⟨m, m1, m2, m3⟩ | h
        · have at_ := deliveryAt_ev l id hl m (by omega) m3 (m : Int) (.inl ⟨m1, m2, rfl⟩)
          have hnm : n = m := by
            rcases Nat.lt_trichotomy n m with q | q | q
            · have g := h3 (by omega)
              have := queue_mono hc n (m - n - 1) (by omega)
              rw [show n + (m - n - 1 + 1) = m from by omega] at this
              omega
            · exact q
            · have := h2 m q; omega
          subst hnm
          have ev : addV (putD l id t n) = ([], false) := by unfold addV; rw [putD_taken id t n m1 m2]; rfl
          rw [ev]
          refine Evt.succ ((c1.shift.and at_.shift).mono fun k hk => ?_)
          simp only [impl_AddDelivery.f, impl_AddDelivery.j0, hk.1, hk.2, Option.bind_some, if_true, isMinute_ok, decide_eq_true ht]
          rw [if_pos (decide_eq_true (by omega))]
        · have at_ := deliveryAt_ev l id hl l.length (Nat.le_refl _) h (-1) (.inr ⟨rfl, rfl⟩)
          have hs := sortD_put hc id t n hn h2 h3 h
          refine Evt.succ ((c1.shift.and (at_.shift.and (IsValidQueue_ev (putD l id t n) (by omega)))).mono fun k hk => ?_)
          have sf : slices_SortFunc_Delivery.f (l ++ [(⟨id, 1, 0, t⟩ : S59)]) = some (putD l id t n) := by
            unfold slices_SortFunc_Delivery.f
            rw [if_pos ⟨by rw [List.length_append, List.length_singleton]; omega, by rw [List.length_append, List.length_singleton]; omega⟩, hs]
          simp only [impl_AddDelivery.f, impl_AddDelivery.j0, hk.1, hk.2.1, Option.bind_some, if_true, isMinute_ok, decide_eq_true ht, cloneD l (by omega)]
          rw [if_neg (by simp), if_pos (by omega), sf, Option.bind_some, hk.2.2, Option.bind_some]
          unfold addV
          split <;> rfl
      · simp only [spec_AddDelivery.f, spec_AddDelivery.j0, hk.1, Option.bind_some, if_true, l19Minute_ok, decide_eq_true ht, Bool.not_true, Bool.false_eq_true, if_false]
        exact hk.2
    · refine ⟨([], false), Evt.succ (c1.shift.mono fun k hk => ?_), Evt.succ (c2.shift.mono fun k hk => ?_), by simp, fun h => by cases h⟩
      · simp only [impl_AddDelivery.f, impl_AddDelivery.j0, hk, Option.bind_some, if_true, isMinute_ok, decide_eq_false ht, Bool.false_eq_true, if_false]
      · simp only [spec_AddDelivery.f, spec_AddDelivery.j0, hk, Option.bind_some, if_true, l19Minute_ok, decide_eq_false ht, Bool.not_false]
theorem delivery_draw (l : List Int) (hb : ∀ x ∈ l, 0 ≤ x ∧ x ≤ 255) (p s : Int) (h0 : 0 ≤ p) (h1 : p ≤ 4611686018427350000) (q : List S59) (hq : q.length ≤ 13) : ∃ r, Evt fun k => spec_l1Cur_delivery.f k l p s q = some r := by
  have j1 : ∀ p s : Int, 0 ≤ p → p ≤ 4611686018427360000 → ∃ r, Evt fun k => spec_l1Cur_delivery.j0 k q true l p s = some r := by
    intro p s h0 h1
    obtain ⟨u, p2, s2, e2, a2, b2, _⟩ := among_ok l hb p s (by omega) (by omega) [0, 1, 50, 999, 1000] (by decide)
    refine ⟨(u, p2, s2), Evt.succ (Evt.all fun k => ?_)⟩
    simp only [spec_l1Cur_delivery.j0, if_true]
    rw [e2, Option.bind_some]
  by_cases he : (q.length : Int) = 0
  · obtain ⟨r, hr⟩ := j1 p s h0 (by omega)
    refine ⟨r, hr.mono fun k hk => ?_⟩
    unfold spec_l1Cur_delivery.f
    rw [if_pos he]
    exact hk
  · obtain ⟨b, p1, s1, e1, a1, b1⟩ := one_ok l hb p s 8 h0 (by omega) (by omega)
    cases b with
    | true =>
      obtain ⟨r, hr⟩ := j1 p1 s1 (by omega) (by omega)
      refine ⟨r, hr.mono fun k hk => ?_⟩
      unfold spec_l1Cur_delivery.f
      rw [if_neg he, e1, Option.bind_some]
      exact hk
    | false =>
      obtain ⟨v, p2, s2, e2, a2, b2, v0, v1⟩ := pick_ok l hb p1 s1 (q.length : Int) (by omega) (by omega) (by omega)
      refine ⟨((rd_T59 q v).f0, p2, s2), Evt.succ (Evt.all fun k => ?_)⟩
      unfold spec_l1Cur_delivery.f
      rw [if_neg he, e1, Option.bind_some]
      simp only [spec_l1Cur_delivery.j0, Bool.false_eq_true, if_false]
      rw [e2, Option.bind_some, if_pos v0, if_pos v1]
theorem DrawTakeReceipt_ev (l : List Int) (hb : ∀ x ∈ l, 0 ≤ x ∧ x ≤ 255) : ∃ q n, List.length (q : List S59) ≤ 13 ∧ Evt fun k => spec_DrawTakeReceipt.f k l = some (q, n) := by
  obtain ⟨⟨q, p1, s1⟩, ⟨r1, r2, r3⟩, ev⟩ := queue_draw l hb 0 0 (by omega) (by omega)
  dsimp only at r1 r2 r3
  obtain ⟨⟨n, p2, s2⟩, e2⟩ := delivery_draw l hb p1 s1 (by omega) (by omega) q r1
  refine ⟨q, n, r1, (ev.and e2).mono fun k hk => ?_⟩
  simp only [spec_DrawTakeReceipt.f, hk.1, hk.2, Option.bind_some]
theorem DrawAddDelivery_ev (l : List Int) (hb : ∀ x ∈ l, 0 ≤ x ∧ x ≤ 255) : ∃ q n t, List.length (q : List S59) ≤ 13 ∧ Evt fun k => spec_DrawAddDelivery.f k l = some (q, n, t) := by
  obtain ⟨⟨q, p1, s1⟩, ⟨r1, r2, r3⟩, ev⟩ := queue_draw l hb 0 0 (by omega) (by omega)
  dsimp only at r1 r2 r3
  obtain ⟨n, p2, s2, e2, a2, b2, _⟩ := among_ok l hb p1 s1 (by omega) (by omega) [1, 2, 3, 50, 999, 0, 1000] (by decide)
  obtain ⟨t, p3, s3, e3, a3, b3, m2, m3⟩ := minute19_draw l hb p2 s2 (by omega) (by omega)
  refine ⟨q, n, t, r1, ev.mono fun k hk => ?_⟩
  simp only [spec_DrawAddDelivery.f, hk, Option.bind_some]
  rw [e2, Option.bind_some]
  dsimp only
  rw [e3, Option.bind_some]
theorem DrawSendNext_ev (l : List Int) (hb : ∀ x ∈ l, 0 ≤ x ∧ x ≤ 255) : ∃ q t, List.length (q : List S59) ≤ 13 ∧ Evt fun k => spec_DrawSendNext.f k l = some (q, t) := by
  obtain ⟨⟨q, p1, s1⟩, ⟨r1, r2, r3⟩, ev⟩ := queue_draw l hb 0 0 (by omega) (by omega)
  dsimp only at r1 r2 r3
  obtain ⟨t, p2, s2, e2, a2, b2, m2, m3⟩ := minute19_draw l hb p1 s1 (by omega) (by omega)
  refine ⟨q, t, r1, ev.mono fun k hk => ?_⟩
  simp only [spec_DrawSendNext.f, hk, Option.bind_some, e2]
def sendR (l : List S59) (t : Int) : List S59 × Int × Bool := if queueB l = true ∧ (0 ≤ t ∧ t ≤ 50000) then sendV l t else ([], 0, false)
theorem SendNext_ok (l : List S59) (t : Int) (hl : l.length ≤ 1048576) : (Evt fun k => impl_SendNext.f k l t = some (sendR l t)) ∧ (Evt fun k => spec_SendNext.f k l t = some (sendR l t)) := by
  have c1 := IsValidQueue_ev l (by omega)
  have c2 := l19Good_ev l (by omega)
  unfold sendR
  cases hc : queueB l with
  | false =>
    rw [if_neg (by simp)]
    refine ⟨(Evt.pos.and c1).mono ?_, (Evt.pos.and c2).mono ?_⟩
    · rintro k ⟨⟨m, rfl⟩, hk⟩; simp [impl_SendNext.f, impl_SendNext.j0, hk, hc]
    · rintro k ⟨⟨m, rfl⟩, hk⟩; simp [spec_SendNext.f, spec_SendNext.j0, hk, hc]
  | true =>
    by_cases ht : 0 ≤ t ∧ t ≤ 50000
    · rw [if_pos ⟨rfl, ht⟩]
      refine ⟨Evt.succ (((Evt.shift c1).and (sendImpl_loop l t hc ht)).mono ?_), Evt.succ (((Evt.shift c2).and (sendSpec_loop l t hc ht)).mono ?_)⟩
      · rintro k ⟨h1, h2⟩
        simp only [impl_SendNext.f, impl_SendNext.j0, h1, hc, Option.bind_some, if_true, isMinute_ok, decide_eq_true ht, Bool.not_true]
        rw [if_neg (by simp), h2]
      · rintro k ⟨h1, h2⟩
        simp only [spec_SendNext.f, spec_SendNext.j0, h1, hc, Option.bind_some, if_true, l19Minute_ok, decide_eq_true ht, Bool.not_true]
        rw [if_neg (by simp), h2]
    · rw [if_neg (fun q => ht q.2)]
      refine ⟨(Evt.pos.and c1).mono ?_, (Evt.pos.and c2).mono ?_⟩
      · rintro k ⟨⟨m, rfl⟩, hk⟩
        simp only [impl_SendNext.f, impl_SendNext.j0, hk, hc, Option.bind_some, if_true, isMinute_ok, decide_eq_false ht, Bool.not_false]
      · rintro k ⟨⟨m, rfl⟩, hk⟩
        simp only [spec_SendNext.f, spec_SendNext.j0, hk, hc, Option.bind_some, if_true, l19Minute_ok, decide_eq_false ht, Bool.not_false]
theorem bestI_prop (l : List S59) (t : Int) : ∀ n, 0 ≤ bestI l t n → (l.getD (bestI l t n).toNat z59).f1 = 1 ∧ (l.getD (bestI l t n).toNat z59).f3 ≤ t
  | 0, h => by simp [bestI] at h
  | n + 1, h => by
    unfold bestI at h ⊢
    by_cases c : (l.getD n z59).f1 = 1 ∧ (l.getD n z59).f3 ≤ t ∧ (bestI l t n < 0 ∨ (l.getD n z59).f3 < (l.getD (bestI l t n).toNat z59).f3)
    · rw [if_pos c, Int.toNat_natCast]
      exact ⟨c.1, c.2.1⟩
    · rw [if_neg c] at h ⊢
      exact bestI_prop l t n h
theorem queueB_set {l : List S59} (h : queueB l = true) (i : Nat) (hi : i < l.length) (e : S59) (h0 : e.f0 = (l.getD i z59).f0) (hd : delivB e = true) : queueB (l.set i e) = true := by
  refine queueB_mk ?_ ?_ (by rw [List.length_set]; exact queueB_len h)
  · intro d hm
    rcases List.mem_or_eq_of_mem_set hm with k | k
    · exact queueB_all h d k
    · rw [k]; exact hd
  · rw [List.pairwise_iff_getElem]
    intro a b ha hb hab
    rw [List.length_set] at ha hb
    have key : ∀ j, (hj : j < l.length) → ((l.set i e)[j]'(by rw [List.length_set]; exact hj)).f0 = (l[j]).f0 := by
      intro j hj
      rw [List.getElem_set]
      split
      · rename_i q
        subst q
        rw [h0, getD_lt _ _ _ hj]
      · rfl
    rw [key a ha, key b hb]
    exact List.pairwise_iff_getElem.1 (queueB_pw h) a b ha hb hab
theorem takeImpl_at {l : List S59} (hc : queueB l = true) (n : Nat) (h1 : n < l.length) (q : (l.getD n z59).f1 = 2 ∨ (l.getD n z59).f1 = 3) : Evt fun k => impl_TakeReceipt.f k l (l.getD n z59).f0 = some (l.set n ⟨(l.getD n z59).f0, 3, (l.getD n z59).f2, 0⟩, true) := by
  have h12 := queueB_len hc
  have c1 := IsValidQueue_ev l (by omega)
  rw [hc] at c1
  have h3 : ∀ i, i < n → (l.getD i z59).f0 ≠ (l.getD n z59).f0 := fun i hi e => by
    have := queue_one hc (by omega) h1 e
    omega
  have at_ := deliveryAt_ev l (l.getD n z59).f0 (by omega) n (by omega) h3 (n : Int) (.inl ⟨h1, rfl, rfl⟩)
  refine (c1.and at_).mono fun k hk => ?_
  have e0 : ∀ u : S59, (l.set n u).getD n z59 = u := fun u => getD_set_self _ _ _ _ h1
  simp only [impl_TakeReceipt.f, hk.1, hk.2, Option.bind_some, if_true, rd_del, cloneD l (by omega), Int.toNat_natCast, e0, List.set_set]
  rw [if_neg (by omega), if_pos (by omega), if_pos (by omega)]
  rcases q with q | q
  · rw [if_pos q, if_pos (by omega)]
  · rw [if_neg (by omega), if_pos q, if_pos (by omega)]
def hasS (j : Nat) (d : S59) : Bool := decide (d.f1 = (j : Int) + 1)
theorem countsN_at (j : Nat) (hj : j < 4) : ∀ (l : List S59) (acc : List Int), acc.length = 4 → (∀ d ∈ l, 1 ≤ d.f1 ∧ d.f1 ≤ 4) → (l.foldl stepN acc).getD j 0 = acc.getD j 0 + (l.countP (hasS j) : Nat)
  | [], acc, _, _ => by simp
  | d :: l, acc, ha, hd => by
    have hd1 := hd d (List.mem_cons_self)
    rw [List.foldl_cons, countsN_at j hj l (stepN acc d) (by simp [stepN, ha]) (fun x hx => hd x (List.mem_cons_of_mem _ hx)), List.countP_cons]
    unfold stepN hasS
    by_cases c : d.f1 = (j : Int) + 1
    · rw [show (d.f1 - 1).toNat = j from by omega, getD_set_self _ _ _ _ (by omega), if_pos (decide_eq_true c)]
      omega
    · rw [getD_set_ne _ _ _ _ _ (by omega), if_neg (by simpa using c)]
      omega
theorem countsN_set {l : List S59} (h : queueB l = true) (i : Nat) (hi : i < l.length) (e : S59) (h' : queueB (l.set i e) = true) (h1 : (l.getD i z59).f1 = 1) (h3 : e.f1 = 3) :
    (countsN (l.set i e)).getD 2 0 = (countsN l).getD 2 0 + 1 ∧ (countsN (l.set i e)).getD 0 0 = (countsN l).getD 0 0 - 1 ∧ (0 ≤ (countsN l).getD 2 0 ∧ (countsN l).getD 2 0 ≤ 12) ∧ (0 ≤ (countsN l).getD 0 0 ∧ (countsN l).getD 0 0 ≤ 12) := by
  have r : ∀ m : List S59, queueB m = true → ∀ d ∈ m, 1 ≤ d.f1 ∧ d.f1 ≤ 4 := by
    intro m hm d hd
    have := queueB_all hm d hd
    unfold delivB delivP at this
    rw [decide_eq_true_eq] at this
    omega
  have h12 := queueB_len h
  have a0 := countsN_at 0 (by omega) l [0, 0, 0, 0] rfl (r l h)
  have a2 := countsN_at 2 (by omega) l [0, 0, 0, 0] rfl (r l h)
  have b0 := countsN_at 0 (by omega) (l.set i e) [0, 0, 0, 0] rfl (r _ h')
  have b2 := countsN_at 2 (by omega) (l.set i e) [0, 0, 0, 0] rfl (r _ h')
  have l0 : l.countP (hasS 0) ≤ l.length := List.countP_le_length
  have l2 : l.countP (hasS 2) ≤ l.length := List.countP_le_length
  have gi : l[i] = l.getD i z59 := (getD_lt l z59 i hi).symm
  have p0 : 0 < l.countP (hasS 0) := List.countP_pos_iff.2 ⟨l[i], List.getElem_mem hi, by rw [gi]; unfold hasS; exact decide_eq_true (by rw [h1]; rfl)⟩
  have i0 : hasS 0 l[i] = true := by rw [gi]; unfold hasS; exact decide_eq_true (by rw [h1]; rfl)
  have i2 : hasS 2 l[i] = false := by rw [gi]; unfold hasS; exact decide_eq_false (by rw [h1]; decide)
  have j0 : hasS 0 e = false := by unfold hasS; exact decide_eq_false (by rw [h3]; decide)
  have j2 : hasS 2 e = true := by unfold hasS; exact decide_eq_true (by rw [h3]; rfl)
  have c0 := List.countP_set (p := hasS 0) (a := e) hi
  have c2 := List.countP_set (p := hasS 2) (a := e) hi
  rw [i0, j0] at c0
  rw [i2, j2] at c2
  simp only [if_true, Bool.false_eq_true, if_false] at c0 c2
  unfold countsN
  rw [a0, a2, b0, b2, c0, c2]
  simp only [List.getD_cons_zero, List.getD_cons_succ]
  omega
theorem deliveries_mid (l0 : List Int) (p : List S59) (t : Int) (hp : queueB p = true) (ht : 0 ≤ t ∧ t ≤ 50000) (hb : ¬ bestI p t p.length < 0) (j3 : Evt fun k => laws_FnDeliveries.j3 k l0 = some true) :
    Evt fun k => laws_FnDeliveries.j2 k l0 p (sendV p t).1 (sendV p t).2.1 true false = some true := by
  have hle := bestI_le p t p.length
  have h12 := queueB_len hp
  obtain ⟨i, hi⟩ : ∃ i : Nat, bestI p t p.length = i := ⟨(bestI p t p.length).toNat, by omega⟩
  have hil : i < p.length := by omega
  obtain ⟨w1, w2⟩ := bestI_prop p t p.length (by omega)
  obtain ⟨d, hd⟩ : ∃ d, d = p.getD i z59 := ⟨_, rfl⟩
  have sv : sendV p t = (p.set i ⟨d.f0, 2, d.f2 + 1, t + 10⟩, d.f0, true) := by
    unfold sendV
    rw [if_neg hb, hi, Int.toNat_natCast, ← hd]
  rw [hi, Int.toNat_natCast, ← hd] at w1 w2
  have hdg := queueB_deliv hp i hil
  rw [← hd] at hdg
  unfold delivP at hdg
  have q1 : queueB (p.set i ⟨d.f0, 2, d.f2 + 1, t + 10⟩) = true := queueB_set hp i hil _ (by rw [← hd]) (by unfold delivB delivP; exact decide_eq_true (by dsimp only; omega))
  have q2 : queueB (p.set i ⟨d.f0, 3, d.f2 + 1, 0⟩) = true := queueB_set hp i hil _ (by rw [← hd]) (by unfold delivB delivP; exact decide_eq_true (by dsimp only; omega))
  have g1 : (p.set i (⟨d.f0, 2, d.f2 + 1, t + 10⟩ : S59)).getD i z59 = ⟨d.f0, 2, d.f2 + 1, t + 10⟩ := getD_set_self _ _ _ _ hil
  have g2 : (p.set i (⟨d.f0, 3, d.f2 + 1, 0⟩ : S59)).getD i z59 = ⟨d.f0, 3, d.f2 + 1, 0⟩ := getD_set_self _ _ _ _ hil
  have t1 := takeImpl_at q1 i (by rw [List.length_set]; exact hil) (by rw [g1]; exact .inl rfl)
  have t2 := takeImpl_at q2 i (by rw [List.length_set]; exact hil) (by rw [g2]; exact .inr rfl)
  rw [g1] at t1
  rw [g2] at t2
  simp only [List.set_set] at t1 t2
  have n1 := CountStates_ok hp
  have n2 := CountStates_ok q2
  obtain ⟨m1, m2, m3, m4⟩ := countsN_set hp i hil _ q2 (by rw [← hd]; exact w1) rfl
  have l1 := countsN_len p
  have l2 := countsN_len (p.set i (⟨d.f0, 3, d.f2 + 1, 0⟩ : S59))
  have rq := rQueues_self (p.set i (⟨d.f0, 3, d.f2 + 1, 0⟩ : S59)) (by rw [List.length_set]; omega)
  have iv := IsValidQueue_ev (p.set i (⟨d.f0, 3, d.f2 + 1, 0⟩ : S59)) (by rw [List.length_set]; omega)
  rw [q2] at iv
  rw [sv]
  refine Evt.succ ((t1.and (t2.and (n1.and (n2.and (rq.and (iv.and j3)))))).mono ?_)
  rintro k ⟨k1, k2, k3, k4, k5, k6, k7⟩
  have r1 : ∀ m : List Int, rd m 2 = m.getD 2 0 := fun m => rfl
  have r0 : ∀ m : List Int, rd m 0 = m.getD 0 0 := fun m => rfl
  have ln : ((p.set i (⟨d.f0, 2, d.f2 + 1, t + 10⟩ : S59)).length : Int) = (p.length : Int) := by rw [List.length_set]
  simp only [laws_FnDeliveries.j2, Bool.false_eq_true, if_false, if_true, k1, k2, k3, k4, k5, k6, Option.bind_some]
  rw [if_pos ln, if_pos (by omega), if_pos (by omega), if_pos (by rw [r1, r1, m1, wrap_id (by omega) (by omega)]), if_pos (by omega), if_pos (by omega), if_pos (by rw [r0, r0, m2, wrap_id (by omega) (by omega)])]
  exact k7
theorem FnDeliveries : laws_FnDeliveries.Pure := by
  intro l0 hl _ hw
  have hby := bytes_of l0 hw
  by_cases hbig : (l0.length : Int) > 65536
  · exact ⟨0, by simp [laws_FnDeliveries.f, laws_rBig.f, hbig]⟩
  obtain ⟨q, id, m, hq, g1⟩ := DrawAddDelivery_ev l0 hby
  obtain ⟨p, t, hp, g2⟩ := DrawSendNext_ev l0 hby
  obtain ⟨r, n, hr, g3⟩ := DrawTakeReceipt_ev l0 hby
  obtain ⟨v, ai, asp, al, ap⟩ := pairAdd_all q id m (by omega)
  obtain ⟨si, ss⟩ := SendNext_ok p t (by omega)
  obtain ⟨u, ti, ts, tl⟩ := pairTake_all r n (by omega)
  have j3 : Evt fun k => laws_FnDeliveries.j3 k l0 = some true := by
    refine Evt.succ ((g3.and (ti.and (ts.and (rQueues_self u.1 tl)))).mono ?_)
    rintro k ⟨h1, h2, h3, h4⟩
    simp [laws_FnDeliveries.j3, h1, h2, h3, h4]
  have j2 : Evt fun k => laws_FnDeliveries.j2 k l0 p (sendR p t).1 (sendR p t).2.1 (sendR p t).2.2 false = some true := by
    have no : (sendR p t).2.2 = false → Evt fun k => laws_FnDeliveries.j2 k l0 p (sendR p t).1 (sendR p t).2.1 (sendR p t).2.2 false = some true := by
      intro e
      rw [e]
      refine Evt.succ (j3.mono fun k hk => ?_)
      simp only [laws_FnDeliveries.j2, Bool.false_eq_true, if_false]
      exact hk
    by_cases c : queueB p = true ∧ (0 ≤ t ∧ t ≤ 50000)
    · have e : sendR p t = sendV p t := by unfold sendR; rw [if_pos c]
      by_cases hb : bestI p t p.length < 0
      · exact no (by rw [e]; unfold sendV; rw [if_pos hb])
      · have e2 : (sendV p t).2.2 = true := by unfold sendV; rw [if_neg hb]
        rw [e, e2]
        exact deliveries_mid l0 p t c.1 c.2 hb j3
    · exact no (by unfold sendR; rw [if_neg c])
  have sl : (sendR p t).1.length ≤ 1048576 := by
    unfold sendR
    split
    · unfold sendV
      split
      · simp
      · simp only [List.length_set]; omega
    · simp
  have j1 : Evt fun k => laws_FnDeliveries.j1 k l0 false = some true := by
    refine Evt.succ ((g2.and (si.and (ss.and ((rQueues_self (sendR p t).1 sl).and j2)))).mono ?_)
    rintro k ⟨h1, h2, h3, h4, h5⟩
    simp only [laws_FnDeliveries.j1, h1, h2, h3, Option.bind_some, Bool.false_eq_true, if_false, bne_self_eq_false, if_true, h4, Bool.not_true]
    exact h5
  have j0 : Evt fun k => laws_FnDeliveries.j0 k l0 q v.1 v.2 false = some true := by
    cases hv : v.2 with
    | false =>
      refine Evt.succ (j1.mono fun k hk => ?_)
      simp only [laws_FnDeliveries.j0, Bool.false_eq_true, if_false]
      exact hk
    | true =>
      obtain ⟨p1, p2⟩ := ap hv
      have iv := IsValidQueue_ev v.1 (by omega)
      rw [p2] at iv
      refine Evt.succ ((iv.and j1).mono fun k hk => ?_)
      simp only [laws_FnDeliveries.j0, Bool.false_eq_true, if_false, if_true, hk.1, Option.bind_some, Bool.not_true]
      rw [if_pos (by rw [p1, wrap_id (by omega) (by omega)]; omega)]
      exact hk.2
  obtain ⟨K, hK⟩ := g1.and (ai.and (asp.and ((rQueues_self v.1 al).and j0)))
  refine ⟨K, ?_⟩
  obtain ⟨h1, h2, h3, h4, h5⟩ := hK K (Nat.le_refl _)
  simp only [laws_FnDeliveries.f, laws_rBig.f, Option.bind_some, decide_eq_false hbig, Bool.false_eq_true, if_false, h1, h2, h3, bne_self_eq_false, h4, Bool.not_true]
  exact h5
end Go.Proofs.Ytkegkbpadhddkaa.Pure
