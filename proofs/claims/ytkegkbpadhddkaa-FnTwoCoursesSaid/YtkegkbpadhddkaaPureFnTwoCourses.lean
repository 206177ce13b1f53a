/-
  The pure statement of the law FnTwoCourses: what its printed function answers is 'true' for all numbers and lists of its kinds. Conditions: the kinds' own bounds, as the statement lays them.
-/
import Derived.Test.YtkegkbpadhddkaaXFnTwoCoursesx12
import Derived.DataShut
namespace Go.Proofs.Ytkegkbpadhddkaa.Pure
open Go.RowKit Go.Proofs.Ytkegkbpadhddkaa.XFnTwoCourses Go.Proofs.YtkegkbpadhddkaaW.PrintWords Go.Proofs.YtkegkbpadhddkaaW.PrintLast Go.Proofs.YtkegkbpadhddkaaW.PrintMore
set_option linter.unusedVariables false
set_option linter.unusedSimpArgs false
theorem wrap_id {x : Int} (h0 : -9223372036854775808 ≤ x) (h1 : x ≤ 9223372036854775807) : wrap64 x = x := by unfold wrap64; omega
theorem rd_nat (xs : List Int) (i : Nat) : rd xs (i : Int) = xs.getD i 0 := by simp [rd]
theorem getD_drop {α : Type} (xs : List α) (z : α) (i : Nat) (h : i < xs.length) : xs.drop i = xs.getD i z :: xs.drop (i + 1) := by
  rw [List.drop_eq_getElem_cons h, List.getD_eq_getElem?_getD, List.getElem?_eq_getElem h]; rfl
def Evt (P : Nat → Prop) : Prop := ∃ K, ∀ k, K ≤ k → P k
theorem Evt.all {P : Nat → Prop} (h : ∀ k, P k) : Evt P := ⟨0, fun k _ => h k⟩
theorem Evt.and {P Q : Nat → Prop} (h : Evt P) (g : Evt Q) : Evt fun k => P k ∧ Q k := by
  obtain ⟨K, h⟩ := h
  obtain ⟨M, g⟩ := g
  exact ⟨K + M, fun k hk => ⟨h k (by omega), g k (by omega)⟩⟩
theorem Evt.mono {P Q : Nat → Prop} (h : Evt P) (g : ∀ k, P k → Q k) : Evt Q := by
  obtain ⟨K, h⟩ := h
  exact ⟨K, fun k hk => g k (h k hk)⟩
theorem Evt.succ {Q : Nat → Prop} (h : Evt fun k => Q (k + 1)) : Evt Q := by
  obtain ⟨K, h⟩ := h
  refine ⟨K + 1, fun k hk => ?_⟩
  obtain ⟨m, rfl⟩ : ∃ m, k = m + 1 := ⟨k - 1, by omega⟩
  exact h m (by omega)
theorem Evt.add {Q : Nat → Prop} (c : Nat) (h : Evt fun k => Q (k + c)) : Evt Q := by
  obtain ⟨K, h⟩ := h
  refine ⟨K + c, fun k hk => ?_⟩
  obtain ⟨m, rfl⟩ : ∃ m, k = m + c := ⟨k - c, by omega⟩
  exact h m (by omega)
theorem Evt.shift {Q : Nat → Prop} (h : Evt Q) : Evt fun k => Q (k + 1) := by
  obtain ⟨K, h⟩ := h
  exact ⟨K, fun k hk => h _ (by omega)⟩
theorem Evt.at {P : Nat → Prop} (h : Evt P) : ∃ K, ∀ j, P (K + j) := by
  obtain ⟨K, h⟩ := h
  exact ⟨K, fun j => h _ (by omega)⟩
theorem Evt.pos : Evt fun k => ∃ m, k = m + 1 := ⟨1, fun k hk => ⟨k - 1, by omega⟩⟩
theorem evt_loop {σ ρ : Type} (n : Nat) (L : Nat → σ → Int → Option ρ) (v : ρ) (Inv : Nat → σ → Prop)
    (step : ∀ i s, i < n → Inv i s → (∃ s', Inv (i + 1) s' ∧ ∃ c, Evt fun k => L (k + c) s (i : Int) = L k s' ((i : Int) + 1)) ∨ Evt fun k => L k s (i : Int) = some v)
    (fin : ∀ s, Inv n s → Evt fun k => L k s (n : Int) = some v) :
    ∀ i s, i ≤ n → Inv i s → Evt fun k => L k s (i : Int) = some v := by
  have key : ∀ d i s, i + d = n → Inv i s → Evt fun k => L k s (i : Int) = some v := by
    intro d
    induction d with
    | zero =>
      intro i s hi h
      obtain rfl : i = n := by omega
      exact fin s h
    | succ d ih =>
      intro i s hi h
      rcases step i s (by omega) h with ⟨s', h', c, e⟩ | e
      · have h2 := ih (i + 1) s' (by omega) h'
        rw [show ((i + 1 : Nat) : Int) = (i : Int) + 1 from by omega] at h2
        exact Evt.add c ((e.and h2).mono fun k hk => hk.1.trans hk.2)
      · exact e
  intro i s hi h
  exact key (n - i) i s (by omega) h
theorem evt_loop0 {σ ρ : Type} (n : Nat) (L : Nat → σ → Int → Option ρ) (v : ρ) (Inv : Nat → σ → Prop)
    (step : ∀ i s, i < n → Inv i s → (∃ s', Inv (i + 1) s' ∧ ∃ c, Evt fun k => L (k + c) s (i : Int) = L k s' ((i : Int) + 1)) ∨ Evt fun k => L k s (i : Int) = some v)
    (fin : ∀ s, Inv n s → Evt fun k => L k s (n : Int) = some v) (s : σ) (h0 : Inv 0 s) : Evt fun k => L k s 0 = some v :=
  evt_loop n L v Inv step fin 0 s (Nat.zero_le _) h0
theorem getD_lt {α : Type} (xs : List α) (z : α) (i : Nat) (h : i < xs.length) : xs.getD i z = xs[i] := by
  rw [List.getD_eq_getElem?_getD, List.getElem?_eq_getElem h]; rfl
theorem getD_set_self {α : Type} (xs : List α) (z v : α) (i : Nat) (h : i < xs.length) : (xs.set i v).getD i z = v := by
  rw [List.getD_eq_getElem?_getD, List.getElem?_set_self h]; rfl
theorem getD_set_ne {α : Type} (xs : List α) (z v : α) (i j : Nat) (h : i ≠ j) : (xs.set i v).getD j z = xs.getD j z := by
  rw [List.getD_eq_getElem?_getD, List.getElem?_set_ne h, List.getD_eq_getElem?_getD]
theorem getD_map {α β : Type} (f : α → β) (xs : List α) (z : α) (y : β) (i : Nat) (h : i < xs.length) : (xs.map f).getD i y = f (xs.getD i z) := by
  rw [getD_lt _ _ _ (by simpa using h), getD_lt _ _ _ h, List.getElem_map]
theorem list_ext_getD {α : Type} (xs ys : List α) (z : α) (h : xs.length = ys.length) (e : ∀ j, j < xs.length → xs.getD j z = ys.getD j z) : xs = ys := by
  apply List.ext_getElem h
  intro j h1 h2
  have := e j h1
  rwa [getD_lt _ _ _ h1, getD_lt _ _ _ h2] at this
theorem u64_range (x : Int) : 0 ≤ IntKind.u64.wrap x ∧ IntKind.u64.wrap x ≤ 18446744073709551615 := by
  simp [IntKind.wrap, IntKind.signed, IntKind.bits]; omega
theorem and255 (x : Int) : 0 ≤ wrap64 (Go.bits .and .u64 (IntKind.u64.wrap x / 1099511627776) 255) ∧ wrap64 (Go.bits .and .u64 (IntKind.u64.wrap x / 1099511627776) 255) ≤ 255 := by
  obtain ⟨h0, h1⟩ := u64_range x
  obtain ⟨y, hy⟩ : ∃ y, y = IntKind.u64.wrap x / 1099511627776 := ⟨_, rfl⟩
  rw [← hy]
  have h := bits_and_u64_nat y.toNat 255 (by omega) (by omega)
  have e : ((y.toNat : Nat) : Int) = y := by omega
  have h2 : bits BinOp.and IntKind.u64 y 255 = ((y.toNat &&& 255 : Nat) : Int) := by rw [← e]; exact h
  have h3 : y.toNat &&& 255 ≤ 255 := Nat.and_le_right
  rw [show Go.bits .and .u64 y 255 = bits BinOp.and IntKind.u64 y 255 from rfl, h2, wrap_id (by omega) (by omega)]
  omega
theorem next_ok (l : List Int) (hb : ∀ x ∈ l, 0 ≤ x ∧ x ≤ 255) (p s : Int) (h0 : 0 ≤ p) (h1 : p ≤ 4611686018427387904) : ∃ v s', spec_l1Cur_next.f l p s = some (v, p + 1, s') ∧ 0 ≤ v ∧ v ≤ 255 := by
  unfold spec_l1Cur_next.f
  have e : wrap64 (p + 1) = p + 1 := wrap_id (by omega) (by omega)
  by_cases c : p < (l.length : Int)
  · have hm : rd l p ∈ l := by
      have : rd l p = l.getD p.toNat 0 := by simp [rd]
      rw [this, List.getD_eq_getElem?_getD, List.getElem?_eq_getElem (by omega), Option.getD_some]
      exact List.getElem_mem _
    obtain ⟨b0, b1⟩ := hb _ hm
    rw [if_pos c, if_pos h0, e, if_pos (by omega)]
    exact ⟨_, _, rfl, by rw [wrap_id (by omega) (by omega)]; exact ⟨b0, b1⟩⟩
  · rw [if_neg c, e, if_neg (by omega)]
    exact ⟨_, _, rfl, and255 _⟩
theorem tmod_range (x a : Int) (h0 : 0 ≤ x) (ha : 1 ≤ a) : 0 ≤ Int.tmod x a ∧ Int.tmod x a < a := ⟨Int.tmod_nonneg a h0, Int.tmod_lt_of_pos x (by omega)⟩
theorem pick_ok (l : List Int) (hb : ∀ x ∈ l, 0 ≤ x ∧ x ≤ 255) (p s a : Int) (h0 : 0 ≤ p) (h1 : p ≤ 4611686018427387000) (ha : 1 ≤ a) :
    ∃ v p' s', spec_l1Cur_pick.f l p s a = some (v, p', s') ∧ p ≤ p' ∧ p' ≤ p + 2 ∧ 0 ≤ v ∧ v < a := by
  unfold spec_l1Cur_pick.f
  by_cases c : a ≤ 1
  · rw [if_pos c]; exact ⟨0, p, s, rfl, by omega, by omega, by omega, by omega⟩
  · obtain ⟨v, s1, e1, v0, v1⟩ := next_ok l hb p s h0 (by omega)
    rw [if_neg c, e1, Option.bind_some]
    by_cases c2 : a > 200
    · obtain ⟨u, s2, e2, u0, u1⟩ := next_ok l hb (p + 1) s1 (by omega) (by omega)
      rw [if_pos c2]; dsimp only; rw [e2, Option.bind_some, if_neg (by omega)]
      have q : 0 ≤ wrap64 (wrap64 (v * 256) + u) := by rw [wrap_id (x := v * 256) (by omega) (by omega), wrap_id (by omega) (by omega)]; omega
      exact ⟨_, _, _, rfl, by dsimp only; omega, by dsimp only; omega, tmod_range _ a q ha⟩
    · rw [if_neg c2, if_neg (by omega)]
      exact ⟨_, _, _, rfl, by dsimp only; omega, by dsimp only; omega, tmod_range _ a v0 ha⟩
theorem one_ok (l : List Int) (hb : ∀ x ∈ l, 0 ≤ x ∧ x ≤ 255) (p s a : Int) (h0 : 0 ≤ p) (h1 : p ≤ 4611686018427387000) (ha : 1 ≤ a) :
    ∃ b p' s', spec_l1Cur_one.f l p s a = some (b, p', s') ∧ p ≤ p' ∧ p' ≤ p + 2 := by
  obtain ⟨v, p', s', e, q0, q1, _, _⟩ := pick_ok l hb p s a h0 h1 ha
  unfold spec_l1Cur_one.f
  rw [e]; exact ⟨_, _, _, rfl, q0, q1⟩
theorem among_ok (l : List Int) (hb : ∀ x ∈ l, 0 ≤ x ∧ x ≤ 255) (p s : Int) (h0 : 0 ≤ p) (h1 : p ≤ 4611686018427387000) (xs : List Int) (hx : 1 ≤ xs.length) :
    ∃ v p' s', spec_l1Cur_among.f l p s xs = some (v, p', s') ∧ p ≤ p' ∧ p' ≤ p + 2 ∧ v ∈ xs := by
  obtain ⟨v, p', s', e, q0, q1, v0, v1⟩ := pick_ok l hb p s (xs.length : Int) h0 h1 (by omega)
  unfold spec_l1Cur_among.f
  rw [e, Option.bind_some, if_pos v0, if_pos v1]
  refine ⟨_, _, _, rfl, q0, q1, ?_⟩
  have : rd xs v = xs.getD v.toNat 0 := by simp [rd]
  dsimp only
  rw [this, List.getD_eq_getElem?_getD, List.getElem?_eq_getElem (by omega), Option.getD_some]
  exact List.getElem_mem _
theorem bytes_of (l : List Int) (h : ∀ x ∈ l, (Lit.int .u8 x).wf = true) : ∀ x ∈ l, 0 ≤ x ∧ x ≤ 255 := by
  intro x hx
  have := h x hx
  simpa [Lit.wf, IntKind.min, IntKind.max, IntKind.signed, IntKind.bits] using this
theorem course_l0 (l : List Int) (hb : ∀ x ∈ l, 0 ≤ x ∧ x ≤ 255) : ∀ (n : Nat) (xs : List S41) (at_ p s : Int), xs.length + n ≤ 20 → 0 ≤ p → p + 6 * n ≤ 4611686018427370000 →
    ∃ r : List S41 × Int × Int, (r.1.length ≤ 20 ∧ p ≤ r.2.1 ∧ r.2.1 ≤ p + 6 * n + 10) ∧ Evt fun k => spec_l1Cur_course.l0 k xs at_ (n : Int) l p s = some r := by
  intro n
  induction n with
  | zero =>
    intro xs at_ p s hx h0 h1
    by_cases he : (xs.length : Int) = 0
    · refine ⟨(xs, p, s), ⟨by dsimp only; omega, by dsimp only; omega, by dsimp only; omega⟩, Evt.succ (Evt.all fun k => ?_)⟩
      simp only [spec_l1Cur_course.l0]
      rw [if_neg (by omega), if_pos he]
    · obtain ⟨v, p1, s1, e1, a1, b1, v0, v1⟩ := pick_ok l hb p s (xs.length : Int) h0 (by omega) (by omega)
      obtain ⟨q, p2, s2, e2, a2, b2, q0, q1⟩ := pick_ok l hb p1 s1 40 (by omega) (by omega) (by omega)
      obtain ⟨u1, p3, s3, e3, a3, b3, _⟩ := among_ok l hb p2 s2 (by omega) (by omega) [-1, (rd_T41 xs v).f1, 0] (by simp)
      obtain ⟨u2, p4, s4, e4, a4, b4, _⟩ := among_ok l hb p2 s2 (by omega) (by omega) [240, 241, (rd_T41 xs v).f0] (by simp)
      obtain ⟨u3, p5, s5, e5, a5, b5, _⟩ := among_ok l hb p2 s2 (by omega) (by omega) [0, 4, 1] (by decide)
      have base : ∀ k, spec_l1Cur_course.l0 (k + 1) xs at_ ((0 : Nat) : Int) l p s = if q = 0 then (some ((xs.set (v : Int).toNat (⟨u1, (rd_T41 xs v).f1, (rd_T41 xs v).f2⟩ : S41)), p3, s3)) else if q = 1 then (some ((xs.set (v : Int).toNat (⟨(rd_T41 xs v).f0, u2, (rd_T41 xs v).f2⟩ : S41)), p4, s4)) else if q = 2 then (some ((xs.set (v : Int).toNat (⟨(rd_T41 xs v).f0, (rd_T41 xs v).f1, u3⟩ : S41)), p5, s5)) else (some ((xs.set (v : Int).toNat (⟨(rd_T41 xs v).f0, (rd_T41 xs v).f1, (rd_T41 xs v).f2⟩ : S41)), p2, s2)) := by
        intro k
        simp only [spec_l1Cur_course.l0]
        rw [if_neg (by omega), if_neg he, e1, Option.bind_some]; dsimp only
        rw [if_pos v0, if_pos v1, e2, Option.bind_some]; dsimp only
        rw [e3, e4, e5]; rfl
      by_cases k0 : q = 0
      · refine ⟨(xs.set (v : Int).toNat (⟨u1, (rd_T41 xs v).f1, (rd_T41 xs v).f2⟩ : S41), p3, s3), ⟨by simp; omega, by dsimp only; omega, by dsimp only; omega⟩, Evt.succ (Evt.all fun k => ?_)⟩
        rw [base, if_pos k0]
      · by_cases k1 : q = 1
        · refine ⟨(xs.set (v : Int).toNat (⟨(rd_T41 xs v).f0, u2, (rd_T41 xs v).f2⟩ : S41), p4, s4), ⟨by simp; omega, by dsimp only; omega, by dsimp only; omega⟩, Evt.succ (Evt.all fun k => ?_)⟩
          rw [base, if_neg k0, if_pos k1]
        · by_cases k2 : q = 2
          · refine ⟨(xs.set (v : Int).toNat (⟨(rd_T41 xs v).f0, (rd_T41 xs v).f1, u3⟩ : S41), p5, s5), ⟨by simp; omega, by dsimp only; omega, by dsimp only; omega⟩, Evt.succ (Evt.all fun k => ?_)⟩
            rw [base, if_neg k0, if_neg k1, if_pos k2]
          · refine ⟨(xs.set (v : Int).toNat (⟨(rd_T41 xs v).f0, (rd_T41 xs v).f1, (rd_T41 xs v).f2⟩ : S41), p2, s2), ⟨by simp; omega, by dsimp only; omega, by dsimp only; omega⟩, Evt.succ (Evt.all fun k => ?_)⟩
            rw [base, if_neg k0, if_neg k1, if_neg k2]
  | succ n ih =>
    intro xs at_ p s hx h0 h1
    obtain ⟨u, p1, s1, e1, a1, b1, _⟩ := among_ok l hb p s h0 (by omega) [1, 2, 6, 12] (by decide)
    obtain ⟨v, p2, s2, e2, a2, b2, v0, v1⟩ := pick_ok l hb p1 s1 3 (by omega) (by omega) (by omega)
    obtain ⟨g, p3, s3, e3, a3, b3, _⟩ := among_ok l hb p2 s2 (by omega) (by omega) [0, 0, 1, 5] (by decide)
    have hn : wrap64 (((n + 1 : Nat) : Int) - 1) = (n : Int) := by rw [wrap_id (by omega) (by omega)]; omega
    have go : ∀ t : S41, ∃ r : List S41 × Int × Int, (r.1.length ≤ 20 ∧ p ≤ r.2.1 ∧ r.2.1 ≤ p + 6 * (n + 1 : Nat) + 10) ∧ Evt fun k => spec_l1Cur_course.l0 k (xs ++ [t]) (wrap64 ((wrap64 (at_ + u)) + g)) (n : Int) l p3 s3 = some r := by
      intro t
      obtain ⟨r, ⟨r1, r2, r3⟩, ev⟩ := ih (xs ++ [t]) (wrap64 ((wrap64 (at_ + u)) + g)) p3 s3 (by simp; omega) (by omega) (by omega)
      exact ⟨r, ⟨r1, by omega, by omega⟩, ev⟩
    have hx2 : xs.length < 5864062014805 := by omega
    have step : ∃ t : S41, ∀ k, spec_l1Cur_course.l0 (k + 1) xs at_ ((n + 1 : Nat) : Int) l p s = spec_l1Cur_course.l0 k (xs ++ [t]) (wrap64 ((wrap64 (at_ + u)) + g)) (n : Int) l p3 s3 := by
      by_cases c0 : (xs.length : Int) > 0
      · have w : wrap64 ((xs.length : Int) - 1) = (xs.length : Int) - 1 := wrap_id (by omega) (by omega)
        by_cases c1 : (rd_T41 xs ((xs.length : Int) - 1)).f1 = at_
        · by_cases c2 : (rd_T41 xs ((xs.length : Int) - 1)).f2 = wrap64 (1 + v)
          · refine ⟨⟨at_, wrap64 (at_ + u), wrap64 (1 + (Int.tmod (wrap64 (1 + v)) 3))⟩, fun k => ?_⟩
            simp only [spec_l1Cur_course.l0]
            rw [if_pos (by omega), e1, Option.bind_some]; dsimp only
            rw [e2, Option.bind_some, if_pos c0, w, if_pos (by omega), if_pos (by omega)]; dsimp only
            rw [if_pos c1, if_pos c2, if_pos hx2, e3, Option.bind_some, hn]
          · refine ⟨⟨at_, wrap64 (at_ + u), wrap64 (1 + v)⟩, fun k => ?_⟩
            simp only [spec_l1Cur_course.l0]
            rw [if_pos (by omega), e1, Option.bind_some]; dsimp only
            rw [e2, Option.bind_some, if_pos c0, w, if_pos (by omega), if_pos (by omega)]; dsimp only
            rw [if_pos c1, if_neg c2, if_pos hx2, e3, Option.bind_some, hn]
        · refine ⟨⟨at_, wrap64 (at_ + u), wrap64 (1 + v)⟩, fun k => ?_⟩
          simp only [spec_l1Cur_course.l0]
          rw [if_pos (by omega), e1, Option.bind_some]; dsimp only
          rw [e2, Option.bind_some, if_pos c0, w, if_pos (by omega), if_pos (by omega)]; dsimp only
          rw [if_neg c1, if_pos hx2, e3, Option.bind_some, hn]
      · refine ⟨⟨at_, wrap64 (at_ + u), wrap64 (1 + v)⟩, fun k => ?_⟩
        simp only [spec_l1Cur_course.l0]
        rw [if_pos (by omega), e1, Option.bind_some]; dsimp only
        rw [e2, Option.bind_some, if_neg c0]; dsimp only
        rw [if_pos hx2, e3, Option.bind_some, hn]
    obtain ⟨t, ht⟩ := step
    obtain ⟨r, hr, ev⟩ := go t
    exact ⟨r, hr, Evt.succ (ev.mono fun k hk => by rw [ht]; exact hk)⟩
theorem course_draw (l : List Int) (hb : ∀ x ∈ l, 0 ≤ x ∧ x ≤ 255) (p s : Int) (h0 : 0 ≤ p) (h1 : p ≤ 4611686018427360000) :
    ∃ r : List S41 × Int × Int, (r.1.length ≤ 20 ∧ p ≤ r.2.1 ∧ r.2.1 ≤ p + 200) ∧ Evt fun k => spec_l1Cur_course.f k l p s = some r := by
  obtain ⟨u, p1, s1, e1, a1, b1, _⟩ := among_ok l hb p s h0 (by omega) [0, 0, 3, 10] (by decide)
  obtain ⟨v, p2, s2, e2, a2, b2, v0, v1⟩ := pick_ok l hb p1 s1 7 (by omega) (by omega) (by omega)
  obtain ⟨o, p3, s3, e3, a3, b3⟩ := one_ok l hb p2 s2 16 (by omega) (by omega) (by omega)
  obtain ⟨g, p4, s4, e4, a4, b4, g0, g1⟩ := pick_ok l hb p3 s3 3 (by omega) (by omega) (by omega)
  obtain ⟨r, ⟨r1, r2, r3⟩, ev⟩ := course_l0 l hb v.toNat [] u p3 s3 (by simp; omega) (by omega) (by omega)
  obtain ⟨q, ⟨q1, q2, q3⟩, ew⟩ := course_l0 l hb (11 + g).toNat [] u p4 s4 (by simp; omega) (by omega) (by omega)
  rw [show ((v.toNat : Nat) : Int) = v by omega] at ev
  rw [show (((11 + g).toNat : Nat) : Int) = 11 + g by omega] at ew
  cases o with
  | true =>
    refine ⟨q, ⟨q1, by omega, by omega⟩, Evt.succ (ew.mono fun k hk => ?_)⟩
    simp only [spec_l1Cur_course.f, Option.bind_some, e1, e2, e3, e4, if_true, spec_l1Cur_course.j0]
    rw [wrap_id (by omega) (by omega)]; exact hk
  | false =>
    refine ⟨r, ⟨r1, by omega, by omega⟩, Evt.succ (ev.mono fun k hk => ?_)⟩
    simp only [spec_l1Cur_course.f, Option.bind_some, e1, e2, e3, spec_l1Cur_course.j0]
    exact hk
theorem DrawIsValidCourse_ev (l : List Int) (hb : ∀ x ∈ l, 0 ≤ x ∧ x ≤ 255) : ∃ c, List.length (c : List S41) ≤ 20 ∧ Evt fun k => spec_DrawIsValidCourse.f k l = some c := by
  obtain ⟨⟨c, p1, s1⟩, ⟨r1, r2, r3⟩, ev⟩ := course_draw l hb 0 0 (by omega) (by omega)
  exact ⟨c, r1, ev.mono fun k hk => by simp only [spec_DrawIsValidCourse.f, hk, Option.bind_some]⟩
theorem DrawHigherCourse_ev (l : List Int) (hb : ∀ x ∈ l, 0 ≤ x ∧ x ≤ 255) : ∃ a b, List.length (a : List S41) ≤ 20 ∧ List.length (b : List S41) ≤ 20 ∧ Evt fun k => spec_DrawHigherCourse.f k l = some (a, b) := by
  obtain ⟨⟨a, p1, s1⟩, ⟨r1, r2, r3⟩, ev⟩ := course_draw l hb 0 0 (by omega) (by omega)
  dsimp only at r1 r2 r3
  obtain ⟨⟨b, p2, s2⟩, ⟨q1, q2, q3⟩, ew⟩ := course_draw l hb p1 s1 (by omega) (by omega)
  exact ⟨a, b, r1, q1, (ev.and ew).mono fun k hk => by simp only [spec_DrawHigherCourse.f, hk.1, hk.2, Option.bind_some]⟩
theorem DrawShiftCourse_ev (l : List Int) (hb : ∀ x ∈ l, 0 ≤ x ∧ x ≤ 255) : ∃ a h, List.length (a : List S41) ≤ 20 ∧ (-241 ≤ h ∧ h ≤ 241) ∧ Evt fun k => spec_DrawShiftCourse.f k l = some (a, h) := by
  obtain ⟨⟨a, p1, s1⟩, ⟨r1, r2, r3⟩, ev⟩ := course_draw l hb 0 0 (by omega) (by omega)
  dsimp only at r1 r2 r3
  obtain ⟨d, p3, s3, e3, a3, b3, m⟩ := among_ok l hb p1 s1 (by omega) (by omega) [0, 1, -1, 24, 200, 240, -240, 241, -241] (by decide)
  simp only [List.mem_cons, List.not_mem_nil, or_false] at m
  exact ⟨a, d, r1, by omega, ev.mono fun k hk => by simp only [spec_DrawShiftCourse.f, hk, e3, Option.bind_some]⟩
theorem rInts_self (l : List Int) (hl : l.length ≤ 4503599627370496) : Evt fun k => laws_rInts.f k l l = some true := by
  refine Evt.mono (P := fun k => laws_rInts.l0 k l l 0 = some true) ?_ (fun k hk => by unfold laws_rInts.f; rw [if_pos rfl]; exact hk)
  refine evt_loop0 l.length (fun k (_ : Unit) i => laws_rInts.l0 k l l i) true (fun _ _ => True) ?_ ?_ () trivial
  · rintro i s hi _
    refine .inl ⟨(), trivial, 1, Evt.all fun k => ?_⟩
    show laws_rInts.l0 (k + 1) l l (i : Int) = _
    simp only [laws_rInts.l0]
    rw [if_pos (by omega), if_pos (by omega), if_pos (by omega), wrap_id (by omega) (by omega)]; simp
  · rintro s _
    refine Evt.succ (Evt.all fun k => ?_)
    show laws_rInts.l0 (k + 1) l l (l.length : Int) = _
    simp only [laws_rInts.l0]
    rw [if_neg (by omega)]
theorem within_ok (a b c : Int) : impl_within.f a b c = some (decide (b ≤ a ∧ a ≤ c)) := by
  unfold impl_within.f
  split <;> simp <;> omega
theorem l1In_ok (a b c : Int) : spec_l1In.f a b c = some (decide (b ≤ a ∧ a ≤ c)) := by
  unfold spec_l1In.f
  split <;> simp <;> omega
theorem segHours_ok (a b c : Int) : impl_areSegmentHours.f a b c = some (decide (0 ≤ a ∧ a < b ∧ b ≤ 240)) := by
  unfold impl_areSegmentHours.f
  split
  · split
    · exact congrArg some (decide_eq_decide.2 (by omega))
    · rw [decide_eq_false (by omega)]
  · rw [decide_eq_false (by omega)]
theorem l18Hours_ok (a b c : Int) : spec_l18Hours.f a b c = some (decide (0 ≤ a ∧ a < b ∧ b ≤ 240)) := by
  unfold spec_l18Hours.f
  split
  · split
    · exact congrArg some (decide_eq_decide.2 (by omega))
    · rw [decide_eq_false (by omega)]
  · rw [decide_eq_false (by omega)]
def segB (s : S41) : Bool := decide (0 ≤ s.f0 ∧ s.f0 < s.f1 ∧ s.f1 ≤ 240) && decide (1 ≤ s.f2 ∧ s.f2 ≤ 3)
def pairB (p s : S41) : Bool := decide (¬ (p.f1 > s.f0) ∧ ¬ (p.f1 = s.f0 ∧ p.f2 = s.f2))
def atB (l : List S41) (i : Nat) : Bool := segB (l.getD i z41) && (decide (i = 0) || pairB (l.getD (i - 1) z41) (l.getD i z41))
def courseB (l : List S41) : Bool := decide (∀ i, i < l.length → atB l i = true) && decide (l.length ≤ 12)
theorem courseB_seg {l : List S41} (h : courseB l = true) : ∀ s ∈ l, segB s = true := by
  intro s hs
  unfold courseB at h
  simp only [Bool.and_eq_true, decide_eq_true_eq] at h
  obtain ⟨i, hi, rfl⟩ := List.mem_iff_getElem.1 hs
  have := h.1 i hi
  unfold atB at this
  simp only [Bool.and_eq_true] at this
  rw [getD_lt _ _ _ hi] at this
  exact this.1
theorem courseB_len {l : List S41} (h : courseB l = true) : l.length ≤ 12 := by
  unfold courseB at h
  simp only [Bool.and_eq_true, decide_eq_true_eq] at h
  exact h.2
theorem rd_seg (l : List S41) (i : Nat) : rd_T41 l (i : Int) = l.getD i z41 := by unfold rd_T41; rw [Int.toNat_natCast]
theorem rd_seg_pred (l : List S41) (i : Nat) : rd_T41 l ((i : Int) - 1) = l.getD (i - 1) z41 := by unfold rd_T41; congr 1; omega
theorem validCourse_step (l : List S41) (hl : l.length ≤ 4503599627370496) (k i : Nat) (hi : i < l.length) :
    impl_IsValidCourse.l0 (k + 2) l l (l.length : Int) (i : Int) = if atB l i = true then impl_IsValidCourse.l0 k l l (l.length : Int) ((i : Int) + 1) else some false := by
  obtain ⟨s, hs⟩ : ∃ s, l.getD i z41 = s := ⟨_, rfl⟩
  obtain ⟨p, hp⟩ : ∃ p, l.getD (i - 1) z41 = p := ⟨_, rfl⟩
  have w1 : wrap64 ((i : Int) + 1) = (i : Int) + 1 := wrap_id (by omega) (by omega)
  have w2 : wrap64 ((i : Int) - 1) = (i : Int) - 1 := wrap_id (by omega) (by omega)
  simp only [impl_IsValidCourse.l0]
  rw [if_pos (by omega), if_pos (by omega), if_pos (by omega)]
  simp only [impl_IsValidCourse.j1, segHours_ok, within_ok, Option.bind_some, rd_seg, w1, w2, rd_seg_pred, atB, segB, pairB, hs, hp]
  by_cases h1 : 0 ≤ s.f0 ∧ s.f0 < s.f1 ∧ s.f1 ≤ 240
  · by_cases h2 : 1 ≤ s.f2 ∧ s.f2 ≤ 3
    · by_cases h3 : i = 0
      · subst h3; simp [h1, h2]
      · have h4 : (i : Int) > 0 := by omega
        have h5 : 0 ≤ (i : Int) - 1 := by omega
        have h6 : (i : Int) - 1 < (l.length : Int) := by omega
        simp only [decide_eq_true h1, decide_eq_true h2, if_pos h4, if_pos h5, if_pos h6, if_true, Bool.not_true, Bool.true_and, decide_eq_false h3, Bool.false_or]
        by_cases h7 : p.f1 > s.f0
        · simp [h7]
        · by_cases h8 : p.f1 = s.f0
          · by_cases h9 : p.f2 = s.f2 <;> simp [h8, h9]
          · simp [h7, h8]
    · simp [h1, h2]
  · simp [h1]
theorem IsValidCourse_ev (l : List S41) (hl : l.length ≤ 4503599627370496) : Evt fun k => impl_IsValidCourse.f k l = some (courseB l) := by
  unfold impl_IsValidCourse.f
  refine evt_loop0 l.length (fun k (_ : Unit) i => impl_IsValidCourse.l0 k l l (l.length : Int) i) (courseB l) (fun i _ => ∀ j, j < i → atB l j = true) ?_ ?_ () (fun j hj => by omega)
  · intro i s hi h
    by_cases hb : atB l i = true
    · refine .inl ⟨(), fun j hj => ?_, 2, Evt.all fun k => ?_⟩
      · by_cases e : j = i
        · subst e; exact hb
        · exact h j (by omega)
      · show impl_IsValidCourse.l0 (k + 2) l l (l.length : Int) (i : Int) = _
        rw [validCourse_step l hl k i hi, if_pos hb]
    · refine .inr (Evt.add 2 (Evt.all fun k => ?_))
      show impl_IsValidCourse.l0 (k + 2) l l (l.length : Int) (i : Int) = _
      rw [validCourse_step l hl k i hi, if_neg hb]
      unfold courseB
      rw [decide_eq_false (fun hA => hb (hA i hi)), Bool.false_and]
  · intro s h
    refine Evt.succ (Evt.all fun k => ?_)
    show impl_IsValidCourse.l0 (k + 1) l l (l.length : Int) (l.length : Int) = _
    simp only [impl_IsValidCourse.l0]
    rw [if_neg (by omega)]
    unfold courseB
    rw [decide_eq_true h, Bool.true_and]
    exact congrArg some (decide_eq_decide.2 (by omega))
theorem l18Good_step (l : List S41) (hl : l.length ≤ 4503599627370496) (k i : Nat) (hi : i < l.length) :
    spec_l18Good.l0 (k + 2) l (i : Int) = if atB l i = true then spec_l18Good.l0 k l ((i : Int) + 1) else some false := by
  obtain ⟨s, hs⟩ : ∃ s, l.getD i z41 = s := ⟨_, rfl⟩
  obtain ⟨p, hp⟩ : ∃ p, l.getD (i - 1) z41 = p := ⟨_, rfl⟩
  have w1 : wrap64 ((i : Int) + 1) = (i : Int) + 1 := wrap_id (by omega) (by omega)
  have w2 : wrap64 ((i : Int) - 1) = (i : Int) - 1 := wrap_id (by omega) (by omega)
  have g1 : 0 ≤ (i : Int) := by omega
  have g2 : (i : Int) < (l.length : Int) := by omega
  simp only [spec_l18Good.l0]
  rw [if_pos (by omega), if_pos (by omega)]
  simp only [spec_l18Good.j1, l18Hours_ok, l1In_ok, Option.bind_some, rd_seg, w1, w2, rd_seg_pred, atB, segB, pairB, hs, hp, if_pos g1, if_pos g2]
  by_cases h1 : 0 ≤ s.f0 ∧ s.f0 < s.f1 ∧ s.f1 ≤ 240
  · by_cases h2 : 1 ≤ s.f2 ∧ s.f2 ≤ 3
    · by_cases h3 : i = 0
      · subst h3; simp [h1, h2]
      · have h4 : (i : Int) > 0 := by omega
        have h5 : 0 ≤ (i : Int) - 1 := by omega
        have h6 : (i : Int) - 1 < (l.length : Int) := by omega
        simp only [decide_eq_true h1, decide_eq_true h2, if_pos h4, if_pos h5, if_pos h6, if_true, Bool.not_true, Bool.true_and, decide_eq_false h3, Bool.false_or]
        by_cases h7 : p.f1 > s.f0
        · simp [h7]
        · by_cases h8 : p.f1 = s.f0
          · by_cases h9 : p.f2 = s.f2 <;> simp [h8, h9]
          · simp [h7, h8]
    · simp [h1, h2]
  · simp [h1]
theorem l18Good_ev (l : List S41) (hl : l.length ≤ 4503599627370496) : Evt fun k => spec_l18Good.f k l = some (courseB l) := by
  unfold spec_l18Good.f
  refine evt_loop0 l.length (fun k (_ : Unit) i => spec_l18Good.l0 k l i) (courseB l) (fun i _ => ∀ j, j < i → atB l j = true) ?_ ?_ () (fun j hj => by omega)
  · intro i s hi h
    by_cases hb : atB l i = true
    · refine .inl ⟨(), fun j hj => ?_, 2, Evt.all fun k => ?_⟩
      · by_cases e : j = i
        · subst e; exact hb
        · exact h j (by omega)
      · show spec_l18Good.l0 (k + 2) l (i : Int) = _
        rw [l18Good_step l hl k i hi, if_pos hb]
    · refine .inr (Evt.add 2 (Evt.all fun k => ?_))
      show spec_l18Good.l0 (k + 2) l (i : Int) = _
      rw [l18Good_step l hl k i hi, if_neg hb]
      unfold courseB
      rw [decide_eq_false (fun hA => hb (hA i hi)), Bool.false_and]
  · intro s h
    refine Evt.succ (Evt.all fun k => ?_)
    show spec_l18Good.l0 (k + 1) l (l.length : Int) = _
    simp only [spec_l18Good.l0]
    rw [if_neg (by omega)]
    unfold courseB
    rw [decide_eq_true h, Bool.true_and]
    exact congrArg some (decide_eq_decide.2 (by omega))
theorem rCourses_self (l : List S41) (hl : l.length ≤ 4503599627370496) : Evt fun k => laws_rCourses.f k l l = some true := by
  refine Evt.mono (P := fun k => laws_rCourses.l0 k l l 0 = some true) ?_ (fun k hk => by unfold laws_rCourses.f; rw [if_pos rfl]; exact hk)
  refine evt_loop0 l.length (fun k (_ : Unit) i => laws_rCourses.l0 k l l i) true (fun _ _ => True) ?_ ?_ () trivial
  · rintro i s hi _
    refine .inl ⟨(), trivial, 1, Evt.all fun k => ?_⟩
    show laws_rCourses.l0 (k + 1) l l (i : Int) = _
    simp only [laws_rCourses.l0]
    rw [if_pos (by omega), if_pos (by omega), if_pos (by omega), wrap_id (by omega) (by omega)]; simp
  · rintro s _
    refine Evt.succ (Evt.all fun k => ?_)
    show laws_rCourses.l0 (k + 1) l l (l.length : Int) = _
    simp only [laws_rCourses.l0]
    rw [if_neg (by omega)]
def setR (acc : List Int) (a b v : Int) : List Int := acc.mapIdx fun i x => if a ≤ (i : Int) ∧ (i : Int) < b then v else x
theorem setR_len (acc : List Int) (a b v : Int) : (setR acc a b v).length = acc.length := by simp [setR]
theorem setR_get (acc : List Int) (a b v : Int) (j : Nat) (h : j < acc.length) : (setR acc a b v).getD j 0 = if a ≤ (j : Int) ∧ (j : Int) < b then v else acc.getD j 0 := by
  rw [getD_lt _ _ _ (by rw [setR_len]; exact h), getD_lt _ _ _ h]
  simp [setR]
theorem setR_none (acc : List Int) (a b v : Int) (h : b ≤ a) : setR acc a b v = acc := by
  refine list_ext_getD _ _ 0 (setR_len _ _ _ _) (fun j hj => ?_)
  rw [setR_get _ _ _ _ _ (by rwa [setR_len] at hj), if_neg (by omega)]
theorem setR_set (acc : List Int) (a b v : Int) (h0 : 0 ≤ a) (h : a < b) (hb : b ≤ acc.length) : setR (acc.set a.toNat v) (a + 1) b v = setR acc a b v := by
  refine list_ext_getD _ _ 0 (by rw [setR_len, setR_len, List.length_set]) (fun j hj => ?_)
  rw [setR_len, List.length_set] at hj
  rw [setR_get _ _ _ _ _ (by rw [List.length_set]; exact hj), setR_get _ _ _ _ _ hj]
  by_cases e : j = a.toNat
  · subst e
    rw [if_neg (by omega), if_pos (by omega), getD_set_self _ _ _ _ hj]
  · rw [getD_set_ne _ _ _ _ _ (by omega)]
    by_cases g : a + 1 ≤ (j : Int) ∧ (j : Int) < b
    · rw [if_pos g, if_pos (by omega)]
    · rw [if_neg g, if_neg (by omega)]
def levelsV (l : List S41) : List Int := l.foldl (fun acc s => setR acc s.f0 s.f1 s.f2) (List.replicate 240 0)
theorem levels_fold_len (l : List S41) : ∀ acc : List Int, (l.foldl (fun acc s => setR acc s.f0 s.f1 s.f2) acc).length = acc.length := by
  induction l with
  | nil => intro acc; rfl
  | cons s l ih => intro acc; rw [List.foldl_cons, ih, setR_len]
theorem levelsV_len (l : List S41) : (levelsV l).length = 240 := by
  unfold levelsV; rw [levels_fold_len, List.length_replicate]
theorem levels_fold_le (l : List S41) (hv : ∀ s ∈ l, segB s = true) : ∀ acc : List Int, (∀ x ∈ acc, 0 ≤ x ∧ x ≤ 3) → ∀ x ∈ l.foldl (fun acc s => setR acc s.f0 s.f1 s.f2) acc, 0 ≤ x ∧ x ≤ 3 := by
  induction l with
  | nil => intro acc h; exact h
  | cons s l ih =>
    intro acc h
    rw [List.foldl_cons]
    refine ih (fun t ht => hv t (List.mem_cons_of_mem _ ht)) _ (fun x hx => ?_)
    have hs := hv s List.mem_cons_self
    unfold segB at hs
    simp only [Bool.and_eq_true, decide_eq_true_eq] at hs
    obtain ⟨i, hi, rfl⟩ := List.mem_iff_getElem.1 hx
    rw [setR_len] at hi
    have := setR_get acc s.f0 s.f1 s.f2 i hi
    rw [getD_lt _ _ _ (by rw [setR_len]; exact hi)] at this
    rw [this]
    split
    · omega
    · rw [getD_lt _ _ _ hi]; exact h _ (List.getElem_mem _)
theorem levelsV_le {l : List S41} (hv : ∀ s ∈ l, segB s = true) : ∀ x ∈ levelsV l, 0 ≤ x ∧ x ≤ 3 :=
  levels_fold_le l hv _ (fun x hx => by rw [List.eq_of_mem_replicate hx]; omega)
theorem levelsOf_inner (l : List S41) (n i a b v : Int) : ∀ (d : Nat) (h : Int) (acc : List Int) (k : Nat), h + d = b → 0 ≤ h → b ≤ acc.length → acc.length ≤ 4503599627370496 →
    impl_levelsOf.l1 (k + (d + 1)) acc h l n i a b v = impl_levelsOf.l0 k (setR acc h b v) l n (wrap64 (i + 1)) := by
  intro d
  induction d with
  | zero =>
    intro h acc k e h0 hb hl
    show impl_levelsOf.l1 (k + 1) acc h l n i a b v = _
    simp only [impl_levelsOf.l1]
    rw [if_neg (by omega), setR_none _ _ _ _ (by omega)]
  | succ d ih =>
    intro h acc k e h0 hb hl
    show impl_levelsOf.l1 ((k + (d + 1)) + 1) acc h l n i a b v = _
    rw [impl_levelsOf.l1]
    rw [if_pos (by omega), if_pos (by omega), if_pos (by omega), wrap_id (x := h + 1) (by omega) (by omega), ih (h + 1) _ k (by omega) (by omega) (by rw [List.length_set]; exact hb) (by rw [List.length_set]; exact hl), setR_set _ _ _ _ h0 (by omega) hb]
theorem levelsOf_ev (l : List S41) (hl : l.length ≤ 4503599627370496) (hv : ∀ s ∈ l, segB s = true) : Evt fun k => impl_levelsOf.f k l = some (levelsV l) := by
  unfold impl_levelsOf.f
  simp only [if_pos (show (240 : Nat) ≤ 35184372088832 by omega)]
  refine evt_loop0 l.length (fun k s i => impl_levelsOf.l0 k s l (l.length : Int) i) (levelsV l) (fun i s => s.length = 240 ∧ (l.drop i).foldl (fun acc s => setR acc s.f0 s.f1 s.f2) s = levelsV l) ?_ ?_ _ ⟨List.length_replicate, rfl⟩
  · rintro i s hi ⟨h1, h2⟩
    have hs := hv (l.getD i z41) (by rw [getD_lt _ _ _ hi]; exact List.getElem_mem _)
    unfold segB at hs
    simp only [Bool.and_eq_true, decide_eq_true_eq] at hs
    rw [getD_drop l z41 i hi, List.foldl_cons] at h2
    refine .inl ⟨_, ⟨by rw [setR_len]; exact h1, h2⟩, ((l.getD i z41).f1 - (l.getD i z41).f0).toNat + 1 + 1, Evt.all fun k => ?_⟩
    show impl_levelsOf.l0 ((k + (((l.getD i z41).f1 - (l.getD i z41).f0).toNat + 1)) + 1) s l (l.length : Int) (i : Int) = _
    simp only [impl_levelsOf.l0, rd_seg]
    rw [if_pos (by omega), if_pos (by omega), if_pos (by omega), levelsOf_inner _ _ _ _ _ _ _ _ _ _ (by omega) (by omega) (by omega) (by omega), wrap_id (by omega) (by omega)]
  · rintro s ⟨h1, h2⟩
    rw [List.drop_of_length_le (Nat.le_refl _)] at h2
    refine Evt.succ (Evt.all fun k => ?_)
    show impl_levelsOf.l0 (k + 1) s l (l.length : Int) (l.length : Int) = _
    simp only [impl_levelsOf.l0]
    rw [if_neg (by omega), ← h2]; rfl
theorem l18Levels_inner (l : List S41) (hl : l.length ≤ 4503599627370496) (i : Nat) (hi : i < l.length) (b v : Int) (hb0 : (l.getD i z41).f1 = b) (hv0 : (l.getD i z41).f2 = v) : ∀ (d : Nat) (h : Int) (acc : List Int) (k : Nat), h + d = b → 0 ≤ h → b ≤ acc.length → acc.length ≤ 4503599627370496 →
    spec_l18Levels.l1 (k + (d + 1)) l acc (i : Int) h = spec_l18Levels.l0 k l (setR acc h b v) ((i : Int) + 1) := by
  intro d
  induction d with
  | zero =>
    intro h acc k e h0 hb hl'
    show spec_l18Levels.l1 (k + 1) l acc (i : Int) h = _
    simp only [spec_l18Levels.l1, rd_seg, hb0, hv0]
    rw [if_pos (by omega), if_pos (by omega), if_neg (by omega), setR_none _ _ _ _ (by omega), wrap_id (by omega) (by omega)]
  | succ d ih =>
    intro h acc k e h0 hb hl'
    show spec_l18Levels.l1 ((k + (d + 1)) + 1) l acc (i : Int) h = _
    rw [spec_l18Levels.l1]
    simp only [rd_seg, hb0, hv0]
    rw [if_pos (by omega), if_pos (by omega), if_pos (by omega), if_pos (by omega), if_pos (by omega), wrap_id (x := h + 1) (by omega) (by omega), ih (h + 1) _ k (by omega) (by omega) (by rw [List.length_set]; exact hb) (by rw [List.length_set]; exact hl'), setR_set _ _ _ _ h0 (by omega) hb]
theorem l18Levels_ev (l : List S41) (hl : l.length ≤ 4503599627370496) (hv : ∀ s ∈ l, segB s = true) : Evt fun k => spec_l18Levels.f k l = some (levelsV l) := by
  unfold spec_l18Levels.f
  simp only [if_pos (show (240 : Nat) ≤ 35184372088832 by omega)]
  refine evt_loop0 l.length (fun k s i => spec_l18Levels.l0 k l s i) (levelsV l) (fun i s => s.length = 240 ∧ (l.drop i).foldl (fun acc s => setR acc s.f0 s.f1 s.f2) s = levelsV l) ?_ ?_ _ ⟨List.length_replicate, rfl⟩
  · rintro i s hi ⟨h1, h2⟩
    have hs := hv (l.getD i z41) (by rw [getD_lt _ _ _ hi]; exact List.getElem_mem _)
    unfold segB at hs
    simp only [Bool.and_eq_true, decide_eq_true_eq] at hs
    rw [getD_drop l z41 i hi, List.foldl_cons] at h2
    refine .inl ⟨_, ⟨by rw [setR_len]; exact h1, h2⟩, ((l.getD i z41).f1 - (l.getD i z41).f0).toNat + 1 + 1, Evt.all fun k => ?_⟩
    show spec_l18Levels.l0 ((k + (((l.getD i z41).f1 - (l.getD i z41).f0).toNat + 1)) + 1) l s (i : Int) = _
    simp only [spec_l18Levels.l0, rd_seg]
    rw [if_pos (by omega), if_pos (by omega), l18Levels_inner l hl i hi _ _ rfl rfl _ _ _ _ (by omega) (by omega) (by omega) (by omega)]
  · rintro s ⟨h1, h2⟩
    rw [List.drop_of_length_le (Nat.le_refl _)] at h2
    refine Evt.succ (Evt.all fun k => ?_)
    show spec_l18Levels.l0 (k + 1) l s (l.length : Int) = _
    simp only [spec_l18Levels.l0]
    rw [if_neg (by omega), ← h2]; rfl
theorem evt_meas {σ ρ : Type} (L : Nat → σ → Option ρ) (v : ρ) (Inv : σ → Prop) (m : σ → Nat)
    (step : ∀ s, Inv s → (∃ s', Inv s' ∧ m s' < m s ∧ ∃ c, Evt fun k => L (k + c) s = L k s') ∨ Evt fun k => L k s = some v) :
    ∀ s, Inv s → Evt fun k => L k s = some v := by
  have key : ∀ (n : Nat) (s : σ), m s < n → Inv s → Evt fun k => L k s = some v := by
    intro n
    induction n with
    | zero => intro s hs; omega
    | succ n ih =>
      intro s hs hi
      rcases step s hi with ⟨s', hi', hm, c, e⟩ | e
      · exact Evt.add c ((e.and (ih s' (by omega) hi')).mono fun k hk => hk.1.trans hk.2)
      · exact e
  intro s hi
  exact key (m s + 1) s (by omega) hi
def lastS (acc : List S41) : S41 := acc.getD (acc.length - 1) z41
def stepC (lv : List Int) (acc : List S41) (i : Nat) : List S41 :=
  if lv.getD i 0 = 0 then acc
  else if 0 < acc.length ∧ (lastS acc).f1 = (i : Int) ∧ (lastS acc).f2 = lv.getD i 0 then acc.set (acc.length - 1) ⟨(lastS acc).f0, (lastS acc).f1 + 1, (lastS acc).f2⟩
  else acc ++ [⟨(i : Int), (i : Int) + 1, lv.getD i 0⟩]
def runC (lv : List Int) : Nat → List S41
  | 0 => []
  | n + 1 => stepC lv (runC lv n) n
def courseV (lv : List Int) : List S41 × Bool := if 12 < (runC lv lv.length).length then ([], false) else (runC lv lv.length, true)
theorem lastS_append (acc : List S41) (s : S41) : lastS (acc ++ [s]) = s := by
  unfold lastS
  rw [List.getD_eq_getElem?_getD]
  simp
theorem lastS_set (acc : List S41) (s : S41) (h : 0 < acc.length) : lastS (acc.set (acc.length - 1) s) = s := by
  unfold lastS
  rw [List.length_set, getD_set_self _ _ _ _ (by omega)]
theorem runC_len (lv : List Int) : ∀ i, (runC lv i).length ≤ i := by
  intro i
  induction i with
  | zero => simp [runC]
  | succ i ih =>
    simp only [runC, stepC]
    split
    · omega
    · split
      · rw [List.length_set]; omega
      · rw [List.length_append, List.length_singleton]; omega
theorem runC_last (lv : List Int) : ∀ i, 0 < (runC lv i).length → (lastS (runC lv i)).f1 ≤ (i : Int) ∧ ((lastS (runC lv i)).f1 = (i : Int) → 0 < i ∧ (lastS (runC lv i)).f2 = lv.getD (i - 1) 0) := by
  intro i
  induction i with
  | zero => intro h; simp [runC] at h
  | succ i ih =>
    intro h
    simp only [runC, stepC] at h ⊢
    split at h
    · rename_i h0
      rw [if_pos h0]
      have := (ih h).1
      exact ⟨by omega, fun e => by omega⟩
    · rename_i h0
      rw [if_neg h0]
      split at h
      · rename_i h1
        rw [if_pos h1, lastS_set _ _ h1.1]
        refine ⟨by simp only; omega, fun _ => ⟨by omega, ?_⟩⟩
        simp only [Nat.add_sub_cancel]
        exact h1.2.2
      · rename_i h1
        rw [if_neg h1, lastS_append]
        refine ⟨by simp only; omega, fun _ => ⟨by omega, ?_⟩⟩
        simp only [Nat.add_sub_cancel]
theorem courseOf_ev (lv : List Int) (hl : lv.length ≤ 1000000000) : Evt fun k => impl_courseOf.f k lv = some (courseV lv) := by
  unfold impl_courseOf.f
  refine evt_loop0 lv.length (fun k s i => impl_courseOf.l0 k s lv (lv.length : Int) i) (courseV lv) (fun i s => s = runC lv i) ?_ ?_ _ rfl
  · rintro i s hi rfl
    refine .inl ⟨_, rfl, 1, Evt.all fun k => ?_⟩
    show impl_courseOf.l0 (k + 1) (runC lv i) lv (lv.length : Int) (i : Int) = impl_courseOf.l0 k (stepC lv (runC lv i) i) lv (lv.length : Int) ((i : Int) + 1)
    have hlen := runC_len lv i
    have hlast := runC_last lv i
    have w1 : wrap64 ((i : Int) + 1) = (i : Int) + 1 := wrap_id (by omega) (by omega)
    simp only [impl_courseOf.l0, rd_nat, w1]
    rw [if_pos (by omega), if_pos (by omega), if_pos (by omega)]
    unfold stepC
    by_cases h0 : lv.getD i 0 = 0
    · rw [if_pos h0, if_pos h0]
    · rw [if_neg h0, if_neg h0, if_pos (show (runC lv i).length < 5864062014805 by omega)]
      by_cases h1 : 0 < (runC lv i).length
      · have w2 : wrap64 (((runC lv i).length : Int) - 1) = ((runC lv i).length : Int) - 1 := wrap_id (by omega) (by omega)
        have e1 : rd_T41 (runC lv i) (((runC lv i).length : Int) - 1) = lastS (runC lv i) := by unfold rd_T41 lastS; congr 1; omega
        have e2 : (((runC lv i).length : Int) - 1).toNat = (runC lv i).length - 1 := by omega
        rw [if_pos (by omega), w2, if_pos (by omega), if_pos (by omega), e1, e2]
        by_cases h2 : (lastS (runC lv i)).f1 = (i : Int)
        · by_cases h3 : (lastS (runC lv i)).f2 = lv.getD i 0
          · rw [if_pos h2, if_pos h3, if_pos ⟨h1, h2, h3⟩, wrap_id (by omega) (by omega)]
          · rw [if_pos h2, if_neg h3, if_neg (fun h => h3 h.2.2)]
        · rw [if_neg h2, if_neg (fun h => h2 h.2.1)]
      · rw [if_neg (by omega), if_neg (fun h => h1 h.1)]
  · rintro s rfl
    refine Evt.succ (Evt.all fun k => ?_)
    show impl_courseOf.l0 (k + 1) (runC lv lv.length) lv (lv.length : Int) (lv.length : Int) = _
    simp only [impl_courseOf.l0]
    rw [if_neg (by omega)]
    unfold courseV
    by_cases h : 12 < (runC lv lv.length).length
    · rw [if_pos (by omega), if_pos h]
    · rw [if_neg (by omega), if_neg h]
theorem runC_run (lv : List Int) (i : Nat) (hb : i = 0 ∨ lv.getD (i - 1) 0 ≠ lv.getD i 0) : ∀ m, (∀ q, i ≤ q → q < i + (m + 1) → lv.getD q 0 = lv.getD i 0) →
    runC lv (i + (m + 1)) = if lv.getD i 0 = 0 then runC lv i else runC lv i ++ [⟨(i : Int), ((i + (m + 1) : Nat) : Int), lv.getD i 0⟩] := by
  intro m
  induction m with
  | zero =>
    intro _
    show stepC lv (runC lv i) i = _
    unfold stepC
    by_cases h0 : lv.getD i 0 = 0
    · rw [if_pos h0, if_pos h0]
    · rw [if_neg h0, if_neg h0, if_neg]
      · simp
      · rintro ⟨h1, h2, h3⟩
        have := (runC_last lv i h1).2 h2
        rcases hb with hb | hb
        · omega
        · exact hb (this.2.symm.trans h3)
  | succ m ih =>
    intro hq
    show stepC lv (runC lv (i + (m + 1))) (i + (m + 1)) = _
    rw [ih (fun q h1 h2 => hq q h1 (by omega))]
    unfold stepC
    rw [hq (i + (m + 1)) (by omega) (by omega)]
    by_cases h0 : lv.getD i 0 = 0
    · rw [if_pos h0, if_pos h0, if_pos h0]
    · rw [if_neg h0, if_neg h0, if_neg h0, if_pos ⟨by simp, by rw [lastS_append], by rw [lastS_append]⟩]
      rw [lastS_append]
      simp only [List.length_append, List.length_singleton, Nat.add_sub_cancel]
      rw [List.set_append_right _ _ (Nat.le_refl _)]
      simp
      omega
theorem l18Course_ev (lv : List Int) (hl : lv.length ≤ 1000000000) (h0 : ∀ x ∈ lv, 0 ≤ x) : Evt fun k => spec_l18Course.f k lv = some (courseV lv) := by
  unfold spec_l18Course.f
  have hge : ∀ i, i < lv.length → 0 ≤ lv.getD i 0 := fun i hi => by rw [getD_lt _ _ _ hi]; exact h0 _ (List.getElem_mem _)
  have fin : ∀ k, spec_l18Course.l0 (k + 1) lv (runC lv lv.length) (lv.length : Int) = some (courseV lv) := by
    intro k
    simp only [spec_l18Course.l0]
    rw [if_neg (by omega)]
    unfold courseV
    by_cases h : 12 < (runC lv lv.length).length
    · rw [if_pos (by omega), if_pos h]
    · rw [if_neg (by omega), if_neg h]
  have main := evt_meas (fun k (s : Nat × Nat) => spec_l18Course.l1 k lv (runC lv s.1) (s.1 : Int) (s.2 : Int)) (courseV lv)
    (fun s => s.1 < lv.length ∧ s.1 ≤ s.2 ∧ s.2 ≤ lv.length ∧ (s.1 = 0 ∨ lv.getD (s.1 - 1) 0 ≠ lv.getD s.1 0) ∧ ∀ q, s.1 ≤ q → q < s.2 → lv.getD q 0 = lv.getD s.1 0)
    (fun s => 2 * (lv.length - s.2) + if s.1 < s.2 then 1 else 0) ?_
  · refine Evt.succ ?_
    by_cases hn : 0 < lv.length
    · have := main (0, 0) ⟨hn, Nat.le_refl _, Nat.zero_le _, .inl rfl, fun q h1 h2 => by simp only at h2; omega⟩
      refine this.mono fun k hk => ?_
      simp only [spec_l18Course.l0]
      rw [if_pos (by omega)]
      exact hk
    · refine Evt.all fun k => ?_
      have := fin k
      obtain rfl : lv = [] := List.eq_nil_of_length_eq_zero (by omega)
      exact this
  · rintro ⟨i, p⟩ ⟨h1, h2, h3, hb, hq⟩
    simp only at h1 h2 h3 hb hq ⊢
    have hlen := runC_len lv i
    have run_end : i < p → runC lv p = if lv.getD i 0 = 0 then runC lv i else runC lv i ++ [⟨(i : Int), (p : Int), lv.getD i 0⟩] := by
      intro hip
      have := runC_run lv i hb (p - i - 1) (fun q a b => hq q a (by omega))
      rw [show i + (p - i - 1 + 1) = p from by omega] at this
      exact this
    by_cases hp : p < lv.length
    · by_cases he : lv.getD p 0 = lv.getD i 0
      · refine .inl ⟨(i, p + 1), ⟨h1, by simp only; omega, by simp only; omega, hb, fun q a b => ?_⟩, ?_, 1, Evt.all fun k => ?_⟩
        · simp only at a b ⊢
          by_cases hqp : q = p
          · subst hqp; exact he
          · exact hq q a (by omega)
        · simp only
          rw [if_pos (by omega)]
          split <;> omega
        · simp only [spec_l18Course.l1, rd_nat]
          rw [if_pos (by omega), if_pos (by omega), if_pos (by omega), if_pos (by omega), if_pos he, wrap_id (by omega) (by omega)]
          rfl
      · have hip : i < p := by
          rcases Nat.lt_or_ge i p with h | h
          · exact h
          · exact absurd (by rw [show p = i from by omega]) he
        have hr := run_end hip
        refine .inl ⟨(p, p), ⟨hp, Nat.le_refl _, h3, .inr ?_, fun q a b => by simp only at a b; omega⟩, ?_, 2, Evt.all fun k => ?_⟩
        · simp only
          rw [hq (p - 1) (by omega) (by omega)]
          exact fun h => he h.symm
        · simp only
          rw [if_pos hip, if_neg (by omega)]
          omega
        · simp only [spec_l18Course.l1, rd_nat]
          rw [if_pos (by omega), if_pos (by omega), if_pos (by omega), if_pos (by omega), if_neg he]
          rw [hr]
          have := hge i h1
          by_cases hz : lv.getD i 0 = 0
          · rw [if_neg (by omega), if_pos hz]
            simp only [spec_l18Course.l0]
            rw [if_pos (by omega)]
          · rw [if_pos (by omega), if_neg hz, if_pos (by omega)]
            simp only [spec_l18Course.l0]
            rw [if_pos (by omega)]
    · obtain rfl : p = lv.length := by omega
      have hr := run_end h1
      refine .inr (Evt.add 2 (Evt.all fun k => ?_))
      simp only [spec_l18Course.l1, rd_nat]
      rw [if_neg (by omega), if_pos (by omega), if_pos (by omega)]
      have := hge i h1
      have hf := fin k
      rw [hr] at hf
      by_cases hz : lv.getD i 0 = 0
      · rw [if_neg (by omega)]
        rw [if_pos hz] at hf
        exact hf
      · rw [if_pos (by omega), if_pos (by omega)]
        rw [if_neg hz] at hf
        exact hf
theorem levelsV_append (l : List S41) (s : S41) : levelsV (l ++ [s]) = setR (levelsV l) s.f0 s.f1 s.f2 := by
  unfold levelsV; rw [List.foldl_append]; rfl
theorem take_succ_getD (l : List S41) (n : Nat) (h : n < l.length) : l.take (n + 1) = l.take n ++ [l.getD n z41] := by
  rw [List.take_succ_eq_append_getElem h, getD_lt _ _ _ h]
theorem levels_nil (j : Nat) : (levelsV ([] : List S41)).getD j 0 = 0 := by
  unfold levelsV
  rw [List.foldl_nil, List.getD_eq_getElem?_getD, List.getElem?_replicate]
  split <;> rfl
theorem atB_left (acc : List S41) (s : S41) (q : Nat) (h : q < acc.length) : atB (acc ++ [s]) q = atB acc q := by
  have e : ∀ j, j < acc.length → (acc ++ [s]).getD j z41 = acc.getD j z41 := fun j hj => by
    rw [List.getD_eq_getElem?_getD, List.getElem?_append_left hj, List.getD_eq_getElem?_getD]
  unfold atB
  rw [e q h]
  by_cases c : q = 0
  · simp [c]
  · rw [e (q - 1) (by omega)]
theorem atB_new (acc : List S41) (s : S41) : atB (acc ++ [s]) acc.length = (segB s && (decide (acc.length = 0) || pairB (lastS acc) s)) := by
  have e1 : (acc ++ [s]).getD acc.length z41 = s := by
    rw [List.getD_eq_getElem?_getD, List.getElem?_append_right (Nat.le_refl _)]; simp
  unfold atB
  rw [e1]
  by_cases c : acc.length = 0
  · simp [c]
  · have e2 : (acc ++ [s]).getD (acc.length - 1) z41 = lastS acc := by
      unfold lastS
      rw [List.getD_eq_getElem?_getD, List.getElem?_append_left (by omega), List.getD_eq_getElem?_getD]
    rw [e2]
theorem last_split (acc : List S41) (h : 0 < acc.length) : acc = acc.take (acc.length - 1) ++ [lastS acc] := by
  have := take_succ_getD acc (acc.length - 1) (by omega)
  rw [show acc.length - 1 + 1 = acc.length from by omega, List.take_length] at this
  exact this
theorem set_split (acc : List S41) (s : S41) (h : 0 < acc.length) : acc.set (acc.length - 1) s = acc.take (acc.length - 1) ++ [s] := by
  conv => lhs; rw [last_split acc h]
  have hl : (acc.take (acc.length - 1)).length = acc.length - 1 := by rw [List.length_take]; omega
  rw [List.set_append_right _ _ (by rw [hl]; simp only [List.length_append, List.length_singleton, hl]; omega)]
  simp only [List.length_append, List.length_singleton, hl, Nat.add_sub_cancel, Nat.sub_self]
  rfl
theorem runC_good (lv : List Int) (hl : lv.length = 240) (h3 : ∀ x ∈ lv, 0 ≤ x ∧ x ≤ 3) : ∀ i, i ≤ 240 → (∀ q, q < (runC lv i).length → atB (runC lv i) q = true) ∧ ∀ j, j < 240 → (levelsV (runC lv i)).getD j 0 = if j < i then lv.getD j 0 else 0 := by
  intro i
  induction i with
  | zero => intro _; exact ⟨fun q hq => by simp [runC] at hq, fun j _ => by rw [if_neg (by omega)]; exact levels_nil j⟩
  | succ i ih =>
    intro hi
    obtain ⟨g, v⟩ := ih (by omega)
    have hb : 0 ≤ lv.getD i 0 ∧ lv.getD i 0 ≤ 3 := by rw [getD_lt _ _ _ (by omega)]; exact h3 _ (List.getElem_mem _)
    have hlast := runC_last lv i
    obtain ⟨acc, hacc⟩ : ∃ acc, acc = runC lv i := ⟨_, rfl⟩
    show (∀ q, q < (stepC lv (runC lv i) i).length → atB (stepC lv (runC lv i) i) q = true) ∧ ∀ j, j < 240 → (levelsV (stepC lv (runC lv i) i)).getD j 0 = _
    rw [← hacc] at g v hlast ⊢
    unfold stepC
    by_cases h0 : lv.getD i 0 = 0
    · rw [if_pos h0]
      refine ⟨g, fun j hj => ?_⟩
      rw [v j hj]
      by_cases c : j < i
      · rw [if_pos c, if_pos (by omega)]
      · rw [if_neg c]
        by_cases c2 : j = i
        · subst c2; rw [if_pos (by omega), h0]
        · rw [if_neg (by omega)]
    · rw [if_neg h0]
      by_cases h1 : 0 < acc.length ∧ (lastS acc).f1 = (i : Int) ∧ (lastS acc).f2 = lv.getD i 0
      · rw [if_pos h1]
        obtain ⟨p, q1, q2⟩ := h1
        have sp := last_split acc p
        obtain ⟨ini, hini⟩ : ∃ ini, ini = acc.take (acc.length - 1) := ⟨_, rfl⟩
        obtain ⟨t, ht⟩ : ∃ t, t = lastS acc := ⟨_, rfl⟩
        rw [set_split acc _ p]
        rw [← hini, ← ht] at sp ⊢
        rw [← ht] at q1 q2
        have hlen : acc.length = ini.length + 1 := by rw [sp]; simp
        have gl := g ini.length (by omega)
        rw [sp, atB_new] at gl
        unfold segB at gl
        simp only [Bool.and_eq_true, decide_eq_true_eq] at gl
        refine ⟨fun q hq => ?_, fun j hj => ?_⟩
        · by_cases c : q < ini.length
          · rw [atB_left _ _ _ c]
            have := g q (by omega)
            rwa [sp, atB_left _ _ _ c] at this
          · have c : q = ini.length := by simp at hq; omega
            subst c
            rw [atB_new]
            unfold segB
            simp only [Bool.and_eq_true, decide_eq_true_eq]
            exact ⟨⟨⟨gl.1.1.1, by omega, by omega⟩, gl.1.2⟩, gl.2⟩
        · have vj := v j hj
          rw [sp, levelsV_append, setR_get _ _ _ _ _ (by rw [levelsV_len]; exact hj)] at vj
          rw [levelsV_append, setR_get _ _ _ _ _ (by rw [levelsV_len]; exact hj)]
          dsimp only
          by_cases c2 : j = i
          · subst c2
            rw [if_pos (by omega), if_pos (by omega), q2]
          · by_cases c3 : t.f0 ≤ (j : Int) ∧ (j : Int) < t.f1
            · rw [if_pos c3] at vj
              rw [if_pos (by omega), vj, if_pos (by omega), if_pos (by omega)]
            · rw [if_neg c3] at vj
              rw [if_neg (by omega), vj]
              by_cases c4 : j < i
              · rw [if_pos c4, if_pos (by omega)]
              · rw [if_neg c4, if_neg (by omega)]
      · rw [if_neg h1]
        refine ⟨fun q hq => ?_, fun j hj => ?_⟩
        · by_cases c : q < acc.length
          · rw [atB_left _ _ _ c]; exact g q c
          · have c : q = acc.length := by simp at hq; omega
            subst c
            rw [atB_new]
            unfold segB pairB
            simp only [Bool.and_eq_true, Bool.or_eq_true, decide_eq_true_eq]
            refine ⟨⟨by omega, by omega⟩, ?_⟩
            by_cases c0 : acc.length = 0
            · exact .inl c0
            · have := hlast (by omega)
              exact .inr ⟨by omega, fun e => h1 ⟨by omega, e.1, e.2⟩⟩
        · rw [levelsV_append, setR_get _ _ _ _ _ (by rw [levelsV_len]; exact hj), v j hj]
          dsimp only
          by_cases c2 : j = i
          · subst c2
            rw [if_pos (by omega), if_pos (by omega)]
          · rw [if_neg (by omega)]
            by_cases c4 : j < i
            · rw [if_pos c4, if_pos (by omega)]
            · rw [if_neg c4, if_neg (by omega)]
theorem courseV_good {lv : List Int} (hl : lv.length = 240) (h3 : ∀ x ∈ lv, 0 ≤ x ∧ x ≤ 3) (h : (courseV lv).2 = true) : courseB (courseV lv).1 = true ∧ levelsV (courseV lv).1 = lv := by
  have g := runC_good lv hl h3 240 (Nat.le_refl _)
  have e : courseV lv = (runC lv 240, true) ∧ ¬ 12 < (runC lv 240).length := by
    unfold courseV at h ⊢
    rw [hl] at h ⊢
    by_cases c : 12 < (runC lv 240).length
    · rw [if_pos c] at h; cases h
    · rw [if_neg c]; exact ⟨rfl, c⟩
  rw [e.1]
  refine ⟨?_, list_ext_getD _ _ 0 (by rw [levelsV_len, hl]) (fun j hj => ?_)⟩
  · unfold courseB
    rw [decide_eq_true g.1, Bool.true_and]
    exact decide_eq_true (by have := e.2; dsimp only; omega)
  · rw [levelsV_len] at hj
    rw [g.2 j hj, if_pos hj]
theorem courseV_len (lv : List Int) : (courseV lv).1.length ≤ lv.length := by
  unfold courseV
  split
  · simp
  · exact runC_len lv _
theorem CourseLevel_val {l : List S41} (hc : courseB l = true) (a : Nat) (ha : a < 240) : Evt fun k => impl_CourseLevel.f k l (a : Int) = some ((levelsV l).getD a 0, true) := by
  have hn := courseB_len hc
  refine ((IsValidCourse_ev l (by omega)).and (levelsOf_ev l (by omega) (courseB_seg hc))).mono fun k hk => ?_
  simp only [impl_CourseLevel.f, hk.1, hk.2, hc, Option.bind_some, if_true, within_ok, decide_eq_true (show 0 ≤ (a : Int) ∧ (a : Int) ≤ 239 by omega), levelsV_len, rd_nat]
  rw [if_pos (by omega), if_pos (by omega)]
theorem CourseLevel_some (l : List S41) (a : Int) (hl : l.length ≤ 1048576) : ∃ v, Evt fun k => impl_CourseLevel.f k l a = some v := by
  have c1 := IsValidCourse_ev l (by omega)
  cases hc : courseB l with
  | false => exact ⟨(0, false), c1.mono fun k hk => by simp [impl_CourseLevel.f, hk, hc]⟩
  | true =>
    by_cases ha : 0 ≤ a ∧ a ≤ 239
    · refine ⟨(rd (levelsV l) a, true), (c1.and (levelsOf_ev l (by omega) (courseB_seg hc))).mono fun k hk => ?_⟩
      simp only [impl_CourseLevel.f, hk.1, hk.2, hc, Option.bind_some, if_true, within_ok, decide_eq_true ha, levelsV_len]
      rw [if_pos (by omega), if_pos (by omega)]
    · exact ⟨(0, false), c1.mono fun k hk => by simp [impl_CourseLevel.f, hk, hc, within_ok, ha]⟩
def zipF (f : Int → Int → Int) (x y : List Int) : List Int := List.zipWith f x y
theorem zipF_len (f : Int → Int → Int) (x y : List Int) (h : x.length = y.length) : (zipF f x y).length = x.length := by simp [zipF, h]
theorem zipF_get (f : Int → Int → Int) (x y : List Int) (j : Nat) (h : j < x.length) (h2 : j < y.length) : (zipF f x y).getD j 0 = f (x.getD j 0) (y.getD j 0) := by
  rw [getD_lt _ _ _ (by simp [zipF]; omega), getD_lt _ _ _ h, getD_lt _ _ _ h2]; simp [zipF]
theorem zipF_nonneg (f : Int → Int → Int) (x y : List Int) (hx : ∀ a ∈ x, 0 ≤ a ∧ a ≤ 3) (hy : ∀ a ∈ y, 0 ≤ a ∧ a ≤ 3) (hf : ∀ a b, 0 ≤ a → 0 ≤ b → 0 ≤ f a b) (h : x.length = y.length) : ∀ a ∈ zipF f x y, 0 ≤ a := by
  intro a ha
  obtain ⟨i, hi, rfl⟩ := List.mem_iff_getElem.1 ha
  rw [zipF_len _ _ _ h] at hi
  have := zipF_get f x y i hi (by omega)
  rw [getD_lt _ _ _ (by rw [zipF_len _ _ _ h]; exact hi), getD_lt _ _ _ hi, getD_lt _ _ _ (show i < y.length by omega)] at this
  rw [this]
  exact hf _ _ (hx _ (List.getElem_mem _)).1 (hy _ (List.getElem_mem _)).1
def joinF (a b : Int) : Int := if a < b then b else a
theorem joinImpl_loop (x y : List Int) (hx : x.length = 240) (hy : y.length = 240) : Evt fun k => impl_joinedCourse.l0 k x y (y.length : Int) 0 = some (courseV (zipF joinF x y)) := by
  refine evt_loop0 y.length (fun k s i => impl_joinedCourse.l0 k s y (y.length : Int) i) _ (fun i s => s.length = x.length ∧ (∀ j, j < i → s.getD j 0 = (zipF joinF x y).getD j 0) ∧ ∀ j, i ≤ j → s.getD j 0 = x.getD j 0) ?_ ?_ x ⟨rfl, fun j hj => by omega, fun j _ => rfl⟩
  · rintro i s hi ⟨h1, h2, h3⟩
    refine .inl ⟨s.set i (joinF (x.getD i 0) (y.getD i 0)), ⟨by simpa using h1, fun j hj => ?_, fun j hj => ?_⟩, 1, Evt.all fun k => ?_⟩
    · by_cases e : j = i
      · subst e; rw [getD_set_self _ _ _ _ (by omega), zipF_get _ _ _ _ (by omega) hi]
      · rw [getD_set_ne _ _ _ _ _ (by omega)]; exact h2 j (by omega)
    · rw [getD_set_ne _ _ _ _ _ (by omega)]; exact h3 j (by omega)
    · show impl_joinedCourse.l0 (k + 1) s y (y.length : Int) (i : Int) = _
      simp only [impl_joinedCourse.l0, rd_nat, Int.toNat_natCast]
      rw [if_pos (by omega), if_pos (by omega), if_pos (by omega), if_pos (by omega), h3 i (Nat.le_refl _), wrap_id (x := (i : Int) + 1) (by omega) (by omega)]
      rfl
  · rintro s ⟨h1, h2, h3⟩
    obtain rfl : s = zipF joinF x y := list_ext_getD _ _ 0 (by rw [zipF_len _ _ _ (by omega)]; exact h1) (fun j hj => h2 j (by omega))
    refine Evt.succ ((courseOf_ev (zipF joinF x y) (by omega)).mono fun k hk => ?_)
    show impl_joinedCourse.l0 (k + 1) (zipF joinF x y) y (y.length : Int) (y.length : Int) = _
    simp only [impl_joinedCourse.l0]
    rw [if_neg (by omega), hk, Option.bind_some]
theorem joinSpec_loop (x y : List Int) (hx : x.length = 240) (hy : y.length = 240) (h0 : ∀ a ∈ zipF joinF x y, 0 ≤ a) (n : Nat) (hn : n = 240) : Evt fun k => spec_HigherCourse.l0 k x y 0 = some (courseV (zipF joinF x y)) := by
  refine evt_loop0 n (fun k s i => spec_HigherCourse.l0 k s y i) _ (fun i s => s.length = x.length ∧ (∀ j, j < i → s.getD j 0 = (zipF joinF x y).getD j 0) ∧ ∀ j, i ≤ j → s.getD j 0 = x.getD j 0) ?_ ?_ x ⟨rfl, fun j hj => by omega, fun j _ => rfl⟩
  · rintro i s hi ⟨h1, h2, h3⟩
    refine .inl ⟨s.set i (joinF (x.getD i 0) (y.getD i 0)), ⟨by simpa using h1, fun j hj => ?_, fun j hj => ?_⟩, 1, Evt.all fun k => ?_⟩
    · by_cases e : j = i
      · subst e; rw [getD_set_self _ _ _ _ (by omega), zipF_get _ _ _ _ (by omega) (by omega)]
      · rw [getD_set_ne _ _ _ _ _ (by omega)]; exact h2 j (by omega)
    · rw [getD_set_ne _ _ _ _ _ (by omega)]; exact h3 j (by omega)
    · show spec_HigherCourse.l0 (k + 1) s y (i : Int) = _
      have h3' := h3 i (Nat.le_refl _)
      simp only [spec_HigherCourse.l0, rd_nat, Int.toNat_natCast]
      rw [if_pos (by omega), if_pos (by omega), if_pos (by omega), if_pos (by omega), wrap_id (x := (i : Int) + 1) (by omega) (by omega)]
      rw [h3']
      unfold spec_l1Most.f joinF
      by_cases h : x.getD i 0 > y.getD i 0
      · rw [if_pos h, Option.bind_some, if_neg (by omega)]
      · rw [if_neg h, Option.bind_some]
        by_cases g : x.getD i 0 < y.getD i 0
        · rw [if_pos g]
        · rw [if_neg g, show y.getD i 0 = x.getD i 0 from by omega]
  · rintro s ⟨h1, h2, h3⟩
    obtain rfl : s = zipF joinF x y := list_ext_getD _ _ 0 (by rw [zipF_len _ _ _ (by omega)]; exact h1) (fun j hj => h2 j (by omega))
    refine Evt.succ ((l18Course_ev (zipF joinF x y) (by omega) h0).mono fun k hk => ?_)
    show spec_HigherCourse.l0 (k + 1) (zipF joinF x y) y (n : Int) = _
    simp only [spec_HigherCourse.l0]
    rw [if_neg (by omega), hk, Option.bind_some]
def highV (l l2 : List S41) : List S41 × Bool := if courseB l = true ∧ courseB l2 = true then courseV (zipF joinF (levelsV l) (levelsV l2)) else ([], false)
theorem HigherCourse_ev (l l2 : List S41) (hl : l.length ≤ 1048576) (hl2 : l2.length ≤ 1048576) : ∃ v, v = highV l l2 ∧ (Evt fun k => impl_HigherCourse.f k l l2 = some v) ∧ (Evt fun k => spec_HigherCourse.f k l l2 = some v) ∧ v.1.length ≤ 1048576 := by
  have c1 := IsValidCourse_ev l (by omega)
  have c2 := l18Good_ev l (by omega)
  have d1 := IsValidCourse_ev l2 (by omega)
  have d2 := l18Good_ev l2 (by omega)
  by_cases hc : courseB l = true ∧ courseB l2 = true
  · obtain ⟨hc, hd⟩ := hc
    have hx := levelsV_len l
    have hy := levelsV_len l2
    have f1 := joinImpl_loop (levelsV l) (levelsV l2) hx hy
    have f2 := joinSpec_loop (levelsV l) (levelsV l2) hx hy (zipF_nonneg _ _ _ (levelsV_le (courseB_seg hc)) (levelsV_le (courseB_seg hd)) (by intro a b ha hb; unfold joinF; split <;> omega) (by omega)) _ rfl
    have hv := courseV_len (zipF joinF (levelsV l) (levelsV l2))
    rw [zipF_len _ _ _ (by omega)] at hv
    refine ⟨courseV (zipF joinF (levelsV l) (levelsV l2)), by unfold highV; rw [if_pos ⟨hc, hd⟩], Evt.succ (((Evt.shift c1).and ((Evt.shift d1).and ((levelsOf_ev l (by omega) (courseB_seg hc)).and ((levelsOf_ev l2 (by omega) (courseB_seg hd)).and f1)))).mono ?_), Evt.succ (((Evt.shift c2).and ((Evt.shift d2).and ((l18Levels_ev l (by omega) (courseB_seg hc)).and ((l18Levels_ev l2 (by omega) (courseB_seg hd)).and f2)))).mono ?_), by omega⟩
    · rintro k ⟨h1, h2, h3, h4, h5⟩
      simp only [impl_HigherCourse.f, impl_joinedCourse.f, impl_joinedCourse.j0, h1, h2, hc, hd, Option.bind_some, if_true, Bool.not_true, h3, h4]
      rw [if_neg (by simp), h5, Option.bind_some]
    · rintro k ⟨h1, h2, h3, h4, h5⟩
      simp only [spec_HigherCourse.f, spec_HigherCourse.j0, h1, h2, hc, hd, Option.bind_some, if_true, Bool.not_true, h3, h4]
      rw [if_neg (by simp), h5]
  · refine ⟨([], false), by unfold highV; rw [if_neg hc], (Evt.pos.and (c1.and d1)).mono ?_, (Evt.pos.and (c2.and d2)).mono ?_, by simp⟩
    · rintro k ⟨⟨m, rfl⟩, h1, h2⟩
      cases hc1 : courseB l <;> cases hc2 : courseB l2 <;> simp_all [impl_HigherCourse.f, impl_joinedCourse.f, impl_joinedCourse.j0]
    · rintro k ⟨⟨m, rfl⟩, h1, h2⟩
      cases hc1 : courseB l <;> cases hc2 : courseB l2 <;> simp_all [spec_HigherCourse.f, spec_HigherCourse.j0]
def joinC (a b : Int) : Int := if a = b then a else 0
theorem joinCImpl_loop (x y : List Int) (hx : x.length = 240) (hy : y.length = 240) : Evt fun k => impl_joinedCourse_2.l0 k x y (y.length : Int) 0 = some (courseV (zipF joinC x y)) := by
  refine evt_loop0 y.length (fun k s i => impl_joinedCourse_2.l0 k s y (y.length : Int) i) _ (fun i s => s.length = x.length ∧ (∀ j, j < i → s.getD j 0 = (zipF joinC x y).getD j 0) ∧ ∀ j, i ≤ j → s.getD j 0 = x.getD j 0) ?_ ?_ x ⟨rfl, fun j hj => by omega, fun j _ => rfl⟩
  · rintro i s hi ⟨h1, h2, h3⟩
    refine .inl ⟨s.set i (joinC (x.getD i 0) (y.getD i 0)), ⟨by simpa using h1, fun j hj => ?_, fun j hj => ?_⟩, 1, Evt.all fun k => ?_⟩
    · by_cases e : j = i
      · subst e; rw [getD_set_self _ _ _ _ (by omega), zipF_get _ _ _ _ (by omega) hi]
      · rw [getD_set_ne _ _ _ _ _ (by omega)]; exact h2 j (by omega)
    · rw [getD_set_ne _ _ _ _ _ (by omega)]; exact h3 j (by omega)
    · show impl_joinedCourse_2.l0 (k + 1) s y (y.length : Int) (i : Int) = _
      simp only [impl_joinedCourse_2.l0, rd_nat, Int.toNat_natCast]
      rw [if_pos (by omega), if_pos (by omega), if_pos (by omega), if_pos (by omega), h3 i (Nat.le_refl _), wrap_id (x := (i : Int) + 1) (by omega) (by omega)]
      unfold impl_CommonCourse_1.f joinC
      split <;> rfl
  · rintro s ⟨h1, h2, h3⟩
    obtain rfl : s = zipF joinC x y := list_ext_getD _ _ 0 (by rw [zipF_len _ _ _ (by omega)]; exact h1) (fun j hj => h2 j (by omega))
    refine Evt.succ ((courseOf_ev (zipF joinC x y) (by omega)).mono fun k hk => ?_)
    show impl_joinedCourse_2.l0 (k + 1) (zipF joinC x y) y (y.length : Int) (y.length : Int) = _
    simp only [impl_joinedCourse_2.l0]
    rw [if_neg (by omega), hk, Option.bind_some]
theorem joinCSpec_loop (x y : List Int) (hx : x.length = 240) (hy : y.length = 240) (h0 : ∀ a ∈ zipF joinC x y, 0 ≤ a) (n : Nat) (hn : n = 240) : Evt fun k => spec_CommonCourse.l0 k x y 0 = some (courseV (zipF joinC x y)) := by
  refine evt_loop0 n (fun k s i => spec_CommonCourse.l0 k s y i) _ (fun i s => s.length = x.length ∧ (∀ j, j < i → s.getD j 0 = (zipF joinC x y).getD j 0) ∧ ∀ j, i ≤ j → s.getD j 0 = x.getD j 0) ?_ ?_ x ⟨rfl, fun j hj => by omega, fun j _ => rfl⟩
  · rintro i s hi ⟨h1, h2, h3⟩
    refine .inl ⟨s.set i (joinC (x.getD i 0) (y.getD i 0)), ⟨by simpa using h1, fun j hj => ?_, fun j hj => ?_⟩, 1, Evt.all fun k => ?_⟩
    · by_cases e : j = i
      · subst e; rw [getD_set_self _ _ _ _ (by omega), zipF_get _ _ _ _ (by omega) (by omega)]
      · rw [getD_set_ne _ _ _ _ _ (by omega)]; exact h2 j (by omega)
    · rw [getD_set_ne _ _ _ _ _ (by omega)]; exact h3 j (by omega)
    · show spec_CommonCourse.l0 (k + 1) s y (i : Int) = _
      have h3' := h3 i (Nat.le_refl _)
      simp only [spec_CommonCourse.l0, rd_nat, Int.toNat_natCast]
      rw [if_pos (by omega), if_pos (by omega), if_pos (by omega), if_pos (by omega), wrap_id (x := (i : Int) + 1) (by omega) (by omega)]
      unfold joinC
      rw [h3']
      by_cases h : x.getD i 0 = y.getD i 0
      · rw [if_pos h, if_pos h, ← h3']
        congr 1
        refine list_ext_getD _ _ 0 (by rw [List.length_set]) (fun j hj => ?_)
        by_cases e : j = i
        · subst e; rw [getD_set_self _ _ _ _ (by omega)]
        · rw [getD_set_ne _ _ _ _ _ (by omega)]
      · rw [if_neg h, if_neg h]
  · rintro s ⟨h1, h2, h3⟩
    obtain rfl : s = zipF joinC x y := list_ext_getD _ _ 0 (by rw [zipF_len _ _ _ (by omega)]; exact h1) (fun j hj => h2 j (by omega))
    refine Evt.succ ((l18Course_ev (zipF joinC x y) (by omega) h0).mono fun k hk => ?_)
    show spec_CommonCourse.l0 (k + 1) (zipF joinC x y) y (n : Int) = _
    simp only [spec_CommonCourse.l0]
    rw [if_neg (by omega), hk, Option.bind_some]
def commV (l l2 : List S41) : List S41 × Bool := if courseB l = true ∧ courseB l2 = true then courseV (zipF joinC (levelsV l) (levelsV l2)) else ([], false)
theorem CommonCourse_ev (l l2 : List S41) (hl : l.length ≤ 1048576) (hl2 : l2.length ≤ 1048576) : ∃ v, v = commV l l2 ∧ (Evt fun k => impl_CommonCourse.f k l l2 = some v) ∧ (Evt fun k => spec_CommonCourse.f k l l2 = some v) ∧ v.1.length ≤ 1048576 := by
  have c1 := IsValidCourse_ev l (by omega)
  have c2 := l18Good_ev l (by omega)
  have d1 := IsValidCourse_ev l2 (by omega)
  have d2 := l18Good_ev l2 (by omega)
  by_cases hc : courseB l = true ∧ courseB l2 = true
  · obtain ⟨hc, hd⟩ := hc
    have hx := levelsV_len l
    have hy := levelsV_len l2
    have f1 := joinCImpl_loop (levelsV l) (levelsV l2) hx hy
    have f2 := joinCSpec_loop (levelsV l) (levelsV l2) hx hy (zipF_nonneg _ _ _ (levelsV_le (courseB_seg hc)) (levelsV_le (courseB_seg hd)) (by intro a b ha hb; unfold joinC; split <;> omega) (by omega)) _ rfl
    have hv := courseV_len (zipF joinC (levelsV l) (levelsV l2))
    rw [zipF_len _ _ _ (by omega)] at hv
    refine ⟨courseV (zipF joinC (levelsV l) (levelsV l2)), by unfold commV; rw [if_pos ⟨hc, hd⟩], Evt.succ (((Evt.shift c1).and ((Evt.shift d1).and ((levelsOf_ev l (by omega) (courseB_seg hc)).and ((levelsOf_ev l2 (by omega) (courseB_seg hd)).and f1)))).mono ?_), Evt.succ (((Evt.shift c2).and ((Evt.shift d2).and ((l18Levels_ev l (by omega) (courseB_seg hc)).and ((l18Levels_ev l2 (by omega) (courseB_seg hd)).and f2)))).mono ?_), by omega⟩
    · rintro k ⟨h1, h2, h3, h4, h5⟩
      simp only [impl_CommonCourse.f, impl_joinedCourse_2.f, impl_joinedCourse_2.j0, h1, h2, hc, hd, Option.bind_some, if_true, Bool.not_true, h3, h4]
      rw [if_neg (by simp), h5, Option.bind_some]
    · rintro k ⟨h1, h2, h3, h4, h5⟩
      simp only [spec_CommonCourse.f, spec_CommonCourse.j0, h1, h2, hc, hd, Option.bind_some, if_true, Bool.not_true, h3, h4]
      rw [if_neg (by simp), h5]
  · refine ⟨([], false), by unfold commV; rw [if_neg hc], (Evt.pos.and (c1.and d1)).mono ?_, (Evt.pos.and (c2.and d2)).mono ?_, by simp⟩
    · rintro k ⟨⟨m, rfl⟩, h1, h2⟩
      cases hc1 : courseB l <;> cases hc2 : courseB l2 <;> simp_all [impl_CommonCourse.f, impl_joinedCourse_2.f, impl_joinedCourse_2.j0]
    · rintro k ⟨⟨m, rfl⟩, h1, h2⟩
      cases hc1 : courseB l <;> cases hc2 : courseB l2 <;> simp_all [spec_CommonCourse.f, spec_CommonCourse.j0]
def movS (h : Int) (s : S41) : S41 := ⟨s.f0 + h, s.f1 + h, s.f2⟩
def shiftV (l : List S41) (h : Int) : List S41 × Bool := if courseB (l.map (movS h)) = true then (l.map (movS h), true) else ([], false)
theorem shiftImpl_loop (l : List S41) (h : Int) (hl : l.length ≤ 1000000) (hv : ∀ s ∈ l, segB s = true) (hh : -240 ≤ h ∧ h ≤ 240) : Evt fun k => impl_ShiftCourse.l0 k h l (l.length : Int) 0 = some (shiftV l h) := by
  refine evt_loop0 l.length (fun k s i => impl_ShiftCourse.l0 k h s (l.length : Int) i) (shiftV l h) (fun i s => s.length = l.length ∧ (∀ j, j < i → s.getD j z41 = (l.map (movS h)).getD j z41) ∧ ∀ j, i ≤ j → s.getD j z41 = l.getD j z41) ?_ ?_ l ⟨rfl, fun j hj => by omega, fun j _ => rfl⟩
  · rintro i s hi ⟨h1, h2, h3⟩
    have hs := hv (l.getD i z41) (by rw [getD_lt _ _ _ hi]; exact List.getElem_mem _)
    unfold segB at hs
    simp only [Bool.and_eq_true, decide_eq_true_eq] at hs
    refine .inl ⟨s.set i (movS h (l.getD i z41)), ⟨by simpa using h1, fun j hj => ?_, fun j hj => ?_⟩, 1, Evt.all fun k => ?_⟩
    · by_cases e : j = i
      · subst e; rw [getD_set_self _ _ _ _ (by omega), getD_map _ _ z41 _ _ hi]
      · rw [getD_set_ne _ _ _ _ _ (by omega)]; exact h2 j (by omega)
    · rw [getD_set_ne _ _ _ _ _ (by omega)]; exact h3 j (by omega)
    · show impl_ShiftCourse.l0 (k + 1) h s (l.length : Int) (i : Int) = _
      simp only [impl_ShiftCourse.l0, rd_seg, Option.bind_some, Int.toNat_natCast, getD_set_self _ _ _ _ (show i < s.length by omega), List.set_set]
      rw [if_pos (by omega), if_pos (by omega), if_pos (by omega), h3 i (Nat.le_refl _), wrap_id (x := (i : Int) + 1) (by omega) (by omega), wrap_id (x := (l.getD i z41).f0 + h) (by omega) (by omega), wrap_id (x := (l.getD i z41).f1 + h) (by omega) (by omega)]
      rfl
  · rintro s ⟨h1, h2, h3⟩
    obtain rfl : s = l.map (movS h) := list_ext_getD _ _ z41 (by simpa using h1) (fun j hj => h2 j (by omega))
    refine Evt.succ ((IsValidCourse_ev (l.map (movS h)) (by rw [List.length_map]; omega)).mono fun k hk => ?_)
    show impl_ShiftCourse.l0 (k + 1) h (l.map (movS h)) (l.length : Int) (l.length : Int) = _
    simp only [impl_ShiftCourse.l0]
    rw [if_neg (by omega), hk, Option.bind_some]
    unfold shiftV
    split <;> rfl
theorem shiftSpec_loop (l : List S41) (h : Int) (hl : l.length ≤ 1000000) (hv : ∀ s ∈ l, segB s = true) (hh : -240 ≤ h ∧ h ≤ 240) : Evt fun k => spec_ShiftCourse.l0 k l h [] 0 = some (shiftV l h) := by
  refine evt_loop0 l.length (fun k s i => spec_ShiftCourse.l0 k l h s i) (shiftV l h) (fun i s => s = (l.take i).map (movS h)) ?_ ?_ [] (by simp)
  · rintro i s hi rfl
    have hs := hv (l.getD i z41) (by rw [getD_lt _ _ _ hi]; exact List.getElem_mem _)
    unfold segB at hs
    simp only [Bool.and_eq_true, decide_eq_true_eq] at hs
    have hlt : ((l.take i).map (movS h)).length ≤ i := by simp; omega
    refine .inl ⟨_, rfl, 1, Evt.all fun k => ?_⟩
    show spec_ShiftCourse.l0 (k + 1) l h ((l.take i).map (movS h)) (i : Int) = _
    simp only [spec_ShiftCourse.l0, rd_seg]
    rw [if_pos (by omega), if_pos (by omega), if_pos (by omega), wrap_id (x := (i : Int) + 1) (by omega) (by omega), wrap_id (x := (l.getD i z41).f0 + h) (by omega) (by omega), wrap_id (x := (l.getD i z41).f1 + h) (by omega) (by omega)]
    congr 1
    rw [List.take_succ_eq_append_getElem hi, List.map_append, getD_lt _ _ _ hi]
    rfl
  · rintro s rfl
    refine Evt.succ ((l18Good_ev (l.map (movS h)) (by rw [List.length_map]; omega)).mono fun k hk => ?_)
    show spec_ShiftCourse.l0 (k + 1) l h ((l.take l.length).map (movS h)) (l.length : Int) = _
    simp only [spec_ShiftCourse.l0, List.take_length]
    rw [if_neg (by omega), hk, Option.bind_some]
    unfold shiftV
    split <;> rfl
def shiftW (l : List S41) (a : Int) : List S41 × Bool := if courseB l = true ∧ (-240 ≤ a ∧ a ≤ 240) then shiftV l a else ([], false)
theorem ShiftCourse_ev (l : List S41) (a : Int) (hl : l.length ≤ 1048576) (_ : -9223372036854775808 ≤ a ∧ a ≤ 9223372036854775807) : ∃ v, v = shiftW l a ∧ (Evt fun k => impl_ShiftCourse.f k l a = some v) ∧ (Evt fun k => spec_ShiftCourse.f k l a = some v) ∧ v.1.length ≤ 1048576 := by
  have c1 := IsValidCourse_ev l (by omega)
  have c2 := l18Good_ev l (by omega)
  cases hc : courseB l with
  | false =>
    refine ⟨([], false), by unfold shiftW; rw [if_neg (by simp [hc])], (Evt.pos.and c1).mono ?_, (Evt.pos.and c2).mono ?_, by simp⟩
    · rintro k ⟨⟨m, rfl⟩, hk⟩; simp [impl_ShiftCourse.f, impl_ShiftCourse.j0, hk, hc]
    · rintro k ⟨⟨m, rfl⟩, hk⟩; simp [spec_ShiftCourse.f, spec_ShiftCourse.j0, hk, hc]
  | true =>
    have hlen := courseB_len hc
    have hs := courseB_seg hc
    by_cases ha : -240 ≤ a ∧ a ≤ 240
    · have f1 := shiftImpl_loop l a (by omega) hs ha
      have f2 := shiftSpec_loop l a (by omega) hs ha
      have hclone : slices_Clone_Segment.f l = some l := by
        unfold slices_Clone_Segment.f
        rw [Option.bind_some, if_pos (by simp; omega), List.nil_append]
      refine ⟨shiftV l a, by unfold shiftW; rw [if_pos ⟨hc, ha⟩], Evt.succ (((Evt.shift c1).and f1).mono ?_), Evt.succ (((Evt.shift c2).and f2).mono ?_), ?_⟩
      · rintro k ⟨h1, h2⟩
        simp only [impl_ShiftCourse.f, impl_ShiftCourse.j0, h1, hc, Option.bind_some, if_true, within_ok, decide_eq_true ha, Bool.not_true, hclone]
        rw [if_neg (by simp), h2]
      · rintro k ⟨h1, h2⟩
        simp only [spec_ShiftCourse.f, spec_ShiftCourse.j0, h1, hc, Option.bind_some, if_true, l1In_ok, decide_eq_true ha, Bool.not_true]
        rw [if_neg (by simp), h2]
      · unfold shiftV
        split
        · simp; omega
        · simp
    · refine ⟨([], false), by unfold shiftW; rw [if_neg (fun q => ha q.2)], (Evt.pos.and c1).mono ?_, (Evt.pos.and c2).mono ?_, by simp⟩
      · rintro k ⟨⟨m, rfl⟩, hk⟩
        simp only [impl_ShiftCourse.f, impl_ShiftCourse.j0, hk, hc, Option.bind_some, if_true, within_ok, decide_eq_false ha, Bool.not_false]
      · rintro k ⟨⟨m, rfl⟩, hk⟩
        simp only [spec_ShiftCourse.f, spec_ShiftCourse.j0, hk, hc, Option.bind_some, if_true, l1In_ok, decide_eq_false ha, Bool.not_false]
def changesTo (lv : List Int) : Nat → List Int
  | 0 => []
  | n + 1 => changesTo lv n ++ if lv.getD (n + 1) 0 = lv.getD n 0 then [] else [((n + 1 : Nat) : Int)]
theorem changesTo_len (lv : List Int) : ∀ n, (changesTo lv n).length ≤ n
  | 0 => by simp [changesTo]
  | n + 1 => by have := changesTo_len lv n; simp only [changesTo, List.length_append]; split <;> simp <;> omega
theorem changesImpl_loop (lv : List Int) (hl : lv.length = 240) (n : Nat) (hn : n = 239) : Evt fun k => impl_ChangesOf.l0 k [] lv 1 = some (changesTo lv n, true) := by
  refine evt_loop0 n (fun k s i => impl_ChangesOf.l0 k s lv (i + 1)) (changesTo lv n, true) (fun i s => s = changesTo lv i) ?_ ?_ [] rfl
  · rintro i s hi rfl
    have hlen := changesTo_len lv i
    refine .inl ⟨_, rfl, 1, Evt.all fun k => ?_⟩
    show impl_ChangesOf.l0 (k + 1) (changesTo lv i) lv ((i : Int) + 1) = impl_ChangesOf.l0 k (changesTo lv (i + 1)) lv ((i : Int) + 1 + 1)
    have e1 : rd lv ((i : Int) + 1) = lv.getD (i + 1) 0 := rd_nat lv (i + 1)
    have w1 : wrap64 ((i : Int) + 1 - 1) = (i : Int) := by rw [wrap_id (by omega) (by omega)]; omega
    simp only [impl_ChangesOf.l0, w1, rd_nat, e1, changesTo]
    rw [if_pos (by omega), if_pos (by omega), if_pos (by omega), if_pos (by omega), if_pos (by omega), wrap_id (by omega) (by omega)]
    by_cases e : lv.getD (i + 1) 0 = lv.getD i 0
    · rw [if_pos e, if_pos e, List.append_nil]
    · rw [if_neg e, if_neg e, if_pos (by omega)]; rfl
  · rintro s rfl
    refine Evt.succ (Evt.all fun k => ?_)
    show impl_ChangesOf.l0 (k + 1) (changesTo lv n) lv ((n : Int) + 1) = _
    simp only [impl_ChangesOf.l0]
    rw [if_neg (by omega)]
theorem changesSpec_loop (lv : List Int) (hl : lv.length = 240) (n : Nat) (hn : n = 239) : Evt fun k => spec_ChangesOf.l0 k [] lv 1 = some (changesTo lv n, true) := by
  refine evt_loop0 n (fun k s i => spec_ChangesOf.l0 k s lv (i + 1)) (changesTo lv n, true) (fun i s => s = changesTo lv i) ?_ ?_ [] rfl
  · rintro i s hi rfl
    have hlen := changesTo_len lv i
    refine .inl ⟨_, rfl, 1, Evt.all fun k => ?_⟩
    show spec_ChangesOf.l0 (k + 1) (changesTo lv i) lv ((i : Int) + 1) = spec_ChangesOf.l0 k (changesTo lv (i + 1)) lv ((i : Int) + 1 + 1)
    have e1 : rd lv ((i : Int) + 1) = lv.getD (i + 1) 0 := rd_nat lv (i + 1)
    have w1 : wrap64 ((i : Int) + 1 - 1) = (i : Int) := by rw [wrap_id (by omega) (by omega)]; omega
    simp only [spec_ChangesOf.l0, w1, rd_nat, e1, changesTo]
    rw [if_pos (by omega), if_pos (by omega), if_pos (by omega), if_pos (by omega), if_pos (by omega), wrap_id (by omega) (by omega)]
    by_cases e : lv.getD (i + 1) 0 = lv.getD i 0
    · rw [if_pos e, if_pos e, List.append_nil]
    · rw [if_neg e, if_neg e, if_pos (by omega)]; rfl
  · rintro s rfl
    refine Evt.succ (Evt.all fun k => ?_)
    show spec_ChangesOf.l0 (k + 1) (changesTo lv n) lv ((n : Int) + 1) = _
    simp only [spec_ChangesOf.l0]
    rw [if_neg (by omega)]
def chgV (l : List S41) : List Int × Bool := if courseB l = true then (changesTo (levelsV l) 239, true) else ([], false)
theorem ChangesOf_ev (l : List S41) (hl : l.length ≤ 1048576) : ∃ v, v = chgV l ∧ (Evt fun k => impl_ChangesOf.f k l = some v) ∧ (Evt fun k => spec_ChangesOf.f k l = some v) ∧ v.1.length ≤ 1048576 := by
  have c1 := IsValidCourse_ev l (by omega)
  have c2 := l18Good_ev l (by omega)
  cases hc : courseB l with
  | false =>
    refine ⟨([], false), by unfold chgV; rw [if_neg (by simp [hc])], c1.mono fun k hk => ?_, c2.mono fun k hk => ?_, by simp⟩
    · simp [impl_ChangesOf.f, hk, hc]
    · simp [spec_ChangesOf.f, hk, hc]
  | true =>
    have hlen := levelsV_len l
    have hch := changesTo_len (levelsV l) 239
    refine ⟨(changesTo (levelsV l) 239, true), by unfold chgV; rw [if_pos hc], (c1.and ((changesImpl_loop (levelsV l) hlen _ rfl).and (levelsOf_ev l (by omega) (courseB_seg hc)))).mono ?_, (c2.and ((changesSpec_loop (levelsV l) hlen _ rfl).and (l18Levels_ev l (by omega) (courseB_seg hc)))).mono ?_, by simp only; omega⟩
    · rintro k ⟨h1, h2, h3⟩
      simp only [impl_ChangesOf.f, h1, h2, h3, hc, Option.bind_some, if_true]
    · rintro k ⟨h1, h2, h3⟩
      simp only [spec_ChangesOf.f, h1, h2, h3, hc, Option.bind_some, if_true]
theorem Evt.up {P : Nat → Prop} (h : Evt P) : Evt fun k => ∀ d, P (k + d) := by
  obtain ⟨K, h⟩ := h
  exact ⟨K, fun k hk d => h _ (by omega)⟩
theorem zip_le3 (f : Int → Int → Int) (hf : ∀ a b, 0 ≤ a ∧ a ≤ 3 → 0 ≤ b ∧ b ≤ 3 → 0 ≤ f a b ∧ f a b ≤ 3) {x y : List Int} (hx : ∀ a ∈ x, 0 ≤ a ∧ a ≤ 3) (hy : ∀ a ∈ y, 0 ≤ a ∧ a ≤ 3) (h : x.length = y.length) : ∀ a ∈ zipF f x y, 0 ≤ a ∧ a ≤ 3 := by
  intro a ha
  obtain ⟨i, hi, rfl⟩ := List.mem_iff_getElem.1 ha
  rw [zipF_len _ _ _ h] at hi
  have := zipF_get f x y i hi (by omega)
  rw [getD_lt _ _ _ (by rw [zipF_len _ _ _ h]; exact hi), getD_lt _ _ _ hi, getD_lt _ _ _ (show i < y.length by omega)] at this
  rw [this]
  exact hf _ _ (hx _ (List.getElem_mem _)) (hy _ (List.getElem_mem _))
theorem high_level {a b : List S41} (h : (highV a b).2 = true) : (courseB a = true ∧ courseB b = true) ∧ courseB (highV a b).1 = true ∧ ∀ j, j < 240 → (levelsV (highV a b).1).getD j 0 = joinF ((levelsV a).getD j 0) ((levelsV b).getD j 0) := by
  unfold highV at h ⊢
  by_cases c : courseB a = true ∧ courseB b = true
  · rw [if_pos c] at h ⊢
    have hx := levelsV_len a
    have hy := levelsV_len b
    obtain ⟨g1, g2⟩ := courseV_good (by rw [zipF_len _ _ _ (by omega)]; exact hx) (zip_le3 joinF (by intro a b ha hb; unfold joinF; split <;> omega) (levelsV_le (courseB_seg c.1)) (levelsV_le (courseB_seg c.2)) (by omega)) h
    exact ⟨c, g1, fun j hj => by rw [g2, zipF_get _ _ _ _ (by omega) (by omega)]⟩
  · rw [if_neg c] at h; cases h
theorem comm_level {a b : List S41} (h : (commV a b).2 = true) : (courseB a = true ∧ courseB b = true) ∧ courseB (commV a b).1 = true ∧ ∀ j, j < 240 → (levelsV (commV a b).1).getD j 0 = joinC ((levelsV a).getD j 0) ((levelsV b).getD j 0) := by
  unfold commV at h ⊢
  by_cases c : courseB a = true ∧ courseB b = true
  · rw [if_pos c] at h ⊢
    have hx := levelsV_len a
    have hy := levelsV_len b
    obtain ⟨g1, g2⟩ := courseV_good (by rw [zipF_len _ _ _ (by omega)]; exact hx) (zip_le3 joinC (by intro a b ha hb; unfold joinC; split <;> omega) (levelsV_le (courseB_seg c.1)) (levelsV_le (courseB_seg c.2)) (by omega)) h
    exact ⟨c, g1, fun j hj => by rw [g2, zipF_get _ _ _ _ (by omega) (by omega)]⟩
  · rw [if_neg c] at h; cases h
theorem chg_mem (lv : List Int) : ∀ n, ∀ q ∈ changesTo lv n, ∃ m : Nat, m < n ∧ q = ((m + 1 : Nat) : Int) ∧ lv.getD (m + 1) 0 ≠ lv.getD m 0
  | 0, q, hq => by simp [changesTo] at hq
  | n + 1, q, hq => by
    simp only [changesTo] at hq
    rcases List.mem_append.1 hq with h | h
    · obtain ⟨m, h1, h2⟩ := chg_mem lv n q h
      exact ⟨m, by omega, h2⟩
    · split at h
      · simp at h
      · rename_i c
        exact ⟨n, by omega, List.mem_singleton.1 h, c⟩
theorem map_back (l : List S41) (h : Int) : (l.map (movS h)).map (movS (-h)) = l := by
  rw [List.map_map]
  conv => rhs; rw [← List.map_id l]
  apply List.map_congr_left
  intro s _
  obtain ⟨a, b, c⟩ := s
  show (⟨a + h + -h, b + h + -h, c⟩ : S41) = ⟨a, b, c⟩
  congr 1 <;> omega
theorem FnTwoCourses : laws_FnTwoCourses.Pure := by
  intro l0 hl _ hw
  have hby := bytes_of l0 hw
  by_cases hbig : (l0.length : Int) > 65536
  · exact ⟨0, by simp [laws_FnTwoCourses.f, laws_rBig.f, hbig]⟩
  obtain ⟨a, b, hA, hB, g1⟩ := DrawHigherCourse_ev l0 hby
  obtain ⟨c, h, hC, hH, g2⟩ := DrawShiftCourse_ev l0 hby
  obtain ⟨d, hD, g3⟩ := DrawIsValidCourse_ev l0 hby
  obtain ⟨u, hu, u1, u2, u3⟩ := HigherCourse_ev a b (by omega) (by omega)
  obtain ⟨v, hv, v1, v2, v3⟩ := CommonCourse_ev a b (by omega) (by omega)
  obtain ⟨s, hs, s1, s2, s3⟩ := ShiftCourse_ev c h (by omega) (by omega)
  obtain ⟨e, he, e1, e2, e3⟩ := ChangesOf_ev d (by omega)
  have l1 : Evt fun k => laws_FnTwoCourses.l1 k d e.1 0 = some true := by
    refine evt_loop0 e.1.length (fun k (_ : Unit) i => laws_FnTwoCourses.l1 k d e.1 i) true (fun _ _ => True) ?_ ?_ () trivial
    · rintro i _ hi _
      have hm : e.1.getD i 0 ∈ e.1 := by rw [getD_lt _ _ _ hi]; exact List.getElem_mem _
      have hcd : courseB d = true := by
        cases hq : courseB d with
        | true => rfl
        | false => rw [he, chgV, if_neg (by simp [hq])] at hi; simp at hi
      have he2 : e.1 = changesTo (levelsV d) 239 := by rw [he, chgV, if_pos hcd]
      obtain ⟨m, m1, m2, m3⟩ := chg_mem (levelsV d) 239 (e.1.getD i 0) (by rw [← he2]; exact hm)
      have w1 : wrap64 (e.1.getD i 0 - 1) = (m : Int) := by rw [m2, wrap_id (by omega) (by omega)]; omega
      have p1 := CourseLevel_val hcd (m + 1) (by omega)
      have p2 := CourseLevel_val hcd m (by omega)
      rw [← m2] at p1
      refine .inl ⟨(), trivial, 1, (p1.and p2).mono fun k hk => ?_⟩
      show laws_FnTwoCourses.l1 (k + 1) d e.1 (i : Int) = _
      simp only [laws_FnTwoCourses.l1, rd_nat, w1, hk.1, hk.2, Option.bind_some, if_true, if_neg m3]
      rw [if_pos (by omega), if_pos (by omega), wrap_id (by omega) (by omega)]
    · rintro _ _
      refine Evt.succ (Evt.all fun k => ?_)
      show laws_FnTwoCourses.l1 (k + 1) d e.1 (e.1.length : Int) = _
      simp only [laws_FnTwoCourses.l1]
      rw [if_neg (by omega)]
  have j9 : Evt fun k => laws_FnTwoCourses.j9 k d e.1 false = some true := by
    refine Evt.succ (l1.mono fun k hk => ?_)
    simp only [laws_FnTwoCourses.j9, Bool.false_eq_true, if_false]; exact hk
  have j8 : Evt fun k => laws_FnTwoCourses.j8 k l0 = some true := by
    refine Evt.succ ((g3.and (e1.and (e2.and (j9.and (rInts_self e.1 (by omega)))))).mono ?_)
    rintro k ⟨h1, h2, h3, h4, h5⟩
    simp only [laws_FnTwoCourses.j8, spec_DrawChangesOf.f, h1, h2, h3, h5, Option.bind_some, bne_self_eq_false, Bool.false_eq_true, if_false, Bool.not_true]
    exact h4
  have j7 : Evt fun k => laws_FnTwoCourses.j7 k l0 c h s.1 s.2 false = some true := by
    cases hq : s.2 with
    | false =>
      refine Evt.succ (j8.mono fun k hk => ?_)
      simp only [laws_FnTwoCourses.j7, Bool.false_eq_true, if_false]; exact hk
    | true =>
      have hq' := hq
      rw [hs] at hq'
      have cond : courseB c = true ∧ (-240 ≤ h ∧ h ≤ 240) := by
        by_cases q : courseB c = true ∧ (-240 ≤ h ∧ h ≤ 240)
        · exact q
        · rw [shiftW, if_neg q] at hq'; cases hq'
      have val : courseB (c.map (movS h)) = true ∧ s.1 = c.map (movS h) := by
        rw [shiftW, if_pos cond, shiftV] at hq'
        by_cases q : courseB (c.map (movS h)) = true
        · refine ⟨q, ?_⟩
          rw [hs, shiftW, if_pos cond, shiftV, if_pos q]
        · rw [if_neg q] at hq'; cases hq'
      obtain ⟨t, ht, t1, _, _⟩ := ShiftCourse_ev s.1 (-h) (by omega) (by omega)
      have ht' : t = (c, true) := by
        rw [ht, val.2, shiftW, if_pos ⟨val.1, by omega, by omega⟩, shiftV, map_back, if_pos cond.1]
      rw [ht'] at t1
      refine Evt.succ ((t1.and (j8.and (rCourses_self c (by omega)))).mono ?_)
      rintro k ⟨h1, h2, h3⟩
      simp only [laws_FnTwoCourses.j7, Bool.false_eq_true, if_false, if_true]
      rw [wrap_id (by omega) (by omega), h1, Option.bind_some]
      simp only [if_true, h3, Option.bind_some]
      exact h2
  have tail : ∀ (x : Int), Evt fun k => laws_FnTwoCourses.j3 k l0 a b u.1 u.2 v.1 v.2 x false = some true := by
    intro x
    refine Evt.succ ((g2.and (s1.and (s2.and (j7.and (rCourses_self s.1 (by omega)))))).mono ?_)
    rintro k ⟨h1, h2, h3, h4, h5⟩
    simp only [laws_FnTwoCourses.j3, h1, h2, h3, h5, Option.bind_some, bne_self_eq_false, Bool.false_eq_true, if_false, Bool.not_true]
    exact h4
  have lp : Evt fun k => laws_FnTwoCourses.l0 k l0 a b u.1 u.2 v.1 v.2 0 = some true := by
    by_cases hor : u.2 = true ∨ v.2 = true
    · have hab : courseB a = true ∧ courseB b = true := by
        rcases hor with q | q
        · rw [hu] at q; exact (high_level q).1
        · rw [hv] at q; exact (comm_level q).1
      obtain ⟨N, hN⟩ : ∃ N : Nat, N = 240 := ⟨_, rfl⟩
      refine evt_loop0 N (fun k (_ : Unit) i => laws_FnTwoCourses.l0 k l0 a b u.1 u.2 v.1 v.2 i) true (fun _ _ => True) ?_ ?_ () trivial
      · rintro i _ hi _
        have pa := (CourseLevel_val hab.1 i (by omega)).up
        have pb := (CourseLevel_val hab.2 i (by omega)).up
        obtain ⟨x, hx⟩ : ∃ x, x = (levelsV a).getD i 0 := ⟨_, rfl⟩
        obtain ⟨y, hy⟩ : ∃ y, y = (levelsV b).getD i 0 := ⟨_, rfl⟩
        rw [← hx] at pa
        rw [← hy] at pb
        obtain ⟨p, hp, ph⟩ : ∃ p, (u.2 = true → p = (joinF x y, true)) ∧ Evt fun k => impl_CourseLevel.f k u.1 (i : Int) = some p := by
          cases hq : u.2 with
          | true =>
            have hq' := hq
            rw [hu] at hq'
            obtain ⟨_, g1, g2⟩ := high_level hq'
            rw [← hu] at g1 g2
            refine ⟨(joinF x y, true), fun _ => rfl, ?_⟩
            have := CourseLevel_val g1 i (by omega)
            rw [g2 i (by omega), ← hx, ← hy] at this
            exact this
          | false =>
            obtain ⟨p, p1⟩ := CourseLevel_some u.1 (i : Int) (by omega)
            exact ⟨p, (fun q => by cases q), p1⟩
        obtain ⟨q, hq, qh⟩ : ∃ p, (v.2 = true → p = (joinC x y, true)) ∧ Evt fun k => impl_CourseLevel.f k v.1 (i : Int) = some p := by
          cases hq : v.2 with
          | true =>
            have hq' := hq
            rw [hv] at hq'
            obtain ⟨_, g1, g2⟩ := comm_level hq'
            rw [← hv] at g1 g2
            refine ⟨(joinC x y, true), fun _ => rfl, ?_⟩
            have := CourseLevel_val g1 i (by omega)
            rw [g2 i (by omega), ← hx, ← hy] at this
            exact this
          | false =>
            obtain ⟨p, p1⟩ := CourseLevel_some v.1 (i : Int) (by omega)
            exact ⟨p, (fun q => by cases q), p1⟩
        have g0 : (i : Int) < 240 := by omega
        have w : wrap64 ((i : Int) + 1) = (i : Int) + 1 := wrap_id (by omega) (by omega)
        refine .inl ⟨(), trivial, 5, (pa.and (pb.and (ph.up.and qh.up))).mono ?_⟩
        rintro k ⟨h1, h2, h3, h4⟩
        have h4' := h4 0
        rw [Nat.add_zero] at h4'
        have j6 : laws_FnTwoCourses.j6 (k + 1) l0 a b u.1 u.2 v.1 v.2 (i : Int) x y false = laws_FnTwoCourses.l0 k l0 a b u.1 u.2 v.1 v.2 ((i : Int) + 1) := by
          simp only [laws_FnTwoCourses.j6, h4', Option.bind_some, Bool.false_eq_true, if_false, w]
          cases hz : v.2 with
          | false => simp
          | true =>
            rw [hq hz]
            simp only [if_true, joinC]
            by_cases c1 : x = y
            · simp [c1]
            · simp [c1]
        have j5 : laws_FnTwoCourses.j5 (k + 1 + 1) l0 a b u.1 u.2 v.1 v.2 (i : Int) x y (joinF x y) false = laws_FnTwoCourses.l0 k l0 a b u.1 u.2 v.1 v.2 ((i : Int) + 1) := by
          rw [laws_FnTwoCourses.j5]
          simp only [h3 1, Option.bind_some, Bool.false_eq_true, if_false]
          cases hz : u.2 with
          | false => rw [hz] at j6; simpa using j6
          | true =>
            rw [hz] at j6
            rw [hp hz]
            simp only [if_true, bne_self_eq_false]
            exact j6
        show laws_FnTwoCourses.l0 (k + 4 + 1) l0 a b u.1 u.2 v.1 v.2 (i : Int) = _
        have j3 : laws_FnTwoCourses.j3 (k + 3 + 1) l0 a b u.1 u.2 v.1 v.2 (i : Int) true = laws_FnTwoCourses.l0 k l0 a b u.1 u.2 v.1 v.2 ((i : Int) + 1) := by
          rw [laws_FnTwoCourses.j3]
          simp only [if_true, h1 3, h2 3, Option.bind_some]
          by_cases c1 : y > x
          · rw [if_pos c1]
            show laws_FnTwoCourses.j4 (k + 2 + 1) _ _ _ _ _ _ _ _ _ _ _ _ _ = _
            rw [laws_FnTwoCourses.j4]
            simp only [if_true, Bool.not_true]
            have : joinF x y = y := by unfold joinF; rw [if_pos c1]
            rw [this] at j5; exact j5
          · rw [if_neg c1]
            show laws_FnTwoCourses.j4 (k + 2 + 1) _ _ _ _ _ _ _ _ _ _ _ _ _ = _
            rw [laws_FnTwoCourses.j4]
            simp only [if_true, Bool.not_true]
            have : joinF x y = x := by unfold joinF; rw [if_neg c1]
            rw [this] at j5; exact j5
        rw [laws_FnTwoCourses.l0, if_pos g0]
        rcases hor with q1 | q1
        · rw [q1] at j3 ⊢
          simp only [if_true]; exact j3
        · rw [q1] at j3 ⊢
          cases hz : u.2 with
          | true => rw [hz] at j3; simp only [if_true]; exact j3
          | false => rw [hz] at j3; simp only [Bool.false_eq_true, if_false]; exact j3
      · rintro _ _
        refine Evt.succ ((tail (N : Int)).mono fun k hk => ?_)
        show laws_FnTwoCourses.l0 (k + 1) l0 a b u.1 u.2 v.1 v.2 (N : Int) = _
        rw [laws_FnTwoCourses.l0, if_neg (by omega)]; exact hk
    · have n1 : u.2 = false := by cases q : u.2 <;> simp_all
      have n2 : v.2 = false := by cases q : v.2 <;> simp_all
      refine Evt.succ ((tail 0).mono fun k hk => ?_)
      rw [laws_FnTwoCourses.l0, if_pos (by omega), n1, n2]
      rw [n1, n2] at hk
      simp only [Bool.false_eq_true, if_false]; exact hk
  have j1 : Evt fun k => laws_FnTwoCourses.j1 k l0 a b u.1 u.2 v.1 v.2 false = some true := by
    refine Evt.succ (lp.mono fun k hk => ?_)
    simp only [laws_FnTwoCourses.j1, Bool.false_eq_true, if_false]; exact hk
  have j0 : Evt fun k => laws_FnTwoCourses.j0 k l0 a b u.1 u.2 v.1 v.2 false = some true := by
    refine Evt.succ ((v2.and (j1.and (rCourses_self v.1 (by omega)))).mono ?_)
    rintro k ⟨h1, h2, h3⟩
    simp only [laws_FnTwoCourses.j0, h1, h3, Option.bind_some, bne_self_eq_false, Bool.false_eq_true, if_false, Bool.not_true]
    exact h2
  obtain ⟨K, hK⟩ := (g1.and (u1.and (v1.and (u2.and (j0.and (rCourses_self u.1 (by omega))))))).at
  obtain ⟨h1, h2, h3, h4, h5, h6⟩ := hK 0
  refine ⟨K + 0, ?_⟩
  unfold laws_FnTwoCourses.f
  simp only [laws_rBig.f, Option.bind_some, decide_eq_false hbig, h1, h2, h3, h4, h6, Bool.false_eq_true, if_false, bne_self_eq_false, Bool.not_true]
  exact h5
end Go.Proofs.Ytkegkbpadhddkaa.Pure
