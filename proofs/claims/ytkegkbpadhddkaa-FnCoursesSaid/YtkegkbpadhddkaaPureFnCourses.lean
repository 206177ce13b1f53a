/-
  The pure statement of the law FnCourses: what its printed function answers is 'true' for all numbers and lists of its kinds. Conditions: the kinds' own bounds, as the statement lays them.
-/
import Derived.Test.YtkegkbpadhddkaaXFnCoursesx11
import Derived.DataShut
namespace Go.Proofs.Ytkegkbpadhddkaa.Pure
open Go.RowKit Go.Proofs.Ytkegkbpadhddkaa.XFnCourses Go.Proofs.YtkegkbpadhddkaaW.PrintWords Go.Proofs.YtkegkbpadhddkaaW.PrintLast Go.Proofs.YtkegkbpadhddkaaW.PrintMore
set_option linter.unusedVariables false
set_option linter.unusedSimpArgs false
theorem wrap_id {x : Int} (h0 : -9223372036854775808 ≤ x) (h1 : x ≤ 9223372036854775807) : wrap64 x = x := by unfold wrap64; omega
theorem rd_nat (xs : List Int) (i : Nat) : rd xs (i : Int) = xs.getD i 0 := by simp [rd]
theorem for_loop {σ ρ : Type} (K n : Nat) (L : Nat → σ → Int → Option ρ) (v : ρ) (Inv : Nat → σ → Prop)
    (step : ∀ k i s, K ≤ k → i < n → Inv i s → (∃ s', Inv (i + 1) s' ∧ L (k + 1) s (i : Int) = L k s' ((i : Int) + 1)) ∨ L (k + 1) s (i : Int) = some v)
    (fin : ∀ k s, K ≤ k → Inv n s → L (k + 1) s (n : Int) = some v) :
    ∀ k s, Inv 0 s → n + K < k → L k s 0 = some v := by
  have key : ∀ d k i s, i + d = n → Inv i s → d + K < k → L k s (i : Int) = some v := by
    intro d
    induction d with
    | zero =>
      intro k i s hi h hk
      obtain ⟨k, rfl⟩ : ∃ m, k = m + 1 := ⟨k - 1, by omega⟩
      obtain rfl : i = n := by omega
      exact fin k s (by omega) h
    | succ d ih =>
      intro k i s hi h hk
      obtain ⟨k, rfl⟩ : ∃ m, k = m + 1 := ⟨k - 1, by omega⟩
      rcases step k i s (by omega) (by omega) h with ⟨s', h', e⟩ | e
      · rw [e]
        have := ih k (i + 1) s' (by omega) h' (by omega)
        rw [show ((i + 1 : Nat) : Int) = (i : Int) + 1 from by omega] at this
        exact this
      · exact e
  intro k s h hk
  exact key n k 0 s (by omega) h hk
theorem getD_drop {α : Type} (xs : List α) (z : α) (i : Nat) (h : i < xs.length) : xs.drop i = xs.getD i z :: xs.drop (i + 1) := by
  rw [List.drop_eq_getElem_cons h, List.getD_eq_getElem?_getD, List.getElem?_eq_getElem h]; rfl
theorem all_loop {α : Type} (K : Nat) (xs : List α) (z : α) (p : α → Bool) (L : Nat → Int → Option Bool)
    (step : ∀ k i, K ≤ k → i < xs.length → L (k + 1) (i : Int) = if p (xs.getD i z) = true then L k ((i : Int) + 1) else some false)
    (fin : ∀ k, K ≤ k → L (k + 1) (xs.length : Int) = some true) : ∀ k, xs.length + K < k → L k 0 = some (xs.all p) := by
  intro k hk
  refine for_loop K xs.length (fun k (_ : Unit) i => L k i) (xs.all p) (fun i _ => (xs.drop i).all p = xs.all p) ?_ ?_ k () (by simp) hk
  · intro k i s hK hi h
    rw [getD_drop xs z i hi, List.all_cons] at h
    by_cases hp : p (xs.getD i z) = true
    · refine .inl ⟨(), by rw [hp, Bool.true_and] at h; exact h, ?_⟩
      show L (k + 1) (i : Int) = _
      rw [step k i hK hi, if_pos hp]
    · refine .inr ?_
      show L (k + 1) (i : Int) = _
      rw [step k i hK hi, if_neg hp, ← h, (Bool.eq_false_iff.2 hp : p (xs.getD i z) = false), Bool.false_and]
  · intro k s hK h
    rw [List.drop_of_length_le (Nat.le_refl _)] at h
    show L (k + 1) (xs.length : Int) = _
    rw [fin k hK, ← h]; rfl
def Evt (P : Nat → Prop) : Prop := ∃ K, ∀ k, K ≤ k → P k
theorem Evt.all {P : Nat → Prop} (h : ∀ k, P k) : Evt P := ⟨0, fun k _ => h k⟩
theorem Evt.from {P : Nat → Prop} (K : Nat) (h : ∀ k, K ≤ k → P k) : Evt P := ⟨K, h⟩
theorem Evt.above {P : Nat → Prop} (K : Nat) (h : ∀ k, K < k → P k) : Evt P := ⟨K + 1, fun k hk => h k hk⟩
theorem Evt.and {P Q : Nat → Prop} (h : Evt P) (g : Evt Q) : Evt fun k => P k ∧ Q k := by
  obtain ⟨K, h⟩ := h
  obtain ⟨M, g⟩ := g
  exact ⟨K + M, fun k hk => ⟨h k (by omega), g k (by omega)⟩⟩
theorem Evt.mono {P Q : Nat → Prop} (h : Evt P) (g : ∀ k, P k → Q k) : Evt Q := by
  obtain ⟨K, h⟩ := h
  exact ⟨K, fun k hk => g k (h k hk)⟩
theorem Evt.succ {Q : Nat → Prop} (h : Evt fun k => Q (k + 1)) : Evt Q := by
  obtain ⟨K, h⟩ := h
  refine ⟨K + 1, fun k hk => ?_⟩
  obtain ⟨m, rfl⟩ : ∃ m, k = m + 1 := ⟨k - 1, by omega⟩
  exact h m (by omega)
theorem Evt.add {Q : Nat → Prop} (c : Nat) (h : Evt fun k => Q (k + c)) : Evt Q := by
  obtain ⟨K, h⟩ := h
  refine ⟨K + c, fun k hk => ?_⟩
  obtain ⟨m, rfl⟩ : ∃ m, k = m + c := ⟨k - c, by omega⟩
  exact h m (by omega)
theorem Evt.at {P : Nat → Prop} (h : Evt P) : ∃ K, ∀ j, P (K + j) := by
  obtain ⟨K, h⟩ := h
  exact ⟨K, fun j => h _ (by omega)⟩
theorem Evt.pos : Evt fun k => ∃ m, k = m + 1 := ⟨1, fun k hk => ⟨k - 1, by omega⟩⟩
theorem evt_loop {σ ρ : Type} (n : Nat) (L : Nat → σ → Int → Option ρ) (v : ρ) (Inv : Nat → σ → Prop)
    (step : ∀ i s, i < n → Inv i s → (∃ s', Inv (i + 1) s' ∧ ∃ c, Evt fun k => L (k + c) s (i : Int) = L k s' ((i : Int) + 1)) ∨ Evt fun k => L k s (i : Int) = some v)
    (fin : ∀ s, Inv n s → Evt fun k => L k s (n : Int) = some v) :
    ∀ i s, i ≤ n → Inv i s → Evt fun k => L k s (i : Int) = some v := by
  have key : ∀ d i s, i + d = n → Inv i s → Evt fun k => L k s (i : Int) = some v := by
    intro d
    induction d with
    | zero =>
      intro i s hi h
      obtain rfl : i = n := by omega
      exact fin s h
    | succ d ih =>
      intro i s hi h
      rcases step i s (by omega) h with ⟨s', h', c, e⟩ | e
      · have h2 := ih (i + 1) s' (by omega) h'
        rw [show ((i + 1 : Nat) : Int) = (i : Int) + 1 from by omega] at h2
        exact Evt.add c ((e.and h2).mono fun k hk => hk.1.trans hk.2)
      · exact e
  intro i s hi h
  exact key (n - i) i s (by omega) h
theorem evt_loop0 {σ ρ : Type} (n : Nat) (L : Nat → σ → Int → Option ρ) (v : ρ) (Inv : Nat → σ → Prop)
    (step : ∀ i s, i < n → Inv i s → (∃ s', Inv (i + 1) s' ∧ ∃ c, Evt fun k => L (k + c) s (i : Int) = L k s' ((i : Int) + 1)) ∨ Evt fun k => L k s (i : Int) = some v)
    (fin : ∀ s, Inv n s → Evt fun k => L k s (n : Int) = some v) (s : σ) (h0 : Inv 0 s) : Evt fun k => L k s 0 = some v :=
  evt_loop n L v Inv step fin 0 s (Nat.zero_le _) h0
theorem getD_lt {α : Type} (xs : List α) (z : α) (i : Nat) (h : i < xs.length) : xs.getD i z = xs[i] := by
  rw [List.getD_eq_getElem?_getD, List.getElem?_eq_getElem h]; rfl
theorem getD_set_self {α : Type} (xs : List α) (z v : α) (i : Nat) (h : i < xs.length) : (xs.set i v).getD i z = v := by
  rw [List.getD_eq_getElem?_getD, List.getElem?_set_self h]; rfl
theorem getD_set_ne {α : Type} (xs : List α) (z v : α) (i j : Nat) (h : i ≠ j) : (xs.set i v).getD j z = xs.getD j z := by
  rw [List.getD_eq_getElem?_getD, List.getElem?_set_ne h, List.getD_eq_getElem?_getD]
theorem list_ext_getD {α : Type} (xs ys : List α) (z : α) (h : xs.length = ys.length) (e : ∀ j, j < xs.length → xs.getD j z = ys.getD j z) : xs = ys := by
  apply List.ext_getElem h
  intro j h1 h2
  have := e j h1
  rwa [getD_lt _ _ _ h1, getD_lt _ _ _ h2] at this
theorem u64_range (x : Int) : 0 ≤ IntKind.u64.wrap x ∧ IntKind.u64.wrap x ≤ 18446744073709551615 := by
  simp [IntKind.wrap, IntKind.signed, IntKind.bits]; omega
theorem and255 (x : Int) : 0 ≤ wrap64 (Go.bits .and .u64 (IntKind.u64.wrap x / 1099511627776) 255) ∧ wrap64 (Go.bits .and .u64 (IntKind.u64.wrap x / 1099511627776) 255) ≤ 255 := by
  obtain ⟨h0, h1⟩ := u64_range x
  obtain ⟨y, hy⟩ : ∃ y, y = IntKind.u64.wrap x / 1099511627776 := ⟨_, rfl⟩
  rw [← hy]
  have h := bits_and_u64_nat y.toNat 255 (by omega) (by omega)
  have e : ((y.toNat : Nat) : Int) = y := by omega
  have h2 : bits BinOp.and IntKind.u64 y 255 = ((y.toNat &&& 255 : Nat) : Int) := by rw [← e]; exact h
  have h3 : y.toNat &&& 255 ≤ 255 := Nat.and_le_right
  rw [show Go.bits .and .u64 y 255 = bits BinOp.and IntKind.u64 y 255 from rfl, h2, wrap_id (by omega) (by omega)]
  omega
theorem next_ok (l : List Int) (hb : ∀ x ∈ l, 0 ≤ x ∧ x ≤ 255) (p s : Int) (h0 : 0 ≤ p) (h1 : p ≤ 4611686018427387904) : ∃ v s', spec_l1Cur_next.f l p s = some (v, p + 1, s') ∧ 0 ≤ v ∧ v ≤ 255 := by
  unfold spec_l1Cur_next.f
  have e : wrap64 (p + 1) = p + 1 := wrap_id (by omega) (by omega)
  by_cases c : p < (l.length : Int)
  · have hm : rd l p ∈ l := by
      have : rd l p = l.getD p.toNat 0 := by simp [rd]
      rw [this, List.getD_eq_getElem?_getD, List.getElem?_eq_getElem (by omega), Option.getD_some]
      exact List.getElem_mem _
    obtain ⟨b0, b1⟩ := hb _ hm
    rw [if_pos c, if_pos h0, e, if_pos (by omega)]
    exact ⟨_, _, rfl, by rw [wrap_id (by omega) (by omega)]; exact ⟨b0, b1⟩⟩
  · rw [if_neg c, e, if_neg (by omega)]
    exact ⟨_, _, rfl, and255 _⟩
theorem tmod_range (x a : Int) (h0 : 0 ≤ x) (ha : 1 ≤ a) : 0 ≤ Int.tmod x a ∧ Int.tmod x a < a := ⟨Int.tmod_nonneg a h0, Int.tmod_lt_of_pos x (by omega)⟩
theorem pick_ok (l : List Int) (hb : ∀ x ∈ l, 0 ≤ x ∧ x ≤ 255) (p s a : Int) (h0 : 0 ≤ p) (h1 : p ≤ 4611686018427387000) (ha : 1 ≤ a) :
    ∃ v p' s', spec_l1Cur_pick.f l p s a = some (v, p', s') ∧ p ≤ p' ∧ p' ≤ p + 2 ∧ 0 ≤ v ∧ v < a := by
  unfold spec_l1Cur_pick.f
  by_cases c : a ≤ 1
  · rw [if_pos c]; exact ⟨0, p, s, rfl, by omega, by omega, by omega, by omega⟩
  · obtain ⟨v, s1, e1, v0, v1⟩ := next_ok l hb p s h0 (by omega)
    rw [if_neg c, e1, Option.bind_some]
    by_cases c2 : a > 200
    · obtain ⟨u, s2, e2, u0, u1⟩ := next_ok l hb (p + 1) s1 (by omega) (by omega)
      rw [if_pos c2]; dsimp only; rw [e2, Option.bind_some, if_neg (by omega)]
      have q : 0 ≤ wrap64 (wrap64 (v * 256) + u) := by rw [wrap_id (x := v * 256) (by omega) (by omega), wrap_id (by omega) (by omega)]; omega
      exact ⟨_, _, _, rfl, by dsimp only; omega, by dsimp only; omega, tmod_range _ a q ha⟩
    · rw [if_neg c2, if_neg (by omega)]
      exact ⟨_, _, _, rfl, by dsimp only; omega, by dsimp only; omega, tmod_range _ a v0 ha⟩
theorem one_ok (l : List Int) (hb : ∀ x ∈ l, 0 ≤ x ∧ x ≤ 255) (p s a : Int) (h0 : 0 ≤ p) (h1 : p ≤ 4611686018427387000) (ha : 1 ≤ a) :
    ∃ b p' s', spec_l1Cur_one.f l p s a = some (b, p', s') ∧ p ≤ p' ∧ p' ≤ p + 2 := by
  obtain ⟨v, p', s', e, q0, q1, _, _⟩ := pick_ok l hb p s a h0 h1 ha
  unfold spec_l1Cur_one.f
  rw [e]; exact ⟨_, _, _, rfl, q0, q1⟩
theorem among_ok (l : List Int) (hb : ∀ x ∈ l, 0 ≤ x ∧ x ≤ 255) (p s : Int) (h0 : 0 ≤ p) (h1 : p ≤ 4611686018427387000) (xs : List Int) (hx : 1 ≤ xs.length) :
    ∃ v p' s', spec_l1Cur_among.f l p s xs = some (v, p', s') ∧ p ≤ p' ∧ p' ≤ p + 2 ∧ v ∈ xs := by
  obtain ⟨v, p', s', e, q0, q1, v0, v1⟩ := pick_ok l hb p s (xs.length : Int) h0 h1 (by omega)
  unfold spec_l1Cur_among.f
  rw [e, Option.bind_some, if_pos v0, if_pos v1]
  refine ⟨_, _, _, rfl, q0, q1, ?_⟩
  have : rd xs v = xs.getD v.toNat 0 := by simp [rd]
  dsimp only
  rw [this, List.getD_eq_getElem?_getD, List.getElem?_eq_getElem (by omega), Option.getD_some]
  exact List.getElem_mem _
theorem bytes_of (l : List Int) (h : ∀ x ∈ l, (Lit.int .u8 x).wf = true) : ∀ x ∈ l, 0 ≤ x ∧ x ≤ 255 := by
  intro x hx
  have := h x hx
  simpa [Lit.wf, IntKind.min, IntKind.max, IntKind.signed, IntKind.bits] using this
theorem tdiv11 (v : Int) (v0 : 0 ≤ v) (v1 : v < 24) : 0 ≤ Int.tdiv v 11 ∧ Int.tdiv v 11 ≤ 2 := by
  rw [Int.tdiv_eq_ediv_of_nonneg v0]; omega
theorem course_l0 (l : List Int) (hb : ∀ x ∈ l, 0 ≤ x ∧ x ≤ 255) : ∀ (n : Nat) (xs : List S41) (at_ p s : Int), xs.length + n ≤ 20 → 0 ≤ p → p + 6 * n ≤ 4611686018427370000 →
    ∃ r : List S41 × Int × Int, (r.1.length ≤ 20 ∧ p ≤ r.2.1 ∧ r.2.1 ≤ p + 6 * n + 10) ∧ Evt fun k => spec_l1Cur_course.l0 k xs at_ (n : Int) l p s = some r := by
  intro n
  induction n with
  | zero =>
    intro xs at_ p s hx h0 h1
    by_cases he : (xs.length : Int) = 0
    · refine ⟨(xs, p, s), ⟨by dsimp only; omega, by dsimp only; omega, by dsimp only; omega⟩, Evt.succ (Evt.all fun k => ?_)⟩
      simp only [spec_l1Cur_course.l0]
      rw [if_neg (by omega), if_pos he]
    · obtain ⟨v, p1, s1, e1, a1, b1, v0, v1⟩ := pick_ok l hb p s (xs.length : Int) h0 (by omega) (by omega)
      obtain ⟨q, p2, s2, e2, a2, b2, q0, q1⟩ := pick_ok l hb p1 s1 40 (by omega) (by omega) (by omega)
      obtain ⟨u1, p3, s3, e3, a3, b3, _⟩ := among_ok l hb p2 s2 (by omega) (by omega) [-1, (rd_T41 xs v).f1, 0] (by simp)
      obtain ⟨u2, p4, s4, e4, a4, b4, _⟩ := among_ok l hb p2 s2 (by omega) (by omega) [240, 241, (rd_T41 xs v).f0] (by simp)
      obtain ⟨u3, p5, s5, e5, a5, b5, _⟩ := among_ok l hb p2 s2 (by omega) (by omega) [0, 4, 1] (by decide)
      have base : ∀ k, spec_l1Cur_course.l0 (k + 1) xs at_ ((0 : Nat) : Int) l p s = if q = 0 then (some ((xs.set (v : Int).toNat (⟨u1, (rd_T41 xs v).f1, (rd_T41 xs v).f2⟩ : S41)), p3, s3)) else if q = 1 then (some ((xs.set (v : Int).toNat (⟨(rd_T41 xs v).f0, u2, (rd_T41 xs v).f2⟩ : S41)), p4, s4)) else if q = 2 then (some ((xs.set (v : Int).toNat (⟨(rd_T41 xs v).f0, (rd_T41 xs v).f1, u3⟩ : S41)), p5, s5)) else (some ((xs.set (v : Int).toNat (⟨(rd_T41 xs v).f0, (rd_T41 xs v).f1, (rd_T41 xs v).f2⟩ : S41)), p2, s2)) := by
        intro k
        simp only [spec_l1Cur_course.l0]
        rw [if_neg (by omega), if_neg he, e1, Option.bind_some]; dsimp only
        rw [if_pos v0, if_pos v1, e2, Option.bind_some]; dsimp only
        rw [e3, e4, e5]; rfl
      by_cases k0 : q = 0
      · refine ⟨(xs.set (v : Int).toNat (⟨u1, (rd_T41 xs v).f1, (rd_T41 xs v).f2⟩ : S41), p3, s3), ⟨by simp; omega, by dsimp only; omega, by dsimp only; omega⟩, Evt.succ (Evt.all fun k => ?_)⟩
        rw [base, if_pos k0]
      · by_cases k1 : q = 1
        · refine ⟨(xs.set (v : Int).toNat (⟨(rd_T41 xs v).f0, u2, (rd_T41 xs v).f2⟩ : S41), p4, s4), ⟨by simp; omega, by dsimp only; omega, by dsimp only; omega⟩, Evt.succ (Evt.all fun k => ?_)⟩
          rw [base, if_neg k0, if_pos k1]
        · by_cases k2 : q = 2
          · refine ⟨(xs.set (v : Int).toNat (⟨(rd_T41 xs v).f0, (rd_T41 xs v).f1, u3⟩ : S41), p5, s5), ⟨by simp; omega, by dsimp only; omega, by dsimp only; omega⟩, Evt.succ (Evt.all fun k => ?_)⟩
            rw [base, if_neg k0, if_neg k1, if_pos k2]
          · refine ⟨(xs.set (v : Int).toNat (⟨(rd_T41 xs v).f0, (rd_T41 xs v).f1, (rd_T41 xs v).f2⟩ : S41), p2, s2), ⟨by simp; omega, by dsimp only; omega, by dsimp only; omega⟩, Evt.succ (Evt.all fun k => ?_)⟩
            rw [base, if_neg k0, if_neg k1, if_neg k2]
  | succ n ih =>
    intro xs at_ p s hx h0 h1
    obtain ⟨u, p1, s1, e1, a1, b1, _⟩ := among_ok l hb p s h0 (by omega) [1, 2, 6, 12] (by decide)
    obtain ⟨v, p2, s2, e2, a2, b2, v0, v1⟩ := pick_ok l hb p1 s1 3 (by omega) (by omega) (by omega)
    obtain ⟨g, p3, s3, e3, a3, b3, _⟩ := among_ok l hb p2 s2 (by omega) (by omega) [0, 0, 1, 5] (by decide)
    have hn : wrap64 (((n + 1 : Nat) : Int) - 1) = (n : Int) := by rw [wrap_id (by omega) (by omega)]; omega
    have go : ∀ t : S41, ∃ r : List S41 × Int × Int, (r.1.length ≤ 20 ∧ p ≤ r.2.1 ∧ r.2.1 ≤ p + 6 * (n + 1 : Nat) + 10) ∧ Evt fun k => spec_l1Cur_course.l0 k (xs ++ [t]) (wrap64 ((wrap64 (at_ + u)) + g)) (n : Int) l p3 s3 = some r := by
      intro t
      obtain ⟨r, ⟨r1, r2, r3⟩, ev⟩ := ih (xs ++ [t]) (wrap64 ((wrap64 (at_ + u)) + g)) p3 s3 (by simp; omega) (by omega) (by omega)
      exact ⟨r, ⟨r1, by omega, by omega⟩, ev⟩
    have hx2 : xs.length < 5864062014805 := by omega
    have step : ∃ t : S41, ∀ k, spec_l1Cur_course.l0 (k + 1) xs at_ ((n + 1 : Nat) : Int) l p s = spec_l1Cur_course.l0 k (xs ++ [t]) (wrap64 ((wrap64 (at_ + u)) + g)) (n : Int) l p3 s3 := by
      by_cases c0 : (xs.length : Int) > 0
      · have w : wrap64 ((xs.length : Int) - 1) = (xs.length : Int) - 1 := wrap_id (by omega) (by omega)
        by_cases c1 : (rd_T41 xs ((xs.length : Int) - 1)).f1 = at_
        · by_cases c2 : (rd_T41 xs ((xs.length : Int) - 1)).f2 = wrap64 (1 + v)
          · refine ⟨⟨at_, wrap64 (at_ + u), wrap64 (1 + (Int.tmod (wrap64 (1 + v)) 3))⟩, fun k => ?_⟩
            simp only [spec_l1Cur_course.l0]
            rw [if_pos (by omega), e1, Option.bind_some]; dsimp only
            rw [e2, Option.bind_some, if_pos c0, w, if_pos (by omega), if_pos (by omega)]; dsimp only
            rw [if_pos c1, if_pos c2, if_pos hx2, e3, Option.bind_some, hn]
          · refine ⟨⟨at_, wrap64 (at_ + u), wrap64 (1 + v)⟩, fun k => ?_⟩
            simp only [spec_l1Cur_course.l0]
            rw [if_pos (by omega), e1, Option.bind_some]; dsimp only
            rw [e2, Option.bind_some, if_pos c0, w, if_pos (by omega), if_pos (by omega)]; dsimp only
            rw [if_pos c1, if_neg c2, if_pos hx2, e3, Option.bind_some, hn]
        · refine ⟨⟨at_, wrap64 (at_ + u), wrap64 (1 + v)⟩, fun k => ?_⟩
          simp only [spec_l1Cur_course.l0]
          rw [if_pos (by omega), e1, Option.bind_some]; dsimp only
          rw [e2, Option.bind_some, if_pos c0, w, if_pos (by omega), if_pos (by omega)]; dsimp only
          rw [if_neg c1, if_pos hx2, e3, Option.bind_some, hn]
      · refine ⟨⟨at_, wrap64 (at_ + u), wrap64 (1 + v)⟩, fun k => ?_⟩
        simp only [spec_l1Cur_course.l0]
        rw [if_pos (by omega), e1, Option.bind_some]; dsimp only
        rw [e2, Option.bind_some, if_neg c0]; dsimp only
        rw [if_pos hx2, e3, Option.bind_some, hn]
    obtain ⟨t, ht⟩ := step
    obtain ⟨r, hr, ev⟩ := go t
    exact ⟨r, hr, Evt.succ (ev.mono fun k hk => by rw [ht]; exact hk)⟩
theorem course_draw (l : List Int) (hb : ∀ x ∈ l, 0 ≤ x ∧ x ≤ 255) (p s : Int) (h0 : 0 ≤ p) (h1 : p ≤ 4611686018427360000) :
    ∃ r : List S41 × Int × Int, (r.1.length ≤ 20 ∧ p ≤ r.2.1 ∧ r.2.1 ≤ p + 200) ∧ Evt fun k => spec_l1Cur_course.f k l p s = some r := by
  obtain ⟨u, p1, s1, e1, a1, b1, _⟩ := among_ok l hb p s h0 (by omega) [0, 0, 3, 10] (by decide)
  obtain ⟨v, p2, s2, e2, a2, b2, v0, v1⟩ := pick_ok l hb p1 s1 7 (by omega) (by omega) (by omega)
  obtain ⟨o, p3, s3, e3, a3, b3⟩ := one_ok l hb p2 s2 16 (by omega) (by omega) (by omega)
  obtain ⟨g, p4, s4, e4, a4, b4, g0, g1⟩ := pick_ok l hb p3 s3 3 (by omega) (by omega) (by omega)
  obtain ⟨r, ⟨r1, r2, r3⟩, ev⟩ := course_l0 l hb v.toNat [] u p3 s3 (by simp; omega) (by omega) (by omega)
  obtain ⟨q, ⟨q1, q2, q3⟩, ew⟩ := course_l0 l hb (11 + g).toNat [] u p4 s4 (by simp; omega) (by omega) (by omega)
  rw [show ((v.toNat : Nat) : Int) = v by omega] at ev
  rw [show (((11 + g).toNat : Nat) : Int) = 11 + g by omega] at ew
  cases o with
  | true =>
    refine ⟨q, ⟨q1, by omega, by omega⟩, Evt.succ (ew.mono fun k hk => ?_)⟩
    simp only [spec_l1Cur_course.f, Option.bind_some, e1, e2, e3, e4, if_true, spec_l1Cur_course.j0]
    rw [wrap_id (by omega) (by omega)]; exact hk
  | false =>
    refine ⟨r, ⟨r1, by omega, by omega⟩, Evt.succ (ev.mono fun k hk => ?_)⟩
    simp only [spec_l1Cur_course.f, Option.bind_some, e1, e2, e3, spec_l1Cur_course.j0]
    exact hk
theorem hour18_draw (l : List Int) (hb : ∀ x ∈ l, 0 ≤ x ∧ x ≤ 255) (p s : Int) (h0 : 0 ≤ p) (h1 : p ≤ 4611686018427370000) :
    ∃ v p' s', spec_l1Cur_hour18.f l p s = some (v, p', s') ∧ p ≤ p' ∧ p' ≤ p + 4 ∧ -1 ≤ v ∧ v ≤ 240 := by
  obtain ⟨v, p1, s1, e1, a1, b1, v0, v1⟩ := pick_ok l hb p s 24 h0 (by omega) (by omega)
  have t0 := tdiv11 v v0 v1
  obtain ⟨z, p2, s2, e2, a2, b2, m⟩ := among_ok l hb p1 s1 (by omega) (by omega) (([0, 1, 5, 10, 15, 24, 40, 239, -1, 240] : List Int).take (8 + Int.tdiv v 11).toNat) (by rw [List.length_take]; simp only [List.length_cons, List.length_nil]; omega)
  have m' := List.mem_of_mem_take m
  refine ⟨z, p2, s2, ?_, by omega, by omega, ?_⟩
  · simp only [spec_l1Cur_hour18.f, Option.bind_some, e1]
    rw [wrap_id (x := Int.tdiv v 11) (by omega) (by omega), wrap_id (x := 8 + Int.tdiv v 11) (by omega) (by omega), if_pos (by omega), if_pos (by simp only [List.length_cons, List.length_nil]; omega), e2, Option.bind_some]
  · simp only [List.mem_cons, List.not_mem_nil, or_false] at m'
    omega
theorem DrawSetCourseLevel_ev (l : List Int) (hb : ∀ x ∈ l, 0 ≤ x ∧ x ≤ 255) : ∃ c a b v, List.length (c : List S41) ≤ 20 ∧ (-1 ≤ a ∧ a ≤ 240) ∧ (-1 ≤ b ∧ b ≤ 480) ∧ (-1 ≤ v ∧ v ≤ 4) ∧ Evt fun k => spec_DrawSetCourseLevel.f k l = some (c, a, b, v) := by
  obtain ⟨⟨c, p1, s1⟩, ⟨r1, r2, r3⟩, ev⟩ := course_draw l hb 0 0 (by omega) (by omega)
  dsimp only at r1 r2 r3
  obtain ⟨a, p2, s2, e2, a2, b2, m2, m3⟩ := hour18_draw l hb p1 s1 (by omega) (by omega)
  obtain ⟨d, p3, s3, e3, a3, b3, m⟩ := among_ok l hb p2 s2 (by omega) (by omega) [1, 2, 6, 20, 240, 0] (by decide)
  obtain ⟨v, p4, s4, e4, a4, b4, v0, v1⟩ := pick_ok l hb p3 s3 24 (by omega) (by omega) (by omega)
  have t0 := tdiv11 v v0 v1
  obtain ⟨z, p5, s5, e5, a5, b5, mz⟩ := among_ok l hb p4 s4 (by omega) (by omega) (([0, 1, 2, 3, -1, 4] : List Int).take (4 + Int.tdiv v 11).toNat) (by rw [List.length_take]; simp only [List.length_cons, List.length_nil]; omega)
  have mz' := List.mem_of_mem_take mz
  simp only [List.mem_cons, List.not_mem_nil, or_false] at m mz'
  refine ⟨c, a, a + d, z, r1, ⟨m2, m3⟩, by omega, by omega, ev.mono fun k hk => ?_⟩
  simp only [spec_DrawSetCourseLevel.f, hk, Option.bind_some, e2, e3, e4]
  rw [wrap_id (x := Int.tdiv v 11) (by omega) (by omega), wrap_id (x := 4 + Int.tdiv v 11) (by omega) (by omega), if_pos (by omega), if_pos (by simp only [List.length_cons, List.length_nil]; omega), e5, Option.bind_some, wrap_id (by omega) (by omega)]
theorem DrawIsValidCourse_ev (l : List Int) (hb : ∀ x ∈ l, 0 ≤ x ∧ x ≤ 255) : ∃ c, List.length (c : List S41) ≤ 20 ∧ Evt fun k => spec_DrawIsValidCourse.f k l = some c := by
  obtain ⟨⟨c, p1, s1⟩, ⟨r1, r2, r3⟩, ev⟩ := course_draw l hb 0 0 (by omega) (by omega)
  exact ⟨c, r1, ev.mono fun k hk => by simp only [spec_DrawIsValidCourse.f, hk, Option.bind_some]⟩
theorem drawLv_l2 (l : List Int) (hb : ∀ x ∈ l, 0 ≤ x ∧ x ≤ 255) : ∀ (m : Nat) (xs : List Int) (p s : Int), xs.length + m = 245 → 0 ≤ p → p + 2 * m ≤ 4611686018427380000 →
    ∃ r : List Int, r.length ≤ 245 ∧ Evt fun k => spec_DrawCourseOf.l2 k xs l p s = some r := by
  intro m
  induction m with
  | zero =>
    intro xs p s hx h0 h1
    obtain ⟨v, p1, s1, e1, a1, b1, v0, v1⟩ := pick_ok l hb p s 2 h0 (by omega) (by omega)
    refine ⟨xs, by omega, Evt.succ (Evt.all fun k => ?_)⟩
    simp only [spec_DrawCourseOf.l2]
    rw [e1, Option.bind_some, wrap_id (by omega) (by omega), if_neg (by omega)]
  | succ m ih =>
    intro xs p s hx h0 h1
    obtain ⟨v, p1, s1, e1, a1, b1, v0, v1⟩ := pick_ok l hb p s 2 h0 (by omega) (by omega)
    by_cases c : (xs.length : Int) < 240 + v
    · obtain ⟨r, r1, ev⟩ := ih (xs ++ [0]) p1 s1 (by simp; omega) (by omega) (by omega)
      refine ⟨r, r1, Evt.succ (ev.mono fun k hk => ?_)⟩
      simp only [spec_DrawCourseOf.l2]
      rw [e1, Option.bind_some, wrap_id (by omega) (by omega), if_pos c, if_pos (by omega)]; exact hk
    · refine ⟨xs, by omega, Evt.succ (Evt.all fun k => ?_)⟩
      simp only [spec_DrawCourseOf.l2]
      rw [e1, Option.bind_some, wrap_id (by omega) (by omega), if_neg c]
theorem drawLv_l1 (l : List Int) (a b p s : Int) : ∀ (m : Nat) (xs : List Int), xs.length + m ≤ 1000 → m ≤ 100 → ∃ ys : List Int, ys.length = xs.length + m ∧ ∃ c, ∀ k, spec_DrawCourseOf.l1 (k + c) xs a b ((m : Int) - 1) l p s = spec_DrawCourseOf.l0 k ys (wrap64 (a - 1)) l p s := by
  intro m
  induction m with
  | zero =>
    intro xs hx hm
    refine ⟨xs, rfl, 1, fun k => ?_⟩
    simp only [spec_DrawCourseOf.l1]
    rw [if_neg (by omega)]
  | succ m ih =>
    intro xs hx hm
    obtain ⟨ys, hy, c, hc⟩ := ih (xs ++ [b]) (by simp; omega) (by omega)
    refine ⟨ys, by rw [hy]; simp; omega, c + 1, fun k => ?_⟩
    show spec_DrawCourseOf.l1 ((k + c) + 1) _ _ _ _ _ _ _ = _
    rw [spec_DrawCourseOf.l1, if_pos (by omega), if_pos (by omega), wrap_id (x := ((m + 1 : Nat) : Int) - 1 - 1) (by omega) (by omega), show (((m + 1 : Nat) : Int) - 1 - 1) = (m : Int) - 1 by omega]
    exact hc k
theorem drawLv_l0 (l : List Int) (hb : ∀ x ∈ l, 0 ≤ x ∧ x ≤ 255) : ∀ (n : Nat) (xs : List Int) (p s : Int), n ≤ 19 → xs.length + 4 * n ≤ 100 → 0 ≤ p → p + 4 * n ≤ 4611686018427370000 →
    ∃ r : List Int, r.length ≤ 245 ∧ Evt fun k => spec_DrawCourseOf.l0 k xs (n : Int) l p s = some r := by
  intro n
  induction n with
  | zero =>
    intro xs p s hn hx h0 h1
    obtain ⟨v, p1, s1, e1, a1, b1, v0, v1⟩ := pick_ok l hb p s 24 h0 (by omega) (by omega)
    obtain ⟨u, p2, s2, e2, a2, b2, _⟩ := among_ok l hb p1 s1 (by omega) (by omega) [-1, 4] (by decide)
    obtain ⟨q3, r3, ev3⟩ := drawLv_l2 l hb (245 - xs.length) xs p1 s1 (by omega) (by omega) (by omega)
    by_cases k0 : v = 0
    · refine ⟨xs ++ [u], by simp; omega, Evt.succ (Evt.all fun k => ?_)⟩
      simp only [spec_DrawCourseOf.l0]
      rw [if_neg (by omega), e1, Option.bind_some, if_pos k0]; dsimp only
      rw [e2, Option.bind_some, if_pos (by omega)]
    · by_cases k1 : v = 1
      · refine ⟨q3, r3, Evt.succ (ev3.mono fun k hk => ?_)⟩
        simp only [spec_DrawCourseOf.l0]
        rw [if_neg (by omega), e1, Option.bind_some, if_neg k0, if_pos k1]; exact hk
      · refine ⟨xs, by omega, Evt.succ (Evt.all fun k => ?_)⟩
        simp only [spec_DrawCourseOf.l0]
        rw [if_neg (by omega), e1, Option.bind_some, if_neg k0, if_neg k1]
  | succ n ih =>
    intro xs p s hn hx h0 h1
    obtain ⟨u, p1, s1, e1, a1, b1, u0, u1⟩ := pick_ok l hb p s 4 h0 (by omega) (by omega)
    obtain ⟨v, p2, s2, e2, a2, b2, v0, v1⟩ := pick_ok l hb p1 s1 4 (by omega) (by omega) (by omega)
    obtain ⟨ys, hy, c, hc⟩ := drawLv_l1 l ((n + 1 : Nat) : Int) u p2 s2 (v.toNat + 1) xs (by omega) (by omega)
    obtain ⟨r, r1, ev⟩ := ih ys p2 s2 (by omega) (by omega) (by omega) (by omega)
    refine ⟨r, r1, Evt.add (c + 1) (ev.mono fun k hk => ?_)⟩
    show spec_DrawCourseOf.l0 ((k + c) + 1) _ _ _ _ _ = _
    rw [spec_DrawCourseOf.l0, if_pos (by omega), e1, Option.bind_some]; dsimp only
    rw [e2, Option.bind_some]; dsimp only
    have := hc k
    rw [show (((v.toNat + 1 : Nat) : Int) - 1) = v by omega, wrap_id (by omega) (by omega), show (((n + 1 : Nat) : Int) - 1) = (n : Int) by omega] at this
    rw [this]; exact hk
theorem DrawCourseOf_ev (l : List Int) (hb : ∀ x ∈ l, 0 ≤ x ∧ x ≤ 255) : ∃ lv, List.length (lv : List Int) ≤ 245 ∧ Evt fun k => spec_DrawCourseOf.f k l = some lv := by
  obtain ⟨v, p1, s1, e1, a1, b1, v0, v1⟩ := pick_ok l hb 0 0 20 (by omega) (by omega) (by omega)
  obtain ⟨r, r1, ev⟩ := drawLv_l0 l hb v.toNat [] p1 s1 (by omega) (by simp; omega) (by omega) (by omega)
  rw [show ((v.toNat : Nat) : Int) = v by omega] at ev
  exact ⟨r, r1, ev.mono fun k hk => by simp only [spec_DrawCourseOf.f, e1, Option.bind_some, hk]⟩
theorem rInts_self (l : List Int) (hl : l.length ≤ 4503599627370496) : Evt fun k => laws_rInts.f k l l = some true := by
  refine Evt.mono (P := fun k => laws_rInts.l0 k l l 0 = some true) ?_ (fun k hk => by unfold laws_rInts.f; rw [if_pos rfl]; exact hk)
  refine evt_loop0 l.length (fun k (_ : Unit) i => laws_rInts.l0 k l l i) true (fun _ _ => True) ?_ ?_ () trivial
  · rintro i s hi _
    refine .inl ⟨(), trivial, 1, Evt.all fun k => ?_⟩
    show laws_rInts.l0 (k + 1) l l (i : Int) = _
    simp only [laws_rInts.l0]
    rw [if_pos (by omega), if_pos (by omega), if_pos (by omega), wrap_id (by omega) (by omega)]; simp
  · rintro s _
    refine Evt.succ (Evt.all fun k => ?_)
    show laws_rInts.l0 (k + 1) l l (l.length : Int) = _
    simp only [laws_rInts.l0]
    rw [if_neg (by omega)]
theorem rTable_self (tb : List (List Int)) (hl : tb.length ≤ 1000000) (hr : ∀ r ∈ tb, r.length ≤ 1000000) : Evt fun k => laws_rTable.f k tb tb = some true := by
  refine Evt.mono (P := fun k => laws_rTable.l0 k tb tb 0 = some true) ?_ (fun k hk => by unfold laws_rTable.f; rw [if_pos rfl]; exact hk)
  refine evt_loop0 tb.length (fun k (_ : Unit) i => laws_rTable.l0 k tb tb i) true (fun _ _ => True) ?_ ?_ () trivial
  · rintro i s hi _
    have e : rd_L3 tb (i : Int) = tb.getD i [] := by unfold rd_L3; rw [Int.toNat_natCast]
    have hm : tb.getD i [] ∈ tb := by rw [getD_lt _ _ _ hi]; exact List.getElem_mem hi
    refine .inl ⟨(), trivial, 1, (rInts_self (tb.getD i []) (by have := hr _ hm; omega)).mono fun k hk => ?_⟩
    show laws_rTable.l0 (k + 1) tb tb (i : Int) = _
    simp only [laws_rTable.l0, e, hk, Option.bind_some]
    rw [if_pos (by omega), if_pos (by omega), if_pos (by omega), wrap_id (by omega) (by omega)]; simp
  · rintro s _
    refine Evt.succ (Evt.all fun k => ?_)
    show laws_rTable.l0 (k + 1) tb tb (tb.length : Int) = _
    simp only [laws_rTable.l0]
    rw [if_neg (by omega)]
theorem within_ok (a b c : Int) : impl_within.f a b c = some (decide (b ≤ a ∧ a ≤ c)) := by
  unfold impl_within.f
  split <;> simp <;> omega
theorem l1In_ok (a b c : Int) : spec_l1In.f a b c = some (decide (b ≤ a ∧ a ≤ c)) := by
  unfold spec_l1In.f
  split <;> simp <;> omega
theorem segHours_ok (a b c : Int) : impl_areSegmentHours.f a b c = some (decide (0 ≤ a ∧ a < b ∧ b ≤ 240)) := by
  unfold impl_areSegmentHours.f
  split
  · split
    · exact congrArg some (decide_eq_decide.2 (by omega))
    · rw [decide_eq_false (by omega)]
  · rw [decide_eq_false (by omega)]
theorem l18Hours_ok (a b c : Int) : spec_l18Hours.f a b c = some (decide (0 ≤ a ∧ a < b ∧ b ≤ 240)) := by
  unfold spec_l18Hours.f
  split
  · split
    · exact congrArg some (decide_eq_decide.2 (by omega))
    · rw [decide_eq_false (by omega)]
  · rw [decide_eq_false (by omega)]
def segB (s : S41) : Bool := decide (0 ≤ s.f0 ∧ s.f0 < s.f1 ∧ s.f1 ≤ 240) && decide (1 ≤ s.f2 ∧ s.f2 ≤ 3)
def pairB (p s : S41) : Bool := decide (¬ (p.f1 > s.f0) ∧ ¬ (p.f1 = s.f0 ∧ p.f2 = s.f2))
def atB (l : List S41) (i : Nat) : Bool := segB (l.getD i z41) && (decide (i = 0) || pairB (l.getD (i - 1) z41) (l.getD i z41))
def courseB (l : List S41) : Bool := decide (∀ i, i < l.length → atB l i = true) && decide (l.length ≤ 12)
theorem courseB_seg {l : List S41} (h : courseB l = true) : ∀ s ∈ l, segB s = true := by
  intro s hs
  unfold courseB at h
  simp only [Bool.and_eq_true, decide_eq_true_eq] at h
  obtain ⟨i, hi, rfl⟩ := List.mem_iff_getElem.1 hs
  have := h.1 i hi
  unfold atB at this
  simp only [Bool.and_eq_true] at this
  rw [getD_lt _ _ _ hi] at this
  exact this.1
theorem courseB_len {l : List S41} (h : courseB l = true) : l.length ≤ 12 := by
  unfold courseB at h
  simp only [Bool.and_eq_true, decide_eq_true_eq] at h
  exact h.2
theorem rd_seg (l : List S41) (i : Nat) : rd_T41 l (i : Int) = l.getD i z41 := by unfold rd_T41; rw [Int.toNat_natCast]
theorem rd_seg_pred (l : List S41) (i : Nat) : rd_T41 l ((i : Int) - 1) = l.getD (i - 1) z41 := by unfold rd_T41; congr 1; omega
theorem validCourse_step (l : List S41) (hl : l.length ≤ 4503599627370496) (k i : Nat) (hi : i < l.length) :
    impl_IsValidCourse.l0 (k + 2) l l (l.length : Int) (i : Int) = if atB l i = true then impl_IsValidCourse.l0 k l l (l.length : Int) ((i : Int) + 1) else some false := by
  obtain ⟨s, hs⟩ : ∃ s, l.getD i z41 = s := ⟨_, rfl⟩
  obtain ⟨p, hp⟩ : ∃ p, l.getD (i - 1) z41 = p := ⟨_, rfl⟩
  have w1 : wrap64 ((i : Int) + 1) = (i : Int) + 1 := wrap_id (by omega) (by omega)
  have w2 : wrap64 ((i : Int) - 1) = (i : Int) - 1 := wrap_id (by omega) (by omega)
  simp only [impl_IsValidCourse.l0]
  rw [if_pos (by omega), if_pos (by omega), if_pos (by omega)]
  simp only [impl_IsValidCourse.j1, segHours_ok, within_ok, Option.bind_some, rd_seg, w1, w2, rd_seg_pred, atB, segB, pairB, hs, hp]
  by_cases h1 : 0 ≤ s.f0 ∧ s.f0 < s.f1 ∧ s.f1 ≤ 240
  · by_cases h2 : 1 ≤ s.f2 ∧ s.f2 ≤ 3
    · by_cases h3 : i = 0
      · subst h3; simp [h1, h2]
      · have h4 : (i : Int) > 0 := by omega
        have h5 : 0 ≤ (i : Int) - 1 := by omega
        have h6 : (i : Int) - 1 < (l.length : Int) := by omega
        simp only [decide_eq_true h1, decide_eq_true h2, if_pos h4, if_pos h5, if_pos h6, if_true, Bool.not_true, Bool.true_and, decide_eq_false h3, Bool.false_or]
        by_cases h7 : p.f1 > s.f0
        · simp [h7]
        · by_cases h8 : p.f1 = s.f0
          · by_cases h9 : p.f2 = s.f2 <;> simp [h8, h9]
          · simp [h7, h8]
    · simp [h1, h2]
  · simp [h1]
theorem IsValidCourse_ev (l : List S41) (hl : l.length ≤ 4503599627370496) : Evt fun k => impl_IsValidCourse.f k l = some (courseB l) := by
  unfold impl_IsValidCourse.f
  refine evt_loop0 l.length (fun k (_ : Unit) i => impl_IsValidCourse.l0 k l l (l.length : Int) i) (courseB l) (fun i _ => ∀ j, j < i → atB l j = true) ?_ ?_ () (fun j hj => by omega)
  · intro i s hi h
    by_cases hb : atB l i = true
    · refine .inl ⟨(), fun j hj => ?_, 2, Evt.all fun k => ?_⟩
      · by_cases e : j = i
        · subst e; exact hb
        · exact h j (by omega)
      · show impl_IsValidCourse.l0 (k + 2) l l (l.length : Int) (i : Int) = _
        rw [validCourse_step l hl k i hi, if_pos hb]
    · refine .inr (Evt.add 2 (Evt.all fun k => ?_))
      show impl_IsValidCourse.l0 (k + 2) l l (l.length : Int) (i : Int) = _
      rw [validCourse_step l hl k i hi, if_neg hb]
      unfold courseB
      rw [decide_eq_false (fun hA => hb (hA i hi)), Bool.false_and]
  · intro s h
    refine Evt.succ (Evt.all fun k => ?_)
    show impl_IsValidCourse.l0 (k + 1) l l (l.length : Int) (l.length : Int) = _
    simp only [impl_IsValidCourse.l0]
    rw [if_neg (by omega)]
    unfold courseB
    rw [decide_eq_true h, Bool.true_and]
    exact congrArg some (decide_eq_decide.2 (by omega))
theorem l18Good_step (l : List S41) (hl : l.length ≤ 4503599627370496) (k i : Nat) (hi : i < l.length) :
    spec_l18Good.l0 (k + 2) l (i : Int) = if atB l i = true then spec_l18Good.l0 k l ((i : Int) + 1) else some false := by
  obtain ⟨s, hs⟩ : ∃ s, l.getD i z41 = s := ⟨_, rfl⟩
  obtain ⟨p, hp⟩ : ∃ p, l.getD (i - 1) z41 = p := ⟨_, rfl⟩
  have w1 : wrap64 ((i : Int) + 1) = (i : Int) + 1 := wrap_id (by omega) (by omega)
  have w2 : wrap64 ((i : Int) - 1) = (i : Int) - 1 := wrap_id (by omega) (by omega)
  have g1 : 0 ≤ (i : Int) := by omega
  have g2 : (i : Int) < (l.length : Int) := by omega
  simp only [spec_l18Good.l0]
  rw [if_pos (by omega), if_pos (by omega)]
  simp only [spec_l18Good.j1, l18Hours_ok, l1In_ok, Option.bind_some, rd_seg, w1, w2, rd_seg_pred, atB, segB, pairB, hs, hp, if_pos g1, if_pos g2]
  by_cases h1 : 0 ≤ s.f0 ∧ s.f0 < s.f1 ∧ s.f1 ≤ 240
  · by_cases h2 : 1 ≤ s.f2 ∧ s.f2 ≤ 3
    · by_cases h3 : i = 0
      · subst h3; simp [h1, h2]
      · have h4 : (i : Int) > 0 := by omega
        have h5 : 0 ≤ (i : Int) - 1 := by omega
        have h6 : (i : Int) - 1 < (l.length : Int) := by omega
        simp only [decide_eq_true h1, decide_eq_true h2, if_pos h4, if_pos h5, if_pos h6, if_true, Bool.not_true, Bool.true_and, decide_eq_false h3, Bool.false_or]
        by_cases h7 : p.f1 > s.f0
        · simp [h7]
        · by_cases h8 : p.f1 = s.f0
          · by_cases h9 : p.f2 = s.f2 <;> simp [h8, h9]
          · simp [h7, h8]
    · simp [h1, h2]
  · simp [h1]
theorem l18Good_ev (l : List S41) (hl : l.length ≤ 4503599627370496) : Evt fun k => spec_l18Good.f k l = some (courseB l) := by
  unfold spec_l18Good.f
  refine evt_loop0 l.length (fun k (_ : Unit) i => spec_l18Good.l0 k l i) (courseB l) (fun i _ => ∀ j, j < i → atB l j = true) ?_ ?_ () (fun j hj => by omega)
  · intro i s hi h
    by_cases hb : atB l i = true
    · refine .inl ⟨(), fun j hj => ?_, 2, Evt.all fun k => ?_⟩
      · by_cases e : j = i
        · subst e; exact hb
        · exact h j (by omega)
      · show spec_l18Good.l0 (k + 2) l (i : Int) = _
        rw [l18Good_step l hl k i hi, if_pos hb]
    · refine .inr (Evt.add 2 (Evt.all fun k => ?_))
      show spec_l18Good.l0 (k + 2) l (i : Int) = _
      rw [l18Good_step l hl k i hi, if_neg hb]
      unfold courseB
      rw [decide_eq_false (fun hA => hb (hA i hi)), Bool.false_and]
  · intro s h
    refine Evt.succ (Evt.all fun k => ?_)
    show spec_l18Good.l0 (k + 1) l (l.length : Int) = _
    simp only [spec_l18Good.l0]
    rw [if_neg (by omega)]
    unfold courseB
    rw [decide_eq_true h, Bool.true_and]
    exact congrArg some (decide_eq_decide.2 (by omega))
theorem rCourses_self (l : List S41) (hl : l.length ≤ 4503599627370496) : Evt fun k => laws_rCourses.f k l l = some true := by
  refine Evt.mono (P := fun k => laws_rCourses.l0 k l l 0 = some true) ?_ (fun k hk => by unfold laws_rCourses.f; rw [if_pos rfl]; exact hk)
  refine evt_loop0 l.length (fun k (_ : Unit) i => laws_rCourses.l0 k l l i) true (fun _ _ => True) ?_ ?_ () trivial
  · rintro i s hi _
    refine .inl ⟨(), trivial, 1, Evt.all fun k => ?_⟩
    show laws_rCourses.l0 (k + 1) l l (i : Int) = _
    simp only [laws_rCourses.l0]
    rw [if_pos (by omega), if_pos (by omega), if_pos (by omega), wrap_id (by omega) (by omega)]; simp
  · rintro s _
    refine Evt.succ (Evt.all fun k => ?_)
    show laws_rCourses.l0 (k + 1) l l (l.length : Int) = _
    simp only [laws_rCourses.l0]
    rw [if_neg (by omega)]
def setR (acc : List Int) (a b v : Int) : List Int := acc.mapIdx fun i x => if a ≤ (i : Int) ∧ (i : Int) < b then v else x
theorem setR_len (acc : List Int) (a b v : Int) : (setR acc a b v).length = acc.length := by simp [setR]
theorem setR_get (acc : List Int) (a b v : Int) (j : Nat) (h : j < acc.length) : (setR acc a b v).getD j 0 = if a ≤ (j : Int) ∧ (j : Int) < b then v else acc.getD j 0 := by
  rw [getD_lt _ _ _ (by rw [setR_len]; exact h), getD_lt _ _ _ h]
  simp [setR]
theorem setR_none (acc : List Int) (a b v : Int) (h : b ≤ a) : setR acc a b v = acc := by
  refine list_ext_getD _ _ 0 (setR_len _ _ _ _) (fun j hj => ?_)
  rw [setR_get _ _ _ _ _ (by rwa [setR_len] at hj), if_neg (by omega)]
theorem setR_set (acc : List Int) (a b v : Int) (h0 : 0 ≤ a) (h : a < b) (hb : b ≤ acc.length) : setR (acc.set a.toNat v) (a + 1) b v = setR acc a b v := by
  refine list_ext_getD _ _ 0 (by rw [setR_len, setR_len, List.length_set]) (fun j hj => ?_)
  rw [setR_len, List.length_set] at hj
  rw [setR_get _ _ _ _ _ (by rw [List.length_set]; exact hj), setR_get _ _ _ _ _ hj]
  by_cases e : j = a.toNat
  · subst e
    rw [if_neg (by omega), if_pos (by omega), getD_set_self _ _ _ _ hj]
  · rw [getD_set_ne _ _ _ _ _ (by omega)]
    by_cases g : a + 1 ≤ (j : Int) ∧ (j : Int) < b
    · rw [if_pos g, if_pos (by omega)]
    · rw [if_neg g, if_neg (by omega)]
def levelsV (l : List S41) : List Int := l.foldl (fun acc s => setR acc s.f0 s.f1 s.f2) (List.replicate 240 0)
theorem levels_fold_len (l : List S41) : ∀ acc : List Int, (l.foldl (fun acc s => setR acc s.f0 s.f1 s.f2) acc).length = acc.length := by
  induction l with
  | nil => intro acc; rfl
  | cons s l ih => intro acc; rw [List.foldl_cons, ih, setR_len]
theorem levelsV_len (l : List S41) : (levelsV l).length = 240 := by
  unfold levelsV; rw [levels_fold_len, List.length_replicate]
theorem levels_fold_le (l : List S41) (hv : ∀ s ∈ l, segB s = true) : ∀ acc : List Int, (∀ x ∈ acc, 0 ≤ x ∧ x ≤ 3) → ∀ x ∈ l.foldl (fun acc s => setR acc s.f0 s.f1 s.f2) acc, 0 ≤ x ∧ x ≤ 3 := by
  induction l with
  | nil => intro acc h; exact h
  | cons s l ih =>
    intro acc h
    rw [List.foldl_cons]
    refine ih (fun t ht => hv t (List.mem_cons_of_mem _ ht)) _ (fun x hx => ?_)
    have hs := hv s List.mem_cons_self
    unfold segB at hs
    simp only [Bool.and_eq_true, decide_eq_true_eq] at hs
    obtain ⟨i, hi, rfl⟩ := List.mem_iff_getElem.1 hx
    rw [setR_len] at hi
    have := setR_get acc s.f0 s.f1 s.f2 i hi
    rw [getD_lt _ _ _ (by rw [setR_len]; exact hi)] at this
    rw [this]
    split
    · omega
    · rw [getD_lt _ _ _ hi]; exact h _ (List.getElem_mem _)
theorem levelsV_le {l : List S41} (hv : ∀ s ∈ l, segB s = true) : ∀ x ∈ levelsV l, 0 ≤ x ∧ x ≤ 3 :=
  levels_fold_le l hv _ (fun x hx => by rw [List.eq_of_mem_replicate hx]; omega)
theorem levelsOf_inner (l : List S41) (n i a b v : Int) : ∀ (d : Nat) (h : Int) (acc : List Int) (k : Nat), h + d = b → 0 ≤ h → b ≤ acc.length → acc.length ≤ 4503599627370496 →
    impl_levelsOf.l1 (k + (d + 1)) acc h l n i a b v = impl_levelsOf.l0 k (setR acc h b v) l n (wrap64 (i + 1)) := by
  intro d
  induction d with
  | zero =>
    intro h acc k e h0 hb hl
    show impl_levelsOf.l1 (k + 1) acc h l n i a b v = _
    simp only [impl_levelsOf.l1]
    rw [if_neg (by omega), setR_none _ _ _ _ (by omega)]
  | succ d ih =>
    intro h acc k e h0 hb hl
    show impl_levelsOf.l1 ((k + (d + 1)) + 1) acc h l n i a b v = _
    rw [impl_levelsOf.l1]
    rw [if_pos (by omega), if_pos (by omega), if_pos (by omega), wrap_id (x := h + 1) (by omega) (by omega), ih (h + 1) _ k (by omega) (by omega) (by rw [List.length_set]; exact hb) (by rw [List.length_set]; exact hl), setR_set _ _ _ _ h0 (by omega) hb]
theorem levelsOf_ev (l : List S41) (hl : l.length ≤ 4503599627370496) (hv : ∀ s ∈ l, segB s = true) : Evt fun k => impl_levelsOf.f k l = some (levelsV l) := by
  unfold impl_levelsOf.f
  simp only [if_pos (show (240 : Nat) ≤ 35184372088832 by omega)]
  refine evt_loop0 l.length (fun k s i => impl_levelsOf.l0 k s l (l.length : Int) i) (levelsV l) (fun i s => s.length = 240 ∧ (l.drop i).foldl (fun acc s => setR acc s.f0 s.f1 s.f2) s = levelsV l) ?_ ?_ _ ⟨List.length_replicate, rfl⟩
  · rintro i s hi ⟨h1, h2⟩
    have hs := hv (l.getD i z41) (by rw [getD_lt _ _ _ hi]; exact List.getElem_mem _)
    unfold segB at hs
    simp only [Bool.and_eq_true, decide_eq_true_eq] at hs
    rw [getD_drop l z41 i hi, List.foldl_cons] at h2
    refine .inl ⟨_, ⟨by rw [setR_len]; exact h1, h2⟩, ((l.getD i z41).f1 - (l.getD i z41).f0).toNat + 1 + 1, Evt.all fun k => ?_⟩
    show impl_levelsOf.l0 ((k + (((l.getD i z41).f1 - (l.getD i z41).f0).toNat + 1)) + 1) s l (l.length : Int) (i : Int) = _
    simp only [impl_levelsOf.l0, rd_seg]
    rw [if_pos (by omega), if_pos (by omega), if_pos (by omega), levelsOf_inner _ _ _ _ _ _ _ _ _ _ (by omega) (by omega) (by omega) (by omega), wrap_id (by omega) (by omega)]
  · rintro s ⟨h1, h2⟩
    rw [List.drop_of_length_le (Nat.le_refl _)] at h2
    refine Evt.succ (Evt.all fun k => ?_)
    show impl_levelsOf.l0 (k + 1) s l (l.length : Int) (l.length : Int) = _
    simp only [impl_levelsOf.l0]
    rw [if_neg (by omega), ← h2]; rfl
theorem l18Levels_inner (l : List S41) (hl : l.length ≤ 4503599627370496) (i : Nat) (hi : i < l.length) (b v : Int) (hb0 : (l.getD i z41).f1 = b) (hv0 : (l.getD i z41).f2 = v) : ∀ (d : Nat) (h : Int) (acc : List Int) (k : Nat), h + d = b → 0 ≤ h → b ≤ acc.length → acc.length ≤ 4503599627370496 →
    spec_l18Levels.l1 (k + (d + 1)) l acc (i : Int) h = spec_l18Levels.l0 k l (setR acc h b v) ((i : Int) + 1) := by
  intro d
  induction d with
  | zero =>
    intro h acc k e h0 hb hl'
    show spec_l18Levels.l1 (k + 1) l acc (i : Int) h = _
    simp only [spec_l18Levels.l1, rd_seg, hb0, hv0]
    rw [if_pos (by omega), if_pos (by omega), if_neg (by omega), setR_none _ _ _ _ (by omega), wrap_id (by omega) (by omega)]
  | succ d ih =>
    intro h acc k e h0 hb hl'
    show spec_l18Levels.l1 ((k + (d + 1)) + 1) l acc (i : Int) h = _
    rw [spec_l18Levels.l1]
    simp only [rd_seg, hb0, hv0]
    rw [if_pos (by omega), if_pos (by omega), if_pos (by omega), if_pos (by omega), if_pos (by omega), wrap_id (x := h + 1) (by omega) (by omega), ih (h + 1) _ k (by omega) (by omega) (by rw [List.length_set]; exact hb) (by rw [List.length_set]; exact hl'), setR_set _ _ _ _ h0 (by omega) hb]
theorem l18Levels_ev (l : List S41) (hl : l.length ≤ 4503599627370496) (hv : ∀ s ∈ l, segB s = true) : Evt fun k => spec_l18Levels.f k l = some (levelsV l) := by
  unfold spec_l18Levels.f
  simp only [if_pos (show (240 : Nat) ≤ 35184372088832 by omega)]
  refine evt_loop0 l.length (fun k s i => spec_l18Levels.l0 k l s i) (levelsV l) (fun i s => s.length = 240 ∧ (l.drop i).foldl (fun acc s => setR acc s.f0 s.f1 s.f2) s = levelsV l) ?_ ?_ _ ⟨List.length_replicate, rfl⟩
  · rintro i s hi ⟨h1, h2⟩
    have hs := hv (l.getD i z41) (by rw [getD_lt _ _ _ hi]; exact List.getElem_mem _)
    unfold segB at hs
    simp only [Bool.and_eq_true, decide_eq_true_eq] at hs
    rw [getD_drop l z41 i hi, List.foldl_cons] at h2
    refine .inl ⟨_, ⟨by rw [setR_len]; exact h1, h2⟩, ((l.getD i z41).f1 - (l.getD i z41).f0).toNat + 1 + 1, Evt.all fun k => ?_⟩
    show spec_l18Levels.l0 ((k + (((l.getD i z41).f1 - (l.getD i z41).f0).toNat + 1)) + 1) l s (i : Int) = _
    simp only [spec_l18Levels.l0, rd_seg]
    rw [if_pos (by omega), if_pos (by omega), l18Levels_inner l hl i hi _ _ rfl rfl _ _ _ _ (by omega) (by omega) (by omega) (by omega)]
  · rintro s ⟨h1, h2⟩
    rw [List.drop_of_length_le (Nat.le_refl _)] at h2
    refine Evt.succ (Evt.all fun k => ?_)
    show spec_l18Levels.l0 (k + 1) l s (l.length : Int) = _
    simp only [spec_l18Levels.l0]
    rw [if_neg (by omega), ← h2]; rfl
theorem evt_meas {σ ρ : Type} (L : Nat → σ → Option ρ) (v : ρ) (Inv : σ → Prop) (m : σ → Nat)
    (step : ∀ s, Inv s → (∃ s', Inv s' ∧ m s' < m s ∧ ∃ c, Evt fun k => L (k + c) s = L k s') ∨ Evt fun k => L k s = some v) :
    ∀ s, Inv s → Evt fun k => L k s = some v := by
  have key : ∀ (n : Nat) (s : σ), m s < n → Inv s → Evt fun k => L k s = some v := by
    intro n
    induction n with
    | zero => intro s hs; omega
    | succ n ih =>
      intro s hs hi
      rcases step s hi with ⟨s', hi', hm, c, e⟩ | e
      · exact Evt.add c ((e.and (ih s' (by omega) hi')).mono fun k hk => hk.1.trans hk.2)
      · exact e
  intro s hi
  exact key (m s + 1) s (by omega) hi
def lastS (acc : List S41) : S41 := acc.getD (acc.length - 1) z41
def stepC (lv : List Int) (acc : List S41) (i : Nat) : List S41 :=
  if lv.getD i 0 = 0 then acc
  else if 0 < acc.length ∧ (lastS acc).f1 = (i : Int) ∧ (lastS acc).f2 = lv.getD i 0 then acc.set (acc.length - 1) ⟨(lastS acc).f0, (lastS acc).f1 + 1, (lastS acc).f2⟩
  else acc ++ [⟨(i : Int), (i : Int) + 1, lv.getD i 0⟩]
def runC (lv : List Int) : Nat → List S41
  | 0 => []
  | n + 1 => stepC lv (runC lv n) n
def courseV (lv : List Int) : List S41 × Bool := if 12 < (runC lv lv.length).length then ([], false) else (runC lv lv.length, true)
theorem lastS_append (acc : List S41) (s : S41) : lastS (acc ++ [s]) = s := by
  unfold lastS
  rw [List.getD_eq_getElem?_getD]
  simp
theorem lastS_set (acc : List S41) (s : S41) (h : 0 < acc.length) : lastS (acc.set (acc.length - 1) s) = s := by
  unfold lastS
  rw [List.length_set, getD_set_self _ _ _ _ (by omega)]
theorem runC_len (lv : List Int) : ∀ i, (runC lv i).length ≤ i := by
  intro i
  induction i with
  | zero => simp [runC]
  | succ i ih =>
    simp only [runC, stepC]
    split
    · omega
    · split
      · rw [List.length_set]; omega
      · rw [List.length_append, List.length_singleton]; omega
theorem runC_last (lv : List Int) : ∀ i, 0 < (runC lv i).length → (lastS (runC lv i)).f1 ≤ (i : Int) ∧ ((lastS (runC lv i)).f1 = (i : Int) → 0 < i ∧ (lastS (runC lv i)).f2 = lv.getD (i - 1) 0) := by
  intro i
  induction i with
  | zero => intro h; simp [runC] at h
  | succ i ih =>
    intro h
    simp only [runC, stepC] at h ⊢
    split at h
    · rename_i h0
      rw [if_pos h0]
      have := (ih h).1
      exact ⟨by omega, fun e => by omega⟩
    · rename_i h0
      rw [if_neg h0]
      split at h
      · rename_i h1
        rw [if_pos h1, lastS_set _ _ h1.1]
        refine ⟨by simp only; omega, fun _ => ⟨by omega, ?_⟩⟩
        simp only [Nat.add_sub_cancel]
        exact h1.2.2
      · rename_i h1
        rw [if_neg h1, lastS_append]
        refine ⟨by simp only; omega, fun _ => ⟨by omega, ?_⟩⟩
        simp only [Nat.add_sub_cancel]
theorem courseOf_ev (lv : List Int) (hl : lv.length ≤ 1000000000) : Evt fun k => impl_courseOf.f k lv = some (courseV lv) := by
  unfold impl_courseOf.f
  refine evt_loop0 lv.length (fun k s i => impl_courseOf.l0 k s lv (lv.length : Int) i) (courseV lv) (fun i s => s = runC lv i) ?_ ?_ _ rfl
  · rintro i s hi rfl
    refine .inl ⟨_, rfl, 1, Evt.all fun k => ?_⟩
    show impl_courseOf.l0 (k + 1) (runC lv i) lv (lv.length : Int) (i : Int) = impl_courseOf.l0 k (stepC lv (runC lv i) i) lv (lv.length : Int) ((i : Int) + 1)
    have hlen := runC_len lv i
    have hlast := runC_last lv i
    have w1 : wrap64 ((i : Int) + 1) = (i : Int) + 1 := wrap_id (by omega) (by omega)
    simp only [impl_courseOf.l0, rd_nat, w1]
    rw [if_pos (by omega), if_pos (by omega), if_pos (by omega)]
    unfold stepC
    by_cases h0 : lv.getD i 0 = 0
    · rw [if_pos h0, if_pos h0]
    · rw [if_neg h0, if_neg h0, if_pos (show (runC lv i).length < 5864062014805 by omega)]
      by_cases h1 : 0 < (runC lv i).length
      · have w2 : wrap64 (((runC lv i).length : Int) - 1) = ((runC lv i).length : Int) - 1 := wrap_id (by omega) (by omega)
        have e1 : rd_T41 (runC lv i) (((runC lv i).length : Int) - 1) = lastS (runC lv i) := by unfold rd_T41 lastS; congr 1; omega
        have e2 : (((runC lv i).length : Int) - 1).toNat = (runC lv i).length - 1 := by omega
        rw [if_pos (by omega), w2, if_pos (by omega), if_pos (by omega), e1, e2]
        by_cases h2 : (lastS (runC lv i)).f1 = (i : Int)
        · by_cases h3 : (lastS (runC lv i)).f2 = lv.getD i 0
          · rw [if_pos h2, if_pos h3, if_pos ⟨h1, h2, h3⟩, wrap_id (by omega) (by omega)]
          · rw [if_pos h2, if_neg h3, if_neg (fun h => h3 h.2.2)]
        · rw [if_neg h2, if_neg (fun h => h2 h.2.1)]
      · rw [if_neg (by omega), if_neg (fun h => h1 h.1)]
  · rintro s rfl
    refine Evt.succ (Evt.all fun k => ?_)
    show impl_courseOf.l0 (k + 1) (runC lv lv.length) lv (lv.length : Int) (lv.length : Int) = _
    simp only [impl_courseOf.l0]
    rw [if_neg (by omega)]
    unfold courseV
    by_cases h : 12 < (runC lv lv.length).length
    · rw [if_pos (by omega), if_pos h]
    · rw [if_neg (by omega), if_neg h]
theorem runC_run (lv : List Int) (i : Nat) (hb : i = 0 ∨ lv.getD (i - 1) 0 ≠ lv.getD i 0) : ∀ m, (∀ q, i ≤ q → q < i + (m + 1) → lv.getD q 0 = lv.getD i 0) →
    runC lv (i + (m + 1)) = if lv.getD i 0 = 0 then runC lv i else runC lv i ++ [⟨(i : Int), ((i + (m + 1) : Nat) : Int), lv.getD i 0⟩] := by
  intro m
  induction m with
  | zero =>
    intro _
    show stepC lv (runC lv i) i = _
    unfold stepC
    by_cases h0 : lv.getD i 0 = 0
    · rw [if_pos h0, if_pos h0]
    · rw [if_neg h0, if_neg h0, if_neg]
      · simp
      · rintro ⟨h1, h2, h3⟩
        have := (runC_last lv i h1).2 h2
        rcases hb with hb | hb
        · omega
        · exact hb (this.2.symm.trans h3)
  | succ m ih =>
    intro hq
    show stepC lv (runC lv (i + (m + 1))) (i + (m + 1)) = _
    rw [ih (fun q h1 h2 => hq q h1 (by omega))]
    unfold stepC
    rw [hq (i + (m + 1)) (by omega) (by omega)]
    by_cases h0 : lv.getD i 0 = 0
    · rw [if_pos h0, if_pos h0, if_pos h0]
    · rw [if_neg h0, if_neg h0, if_neg h0, if_pos ⟨by simp, by rw [lastS_append], by rw [lastS_append]⟩]
      rw [lastS_append]
      simp only [List.length_append, List.length_singleton, Nat.add_sub_cancel]
      rw [List.set_append_right _ _ (Nat.le_refl _)]
      simp
      omega
theorem l18Course_ev (lv : List Int) (hl : lv.length ≤ 1000000000) (h0 : ∀ x ∈ lv, 0 ≤ x) : Evt fun k => spec_l18Course.f k lv = some (courseV lv) := by
  unfold spec_l18Course.f
  have hge : ∀ i, i < lv.length → 0 ≤ lv.getD i 0 := fun i hi => by rw [getD_lt _ _ _ hi]; exact h0 _ (List.getElem_mem _)
  have fin : ∀ k, spec_l18Course.l0 (k + 1) lv (runC lv lv.length) (lv.length : Int) = some (courseV lv) := by
    intro k
    simp only [spec_l18Course.l0]
    rw [if_neg (by omega)]
    unfold courseV
    by_cases h : 12 < (runC lv lv.length).length
    · rw [if_pos (by omega), if_pos h]
    · rw [if_neg (by omega), if_neg h]
  have main := evt_meas (fun k (s : Nat × Nat) => spec_l18Course.l1 k lv (runC lv s.1) (s.1 : Int) (s.2 : Int)) (courseV lv)
    (fun s => s.1 < lv.length ∧ s.1 ≤ s.2 ∧ s.2 ≤ lv.length ∧ (s.1 = 0 ∨ lv.getD (s.1 - 1) 0 ≠ lv.getD s.1 0) ∧ ∀ q, s.1 ≤ q → q < s.2 → lv.getD q 0 = lv.getD s.1 0)
    (fun s => 2 * (lv.length - s.2) + if s.1 < s.2 then 1 else 0) ?_
  · refine Evt.succ ?_
    by_cases hn : 0 < lv.length
    · have := main (0, 0) ⟨hn, Nat.le_refl _, Nat.zero_le _, .inl rfl, fun q h1 h2 => by simp only at h2; omega⟩
      refine this.mono fun k hk => ?_
      simp only [spec_l18Course.l0]
      rw [if_pos (by omega)]
      exact hk
    · refine Evt.all fun k => ?_
      have := fin k
      obtain rfl : lv = [] := List.eq_nil_of_length_eq_zero (by omega)
      exact this
  · rintro ⟨i, p⟩ ⟨h1, h2, h3, hb, hq⟩
    simp only at h1 h2 h3 hb hq ⊢
    have hlen := runC_len lv i
    have run_end : i < p → runC lv p = if lv.getD i 0 = 0 then runC lv i else runC lv i ++ [⟨(i : Int), (p : Int), lv.getD i 0⟩] := by
      intro hip
      have := runC_run lv i hb (p - i - 1) (fun q a b => hq q a (by omega))
      rw [show i + (p - i - 1 + 1) = p from by omega] at this
      exact this
    by_cases hp : p < lv.length
    · by_cases he : lv.getD p 0 = lv.getD i 0
      · refine .inl ⟨(i, p + 1), ⟨h1, by simp only; omega, by simp only; omega, hb, fun q a b => ?_⟩, ?_, 1, Evt.all fun k => ?_⟩
        · simp only at a b ⊢
          by_cases hqp : q = p
          · subst hqp; exact he
          · exact hq q a (by omega)
        · simp only
          rw [if_pos (by omega)]
          split <;> omega
        · simp only [spec_l18Course.l1, rd_nat]
          rw [if_pos (by omega), if_pos (by omega), if_pos (by omega), if_pos (by omega), if_pos he, wrap_id (by omega) (by omega)]
          rfl
      · have hip : i < p := by
          rcases Nat.lt_or_ge i p with h | h
          · exact h
          · exact absurd (by rw [show p = i from by omega]) he
        have hr := run_end hip
        refine .inl ⟨(p, p), ⟨hp, Nat.le_refl _, h3, .inr ?_, fun q a b => by simp only at a b; omega⟩, ?_, 2, Evt.all fun k => ?_⟩
        · simp only
          rw [hq (p - 1) (by omega) (by omega)]
          exact fun h => he h.symm
        · simp only
          rw [if_pos hip, if_neg (by omega)]
          omega
        · simp only [spec_l18Course.l1, rd_nat]
          rw [if_pos (by omega), if_pos (by omega), if_pos (by omega), if_pos (by omega), if_neg he]
          rw [hr]
          have := hge i h1
          by_cases hz : lv.getD i 0 = 0
          · rw [if_neg (by omega), if_pos hz]
            simp only [spec_l18Course.l0]
            rw [if_pos (by omega)]
          · rw [if_pos (by omega), if_neg hz, if_pos (by omega)]
            simp only [spec_l18Course.l0]
            rw [if_pos (by omega)]
    · obtain rfl : p = lv.length := by omega
      have hr := run_end h1
      refine .inr (Evt.add 2 (Evt.all fun k => ?_))
      simp only [spec_l18Course.l1, rd_nat]
      rw [if_neg (by omega), if_pos (by omega), if_pos (by omega)]
      have := hge i h1
      have hf := fin k
      rw [hr] at hf
      by_cases hz : lv.getD i 0 = 0
      · rw [if_neg (by omega)]
        rw [if_pos hz] at hf
        exact hf
      · rw [if_pos (by omega), if_pos (by omega)]
        rw [if_neg hz] at hf
        exact hf
theorem levelsV_append (l : List S41) (s : S41) : levelsV (l ++ [s]) = setR (levelsV l) s.f0 s.f1 s.f2 := by
  unfold levelsV; rw [List.foldl_append]; rfl
theorem take_succ_getD (l : List S41) (n : Nat) (h : n < l.length) : l.take (n + 1) = l.take n ++ [l.getD n z41] := by
  rw [List.take_succ_eq_append_getElem h, getD_lt _ _ _ h]
theorem levels_at (l : List S41) (n j : Nat) (h : n < l.length) (hj : j < 240) :
    (levelsV (l.take (n + 1))).getD j 0 = if (l.getD n z41).f0 ≤ (j : Int) ∧ (j : Int) < (l.getD n z41).f1 then (l.getD n z41).f2 else (levelsV (l.take n)).getD j 0 := by
  rw [take_succ_getD l n h, levelsV_append, setR_get _ _ _ _ _ (by rw [levelsV_len]; exact hj)]
theorem levels_nil (j : Nat) : (levelsV ([] : List S41)).getD j 0 = 0 := by
  unfold levelsV
  rw [List.foldl_nil, List.getD_eq_getElem?_getD, List.getElem?_replicate]
  split <;> rfl
def endN (l : List S41) : Nat → Int
  | 0 => 0
  | n + 1 => (l.getD n z41).f1
theorem courseB_at {l : List S41} (h : courseB l = true) (i : Nat) (hi : i < l.length) : atB l i = true := by
  unfold courseB at h
  simp only [Bool.and_eq_true, decide_eq_true_eq] at h
  exact h.1 i hi
theorem seg_at {l : List S41} (h : courseB l = true) (n : Nat) (hn : n < l.length) :
    (0 ≤ (l.getD n z41).f0 ∧ (l.getD n z41).f0 < (l.getD n z41).f1 ∧ (l.getD n z41).f1 ≤ 240) ∧ (1 ≤ (l.getD n z41).f2 ∧ (l.getD n z41).f2 ≤ 3) ∧ endN l n ≤ (l.getD n z41).f0 ∧
      (endN l n = (l.getD n z41).f0 → n = 0 ∨ (l.getD (n - 1) z41).f2 ≠ (l.getD n z41).f2) := by
  have := courseB_at h n hn
  unfold atB segB pairB at this
  simp only [Bool.and_eq_true, Bool.or_eq_true, decide_eq_true_eq] at this
  refine ⟨this.1.1, this.1.2, ?_, ?_⟩
  · cases n with
    | zero => exact this.1.1.1
    | succ n =>
      rcases this.2 with e | ⟨e, _⟩
      · omega
      · show (l.getD n z41).f1 ≤ _
        simp only [Nat.add_sub_cancel] at e
        omega
  · intro e
    cases n with
    | zero => exact .inl rfl
    | succ n =>
      rcases this.2 with e2 | ⟨_, e2⟩
      · omega
      · right
        intro e3
        exact e2 ⟨e, e3⟩
theorem endN_le {l : List S41} (h : courseB l = true) : ∀ n, n ≤ l.length → 0 ≤ endN l n ∧ endN l n ≤ 240
  | 0, _ => by simp [endN]
  | n + 1, hn => by
    have := seg_at h n (by omega)
    show 0 ≤ (l.getD n z41).f1 ∧ (l.getD n z41).f1 ≤ 240
    omega
theorem levels_behind {l : List S41} (h : courseB l = true) : ∀ n, n ≤ l.length → ∀ j : Nat, j < 240 → endN l n ≤ j → (levelsV (l.take n)).getD j 0 = 0
  | 0, _, j, _, _ => by rw [List.take_zero]; exact levels_nil j
  | n + 1, hn, j, hj, he => by
    have s := seg_at h n (by omega)
    have he : (l.getD n z41).f1 ≤ j := he
    rw [levels_at l n j (by omega) hj, if_neg (by omega)]
    exact levels_behind h n (by omega) j hj (by omega)
theorem endN_mono {l : List S41} (h : courseB l = true) (n : Nat) : ∀ d, n + d ≤ l.length → endN l n ≤ endN l (n + d)
  | 0, _ => Int.le_refl _
  | d + 1, hd => by
    have s := seg_at h (n + d) (by omega)
    have := endN_mono h n d (by omega)
    show _ ≤ (l.getD (n + d) z41).f1
    omega
theorem levels_stay {l : List S41} (h : courseB l = true) (n : Nat) (j : Nat) (hj : j < 240) (he : (j : Int) < endN l n) : ∀ d, n + d ≤ l.length → (levelsV (l.take (n + d))).getD j 0 = (levelsV (l.take n)).getD j 0
  | 0, _ => rfl
  | d + 1, hd => by
    have s := seg_at h (n + d) (by omega)
    have m := endN_mono h n d (by omega)
    rw [show n + (d + 1) = (n + d) + 1 from by omega, levels_at l (n + d) j (by omega) hj, if_neg (by omega)]
    exact levels_stay h n j hj he d (by omega)
theorem levels_before {l : List S41} (h : courseB l = true) (n : Nat) (hn : n ≤ l.length) (j : Nat) (hj : j < 240) (he : (j : Int) < endN l n) : (levelsV l).getD j 0 = (levelsV (l.take n)).getD j 0 := by
  have := levels_stay h n j hj he (l.length - n) (by omega)
  rwa [show n + (l.length - n) = l.length from by omega, List.take_length] at this
theorem levels_in {l : List S41} (h : courseB l = true) (n : Nat) (hn : n < l.length) (j : Nat) (h0 : (l.getD n z41).f0 ≤ j) (h1 : (j : Int) < (l.getD n z41).f1) : (levelsV l).getD j 0 = (l.getD n z41).f2 := by
  have s := seg_at h n hn
  rw [levels_before h (n + 1) hn j (by omega) h1, levels_at l n j hn (by omega), if_pos ⟨h0, h1⟩]
theorem levels_gap {l : List S41} (h : courseB l = true) (n : Nat) (hn : n < l.length) (j : Nat) (h0 : endN l n ≤ j) (h1 : (j : Int) < (l.getD n z41).f0) : (levelsV l).getD j 0 = 0 := by
  have s := seg_at h n hn
  rw [levels_before h (n + 1) hn j (by omega) (by show (j : Int) < (l.getD n z41).f1; omega), levels_at l n j hn (by omega), if_neg (by omega)]
  exact levels_behind h n (by omega) j (by omega) h0
theorem levels_end {l : List S41} (h : courseB l = true) (j : Nat) (hj : j < 240) (h0 : endN l l.length ≤ j) : (levelsV l).getD j 0 = 0 := by
  have := levels_behind h l.length (Nat.le_refl _) j hj h0
  rwa [List.take_length] at this
theorem runC_zeros (lv : List Int) (i : Nat) : ∀ m, (∀ q, i ≤ q → q < i + m → lv.getD q 0 = 0) → runC lv (i + m) = runC lv i
  | 0, _ => rfl
  | m + 1, hq => by
    show stepC lv (runC lv (i + m)) (i + m) = _
    rw [runC_zeros lv i m (fun q a b => hq q a (by omega))]
    unfold stepC
    rw [if_pos (hq (i + m) (by omega) (by omega))]
theorem runC_take {l : List S41} (h : courseB l = true) : ∀ n, n ≤ l.length → runC (levelsV l) (endN l n).toNat = l.take n
  | 0, _ => by simp [endN, runC]
  | n + 1, hn => by
    have s := seg_at h n (by omega)
    have e := endN_le h n (by omega)
    have ih := runC_take h n (by omega)
    obtain ⟨t, ht⟩ : ∃ t, t = l.getD n z41 := ⟨_, rfl⟩
    have hg := fun j => levels_gap h n (by omega) j
    have hi := fun j => levels_in h n (by omega) j
    rw [take_succ_getD l n (by omega)]
    rw [← ht] at s hg hi ⊢
    have z := runC_zeros (levelsV l) (endN l n).toNat (t.f0 - endN l n).toNat (fun q a b => hg q (by omega) (by omega))
    rw [show (endN l n).toNat + (t.f0 - endN l n).toNat = t.f0.toNat from by omega, ih] at z
    have hb : t.f0.toNat = 0 ∨ (levelsV l).getD (t.f0.toNat - 1) 0 ≠ (levelsV l).getD t.f0.toNat 0 := by
      by_cases c0 : t.f0.toNat = 0
      · exact .inl c0
      · right
        rw [hi t.f0.toNat (by omega) (by omega)]
        by_cases c : endN l n = t.f0
        · rcases s.2.2.2 c with c2 | c2
          · subst c2
            have : endN l 0 = 0 := rfl
            omega
          · cases n with
            | zero => have : endN l 0 = 0 := rfl; omega
            | succ n =>
              have s2 := seg_at h n (by omega)
              have c3 : (l.getD n z41).f1 = t.f0 := c
              rw [levels_in h n (by omega) (t.f0.toNat - 1) (by omega) (by omega)]
              exact c2
        · rw [hg (t.f0.toNat - 1) (by omega) (by omega)]
          omega
    have r := runC_run (levelsV l) t.f0.toNat hb (t.f1.toNat - t.f0.toNat - 1) (fun q a b => by rw [hi q (by omega) (by omega), hi t.f0.toNat (by omega) (by omega)])
    rw [hi t.f0.toNat (by omega) (by omega), if_neg (by omega), z, show t.f0.toNat + (t.f1.toNat - t.f0.toNat - 1 + 1) = t.f1.toNat from by omega] at r
    have : endN l (n + 1) = t.f1 := by rw [ht]; rfl
    rw [this, r]
    congr 2
    obtain ⟨a, b, c⟩ := t
    dsimp only at s ⊢
    congr 1 <;> omega
theorem courseV_levels {l : List S41} (h : courseB l = true) : courseV (levelsV l) = (l, true) := by
  have e := endN_le h l.length (Nat.le_refl _)
  have a := runC_take h l.length (Nat.le_refl _)
  have z := runC_zeros (levelsV l) (endN l l.length).toNat (240 - (endN l l.length).toNat) (fun q x y => levels_end h q (by omega) (by omega))
  rw [show (endN l l.length).toNat + (240 - (endN l l.length).toNat) = 240 from by omega, a, List.take_length] at z
  have := courseB_len h
  unfold courseV
  rw [levelsV_len, z, if_neg (by omega)]
theorem atB_left (acc : List S41) (s : S41) (q : Nat) (h : q < acc.length) : atB (acc ++ [s]) q = atB acc q := by
  have e : ∀ j, j < acc.length → (acc ++ [s]).getD j z41 = acc.getD j z41 := fun j hj => by
    rw [List.getD_eq_getElem?_getD, List.getElem?_append_left hj, List.getD_eq_getElem?_getD]
  unfold atB
  rw [e q h]
  by_cases c : q = 0
  · simp [c]
  · rw [e (q - 1) (by omega)]
theorem atB_new (acc : List S41) (s : S41) : atB (acc ++ [s]) acc.length = (segB s && (decide (acc.length = 0) || pairB (lastS acc) s)) := by
  have e1 : (acc ++ [s]).getD acc.length z41 = s := by
    rw [List.getD_eq_getElem?_getD, List.getElem?_append_right (Nat.le_refl _)]; simp
  unfold atB
  rw [e1]
  by_cases c : acc.length = 0
  · simp [c]
  · have e2 : (acc ++ [s]).getD (acc.length - 1) z41 = lastS acc := by
      unfold lastS
      rw [List.getD_eq_getElem?_getD, List.getElem?_append_left (by omega), List.getD_eq_getElem?_getD]
    rw [e2]
theorem last_split (acc : List S41) (h : 0 < acc.length) : acc = acc.take (acc.length - 1) ++ [lastS acc] := by
  have := take_succ_getD acc (acc.length - 1) (by omega)
  rw [show acc.length - 1 + 1 = acc.length from by omega, List.take_length] at this
  exact this
theorem set_split (acc : List S41) (s : S41) (h : 0 < acc.length) : acc.set (acc.length - 1) s = acc.take (acc.length - 1) ++ [s] := by
  conv => lhs; rw [last_split acc h]
  have hl : (acc.take (acc.length - 1)).length = acc.length - 1 := by rw [List.length_take]; omega
  rw [List.set_append_right _ _ (by rw [hl]; simp only [List.length_append, List.length_singleton, hl]; omega)]
  simp only [List.length_append, List.length_singleton, hl, Nat.add_sub_cancel, Nat.sub_self]
  rfl
theorem runC_good (lv : List Int) (hl : lv.length = 240) (h3 : ∀ x ∈ lv, 0 ≤ x ∧ x ≤ 3) : ∀ i, i ≤ 240 → (∀ q, q < (runC lv i).length → atB (runC lv i) q = true) ∧ ∀ j, j < 240 → (levelsV (runC lv i)).getD j 0 = if j < i then lv.getD j 0 else 0 := by
  intro i
  induction i with
  | zero => intro _; exact ⟨fun q hq => by simp [runC] at hq, fun j _ => by rw [if_neg (by omega)]; exact levels_nil j⟩
  | succ i ih =>
    intro hi
    obtain ⟨g, v⟩ := ih (by omega)
    have hb : 0 ≤ lv.getD i 0 ∧ lv.getD i 0 ≤ 3 := by rw [getD_lt _ _ _ (by omega)]; exact h3 _ (List.getElem_mem _)
    have hlast := runC_last lv i
    obtain ⟨acc, hacc⟩ : ∃ acc, acc = runC lv i := ⟨_, rfl⟩
    show (∀ q, q < (stepC lv (runC lv i) i).length → atB (stepC lv (runC lv i) i) q = true) ∧ ∀ j, j < 240 → (levelsV (stepC lv (runC lv i) i)).getD j 0 = _
    rw [← hacc] at g v hlast ⊢
    unfold stepC
    by_cases h0 : lv.getD i 0 = 0
    · rw [if_pos h0]
      refine ⟨g, fun j hj => ?_⟩
      rw [v j hj]
      by_cases c : j < i
      · rw [if_pos c, if_pos (by omega)]
      · rw [if_neg c]
        by_cases c2 : j = i
        · subst c2; rw [if_pos (by omega), h0]
        · rw [if_neg (by omega)]
    · rw [if_neg h0]
      by_cases h1 : 0 < acc.length ∧ (lastS acc).f1 = (i : Int) ∧ (lastS acc).f2 = lv.getD i 0
      · rw [if_pos h1]
        obtain ⟨p, q1, q2⟩ := h1
        have sp := last_split acc p
        obtain ⟨ini, hini⟩ : ∃ ini, ini = acc.take (acc.length - 1) := ⟨_, rfl⟩
        obtain ⟨t, ht⟩ : ∃ t, t = lastS acc := ⟨_, rfl⟩
        rw [set_split acc _ p]
        rw [← hini, ← ht] at sp ⊢
        rw [← ht] at q1 q2
        have hlen : acc.length = ini.length + 1 := by rw [sp]; simp
        have gl := g ini.length (by omega)
        rw [sp, atB_new] at gl
        unfold segB at gl
        simp only [Bool.and_eq_true, decide_eq_true_eq] at gl
        refine ⟨fun q hq => ?_, fun j hj => ?_⟩
        · by_cases c : q < ini.length
          · rw [atB_left _ _ _ c]
            have := g q (by omega)
            rwa [sp, atB_left _ _ _ c] at this
          · have c : q = ini.length := by simp at hq; omega
            subst c
            rw [atB_new]
            unfold segB
            simp only [Bool.and_eq_true, decide_eq_true_eq]
            exact ⟨⟨⟨gl.1.1.1, by omega, by omega⟩, gl.1.2⟩, gl.2⟩
        · have vj := v j hj
          rw [sp, levelsV_append, setR_get _ _ _ _ _ (by rw [levelsV_len]; exact hj)] at vj
          rw [levelsV_append, setR_get _ _ _ _ _ (by rw [levelsV_len]; exact hj)]
          dsimp only
          by_cases c2 : j = i
          · subst c2
            rw [if_pos (by omega), if_pos (by omega), q2]
          · by_cases c3 : t.f0 ≤ (j : Int) ∧ (j : Int) < t.f1
            · rw [if_pos c3] at vj
              rw [if_pos (by omega), vj, if_pos (by omega), if_pos (by omega)]
            · rw [if_neg c3] at vj
              rw [if_neg (by omega), vj]
              by_cases c4 : j < i
              · rw [if_pos c4, if_pos (by omega)]
              · rw [if_neg c4, if_neg (by omega)]
      · rw [if_neg h1]
        refine ⟨fun q hq => ?_, fun j hj => ?_⟩
        · by_cases c : q < acc.length
          · rw [atB_left _ _ _ c]; exact g q c
          · have c : q = acc.length := by simp at hq; omega
            subst c
            rw [atB_new]
            unfold segB pairB
            simp only [Bool.and_eq_true, Bool.or_eq_true, decide_eq_true_eq]
            refine ⟨⟨by omega, by omega⟩, ?_⟩
            by_cases c0 : acc.length = 0
            · exact .inl c0
            · have := hlast (by omega)
              exact .inr ⟨by omega, fun e => h1 ⟨by omega, e.1, e.2⟩⟩
        · rw [levelsV_append, setR_get _ _ _ _ _ (by rw [levelsV_len]; exact hj), v j hj]
          dsimp only
          by_cases c2 : j = i
          · subst c2
            rw [if_pos (by omega), if_pos (by omega)]
          · rw [if_neg (by omega)]
            by_cases c4 : j < i
            · rw [if_pos c4, if_pos (by omega)]
            · rw [if_neg c4, if_neg (by omega)]
theorem courseV_good {lv : List Int} (hl : lv.length = 240) (h3 : ∀ x ∈ lv, 0 ≤ x ∧ x ≤ 3) (h : (courseV lv).2 = true) : courseB (courseV lv).1 = true ∧ levelsV (courseV lv).1 = lv := by
  have g := runC_good lv hl h3 240 (Nat.le_refl _)
  have e : courseV lv = (runC lv 240, true) ∧ ¬ 12 < (runC lv 240).length := by
    unfold courseV at h ⊢
    rw [hl] at h ⊢
    by_cases c : 12 < (runC lv 240).length
    · rw [if_pos c] at h; cases h
    · rw [if_neg c]; exact ⟨rfl, c⟩
  rw [e.1]
  refine ⟨?_, list_ext_getD _ _ 0 (by rw [levelsV_len, hl]) (fun j hj => ?_)⟩
  · unfold courseB
    rw [decide_eq_true g.1, Bool.true_and]
    exact decide_eq_true (by have := e.2; dsimp only; omega)
  · rw [levelsV_len] at hj
    rw [g.2 j hj, if_pos hj]
def gapsN (l : List S41) : Nat → List (List Int)
  | 0 => []
  | n + 1 => if (l.getD n z41).f0 > endN l n then gapsN l n ++ [[endN l n, (l.getD n z41).f0]] else gapsN l n
def gapsV (l : List S41) : List (List Int) := if endN l l.length < 240 then gapsN l l.length ++ [[endN l l.length, 240]] else gapsN l l.length
theorem gapsN_len (l : List S41) : ∀ n, (gapsN l n).length ≤ n
  | 0 => Nat.le_refl _
  | n + 1 => by
    have := gapsN_len l n
    simp only [gapsN]
    split
    · rw [List.length_append, List.length_singleton]; omega
    · omega
theorem gapsV_len (l : List S41) : (gapsV l).length ≤ l.length + 1 := by
  have := gapsN_len l l.length
  unfold gapsV
  split
  · rw [List.length_append, List.length_singleton]; omega
  · omega
theorem gapsN_two (l : List S41) : ∀ n, ∀ g ∈ gapsN l n, g.length = 2
  | 0, g, hg => by simp [gapsN] at hg
  | n + 1, g, hg => by
    simp only [gapsN] at hg
    split at hg
    · rcases List.mem_append.1 hg with h | h
      · exact gapsN_two l n g h
      · rw [List.mem_singleton.1 h]; rfl
    · exact gapsN_two l n g hg
theorem gapsV_two (l : List S41) : ∀ g ∈ gapsV l, g.length = 2 := by
  intro g hg
  unfold gapsV at hg
  split at hg
  · rcases List.mem_append.1 hg with h | h
    · exact gapsN_two l _ g h
    · rw [List.mem_singleton.1 h]; rfl
  · exact gapsN_two l _ g hg
theorem gapsN_small {l : List S41} (h : courseB l = true) : ∀ n, n ≤ l.length → ∀ g ∈ gapsN l n, -1000 ≤ g.getD 0 0 ∧ g.getD 0 0 ≤ 1000 ∧ -1000 ≤ g.getD 1 0 ∧ g.getD 1 0 ≤ 1000
  | 0, _, g, hg => by simp [gapsN] at hg
  | n + 1, hn, g, hg => by
    have s := seg_at h n (by omega)
    have e := endN_le h n (by omega)
    simp only [gapsN] at hg
    split at hg
    · rcases List.mem_append.1 hg with q | q
      · exact gapsN_small h n (by omega) g q
      · rw [List.mem_singleton.1 q]
        simp only [List.getD_cons_succ, List.getD_cons_zero]
        omega
    · exact gapsN_small h n (by omega) g hg
theorem gapsV_small {l : List S41} (h : courseB l = true) : ∀ g ∈ gapsV l, -1000 ≤ g.getD 0 0 ∧ g.getD 0 0 ≤ 1000 ∧ -1000 ≤ g.getD 1 0 ∧ g.getD 1 0 ≤ 1000 := by
  intro g hg
  have e := endN_le h l.length (Nat.le_refl _)
  unfold gapsV at hg
  split at hg
  · rcases List.mem_append.1 hg with q | q
    · exact gapsN_small h _ (Nat.le_refl _) g q
    · rw [List.mem_singleton.1 q]
      simp only [List.getD_cons_succ, List.getD_cons_zero]
      omega
  · exact gapsN_small h _ (Nat.le_refl _) g hg
def gapsR (l : List S41) : List (List Int) × Bool := if courseB l = true then (gapsV l, true) else ([], false)
theorem gapsImpl_loop (l : List S41) (hl : l.length ≤ 1000000) : Evt fun k => impl_GapsOf.l0 k [] 0 l (l.length : Int) 0 = some (gapsV l, true) := by
  refine evt_loop0 l.length (fun k (s : List (List Int) × Int) i => impl_GapsOf.l0 k s.1 s.2 l (l.length : Int) i) (gapsV l, true) (fun i s => s = (gapsN l i, endN l i)) ?_ ?_ ([], 0) rfl
  · rintro i s hi rfl
    have hg := gapsN_len l i
    refine .inl ⟨_, rfl, 1, Evt.all fun k => ?_⟩
    show impl_GapsOf.l0 (k + 1) (gapsN l i) (endN l i) l (l.length : Int) (i : Int) = impl_GapsOf.l0 k (gapsN l (i + 1)) (endN l (i + 1)) l (l.length : Int) ((i : Int) + 1)
    rw [show endN l (i + 1) = (l.getD i z41).f1 from rfl]
    simp only [impl_GapsOf.l0, rd_seg, gapsN]
    rw [if_pos (by omega), if_pos (by omega), if_pos (by omega), wrap_id (by omega) (by omega)]
    by_cases c : (l.getD i z41).f0 > endN l i
    · rw [if_pos c, if_pos c, if_pos (by omega)]
    · rw [if_neg c, if_neg c]
  · rintro s rfl
    have hg := gapsN_len l l.length
    refine Evt.succ (Evt.all fun k => ?_)
    show impl_GapsOf.l0 (k + 1) (gapsN l l.length) (endN l l.length) l (l.length : Int) (l.length : Int) = _
    simp only [impl_GapsOf.l0]
    unfold gapsV
    rw [if_neg (by omega)]
    by_cases c : endN l l.length < 240
    · rw [if_pos c, if_pos c, if_pos (by omega)]
    · rw [if_neg c, if_neg c]
theorem gapsSpec_loop (l : List S41) (hl : l.length ≤ 1000000) : Evt fun k => spec_GapsOf.l0 k l [] 0 0 = some (gapsV l, true) := by
  refine evt_loop0 l.length (fun k (s : List (List Int) × Int) i => spec_GapsOf.l0 k l s.1 s.2 i) (gapsV l, true) (fun i s => s = (gapsN l i, endN l i)) ?_ ?_ ([], 0) rfl
  · rintro i s hi rfl
    have hg := gapsN_len l i
    refine .inl ⟨_, rfl, 2, Evt.all fun k => ?_⟩
    show spec_GapsOf.l0 (k + 1 + 1) l (gapsN l i) (endN l i) (i : Int) = spec_GapsOf.l0 k l (gapsN l (i + 1)) (endN l (i + 1)) ((i : Int) + 1)
    have w : wrap64 ((i : Int) + 1) = (i : Int) + 1 := wrap_id (by omega) (by omega)
    have g1 : (i : Int) < (l.length : Int) := by omega
    have g2 : 0 ≤ (i : Int) := by omega
    rw [show endN l (i + 1) = (l.getD i z41).f1 from rfl]
    simp only [spec_GapsOf.l0, spec_GapsOf.j1, rd_seg, gapsN, w, if_pos g1, if_pos g2, Option.bind_some]
    rw [if_pos (by omega)]
    by_cases c : (l.getD i z41).f0 > endN l i
    · rw [if_pos (by omega), if_pos c, if_pos (by omega)]
    · rw [if_neg (by omega), if_neg c]
  · rintro s rfl
    have hg := gapsN_len l l.length
    have w : wrap64 ((l.length : Int) + 1) = (l.length : Int) + 1 := wrap_id (by omega) (by omega)
    have g1 : ¬ (l.length : Int) < (l.length : Int) := by omega
    have g2 : ¬ (l.length : Int) + 1 ≤ (l.length : Int) := by omega
    refine Evt.add 3 (Evt.all fun k => ?_)
    show spec_GapsOf.l0 (k + 1 + 1 + 1) l (gapsN l l.length) (endN l l.length) (l.length : Int) = _
    unfold gapsV
    simp only [spec_GapsOf.l0, spec_GapsOf.j1, if_neg g1, if_neg g2, w, Option.bind_some]
    rw [if_pos (by omega)]
    by_cases c : endN l l.length < 240
    · rw [if_pos c, if_pos c, if_pos (by omega)]
    · rw [if_neg c, if_neg c]
theorem GapsOf_ok (l : List S41) (hl : l.length ≤ 1000000) : (Evt fun k => impl_GapsOf.f k l = some (gapsR l)) ∧ (Evt fun k => spec_GapsOf.f k l = some (gapsR l)) := by
  refine ⟨((IsValidCourse_ev l (by omega)).and (gapsImpl_loop l hl)).mono ?_, ((l18Good_ev l (by omega)).and (gapsSpec_loop l hl)).mono ?_⟩
  · rintro k ⟨h1, h2⟩
    simp only [impl_GapsOf.f, h1, h2, Option.bind_some, gapsR]
    cases courseB l <;> simp
  · rintro k ⟨h1, h2⟩
    simp only [spec_GapsOf.f, h1, h2, Option.bind_some, gapsR]
    cases courseB l <;> simp
def cntTo (x : Int) (lv : List Int) : Nat → Int
  | 0 => 0
  | m + 1 => if lv.getD m 0 = x then cntTo x lv m + 1 else cntTo x lv m
theorem cntTo_run (x : Int) (lv : List Int) (i : Nat) : ∀ m, (∀ q, i ≤ q → q < i + m → lv.getD q 0 = x) → cntTo x lv (i + m) = cntTo x lv i + m
  | 0, _ => by simp
  | m + 1, hq => by
    show (if lv.getD (i + m) 0 = x then cntTo x lv (i + m) + 1 else cntTo x lv (i + m)) = _
    rw [if_pos (hq (i + m) (by omega) (by omega)), cntTo_run x lv i m (fun q a b => hq q a (by omega))]
    omega
theorem cntTo_none (x : Int) (lv : List Int) (i : Nat) : ∀ m, (∀ q, i ≤ q → q < i + m → lv.getD q 0 ≠ x) → cntTo x lv (i + m) = cntTo x lv i
  | 0, _ => rfl
  | m + 1, hq => by
    show (if lv.getD (i + m) 0 = x then cntTo x lv (i + m) + 1 else cntTo x lv (i + m)) = _
    rw [if_neg (hq (i + m) (by omega) (by omega)), cntTo_none x lv i m (fun q a b => hq q a (by omega))]
theorem cntTo_all (lv : List Int) : ∀ m, (∀ q, q < m → 0 ≤ lv.getD q 0 ∧ lv.getD q 0 ≤ 3) → cntTo 0 lv m + cntTo 1 lv m + cntTo 2 lv m + cntTo 3 lv m = m
  | 0, _ => rfl
  | m + 1, h => by
    have ih := cntTo_all lv m (fun q hq => h q (by omega))
    have hm := h m (by omega)
    simp only [cntTo]
    generalize lv.getD m 0 = v at hm ⊢
    have : v = 0 ∨ v = 1 ∨ v = 2 ∨ v = 3 := by omega
    rcases this with e | e | e | e <;> subst e <;> simp <;> omega
def gsum : List (List Int) → Int
  | [] => 0
  | g :: gs => (g.getD 1 0 - g.getD 0 0) + gsum gs
theorem gsum_append (a : List (List Int)) (g : List Int) : gsum (a ++ [g]) = gsum a + (g.getD 1 0 - g.getD 0 0) := by
  induction a with
  | nil => simp [gsum]
  | cons x a ih => rw [List.cons_append]; simp only [gsum]; rw [ih]; omega
theorem gapsN_sum {l : List S41} (h : courseB l = true) : ∀ n, n ≤ l.length → gsum (gapsN l n) = cntTo 0 (levelsV l) (endN l n).toNat
  | 0, _ => rfl
  | n + 1, hn => by
    have s := seg_at h n (by omega)
    have e := endN_le h n (by omega)
    have ih := gapsN_sum h n (by omega)
    have hg := fun j => levels_gap h n (by omega) j
    have hi := fun j => levels_in h n (by omega) j
    have z := cntTo_run 0 (levelsV l) (endN l n).toNat ((l.getD n z41).f0 - endN l n).toNat (fun q a b => hg q (by omega) (by omega))
    rw [show (endN l n).toNat + ((l.getD n z41).f0 - endN l n).toNat = (l.getD n z41).f0.toNat from by omega] at z
    have w := cntTo_none 0 (levelsV l) (l.getD n z41).f0.toNat ((l.getD n z41).f1 - (l.getD n z41).f0).toNat (fun q a b => by rw [hi q (by omega) (by omega)]; omega)
    rw [show (l.getD n z41).f0.toNat + ((l.getD n z41).f1 - (l.getD n z41).f0).toNat = (l.getD n z41).f1.toNat from by omega] at w
    show gsum (gapsN l (n + 1)) = cntTo 0 (levelsV l) (l.getD n z41).f1.toNat
    rw [w, z, ← ih]
    simp only [gapsN]
    split
    · rw [gsum_append]
      simp only [List.getD_cons_succ, List.getD_cons_zero]
      omega
    · omega
theorem gapsV_sum {l : List S41} (h : courseB l = true) : gsum (gapsV l) = cntTo 0 (levelsV l) 240 := by
  have e := endN_le h l.length (Nat.le_refl _)
  have a := gapsN_sum h l.length (Nat.le_refl _)
  have z := cntTo_run 0 (levelsV l) (endN l l.length).toNat (240 - (endN l l.length).toNat) (fun q x y => levels_end h q (by omega) (by omega))
  rw [show (endN l l.length).toNat + (240 - (endN l l.length).toNat) = 240 from by omega] at z
  unfold gapsV
  split
  · rw [gsum_append, a, z]
    simp only [List.getD_cons_succ, List.getD_cons_zero]
    omega
  · rw [a, z]
    omega
def cntV (x : Int) : List Int → Int
  | [] => 0
  | y :: ys => cntV x ys + if y = x then 1 else 0
theorem cntV_le (x : Int) : ∀ l : List Int, 0 ≤ cntV x l ∧ cntV x l ≤ l.length
  | [] => by simp [cntV]
  | y :: ys => by have := cntV_le x ys; simp only [cntV, List.length_cons]; split <;> omega
theorem hoursImpl_loop (x : Int) (lv : List Int) (hl : lv.length ≤ 1000000000) : Evt fun k => impl_HoursAt.l0 k x 0 lv (lv.length : Int) 0 = some (cntV x lv, true) := by
  have htot := cntV_le x lv
  refine evt_loop0 lv.length (fun k s i => impl_HoursAt.l0 k x s lv (lv.length : Int) i) (cntV x lv, true) (fun i s => 0 ≤ s ∧ s + cntV x (lv.drop i) = cntV x lv) ?_ ?_ 0 ⟨by omega, by simp⟩
  · rintro i s hi ⟨h0, h⟩
    have hd := cntV_le x (lv.drop i)
    rw [getD_drop lv 0 i hi] at h hd
    have hd2 := cntV_le x (lv.drop (i + 1))
    simp only [cntV] at h hd
    refine .inl ⟨s + (if lv.getD i 0 = x then 1 else 0), ⟨by split <;> omega, by omega⟩, 1, Evt.all fun k => ?_⟩
    show impl_HoursAt.l0 (k + 1) x s lv (lv.length : Int) (i : Int) = _
    simp only [impl_HoursAt.l0, rd_nat]
    rw [if_pos (by omega), if_pos (by omega), if_pos (by omega), wrap_id (x := (i : Int) + 1) (by omega) (by omega)]
    by_cases e : lv.getD i 0 = x
    · rw [if_pos e] at h; rw [if_pos e, if_pos e, wrap_id (by omega) (by omega)]
    · rw [if_neg e, if_neg e, Int.add_zero]
  · rintro s ⟨h0, h⟩
    rw [List.drop_of_length_le (Nat.le_refl _)] at h
    simp only [cntV] at h
    refine Evt.succ (Evt.all fun k => ?_)
    show impl_HoursAt.l0 (k + 1) x s lv (lv.length : Int) (lv.length : Int) = _
    simp only [impl_HoursAt.l0]
    rw [if_neg (by omega), ← h, Int.add_zero]
theorem allWithin_ok (l : List Int) (lo hi : Int) (hl : l.length ≤ 4503599627370496) : ∀ k, l.length < k → impl_allWithin.f k l lo hi = some (l.all fun x => decide (lo ≤ x ∧ x ≤ hi)) := by
  intro k hk
  unfold impl_allWithin.f
  refine all_loop 0 l 0 _ (fun k i => impl_allWithin.l0 k lo hi l (l.length : Int) i) ?_ ?_ k (by omega)
  · intro k i _ hi
    show impl_allWithin.l0 (k + 1) lo _ l (l.length : Int) (i : Int) = _
    simp only [impl_allWithin.l0]
    rw [if_pos (by omega), if_pos (by omega), if_pos (by omega), within_ok, Option.bind_some, wrap_id (by omega) (by omega), rd_nat]
  · intro k _
    show impl_allWithin.l0 (k + 1) lo hi l (l.length : Int) (l.length : Int) = _
    simp only [impl_allWithin.l0]
    rw [if_neg (by omega)]
theorem courseV_len (lv : List Int) : (courseV lv).1.length ≤ lv.length := by
  unfold courseV
  split
  · simp
  · exact runC_len lv _
theorem specCourseOf_loop (lv : List Int) (hl : lv.length ≤ 1000000000) (v : List S41 × Bool)
    (hv : v = if (lv.all fun x => decide (0 ≤ x ∧ x ≤ 3)) = true then courseV lv else ([], false)) : Evt fun k => spec_CourseOf.l0 k lv 0 = some v := by
  refine evt_loop0 lv.length (fun k (_ : Unit) i => spec_CourseOf.l0 k lv i) v (fun i _ => (lv.drop i).all (fun x => decide (0 ≤ x ∧ x ≤ 3)) = lv.all fun x => decide (0 ≤ x ∧ x ≤ 3)) ?_ ?_ () rfl
  · intro i s hi h
    rw [getD_drop lv 0 i hi, List.all_cons] at h
    by_cases hp : 0 ≤ lv.getD i 0 ∧ lv.getD i 0 ≤ 3
    · refine .inl ⟨(), by rw [decide_eq_true hp, Bool.true_and] at h; exact h, 1, Evt.all fun k => ?_⟩
      show spec_CourseOf.l0 (k + 1) lv (i : Int) = _
      simp only [spec_CourseOf.l0, rd_nat, l1In_ok, Option.bind_some, decide_eq_true hp, if_true]
      rw [if_pos (by omega), if_pos (by omega), wrap_id (by omega) (by omega)]
    · refine .inr (Evt.succ (Evt.all fun k => ?_))
      show spec_CourseOf.l0 (k + 1) lv (i : Int) = _
      rw [decide_eq_false hp, Bool.false_and] at h
      rw [hv, ← h, if_neg (by simp)]
      simp only [spec_CourseOf.l0, rd_nat, l1In_ok, Option.bind_some, decide_eq_false hp]
      rw [if_pos (by omega), if_pos (by omega), if_neg (by simp)]
  · intro s h
    rw [List.drop_of_length_le (Nat.le_refl _)] at h
    have hall : (lv.all fun x => decide (0 ≤ x ∧ x ≤ 3)) = true := h.symm
    rw [hv, if_pos hall]
    have h0 : ∀ x ∈ lv, 0 ≤ x := fun x hx => (of_decide_eq_true (List.all_eq_true.1 hall x hx)).1
    refine Evt.succ ((l18Course_ev lv hl h0).mono fun k hk => ?_)
    show spec_CourseOf.l0 (k + 1) lv (lv.length : Int) = _
    simp only [spec_CourseOf.l0]
    rw [if_neg (by omega), hk, Option.bind_some]
theorem pair_CourseOf (lv : List Int) (hl : lv.length ≤ 1048576) : ∃ v, (Evt fun k => impl_CourseOf.f k lv = some v) ∧ (Evt fun k => spec_CourseOf.f k lv = some v) ∧ v.1.length ≤ 1048576 := by
  by_cases hn : (lv.length : Int) > 240
  · refine ⟨([], false), Evt.all fun k => ?_, Evt.all fun k => ?_, by simp⟩
    · simp [impl_CourseOf.f, hn]
    · simp [spec_CourseOf.f, hn]
  · refine ⟨if (lv.all fun x => decide (0 ≤ x ∧ x ≤ 3)) = true then courseV lv else ([], false), ((Evt.above _ (allWithin_ok lv 0 3 (by omega))).and (courseOf_ev lv (by omega))).mono fun k hk => ?_, (specCourseOf_loop lv (by omega) _ rfl).mono fun k hk => ?_, ?_⟩
    · simp only [impl_CourseOf.f, if_neg hn, hk.1, hk.2, Option.bind_some]
      split <;> rfl
    · simp only [spec_CourseOf.f, if_neg hn, hk]
    · have := courseV_len lv
      split
      · omega
      · simp
theorem CourseLevel_val {l : List S41} (hc : courseB l = true) (a : Nat) (ha : a < 240) : Evt fun k => impl_CourseLevel.f k l (a : Int) = some ((levelsV l).getD a 0, true) := by
  have hn := courseB_len hc
  refine ((IsValidCourse_ev l (by omega)).and (levelsOf_ev l (by omega) (courseB_seg hc))).mono fun k hk => ?_
  simp only [impl_CourseLevel.f, hk.1, hk.2, hc, Option.bind_some, if_true, within_ok, decide_eq_true (show 0 ≤ (a : Int) ∧ (a : Int) ≤ 239 by omega), levelsV_len, rd_nat]
  rw [if_pos (by omega), if_pos (by omega)]
theorem HoursAt_val {l : List S41} (hc : courseB l = true) (a : Int) (ha : 0 ≤ a ∧ a ≤ 3) : Evt fun k => impl_HoursAt.f k l a = some (cntV a (levelsV l), true) := by
  have hn := courseB_len hc
  have hlen := levelsV_len l
  have f1 := hoursImpl_loop a (levelsV l) (by omega)
  have g1 := levelsOf_ev l (by omega) (courseB_seg hc)
  obtain ⟨K1, k1⟩ := (IsValidCourse_ev l (by omega)).and (f1.and g1)
  refine ⟨K1 + 1, fun k hk => ?_⟩
  obtain ⟨m, rfl⟩ : ∃ m, k = m + 1 := ⟨k - 1, by omega⟩
  simp only [impl_HoursAt.f, impl_HoursAt.j0, (k1 (m + 1) (by omega)).1, (k1 m (by omega)).2.1, (k1 m (by omega)).2.2, hc, Option.bind_some, if_true, within_ok, decide_eq_true ha, Bool.not_true]
  rw [if_neg (by simp)]
theorem CourseOf_val (lv : List Int) (hl : lv.length = 240) (h3 : ∀ x ∈ lv, 0 ≤ x ∧ x ≤ 3) : Evt fun k => impl_CourseOf.f k lv = some (courseV lv) := by
  have hall : (lv.all fun x => decide (0 ≤ x ∧ x ≤ 3)) = true := List.all_eq_true.2 fun x hx => decide_eq_true (h3 x hx)
  refine ((Evt.above _ (allWithin_ok lv 0 3 (by omega))).and (courseOf_ev lv (by omega))).mono fun k hk => ?_
  simp only [impl_CourseOf.f, hk.1, hk.2, Option.bind_some, hall]
  rw [if_neg (by omega), if_pos trivial]
theorem cnt_to (x : Int) (lv : List Int) : ∀ i, i ≤ lv.length → cntTo x lv i + cntV x (lv.drop i) = cntV x lv
  | 0, _ => by simp [cntTo]
  | i + 1, hi => by
    have ih := cnt_to x lv i (by omega)
    rw [getD_drop lv 0 i (by omega)] at ih
    simp only [cntV] at ih
    simp only [cntTo]
    split
    · rename_i h; rw [if_pos h] at ih; omega
    · rename_i h; rw [if_neg h] at ih; omega
theorem cnt_full (x : Int) (lv : List Int) : cntV x lv = cntTo x lv lv.length := by
  have := cnt_to x lv lv.length (Nat.le_refl _)
  rw [List.drop_of_length_le (Nat.le_refl _)] at this
  simp only [cntV] at this
  omega
theorem setR_le {acc : List Int} {a b v : Int} (h : ∀ x ∈ acc, 0 ≤ x) (hv : 0 ≤ v) : ∀ x ∈ setR acc a b v, 0 ≤ x := by
  intro x hx
  obtain ⟨i, hi, rfl⟩ := List.mem_iff_getElem.1 hx
  rw [setR_len] at hi
  have := setR_get acc a b v i hi
  rw [getD_lt _ _ _ (by rw [setR_len]; exact hi)] at this
  rw [this]
  split
  · exact hv
  · rw [getD_lt _ _ _ hi]; exact h _ (List.getElem_mem _)
theorem setImpl_inner (a b v : Int) : ∀ (d : Nat) (h : Int) (acc : List Int) (k : Nat), h + d = b → 0 ≤ h → b ≤ acc.length → acc.length ≤ 4503599627370496 →
    impl_SetCourseLevel.l0 (k + (d + 1)) acc h a b v = (impl_courseOf.f k (setR acc h b v)).bind fun p => some (p.1, p.2) := by
  intro d
  induction d with
  | zero =>
    intro h acc k e h0 hb hl
    show impl_SetCourseLevel.l0 (k + 1) acc h a b v = _
    simp only [impl_SetCourseLevel.l0]
    rw [if_neg (by omega), setR_none _ _ _ _ (by omega)]
  | succ d ih =>
    intro h acc k e h0 hb hl
    show impl_SetCourseLevel.l0 ((k + (d + 1)) + 1) acc h a b v = _
    rw [impl_SetCourseLevel.l0]
    rw [if_pos (by omega), if_pos (by omega), if_pos (by omega), wrap_id (x := h + 1) (by omega) (by omega), ih (h + 1) _ k (by omega) (by omega) (by rw [List.length_set]; exact hb) (by rw [List.length_set]; exact hl), setR_set _ _ _ _ h0 (by omega) hb]
theorem setSpec_inner (a b v : Int) : ∀ (d : Nat) (h : Int) (acc : List Int) (k : Nat), h + d = b → 0 ≤ h → b ≤ acc.length → acc.length ≤ 4503599627370496 →
    spec_SetCourseLevel.l0 (k + (d + 1)) acc h a b v = (spec_l18Course.f k (setR acc h b v)).bind fun p => some (p.1, p.2) := by
  intro d
  induction d with
  | zero =>
    intro h acc k e h0 hb hl
    show spec_SetCourseLevel.l0 (k + 1) acc h a b v = _
    simp only [spec_SetCourseLevel.l0]
    rw [if_neg (by omega), setR_none _ _ _ _ (by omega)]
  | succ d ih =>
    intro h acc k e h0 hb hl
    show spec_SetCourseLevel.l0 ((k + (d + 1)) + 1) acc h a b v = _
    rw [spec_SetCourseLevel.l0]
    rw [if_pos (by omega), if_pos (by omega), if_pos (by omega), wrap_id (x := h + 1) (by omega) (by omega), ih (h + 1) _ k (by omega) (by omega) (by rw [List.length_set]; exact hb) (by rw [List.length_set]; exact hl), setR_set _ _ _ _ h0 (by omega) hb]
def setV (l : List S41) (a b v : Int) : List S41 × Bool := if courseB l = true ∧ (0 ≤ a ∧ a < b ∧ b ≤ 240) ∧ (0 ≤ v ∧ v ≤ 3) then courseV (setR (levelsV l) a b v) else ([], false)
theorem SetCourseLevel_ev (l : List S41) (a b v : Int) (hl : l.length ≤ 1048576) (_ : -9223372036854775808 ≤ a ∧ a ≤ 9223372036854775807) (_ : -9223372036854775808 ≤ b ∧ b ≤ 9223372036854775807) (_ : -9223372036854775808 ≤ v ∧ v ≤ 9223372036854775807) :
    ∃ r, r = setV l a b v ∧ (Evt fun k => impl_SetCourseLevel.f k l a b v = some r) ∧ (Evt fun k => spec_SetCourseLevel.f k l a b v = some r) ∧ r.1.length ≤ 1048576 := by
  have c1 := IsValidCourse_ev l (by omega)
  have c2 := l18Good_ev l (by omega)
  by_cases hc : courseB l = true
  · by_cases h1 : 0 ≤ a ∧ a < b ∧ b ≤ 240
    · by_cases h2 : 0 ≤ v ∧ v ≤ 3
      · have hs := courseB_seg hc
        have hlen := levelsV_len l
        have h0 : ∀ x ∈ setR (levelsV l) a b v, 0 ≤ x := setR_le (fun x hx => (levelsV_le hs x hx).1) h2.1
        have hlen2 : (setR (levelsV l) a b v).length = 240 := by rw [setR_len, hlen]
        have hcl := courseV_len (setR (levelsV l) a b v)
        refine ⟨courseV (setR (levelsV l) a b v), by unfold setV; rw [if_pos ⟨hc, h1, h2⟩], ?_, ?_, by omega⟩
        · obtain ⟨K1, k1⟩ := c1
          obtain ⟨K2, k2⟩ := levelsOf_ev l (by omega) hs
          obtain ⟨K3, k3⟩ := courseOf_ev (setR (levelsV l) a b v) (by omega)
          refine ⟨K1 + K2 + K3 + 400, fun k hk => ?_⟩
          obtain ⟨m, rfl⟩ : ∃ m, k = (m + ((b - a).toNat + 1)) + 1 := ⟨k - (b - a).toNat - 2, by omega⟩
          simp only [impl_SetCourseLevel.f, impl_SetCourseLevel.j0, k1 _ (show K1 ≤ (m + ((b - a).toNat + 1)) + 1 by omega), hc, Option.bind_some, if_true, segHours_ok, decide_eq_true h1, within_ok, decide_eq_true h2, Bool.not_true, k2 _ (show K2 ≤ m + ((b - a).toNat + 1) by omega)]
          rw [if_neg (by simp), setImpl_inner a b v _ _ _ _ (by omega) (by omega) (by omega) (by omega), k3 _ (by omega), Option.bind_some]
        · obtain ⟨K1, k1⟩ := c2
          obtain ⟨K2, k2⟩ := l18Levels_ev l (by omega) hs
          obtain ⟨K3, k3⟩ := l18Course_ev (setR (levelsV l) a b v) (by omega) h0
          refine ⟨K1 + K2 + K3 + 400, fun k hk => ?_⟩
          obtain ⟨m, rfl⟩ : ∃ m, k = (m + ((b - a).toNat + 1)) + 1 := ⟨k - (b - a).toNat - 2, by omega⟩
          simp only [spec_SetCourseLevel.f, spec_SetCourseLevel.j0, k1 _ (show K1 ≤ (m + ((b - a).toNat + 1)) + 1 by omega), hc, Option.bind_some, if_true, l18Hours_ok, decide_eq_true h1, l1In_ok, decide_eq_true h2, Bool.not_true, k2 _ (show K2 ≤ m + ((b - a).toNat + 1) by omega)]
          rw [if_neg (by simp), setSpec_inner a b v _ _ _ _ (by omega) (by omega) (by omega) (by omega), k3 _ (by omega), Option.bind_some]
      · refine ⟨([], false), by unfold setV; rw [if_neg (fun q => h2 q.2.2)], (Evt.pos.and c1).mono ?_, (Evt.pos.and c2).mono ?_, by simp⟩
        · rintro k ⟨⟨m, rfl⟩, hk⟩
          simp only [impl_SetCourseLevel.f, impl_SetCourseLevel.j0, hk, hc, Option.bind_some, if_true, segHours_ok, decide_eq_true h1, within_ok, decide_eq_false h2, Bool.not_false]
        · rintro k ⟨⟨m, rfl⟩, hk⟩
          simp only [spec_SetCourseLevel.f, spec_SetCourseLevel.j0, hk, hc, Option.bind_some, if_true, l18Hours_ok, decide_eq_true h1, l1In_ok, decide_eq_false h2, Bool.not_false]
    · refine ⟨([], false), by unfold setV; rw [if_neg (fun q => h1 q.2.1)], (Evt.pos.and c1).mono ?_, (Evt.pos.and c2).mono ?_, by simp⟩
      · rintro k ⟨⟨m, rfl⟩, hk⟩
        simp only [impl_SetCourseLevel.f, impl_SetCourseLevel.j0, hk, hc, Option.bind_some, if_true, segHours_ok, decide_eq_false h1]
        simp
      · rintro k ⟨⟨m, rfl⟩, hk⟩
        simp only [spec_SetCourseLevel.f, spec_SetCourseLevel.j0, hk, hc, Option.bind_some, if_true, l18Hours_ok, decide_eq_false h1]
        simp
  · rw [Bool.not_eq_true] at hc
    refine ⟨([], false), by unfold setV; rw [if_neg (by simp [hc])], (Evt.pos.and c1).mono ?_, (Evt.pos.and c2).mono ?_, by simp⟩
    · rintro k ⟨⟨m, rfl⟩, hk⟩
      simp [impl_SetCourseLevel.f, impl_SetCourseLevel.j0, hk, hc]
    · rintro k ⟨⟨m, rfl⟩, hk⟩
      simp [spec_SetCourseLevel.f, spec_SetCourseLevel.j0, hk, hc]
theorem setV_level {l : List S41} {a b v : Int} (h : (setV l a b v).2 = true) : (0 ≤ a ∧ b ≤ 240) ∧ courseB (setV l a b v).1 = true ∧ levelsV (setV l a b v).1 = setR (levelsV l) a b v := by
  unfold setV at h ⊢
  by_cases c : courseB l = true ∧ (0 ≤ a ∧ a < b ∧ b ≤ 240) ∧ (0 ≤ v ∧ v ≤ 3)
  · rw [if_pos c] at h ⊢
    refine ⟨by omega, courseV_good (by rw [setR_len, levelsV_len]) ?_ h⟩
    intro x hx
    obtain ⟨i, hi, rfl⟩ := List.mem_iff_getElem.1 hx
    rw [setR_len] at hi
    have := setR_get (levelsV l) a b v i hi
    rw [getD_lt _ _ _ (by rw [setR_len]; exact hi)] at this
    rw [this]
    split
    · exact c.2.2
    · rw [getD_lt _ _ _ hi]; exact levelsV_le (courseB_seg c.1) _ (List.getElem_mem _)
  · rw [if_neg c] at h; cases h
theorem setV_small (l : List S41) (a b v : Int) : (setV l a b v).1.length ≤ 240 := by
  unfold setV
  split
  · have := courseV_len (setR (levelsV l) a b v)
    rw [setR_len, levelsV_len] at this
    exact this
  · simp
theorem FnCourses : laws_FnCourses.Pure := by
  intro l0 hl _ hw
  have hby := bytes_of l0 hw
  by_cases hbig : (l0.length : Int) > 65536
  · exact ⟨0, by simp [laws_FnCourses.f, laws_rBig.f, hbig]⟩
  obtain ⟨l, a, b, v, hL, hA, hB, hV, g1⟩ := DrawSetCourseLevel_ev l0 hby
  obtain ⟨c, hC, g2⟩ := DrawIsValidCourse_ev l0 hby
  obtain ⟨lv, hlv, g3⟩ := DrawCourseOf_ev l0 hby
  obtain ⟨r, hr, s1, s2, _⟩ := SetCourseLevel_ev l a b v (by omega) (by omega) (by omega) (by omega)
  have hsm : r.1.length ≤ 240 := by rw [hr]; exact setV_small l a b v
  obtain ⟨t1, t2⟩ := GapsOf_ok c (by omega)
  have iv := IsValidCourse_ev c (by omega)
  obtain ⟨m, m1, m2, m3⟩ := pair_CourseOf lv (by omega)
  have j7 : Evt fun k => laws_FnCourses.j7 k l0 = some true := by
    refine Evt.succ ((g3.and (m1.and (m2.and (rCourses_self m.1 (by omega))))).mono ?_)
    rintro k ⟨h1, h2, h3, h4⟩
    simp only [laws_FnCourses.j7, h1, h2, h3, h4, Option.bind_some, beq_self_eq_true, if_true]
  have j3 : Evt fun k => laws_FnCourses.j3 k l0 c (gapsR c).1 (gapsR c).2 ((gapsR c).2 != courseB c) = some true := by
    cases hc : courseB c with
    | false =>
      have e : gapsR c = ([], false) := by unfold gapsR; rw [hc]; rfl
      rw [e]
      refine Evt.succ (j7.mono fun k hk => ?_)
      simp [laws_FnCourses.j3, hk]
    | true =>
      have e : gapsR c = (gapsV c, true) := by unfold gapsR; rw [hc]; rfl
      rw [e]
      have hn := courseB_len hc
      have hlen := levelsV_len c
      have hle := levelsV_le (courseB_seg hc)
      have hsum := gapsV_sum hc
      have hG := gapsV_len c
      have hF := HoursAt_val hc 0 (by omega)
      have hO := CourseOf_val (levelsV c) hlen hle
      rw [courseV_levels hc] at hO
      have htot : cntV 0 (levelsV c) + cntV 1 (levelsV c) + cntV 2 (levelsV c) + cntV 3 (levelsV c) = 240 := by
        rw [cnt_full, cnt_full, cnt_full, cnt_full, hlen]
        exact cntTo_all (levelsV c) 240 (fun q hq => by rw [getD_lt _ _ _ (by omega)]; exact hle _ (List.getElem_mem _))
      have hz : cntV 0 (levelsV c) = gsum (gapsV c) := by rw [hsum, cnt_full, hlen]
      have b0 := cntV_le 0 (levelsV c)
      have b1 := cntV_le 1 (levelsV c)
      have b2 := cntV_le 2 (levelsV c)
      have b3 := cntV_le 3 (levelsV c)
      have l3 : Evt fun k => laws_FnCourses.l3 k l0 c (gapsV c) (levelsV c) 240 0 0 = some true := by
        have h2 := gapsV_two c
        have hgb : ∀ g ∈ gapsV c, -1000 ≤ g.getD 0 0 ∧ g.getD 0 0 ≤ 1000 ∧ -1000 ≤ g.getD 1 0 ∧ g.getD 1 0 ≤ 1000 := gapsV_small hc
        refine evt_loop0 (gapsV c).length (fun k s i => laws_FnCourses.l3 k l0 c (gapsV c) (levelsV c) 240 s i) true (fun i s => (-2000 * i ≤ s ∧ s ≤ 2000 * i) ∧ s + gsum ((gapsV c).drop i) = gsum (gapsV c)) ?_ ?_ 0 ⟨by omega, by simp⟩
        · rintro i s hi ⟨i1, i2⟩
          have e : rd_L3 (gapsV c) (i : Int) = (gapsV c).getD i [] := by unfold rd_L3; rw [Int.toNat_natCast]
          have hm : (gapsV c).getD i [] ∈ gapsV c := by rw [getD_lt _ _ _ hi]; exact List.getElem_mem hi
          obtain ⟨g, hg⟩ : ∃ g, g = (gapsV c).getD i [] := ⟨_, rfl⟩
          rw [getD_drop (gapsV c) [] i hi] at i2
          simp only [gsum] at i2
          rw [← hg] at e hm i2
          have q1 := h2 g hm
          have q2 := hgb g hm
          have r0 : rd g 0 = g.getD 0 0 := rfl
          have r1 : rd g 1 = g.getD 1 0 := rfl
          refine .inl ⟨s + g.getD 1 0 - g.getD 0 0, ⟨by omega, by omega⟩, 1, Evt.all fun k => ?_⟩
          show laws_FnCourses.l3 (k + 1) l0 c (gapsV c) (levelsV c) 240 s (i : Int) = _
          simp only [laws_FnCourses.l3, e, r0, r1, q1]
          rw [if_pos (by omega), if_pos (by omega), if_pos (by omega), if_pos (by omega), wrap_id (x := s + g.getD 1 0) (by omega) (by omega), wrap_id (x := s + g.getD 1 0 - g.getD 0 0) (by omega) (by omega), wrap_id (by omega) (by omega)]
        · rintro s ⟨i1, i2⟩
          rw [List.drop_of_length_le (Nat.le_refl _)] at i2
          simp only [gsum, Int.add_zero] at i2
          refine Evt.succ ((hF.and (hO.and (j7.and (rCourses_self c (by omega))))).mono ?_)
          rintro k ⟨x1, x2, x3, x4⟩
          show laws_FnCourses.l3 (k + 1) l0 c (gapsV c) (levelsV c) 240 s ((gapsV c).length : Int) = _
          simp only [laws_FnCourses.l3, x1, x2, x4, Option.bind_some, if_true]
          rw [if_neg (by omega), if_pos (by rw [hz, i2])]; exact x3
      have l2 : Evt fun k => laws_FnCourses.l2 k l0 c (gapsV c) (levelsV c) 0 0 = some true := by
        have s0 := HoursAt_val hc 0 (by omega)
        have s1 := HoursAt_val hc 1 (by omega)
        have s2 := HoursAt_val hc 2 (by omega)
        have s3 := HoursAt_val hc 3 (by omega)
        obtain ⟨K, hK⟩ := (s0.and (s1.and (s2.and (s3.and l3)))).at
        refine Evt.from (K + 5) fun k hk => ?_
        obtain ⟨j, rfl⟩ : ∃ j, k = K + j + 5 := ⟨k - K - 5, by omega⟩
        have p0 := (hK (j + 4)).1
        have p1 := (hK (j + 3)).2.1
        have p2 := (hK (j + 2)).2.2.1
        have p3 := (hK (j + 1)).2.2.2.1
        have p4 := (hK j).2.2.2.2
        show laws_FnCourses.l2 ((K + (j + 4)) + 1) l0 c (gapsV c) (levelsV c) 0 0 = _
        simp only [laws_FnCourses.l2, p0, Option.bind_some, if_true]
        rw [if_pos (by omega), wrap_id (x := 0 + cntV 0 (levelsV c)) (by omega) (by omega), wrap_id (x := (0 : Int) + 1) (by omega) (by omega)]
        show laws_FnCourses.l2 ((K + (j + 3)) + 1) l0 c (gapsV c) (levelsV c) _ 1 = _
        simp only [laws_FnCourses.l2, p1, Option.bind_some, if_true]
        rw [if_pos (by omega), wrap_id (x := 0 + cntV 0 (levelsV c) + cntV 1 (levelsV c)) (by omega) (by omega), wrap_id (x := (1 : Int) + 1) (by omega) (by omega)]
        show laws_FnCourses.l2 ((K + (j + 2)) + 1) l0 c (gapsV c) (levelsV c) _ 2 = _
        simp only [laws_FnCourses.l2, p2, Option.bind_some, if_true]
        rw [if_pos (by omega), wrap_id (x := 0 + cntV 0 (levelsV c) + cntV 1 (levelsV c) + cntV 2 (levelsV c)) (by omega) (by omega), wrap_id (x := (2 : Int) + 1) (by omega) (by omega)]
        show laws_FnCourses.l2 ((K + (j + 1)) + 1) l0 c (gapsV c) (levelsV c) _ 3 = _
        simp only [laws_FnCourses.l2, p3, Option.bind_some, if_true]
        rw [if_pos (by omega), wrap_id (x := 0 + cntV 0 (levelsV c) + cntV 1 (levelsV c) + cntV 2 (levelsV c) + cntV 3 (levelsV c)) (by omega) (by omega), wrap_id (x := (3 : Int) + 1) (by omega) (by omega)]
        show laws_FnCourses.l2 ((K + j) + 1) l0 c (gapsV c) (levelsV c) _ 4 = _
        simp only [laws_FnCourses.l2]
        rw [if_neg (by omega), show 0 + cntV 0 (levelsV c) + cntV 1 (levelsV c) + cntV 2 (levelsV c) + cntV 3 (levelsV c) = 240 by omega]; exact p4
      have l1 : Evt fun k => laws_FnCourses.l1 k l0 c (gapsV c) [] 0 0 = some true := by
        refine evt_loop0 (levelsV c).length (fun k s i => laws_FnCourses.l1 k l0 c (gapsV c) s 0 i) true (fun i s => s = (levelsV c).take i) ?_ ?_ [] rfl
        · rintro i s hi rfl
          refine .inl ⟨_, rfl, 1, (CourseLevel_val hc i (by omega)).mono fun k hk => ?_⟩
          show laws_FnCourses.l1 (k + 1) l0 c (gapsV c) ((levelsV c).take i) 0 (i : Int) = _
          simp only [laws_FnCourses.l1, hk, Option.bind_some, if_true]
          rw [if_pos (by omega), if_pos (by rw [List.length_take]; omega), wrap_id (by omega) (by omega), List.take_succ_eq_append_getElem hi, getD_lt _ _ _ hi]
        · rintro s rfl
          refine Evt.succ (l2.mono fun k hk => ?_)
          show laws_FnCourses.l1 (k + 1) l0 c (gapsV c) ((levelsV c).take (levelsV c).length) 0 ((levelsV c).length : Int) = _
          simp only [laws_FnCourses.l1]
          rw [if_neg (by omega), List.take_length]; exact hk
      refine Evt.succ (l1.mono fun k hk => ?_)
      simp [laws_FnCourses.j3, hk]
  have rt : Evt fun k => laws_rTable.f k (gapsR c).1 (gapsR c).1 = some true := by
    have h1 := gapsV_len c
    have h2 := gapsV_two c
    refine rTable_self _ ?_ ?_
    · unfold gapsR; split <;> simp; omega
    · intro g hg
      unfold gapsR at hg
      split at hg
      · rw [h2 g hg]; omega
      · simp at hg
  have tail : ∀ (b0 : Bool) (x : Int), Evt fun k => laws_FnCourses.j2 k l0 r.1 b0 x false a b v = some true := by
    intro b0 x
    refine Evt.succ ((g2.and (t1.and (t2.and (rt.and (iv.and j3))))).mono ?_)
    rintro k ⟨h1, h2, h3, h4, h5, h6⟩
    simp only [laws_FnCourses.j2, spec_DrawGapsOf.f, h1, h2, h3, h4, h5, Option.bind_some, bne_self_eq_false, Bool.false_eq_true, if_false, if_true]
    exact h6
  have lp : Evt fun k => laws_FnCourses.l0 k l0 r.1 r.2 a a b v = some true := by
    cases hq : r.2 with
    | false =>
      refine Evt.succ ((tail false a).mono fun k hk => ?_)
      simp [laws_FnCourses.l0, hk]
    | true =>
      have hq' := hq
      rw [hr] at hq'
      obtain ⟨u1, u2, u3⟩ := setV_level hq'
      rw [← hr] at u2 u3
      by_cases hab : a ≤ b
      · have key := evt_loop0 (b - a).toNat (fun k (_ : Unit) i => laws_FnCourses.l0 k l0 r.1 true (a + i) a b v) true (fun _ _ => True) ?_ ?_ () trivial
        · rw [Int.add_zero] at key; exact key
        · rintro i s hi _
          have val := CourseLevel_val u2 (a + i).toNat (by omega)
          rw [u3, setR_get _ _ _ _ _ (by rw [levelsV_len]; omega), if_pos (by omega), show (((a + i).toNat : Nat) : Int) = a + i by omega] at val
          refine .inl ⟨(), trivial, 2, val.mono fun k hk => ?_⟩
          show laws_FnCourses.l0 (k + 1 + 1) l0 r.1 true (a + (i : Int)) a b v = laws_FnCourses.l0 k l0 r.1 true (a + ((i : Int) + 1)) a b v
          simp only [laws_FnCourses.l0, laws_FnCourses.j2, if_true, decide_eq_true (show a + (i : Int) < b by omega), hk, Option.bind_some]
          rw [wrap_id (by omega) (by omega), Int.add_assoc]
        · rintro s _
          refine Evt.succ ((tail true (a + ((b - a).toNat : Int))).mono fun k hk => ?_)
          show laws_FnCourses.l0 (k + 1) l0 r.1 true (a + ((b - a).toNat : Int)) a b v = _
          simp only [laws_FnCourses.l0, if_true, decide_eq_false (show ¬ a + ((b - a).toNat : Int) < b by omega)]
          exact hk
      · refine Evt.succ ((tail true a).mono fun k hk => ?_)
        simp only [laws_FnCourses.l0, if_true, decide_eq_false (show ¬ a < b by omega)]
        exact hk
  have j0 : Evt fun k => laws_FnCourses.j0 k l0 r.1 r.2 false a b v = some true := by
    refine Evt.succ (lp.mono fun k hk => ?_)
    simp only [laws_FnCourses.j0, Bool.false_eq_true, if_false]; exact hk
  obtain ⟨K, hK⟩ := (g1.and (s1.and (s2.and (j0.and (rCourses_self r.1 (by omega)))))).at
  obtain ⟨h1, h2, h3, h4, h5⟩ := hK 0
  refine ⟨K + 0, ?_⟩
  unfold laws_FnCourses.f
  simp only [laws_rBig.f, Option.bind_some, decide_eq_false hbig, h1, h2, h3, h5, Bool.false_eq_true, if_false, bne_self_eq_false, Bool.not_true]
  exact h4
end Go.Proofs.Ytkegkbpadhddkaa.Pure
