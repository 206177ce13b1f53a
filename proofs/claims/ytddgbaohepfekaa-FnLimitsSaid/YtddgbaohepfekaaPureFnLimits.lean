/-
  The pure statement of the law FnLimits: what its printed function answers is 'true' for all numbers and lists of its kinds. Conditions: the kinds' own bounds, as the statement lays them.
-/
import Derived.Test.YtddgbaohepfekaaXFnLimitsx16
import Derived.DataShut
namespace Go.Proofs.Ytddgbaohepfekaa.Pure
open Go.RowKit Go.Proofs.Ytddgbaohepfekaa.XFnLimits Go.Proofs.YtddgbaohepfekaaW.PrintWords Go.Proofs.YtddgbaohepfekaaW.PrintLast Go.Proofs.YtddgbaohepfekaaW.PrintMore
set_option linter.unusedVariables false
set_option linter.unusedSimpArgs false
theorem wrap_id {x : Int} (h0 : -9223372036854775808 ≤ x) (h1 : x ≤ 9223372036854775807) : wrap64 x = x := by unfold wrap64; omega
theorem rd_nat (xs : List Int) (i : Nat) : rd xs (i : Int) = xs.getD i 0 := by simp [rd]
theorem for_loop {σ ρ : Type} (K n : Nat) (L : Nat → σ → Int → Option ρ) (v : ρ) (Inv : Nat → σ → Prop)
    (step : ∀ k i s, K ≤ k → i < n → Inv i s → (∃ s', Inv (i + 1) s' ∧ L (k + 1) s (i : Int) = L k s' ((i : Int) + 1)) ∨ L (k + 1) s (i : Int) = some v)
    (fin : ∀ k s, K ≤ k → Inv n s → L (k + 1) s (n : Int) = some v) :
    ∀ k s, Inv 0 s → n + K < k → L k s 0 = some v := by
  have key : ∀ d k i s, i + d = n → Inv i s → d + K < k → L k s (i : Int) = some v := by
    intro d
    induction d with
    | zero =>
      intro k i s hi h hk
      obtain ⟨k, rfl⟩ : ∃ m, k = m + 1 := ⟨k - 1, by omega⟩
      obtain rfl : i = n := by omega
      exact fin k s (by omega) h
    | succ d ih =>
      intro k i s hi h hk
      obtain ⟨k, rfl⟩ : ∃ m, k = m + 1 := ⟨k - 1, by omega⟩
      rcases step k i s (by omega) (by omega) h with ⟨s', h', e⟩ | e
      · rw [e]
        have := ih k (i + 1) s' (by omega) h' (by omega)
        rw [show ((i + 1 : Nat) : Int) = (i : Int) + 1 from by omega] at this
        exact this
      · exact e
  intro k s h hk
  exact key n k 0 s (by omega) h hk
theorem getD_drop {α : Type} (xs : List α) (z : α) (i : Nat) (h : i < xs.length) : xs.drop i = xs.getD i z :: xs.drop (i + 1) := by
  rw [List.drop_eq_getElem_cons h, List.getD_eq_getElem?_getD, List.getElem?_eq_getElem h]; rfl
theorem all_loop {α : Type} (K : Nat) (xs : List α) (z : α) (p : α → Bool) (L : Nat → Int → Option Bool)
    (step : ∀ k i, K ≤ k → i < xs.length → L (k + 1) (i : Int) = if p (xs.getD i z) = true then L k ((i : Int) + 1) else some false)
    (fin : ∀ k, K ≤ k → L (k + 1) (xs.length : Int) = some true) : ∀ k, xs.length + K < k → L k 0 = some (xs.all p) := by
  intro k hk
  refine for_loop K xs.length (fun k (_ : Unit) i => L k i) (xs.all p) (fun i _ => (xs.drop i).all p = xs.all p) ?_ ?_ k () (by simp) hk
  · intro k i s hK hi h
    rw [getD_drop xs z i hi, List.all_cons] at h
    by_cases hp : p (xs.getD i z) = true
    · refine .inl ⟨(), by rw [hp, Bool.true_and] at h; exact h, ?_⟩
      show L (k + 1) (i : Int) = _
      rw [step k i hK hi, if_pos hp]
    · refine .inr ?_
      show L (k + 1) (i : Int) = _
      rw [step k i hK hi, if_neg hp, ← h, (Bool.eq_false_iff.2 hp : p (xs.getD i z) = false), Bool.false_and]
  · intro k s hK h
    rw [List.drop_of_length_le (Nat.le_refl _)] at h
    show L (k + 1) (xs.length : Int) = _
    rw [fin k hK, ← h]; rfl
def Evt (P : Nat → Prop) : Prop := ∃ K, ∀ k, K ≤ k → P k
theorem Evt.all {P : Nat → Prop} (h : ∀ k, P k) : Evt P := ⟨0, fun k _ => h k⟩
theorem Evt.from {P : Nat → Prop} (K : Nat) (h : ∀ k, K ≤ k → P k) : Evt P := ⟨K, h⟩
theorem Evt.and {P Q : Nat → Prop} (h : Evt P) (g : Evt Q) : Evt fun k => P k ∧ Q k := by
  obtain ⟨K, h⟩ := h
  obtain ⟨M, g⟩ := g
  exact ⟨K + M, fun k hk => ⟨h k (by omega), g k (by omega)⟩⟩
theorem Evt.mono {P Q : Nat → Prop} (h : Evt P) (g : ∀ k, P k → Q k) : Evt Q := by
  obtain ⟨K, h⟩ := h
  exact ⟨K, fun k hk => g k (h k hk)⟩
theorem Evt.succ {Q : Nat → Prop} (h : Evt fun k => Q (k + 1)) : Evt Q := by
  obtain ⟨K, h⟩ := h
  refine ⟨K + 1, fun k hk => ?_⟩
  obtain ⟨m, rfl⟩ : ∃ m, k = m + 1 := ⟨k - 1, by omega⟩
  exact h m (by omega)
theorem Evt.add {Q : Nat → Prop} (c : Nat) (h : Evt fun k => Q (k + c)) : Evt Q := by
  obtain ⟨K, h⟩ := h
  refine ⟨K + c, fun k hk => ?_⟩
  obtain ⟨m, rfl⟩ : ∃ m, k = m + c := ⟨k - c, by omega⟩
  exact h m (by omega)
theorem Evt.shift {Q : Nat → Prop} (h : Evt Q) : Evt fun k => Q (k + 1) := by
  obtain ⟨K, h⟩ := h
  exact ⟨K, fun k hk => h _ (by omega)⟩
theorem Evt.at {P : Nat → Prop} (h : Evt P) : ∃ K, ∀ j, P (K + j) := by
  obtain ⟨K, h⟩ := h
  exact ⟨K, fun j => h _ (by omega)⟩
theorem evt_loop {σ ρ : Type} (n : Nat) (L : Nat → σ → Int → Option ρ) (v : ρ) (Inv : Nat → σ → Prop)
    (step : ∀ i s, i < n → Inv i s → (∃ s', Inv (i + 1) s' ∧ ∃ c, Evt fun k => L (k + c) s (i : Int) = L k s' ((i : Int) + 1)) ∨ Evt fun k => L k s (i : Int) = some v)
    (fin : ∀ s, Inv n s → Evt fun k => L k s (n : Int) = some v) :
    ∀ i s, i ≤ n → Inv i s → Evt fun k => L k s (i : Int) = some v := by
  have key : ∀ d i s, i + d = n → Inv i s → Evt fun k => L k s (i : Int) = some v := by
    intro d
    induction d with
    | zero =>
      intro i s hi h
      obtain rfl : i = n := by omega
      exact fin s h
    | succ d ih =>
      intro i s hi h
      rcases step i s (by omega) h with ⟨s', h', c, e⟩ | e
      · have h2 := ih (i + 1) s' (by omega) h'
        rw [show ((i + 1 : Nat) : Int) = (i : Int) + 1 from by omega] at h2
        exact Evt.add c ((e.and h2).mono fun k hk => hk.1.trans hk.2)
      · exact e
  intro i s hi h
  exact key (n - i) i s (by omega) h
theorem evt_loop0 {σ ρ : Type} (n : Nat) (L : Nat → σ → Int → Option ρ) (v : ρ) (Inv : Nat → σ → Prop)
    (step : ∀ i s, i < n → Inv i s → (∃ s', Inv (i + 1) s' ∧ ∃ c, Evt fun k => L (k + c) s (i : Int) = L k s' ((i : Int) + 1)) ∨ Evt fun k => L k s (i : Int) = some v)
    (fin : ∀ s, Inv n s → Evt fun k => L k s (n : Int) = some v) (s : σ) (h0 : Inv 0 s) : Evt fun k => L k s 0 = some v :=
  evt_loop n L v Inv step fin 0 s (Nat.zero_le _) h0
theorem getD_lt {α : Type} (xs : List α) (z : α) (i : Nat) (h : i < xs.length) : xs.getD i z = xs[i] := by
  rw [List.getD_eq_getElem?_getD, List.getElem?_eq_getElem h]; rfl
theorem evt_loop_ex {σ ρ : Type} (n : Nat) (L : Nat → σ → Int → Option ρ) (R : ρ → Prop) (Inv : Nat → σ → Prop)
    (step : ∀ i s, i < n → Inv i s → (∃ s', Inv (i + 1) s' ∧ ∃ c, Evt fun k => L (k + c) s (i : Int) = L k s' ((i : Int) + 1)) ∨ ∃ v, R v ∧ Evt fun k => L k s (i : Int) = some v)
    (fin : ∀ s, Inv n s → ∃ v, R v ∧ Evt fun k => L k s (n : Int) = some v) (s : σ) (h0 : Inv 0 s) : ∃ v, R v ∧ Evt fun k => L k s 0 = some v := by
  have key : ∀ d i s, i + d = n → Inv i s → ∃ v, R v ∧ Evt fun k => L k s (i : Int) = some v := by
    intro d
    induction d with
    | zero =>
      intro i s hi h
      obtain rfl : i = n := by omega
      exact fin s h
    | succ d ih =>
      intro i s hi h
      rcases step i s (by omega) h with ⟨s', h', c, e⟩ | e
      · obtain ⟨v, hv, h2⟩ := ih (i + 1) s' (by omega) h'
        rw [show ((i + 1 : Nat) : Int) = (i : Int) + 1 from by omega] at h2
        exact ⟨v, hv, Evt.add c ((e.and h2).mono fun k hk => hk.1.trans hk.2)⟩
      · exact e
  exact key n 0 s (by omega) h0
theorem u64_range (x : Int) : 0 ≤ IntKind.u64.wrap x ∧ IntKind.u64.wrap x ≤ 18446744073709551615 := by
  simp [IntKind.wrap, IntKind.signed, IntKind.bits]; omega
theorem and255 (x : Int) : 0 ≤ wrap64 (Go.bits .and .u64 (IntKind.u64.wrap x / 1099511627776) 255) ∧ wrap64 (Go.bits .and .u64 (IntKind.u64.wrap x / 1099511627776) 255) ≤ 255 := by
  obtain ⟨h0, h1⟩ := u64_range x
  obtain ⟨y, hy⟩ : ∃ y, y = IntKind.u64.wrap x / 1099511627776 := ⟨_, rfl⟩
  rw [← hy]
  have h := bits_and_u64_nat y.toNat 255 (by omega) (by omega)
  have e : ((y.toNat : Nat) : Int) = y := by omega
  have h2 : bits BinOp.and IntKind.u64 y 255 = ((y.toNat &&& 255 : Nat) : Int) := by rw [← e]; exact h
  have h3 : y.toNat &&& 255 ≤ 255 := Nat.and_le_right
  rw [show Go.bits .and .u64 y 255 = bits BinOp.and IntKind.u64 y 255 from rfl, h2, wrap_id (by omega) (by omega)]
  omega
theorem next_ok (l : List Int) (hb : ∀ x ∈ l, 0 ≤ x ∧ x ≤ 255) (p s : Int) (h0 : 0 ≤ p) (h1 : p ≤ 4611686018427387904) : ∃ v s', spec_l1Cur_next.f l p s = some (v, p + 1, s') ∧ 0 ≤ v ∧ v ≤ 255 := by
  unfold spec_l1Cur_next.f
  have e : wrap64 (p + 1) = p + 1 := wrap_id (by omega) (by omega)
  by_cases c : p < (l.length : Int)
  · have hm : rd l p ∈ l := by
      have : rd l p = l.getD p.toNat 0 := by simp [rd]
      rw [this, List.getD_eq_getElem?_getD, List.getElem?_eq_getElem (by omega), Option.getD_some]
      exact List.getElem_mem _
    obtain ⟨b0, b1⟩ := hb _ hm
    rw [if_pos c, if_pos h0, e, if_pos (by omega)]
    exact ⟨_, _, rfl, by rw [wrap_id (by omega) (by omega)]; exact ⟨b0, b1⟩⟩
  · rw [if_neg c, e, if_neg (by omega)]
    exact ⟨_, _, rfl, and255 _⟩
theorem tmod_range (x a : Int) (h0 : 0 ≤ x) (ha : 1 ≤ a) : 0 ≤ Int.tmod x a ∧ Int.tmod x a < a := ⟨Int.tmod_nonneg a h0, Int.tmod_lt_of_pos x (by omega)⟩
theorem pick_ok (l : List Int) (hb : ∀ x ∈ l, 0 ≤ x ∧ x ≤ 255) (p s a : Int) (h0 : 0 ≤ p) (h1 : p ≤ 4611686018427387000) (ha : 1 ≤ a) :
    ∃ v p' s', spec_l1Cur_pick.f l p s a = some (v, p', s') ∧ p ≤ p' ∧ p' ≤ p + 2 ∧ 0 ≤ v ∧ v < a := by
  unfold spec_l1Cur_pick.f
  by_cases c : a ≤ 1
  · rw [if_pos c]; exact ⟨0, p, s, rfl, by omega, by omega, by omega, by omega⟩
  · obtain ⟨v, s1, e1, v0, v1⟩ := next_ok l hb p s h0 (by omega)
    rw [if_neg c, e1, Option.bind_some]
    by_cases c2 : a > 200
    · obtain ⟨u, s2, e2, u0, u1⟩ := next_ok l hb (p + 1) s1 (by omega) (by omega)
      rw [if_pos c2]; dsimp only; rw [e2, Option.bind_some, if_neg (by omega)]
      have q : 0 ≤ wrap64 (wrap64 (v * 256) + u) := by rw [wrap_id (x := v * 256) (by omega) (by omega), wrap_id (by omega) (by omega)]; omega
      exact ⟨_, _, _, rfl, by dsimp only; omega, by dsimp only; omega, tmod_range _ a q ha⟩
    · rw [if_neg c2, if_neg (by omega)]
      exact ⟨_, _, _, rfl, by dsimp only; omega, by dsimp only; omega, tmod_range _ a v0 ha⟩
theorem one_ok (l : List Int) (hb : ∀ x ∈ l, 0 ≤ x ∧ x ≤ 255) (p s a : Int) (h0 : 0 ≤ p) (h1 : p ≤ 4611686018427387000) (ha : 1 ≤ a) :
    ∃ b p' s', spec_l1Cur_one.f l p s a = some (b, p', s') ∧ p ≤ p' ∧ p' ≤ p + 2 := by
  obtain ⟨v, p', s', e, q0, q1, _, _⟩ := pick_ok l hb p s a h0 h1 ha
  unfold spec_l1Cur_one.f
  rw [e]; exact ⟨_, _, _, rfl, q0, q1⟩
theorem among_ok (l : List Int) (hb : ∀ x ∈ l, 0 ≤ x ∧ x ≤ 255) (p s : Int) (h0 : 0 ≤ p) (h1 : p ≤ 4611686018427387000) (xs : List Int) (hx : 1 ≤ xs.length) :
    ∃ v p' s', spec_l1Cur_among.f l p s xs = some (v, p', s') ∧ p ≤ p' ∧ p' ≤ p + 2 ∧ v ∈ xs := by
  obtain ⟨v, p', s', e, q0, q1, v0, v1⟩ := pick_ok l hb p s (xs.length : Int) h0 h1 (by omega)
  unfold spec_l1Cur_among.f
  rw [e, Option.bind_some, if_pos v0, if_pos v1]
  refine ⟨_, _, _, rfl, q0, q1, ?_⟩
  have : rd xs v = xs.getD v.toNat 0 := by simp [rd]
  dsimp only
  rw [this, List.getD_eq_getElem?_getD, List.getElem?_eq_getElem (by omega), Option.getD_some]
  exact List.getElem_mem _
theorem bytes_of (l : List Int) (h : ∀ x ∈ l, (Lit.int .u8 x).wf = true) : ∀ x ∈ l, 0 ≤ x ∧ x ≤ 255 := by
  intro x hx
  have := h x hx
  simpa [Lit.wf, IntKind.min, IntKind.max, IntKind.signed, IntKind.bits] using this
theorem l2Fill_ev (w h v : Int) (n : Nat) (hn : w * h = (n : Int)) (hn2 : n ≤ 64) : ∃ r : Int × Int × List Int, (r.2.2.length = n) ∧ Evt fun k => spec_l2Fill.f k w h v = some r := by
  unfold spec_l2Fill.f
  refine evt_loop_ex n (fun k (q : List Int) i => spec_l2Fill.l0 k w h v i w h q) _ (fun i q => q.length = i) ?_ ?_ [] rfl
  · rintro i q hi e
    refine .inl ⟨q ++ [v], by simp [e], 1, Evt.all fun k => ?_⟩
    show spec_l2Fill.l0 (k + 1) w h v (i : Int) w h q = _
    simp only [spec_l2Fill.l0]
    rw [hn, wrap_id (x := (n : Int)) (by omega) (by omega), if_pos (by omega), if_pos (by omega), wrap_id (by omega) (by omega)]
  · rintro q e
    refine ⟨(w, h, q), e, Evt.succ (Evt.all fun k => ?_)⟩
    show spec_l2Fill.l0 (k + 1) w h v (n : Int) w h q = _
    simp only [spec_l2Fill.l0]
    rw [hn, wrap_id (x := (n : Int)) (by omega) (by omega), if_neg (by omega)]
theorem fieldJ_ev (l : List Int) (hb : ∀ x ∈ l, 0 ≤ x ∧ x ≤ 255) (p s : Int) (h0 : 0 ≤ p) (h1 : p ≤ 4611686018427386000) (w h : Int) (xs : List Int) (hx : 1 ≤ xs.length ∧ xs.length ≤ 64) :
    ∃ r : Int × Int × List Int × Int × Int, ((1 ≤ r.2.2.1.length ∧ r.2.2.1.length ≤ 64) ∧ p ≤ r.2.2.2.1 ∧ r.2.2.2.1 ≤ p + 2) ∧ Evt fun k => spec_l1Cur_field.j1 k l p s w h xs = some r := by
  obtain ⟨b, p', s', e, a1, b1⟩ := one_ok l hb p s 24 h0 (by omega) (by omega)
  cases b with
  | true =>
    obtain ⟨q, hq, ev⟩ := l2Fill_ev 8 8 3 64 rfl (Nat.le_refl _)
    refine ⟨(q.1, q.2.1, q.2.2, p', s'), ⟨⟨by dsimp only; omega, by dsimp only; omega⟩, a1, b1⟩, Evt.succ (ev.mono fun k hk => ?_)⟩
    simp only [spec_l1Cur_field.j1]
    rw [e, Option.bind_some, if_pos rfl, hk, Option.bind_some]
  | false =>
    refine ⟨(w, h, xs, p', s'), ⟨hx, a1, b1⟩, Evt.succ (Evt.all fun k => ?_)⟩
    simp only [spec_l1Cur_field.j1]
    rw [e, Option.bind_some, if_neg (by simp)]
theorem field_draw (l : List Int) (hb : ∀ x ∈ l, 0 ≤ x ∧ x ≤ 255) (p s : Int) (h0 : 0 ≤ p) (h1 : p ≤ 4611686018427385000) :
    ∃ r : Int × Int × List Int × Int × Int, ((1 ≤ r.2.2.1.length ∧ r.2.2.1.length ≤ 64) ∧ p ≤ r.2.2.2.1 ∧ r.2.2.2.1 ≤ p + 120) ∧ Evt fun k => spec_l1Cur_field.f k l p s = some r := by
  obtain ⟨v1, p1, s1, e1, a1, b1, v10, v11⟩ := pick_ok l hb p s 5 h0 (by omega) (by omega)
  obtain ⟨v2, p2, s2, e2, a2, b2, v20, v21⟩ := pick_ok l hb p1 s1 5 (by omega) (by omega) (by omega)
  obtain ⟨v3, p3, s3, e3, a3, b3, m3⟩ := among_ok l hb p2 s2 (by omega) (by omega) [0, 10, 100, -50] (by decide)
  have w1 : wrap64 (1 + v1) = 1 + v1 := wrap_id (by omega) (by omega)
  have w2 : wrap64 (1 + v2) = 1 + v2 := wrap_id (by omega) (by omega)
  obtain ⟨n, hn, n1, n2⟩ : ∃ n : Nat, (1 + v1) * (1 + v2) = (n : Int) ∧ 1 ≤ n ∧ n ≤ 25 := by
    have g : v1 = 0 ∨ v1 = 1 ∨ v1 = 2 ∨ v1 = 3 ∨ v1 = 4 := by omega
    refine ⟨((1 + v1) * (1 + v2)).toNat, ?_, ?_, ?_⟩ <;> rcases g with g | g | g | g | g <;> subst g <;> omega
  have m3' : -50 ≤ v3 ∧ v3 ≤ 100 := by
    simp only [List.mem_cons, List.not_mem_nil, or_false] at m3; omega
  have main : ∃ r : Int × Int × List Int × Int × Int, ((1 ≤ r.2.2.1.length ∧ r.2.2.1.length ≤ 64) ∧ p ≤ r.2.2.2.1 ∧ r.2.2.2.1 ≤ p + 120) ∧ Evt fun k => spec_l1Cur_field.l0 k v3 0 l p3 s3 (1 + v1) (1 + v2) [] = some r := by
    refine evt_loop_ex n (fun k (q : List Int × Int × Int) i => spec_l1Cur_field.l0 k v3 i l q.2.1 q.2.2 (1 + v1) (1 + v2) q.1) _
      (fun i q => q.1.length = i ∧ p ≤ q.2.1 ∧ q.2.1 ≤ p + 6 + 4 * i) ?_ ?_ ([], p3, s3) ⟨rfl, by dsimp only; omega, by dsimp only; omega⟩
    · rintro i ⟨xs, q, t⟩ hi ⟨i1, i2, i3⟩
      dsimp only at i1 i2 i3
      obtain ⟨u, p4, s4, e4, a4, b4, u0, u1⟩ := pick_ok l hb q t 40 (by omega) (by omega) (by omega)
      obtain ⟨y, p5, s5, e5, a5, b5⟩ := one_ok l hb p4 s4 12 (by omega) (by omega) (by omega)
      refine .inl ⟨(xs ++ [if y = true then -9999 else wrap64 (v3 + u)], p5, s5), ⟨by simp [i1], by dsimp only; omega, by dsimp only; omega⟩, 1, Evt.all fun k => ?_⟩
      show spec_l1Cur_field.l0 (k + 1) v3 (i : Int) l q t (1 + v1) (1 + v2) xs = _
      simp only [spec_l1Cur_field.l0]
      rw [hn, wrap_id (x := (n : Int)) (by omega) (by omega), if_pos (by omega), e4, Option.bind_some]; dsimp only
      rw [e5, Option.bind_some, wrap_id (x := (i : Int) + 1) (by omega) (by omega)]
      cases y with
      | true => rw [if_pos rfl, if_pos (by omega), if_pos rfl]
      | false => rw [if_neg (by simp), if_pos (by omega), if_neg (by simp)]
    · rintro ⟨xs, q, t⟩ ⟨i1, i2, i3⟩
      dsimp only at i1 i2 i3
      obtain ⟨y, p4, s4, e4, a4, b4⟩ := one_ok l hb q t 10 (by omega) (by omega) (by omega)
      cases y with
      | true =>
        obtain ⟨u, p5, s5, e5, a5, b5, u0, u1⟩ := pick_ok l hb p4 s4 (xs.length : Int) (by omega) (by omega) (by omega)
        obtain ⟨v, p6, s6, e6, a6, b6, _⟩ := among_ok l hb p5 s5 (by omega) (by omega) [9000, -9000, 0] (by decide)
        obtain ⟨r, ⟨hr, r1, r2⟩, ev⟩ := fieldJ_ev l hb p6 s6 (by omega) (by omega) (1 + v1) (1 + v2) (xs.set (u : Int).toNat v) (by rw [List.length_set]; omega)
        refine ⟨r, ⟨hr, by omega, by omega⟩, Evt.succ (ev.mono fun k hk => ?_)⟩
        show spec_l1Cur_field.l0 (k + 1) v3 (n : Int) l q t (1 + v1) (1 + v2) xs = _
        simp only [spec_l1Cur_field.l0]
        rw [hn, wrap_id (x := (n : Int)) (by omega) (by omega), if_neg (by omega), e4, Option.bind_some, if_pos rfl]; dsimp only
        rw [e5, Option.bind_some]; dsimp only
        rw [e6, Option.bind_some, if_pos (by omega), if_pos (by omega)]; dsimp only
        exact hk
      | false =>
        obtain ⟨r, ⟨hr, r1, r2⟩, ev⟩ := fieldJ_ev l hb p4 s4 (by omega) (by omega) (1 + v1) (1 + v2) xs (by omega)
        refine ⟨r, ⟨hr, by omega, by omega⟩, Evt.succ (ev.mono fun k hk => ?_)⟩
        show spec_l1Cur_field.l0 (k + 1) v3 (n : Int) l q t (1 + v1) (1 + v2) xs = _
        simp only [spec_l1Cur_field.l0]
        rw [hn, wrap_id (x := (n : Int)) (by omega) (by omega), if_neg (by omega), e4, Option.bind_some, if_neg (by simp)]
        exact hk
  obtain ⟨r, hr, ev⟩ := main
  refine ⟨r, hr, ev.mono fun k hk => ?_⟩
  unfold spec_l1Cur_field.f
  rw [e1, Option.bind_some]; dsimp only
  rw [e2, Option.bind_some]; dsimp only
  rw [e3, Option.bind_some, w1, w2]
  exact hk
theorem anyField_draw (l : List Int) (hb : ∀ x ∈ l, 0 ≤ x ∧ x ≤ 255) (p s : Int) (h0 : 0 ≤ p) (h1 : p ≤ 4611686018427384000) :
    ∃ r : Int × Int × List Int × Int × Int, (r.2.2.1.length ≤ 64 ∧ p ≤ r.2.2.2.1 ∧ r.2.2.2.1 ≤ p + 130) ∧ Evt fun k => spec_l1Cur_anyField.f k l p s = some r := by
  obtain ⟨⟨w, h, xs, p1, s1⟩, ⟨⟨x1, x2⟩, a1, b1⟩, ev⟩ := field_draw l hb p s h0 (by omega)
  dsimp only at x1 x2 a1 b1
  obtain ⟨v, p2, s2, e2, a2, b2, v0, v1⟩ := pick_ok l hb p1 s1 24 (by omega) (by omega) (by omega)
  by_cases k0 : v = 0
  · obtain ⟨u, p3, s3, e3, a3, b3, _⟩ := among_ok l hb p2 s2 (by omega) (by omega) [0, 9, 8, h] (by simp)
    refine ⟨(u, h, xs, p3, s3), ⟨x2, by dsimp only; omega, by dsimp only; omega⟩, ev.mono fun k hk => ?_⟩
    unfold spec_l1Cur_anyField.f
    rw [hk, Option.bind_some]; dsimp only
    rw [e2, Option.bind_some, if_pos k0]; dsimp only
    rw [e3, Option.bind_some]
  · by_cases k1 : v = 1
    · obtain ⟨u, p3, s3, e3, a3, b3, u0, u1⟩ := pick_ok l hb p2 s2 (xs.length : Int) (by omega) (by omega) (by omega)
      obtain ⟨y, p4, s4, e4, a4, b4, _⟩ := among_ok l hb p3 s3 (by omega) (by omega) [9001, -9001, -9998, -9999] (by decide)
      refine ⟨(w, h, xs.set (u : Int).toNat y, p4, s4), ⟨by rw [List.length_set]; exact x2, by dsimp only; omega, by dsimp only; omega⟩, ev.mono fun k hk => ?_⟩
      unfold spec_l1Cur_anyField.f
      rw [hk, Option.bind_some]; dsimp only
      rw [e2, Option.bind_some, if_neg k0, if_pos k1]; dsimp only
      rw [e3, Option.bind_some]; dsimp only
      rw [e4, Option.bind_some, if_pos u0, if_pos u1]
    · by_cases k2 : v = 2
      · refine ⟨(w, h, xs.drop (1 : Int).toNat, p2, s2), ⟨by dsimp only; rw [List.length_drop]; omega, by dsimp only; omega, by dsimp only; omega⟩, ev.mono fun k hk => ?_⟩
        unfold spec_l1Cur_anyField.f
        rw [hk, Option.bind_some]; dsimp only
        rw [e2, Option.bind_some, if_neg k0, if_neg k1, if_pos k2, if_pos (by omega)]
      · refine ⟨(w, h, xs, p2, s2), ⟨x2, by dsimp only; omega, by dsimp only; omega⟩, ev.mono fun k hk => ?_⟩
        unfold spec_l1Cur_anyField.f
        rw [hk, Option.bind_some]; dsimp only
        rw [e2, Option.bind_some, if_neg k0, if_neg k1, if_neg k2]
theorem like_step (l : List Int) (hb : ∀ x ∈ l, 0 ≤ x ∧ x ≤ 255) (q t : Int) (h0 : 0 ≤ q) (h1 : q ≤ 4611686018427386000) (w h : Int) (xs : List Int) (i : Nat) (hi : i < xs.length) (hx : xs.length ≤ 64) :
    ∃ ys p' s', List.length ys = xs.length ∧ q ≤ p' ∧ p' ≤ q + 4 ∧ ∀ k, spec_l1Cur_like.l0 (k + 1) (i : Int) l q t w h xs = spec_l1Cur_like.l0 k ((i : Int) + 1) l p' s' w h ys := by
  have wi : wrap64 ((i : Int) + 1) = (i : Int) + 1 := wrap_id (by omega) (by omega)
  have c0 : (i : Int) < (xs.length : Int) := by omega
  have c1 : 0 ≤ (i : Int) := by omega
  obtain ⟨u, p4, s4, e4, a4, b4, u0, u1⟩ := pick_ok l hb q t 5 h0 (by omega) (by omega)
  by_cases k0 : u = 0
  · obtain ⟨v, p5, s5, e5, a5, b5, _⟩ := pick_ok l hb p4 s4 40 (by omega) (by omega) (by omega)
    refine ⟨xs.set (i : Int).toNat v, p5, s5, List.length_set, by omega, by omega, fun k => ?_⟩
    simp only [spec_l1Cur_like.l0]
    rw [if_pos c0, e4, Option.bind_some, if_pos k0]; dsimp only
    rw [e5, Option.bind_some, if_pos c1, wi]
  · by_cases k1 : u = 1
    · obtain ⟨y, p6, s6, e6, a6, b6⟩ := one_ok l hb p4 s4 3 (by omega) (by omega) (by omega)
      cases y with
      | true =>
        refine ⟨xs.set (i : Int).toNat (-9999), p6, s6, List.length_set, by omega, by omega, fun k => ?_⟩
        simp only [spec_l1Cur_like.l0]
        rw [if_pos c0, e4, Option.bind_some, if_neg k0, if_pos k1]; dsimp only
        rw [e6, Option.bind_some, if_pos rfl, if_pos c1, wi]
      | false =>
        refine ⟨xs, p6, s6, rfl, by omega, by omega, fun k => ?_⟩
        simp only [spec_l1Cur_like.l0]
        rw [if_pos c0, e4, Option.bind_some, if_neg k0, if_pos k1]; dsimp only
        rw [e6, Option.bind_some, if_neg (by simp), wi]
    · refine ⟨xs, p4, s4, rfl, by omega, by omega, fun k => ?_⟩
      simp only [spec_l1Cur_like.l0]
      rw [if_pos c0, e4, Option.bind_some, if_neg k0, if_neg k1, wi]
theorem like_draw (l : List Int) (hb : ∀ x ∈ l, 0 ≤ x ∧ x ≤ 255) (p s : Int) (h0 : 0 ≤ p) (h1 : p ≤ 4611686018427383000) (w h : Int) (zs : List Int) (hz : zs.length ≤ 64) :
    ∃ r : Int × Int × List Int × Int × Int, (r.2.2.1.length ≤ 64 ∧ p ≤ r.2.2.2.1 ∧ r.2.2.2.1 ≤ p + 500) ∧ Evt fun k => spec_l1Cur_like.f k l p s w h zs = some r := by
  have main : ∃ r : Int × Int × List Int × Int × Int, (r.2.2.1.length ≤ 64 ∧ p ≤ r.2.2.2.1 ∧ r.2.2.2.1 ≤ p + 500) ∧ Evt fun k => spec_l1Cur_like.l0 k 0 l p s w h zs = some r := by
    refine evt_loop_ex zs.length (fun k (q : List Int × Int × Int) i => spec_l1Cur_like.l0 k i l q.2.1 q.2.2 w h q.1) _
      (fun i q => q.1.length = zs.length ∧ p ≤ q.2.1 ∧ q.2.1 ≤ p + 4 * i) ?_ ?_ (zs, p, s) ⟨rfl, by dsimp only; omega, by dsimp only; omega⟩
    · rintro i ⟨xs, q, t⟩ hi ⟨i1, i2, i3⟩
      dsimp only at i1 i2 i3
      obtain ⟨ys, p', s', l1, l2, l3, e⟩ := like_step l hb q t (by omega) (by omega) w h xs i (by omega) (by omega)
      exact .inl ⟨(ys, p', s'), ⟨l1.trans i1, Int.le_trans i2 l2, by dsimp only; omega⟩, 1, Evt.all e⟩
    · rintro ⟨xs, q, t⟩ ⟨i1, i2, i3⟩
      dsimp only at i1 i2 i3
      obtain ⟨y, p4, s4, e4, a4, b4⟩ := one_ok l hb q t 16 (by omega) (by omega) (by omega)
      cases y with
      | true =>
        obtain ⟨r, ⟨⟨r0, r1⟩, r2, r3⟩, ev⟩ := field_draw l hb p4 s4 (by omega) (by omega)
        refine ⟨r, ⟨r1, by omega, by omega⟩, Evt.succ (ev.mono fun k hk => ?_)⟩
        show spec_l1Cur_like.l0 (k + 1) (zs.length : Int) l q t w h xs = _
        simp only [spec_l1Cur_like.l0]
        rw [if_neg (by omega), e4, Option.bind_some, if_pos rfl]; dsimp only
        rw [hk, Option.bind_some]
      | false =>
        refine ⟨(w, h, xs, p4, s4), ⟨by dsimp only; omega, by dsimp only; omega, by dsimp only; omega⟩, Evt.succ (Evt.all fun k => ?_)⟩
        show spec_l1Cur_like.l0 (k + 1) (zs.length : Int) l q t w h xs = _
        simp only [spec_l1Cur_like.l0]
        rw [if_neg (by omega), e4, Option.bind_some, if_neg (by simp)]
  obtain ⟨r, hr, ev⟩ := main
  refine ⟨r, hr, ev.mono fun k hk => ?_⟩
  unfold spec_l1Cur_like.f spec_l2Own.f spec_l1Own.f
  rw [Option.bind_some, if_pos (by simp only [List.length_nil]; omega), Option.bind_some, Option.bind_some, List.nil_append]
  exact hk
theorem DrawCountTable_ev (l : List Int) (hb : ∀ x ∈ l, 0 ≤ x ∧ x ≤ 255) : ∃ w h xs w' h' ys lim, List.length xs ≤ 64 ∧ List.length ys ≤ 64 ∧ (-30 ≤ lim ∧ lim ≤ 110) ∧ Evt fun k => spec_DrawCountTable.f k l = some (w, h, xs, w', h', ys, lim) := by
  obtain ⟨⟨w, h, xs, p, s⟩, ⟨x1, a1, b1⟩, e1⟩ := anyField_draw l hb 0 0 (by omega) (by omega)
  dsimp only at x1 a1 b1
  obtain ⟨⟨w', h', ys, p2, s2⟩, ⟨y1, a2, b2⟩, e2⟩ := like_draw l hb p s (by omega) (by omega) w h xs x1
  dsimp only at y1 a2 b2
  obtain ⟨lim, p3, s3, e3, _, _, m⟩ := among_ok l hb p2 s2 (by omega) (by omega) [5, 15, 25, 110, -30, 0] (by decide)
  simp only [List.mem_cons, List.not_mem_nil, or_false] at m
  refine ⟨w, h, xs, w', h', ys, lim, x1, y1, by omega, (e1.and e2).mono ?_⟩
  rintro k ⟨h1, h2⟩
  unfold spec_DrawCountTable.f
  rw [h1, Option.bind_some]; dsimp only
  rw [h2, Option.bind_some]; dsimp only
  rw [e3, Option.bind_some]
theorem table_draw (l : List Int) (hb : ∀ x ∈ l, 0 ≤ x ∧ x ≤ 255) (p s : Int) (h0 : 0 ≤ p) (h1 : p ≤ 4611686018427383000) :
    ∃ a b c d p' s', spec_l1Cur_table.f l p s = some (a, b, c, d, p', s') ∧ p ≤ p' ∧ p' ≤ p + 20 := by
  obtain ⟨v1, p1, s1, e1, a1, b1, _⟩ := pick_ok l hb p s 12 (by omega) (by omega) (by omega)
  obtain ⟨v2, p2, s2, e2, a2, b2, _⟩ := pick_ok l hb p1 s1 8 (by omega) (by omega) (by omega)
  obtain ⟨v3, p3, s3, e3, a3, b3, _⟩ := pick_ok l hb p2 s2 8 (by omega) (by omega) (by omega)
  obtain ⟨v4, p4, s4, e4, a4, b4, _⟩ := pick_ok l hb p3 s3 40 (by omega) (by omega) (by omega)
  obtain ⟨v5, p5, s5, e5, a5, b5, _⟩ := pick_ok l hb p4 s4 16 (by omega) (by omega) (by omega)
  obtain ⟨v6, p6, s6, e6, a6, b6, _⟩ := among_ok l hb p5 s5 (by omega) (by omega) [0, 1000000, 1000001, -1] (by decide)
  obtain ⟨v7, p7, s7, e7, a7, b7, _⟩ := among_ok l hb p5 s5 (by omega) (by omega) [0, 5, 1000000] (by decide)
  unfold spec_l1Cur_table.f
  rw [e1, Option.bind_some]; dsimp only
  rw [e2, Option.bind_some]; dsimp only
  rw [e3, Option.bind_some]; dsimp only
  rw [e4, Option.bind_some]; dsimp only
  rw [e5, Option.bind_some]; dsimp only
  by_cases k0 : v5 = 0
  · rw [if_pos k0, e6, Option.bind_some]; exact ⟨_, _, _, _, _, _, rfl, by (try dsimp only); omega, by (try dsimp only); omega⟩
  · by_cases k1 : v5 = 1
    · rw [if_neg k0, if_pos k1]; exact ⟨_, _, _, _, _, _, rfl, by (try dsimp only); omega, by (try dsimp only); omega⟩
    · by_cases k2 : v5 = 2
      · rw [if_neg k0, if_neg k1, if_pos k2, e7, Option.bind_some]; exact ⟨_, _, _, _, _, _, rfl, by (try dsimp only); omega, by (try dsimp only); omega⟩
      · rw [if_neg k0, if_neg k1, if_neg k2]; exact ⟨_, _, _, _, _, _, rfl, by (try dsimp only); omega, by (try dsimp only); omega⟩
theorem within_ok (a b c : Int) : impl_within.f a b c = some (decide (b ≤ a ∧ a ≤ c)) := by
  unfold impl_within.f
  split <;> simp <;> omega
theorem l1In_ok (a b c : Int) : spec_l1In.f a b c = some (decide (b ≤ a ∧ a ≤ c)) := by
  unfold spec_l1In.f
  split <;> simp <;> omega
def cellOk (x : Int) : Bool := decide (x = -9999) || decide (-9000 ≤ x ∧ x ≤ 9000)
theorem isCell_ok (x : Int) : impl_isCell.f x = some (cellOk x) := by
  unfold impl_isCell.f cellOk
  by_cases h : x = -9999
  · rw [if_pos h, decide_eq_true h]; rfl
  · rw [if_neg h, within_ok, Option.bind_some, decide_eq_false h, Bool.false_or]
theorem l2Value_ok (x : Int) : spec_l2Value.f x = some (cellOk x) := by
  unfold spec_l2Value.f cellOk
  by_cases h : x = -9999
  · rw [if_pos h, decide_eq_true h]; rfl
  · rw [if_neg h, l1In_ok, Option.bind_some, decide_eq_false h, Bool.false_or]
def fieldB (w h : Int) (l : List Int) : Bool := decide (1 ≤ w ∧ w ≤ 8) && decide (1 ≤ h ∧ h ≤ 8) && decide ((l.length : Int) = w * h) && l.all cellOk
theorem prod8 {w h : Int} (hw : 1 ≤ w ∧ w ≤ 8) (hh : 1 ≤ h ∧ h ≤ 8) : 1 ≤ w * h ∧ w * h ≤ 64 := by
  have a : w * 1 ≤ w * h := Int.mul_le_mul_of_nonneg_left (by omega) (by omega)
  have b : w * h ≤ 8 * h := Int.mul_le_mul_of_nonneg_right (by omega) (by omega)
  omega
theorem fieldB_len {w h : Int} {l : List Int} (q : fieldB w h l = true) : (1 ≤ w ∧ w ≤ 8) ∧ (1 ≤ h ∧ h ≤ 8) ∧ (l.length : Int) = w * h ∧ l.length ≤ 64 ∧ l.all cellOk = true := by
  unfold fieldB at q
  simp only [Bool.and_eq_true, decide_eq_true_eq] at q
  have := prod8 q.1.1.1 q.1.1.2
  exact ⟨q.1.1.1, q.1.1.2, q.1.2, by omega, q.2⟩
theorem IndexFuncI_ev (l : List Int) (hl : l.length ≤ 4503599627370496) : ∃ r, decide (r ≥ (0 : Int)) = !(l.all cellOk) ∧ Evt fun k => slices_IndexFunc_int_2.f k l = some r := by
  unfold slices_IndexFunc_int_2.f
  refine evt_loop_ex l.length (fun k (_ : Unit) i => slices_IndexFunc_int_2.l0 k l (l.length : Int) i) _ (fun i _ => (l.drop i).all cellOk = l.all cellOk) ?_ ?_ () rfl
  · intro i s hi h
    rw [getD_drop l 0 i hi, List.all_cons] at h
    cases hp : cellOk (l.getD i 0) with
    | true =>
      refine .inl ⟨(), by rw [hp, Bool.true_and] at h; exact h, 1, Evt.all fun k => ?_⟩
      show slices_IndexFunc_int_2.l0 (k + 1) l (l.length : Int) (i : Int) = _
      simp only [slices_IndexFunc_int_2.l0, rd_nat, impl_IsValidField_1.f, isCell_ok, Option.bind_some, hp]
      rw [if_pos (by omega), if_pos (by omega), if_pos (by omega), if_neg (by simp), wrap_id (by omega) (by omega)]
    | false =>
      refine .inr ⟨(i : Int), by rw [← h, hp]; simp, Evt.succ (Evt.all fun k => ?_)⟩
      show slices_IndexFunc_int_2.l0 (k + 1) l (l.length : Int) (i : Int) = _
      simp only [slices_IndexFunc_int_2.l0, rd_nat, impl_IsValidField_1.f, isCell_ok, Option.bind_some, hp]
      rw [if_pos (by omega), if_pos (by omega), if_pos (by omega)]; simp
  · intro s h
    rw [List.drop_of_length_le (Nat.le_refl _)] at h
    refine ⟨-1, by rw [← h]; simp, Evt.succ (Evt.all fun k => ?_)⟩
    show slices_IndexFunc_int_2.l0 (k + 1) l (l.length : Int) (l.length : Int) = _
    simp only [slices_IndexFunc_int_2.l0]
    rw [if_neg (by omega)]
theorem IsValidField_ev (w h : Int) (l : List Int) (hl : l.length ≤ 1048576) : Evt fun k => impl_IsValidField.f k w h l = some (fieldB w h l) := by
  obtain ⟨r, hr, ev⟩ := IndexFuncI_ev l (by omega)
  refine ev.mono fun k hk => ?_
  simp only [impl_IsValidField.f, slices_ContainsFunc_int.f, hk, Option.bind_some, hr, Bool.not_not, within_ok]
  unfold fieldB
  by_cases hw : 1 ≤ w ∧ w ≤ 8
  · rw [decide_eq_true hw, if_pos rfl]
    by_cases hh : 1 ≤ h ∧ h ≤ 8
    · have := prod8 hw hh
      rw [decide_eq_true hh, if_pos rfl, wrap_id (by omega) (by omega)]
      by_cases hn : (l.length : Int) = w * h
      · rw [if_pos hn, decide_eq_true hn]; simp
      · rw [if_neg hn, decide_eq_false hn]; simp
    · rw [decide_eq_false hh]; simp
  · rw [decide_eq_false hw]; simp
theorem l2Good_ev (w h : Int) (l : List Int) (hl : l.length ≤ 1048576) : Evt fun k => spec_l2Good.f k w h l = some (fieldB w h l) := by
  have lo : Evt fun k => spec_l2Good.l0 k 0 w h l = some (l.all cellOk) := by
    refine evt_loop0 l.length (fun k (_ : Unit) i => spec_l2Good.l0 k i w h l) (l.all cellOk) (fun i _ => (l.drop i).all cellOk = l.all cellOk) ?_ ?_ () rfl
    · intro i s hi h
      rw [getD_drop l 0 i hi, List.all_cons] at h
      cases hp : cellOk (l.getD i 0) with
      | true =>
        refine .inl ⟨(), by rw [hp, Bool.true_and] at h; exact h, 1, Evt.all fun k => ?_⟩
        show spec_l2Good.l0 (k + 1) (i : Int) _ _ l = _
        simp only [spec_l2Good.l0, rd_nat, l2Value_ok, Option.bind_some, hp]
        rw [if_pos (by omega), if_pos (by omega), if_pos trivial, wrap_id (by omega) (by omega)]
      | false =>
        refine .inr (Evt.succ (Evt.all fun k => ?_))
        show spec_l2Good.l0 (k + 1) (i : Int) _ _ l = _
        simp only [spec_l2Good.l0, rd_nat, l2Value_ok, Option.bind_some, hp]
        rw [if_pos (by omega), if_pos (by omega), ← h, hp]; simp
    · intro s h
      rw [List.drop_of_length_le (Nat.le_refl _)] at h
      refine Evt.succ (Evt.all fun k => ?_)
      show spec_l2Good.l0 (k + 1) (l.length : Int) _ _ l = _
      simp only [spec_l2Good.l0]
      rw [if_neg (by omega), ← h]; rfl
  refine Evt.succ (lo.mono fun k hk => ?_)
  simp only [spec_l2Good.f, spec_l2Shape.f, l1In_ok, Option.bind_some, spec_l2Good.j0, hk]
  unfold fieldB
  by_cases hw : 1 ≤ w ∧ w ≤ 8
  · rw [decide_eq_true hw, if_pos rfl, Option.bind_some]
    by_cases hh : 1 ≤ h ∧ h ≤ 8
    · have := prod8 hw hh
      rw [decide_eq_true hh, if_pos rfl, wrap_id (by omega) (by omega)]
      by_cases hn : (l.length : Int) = w * h
      · rw [decide_eq_true hn, hn]; simp
      · rw [decide_eq_false hn, if_pos (by simpa using hn)]; simp
    · rw [decide_eq_false hh]; simp
  · rw [decide_eq_false hw]; simp
def sameB (w h : Int) (l : List Int) (w' h' : Int) (l' : List Int) : Bool := fieldB w h l && fieldB w' h' l' && decide (w = w') && decide (h = h')
theorem areAlike_ev (w h : Int) (l : List Int) (w' h' : Int) (l' : List Int) (hl : l.length ≤ 1048576) (hl' : l'.length ≤ 1048576) : Evt fun k => impl_areAlike.f k [⟨w, h, l⟩, ⟨w', h', l'⟩] = some (sameB w h l w' h' l') := by
  refine Evt.add 3 (((IsValidField_ev w h l hl).and (IsValidField_ev w' h' l' hl')).at.elim fun K hK => Evt.from K fun k hk => ?_)
  obtain ⟨j, rfl⟩ : ∃ j, k = K + j := ⟨k - K, by omega⟩
  have a1 := fun m => (hK m).1
  have a2 := fun m => (hK m).2
  have r0 : rd_T26 [(⟨w, h, l⟩ : S26), ⟨w', h', l'⟩] 0 = ⟨w, h, l⟩ := rfl
  have r1 : rd_T26 [(⟨w, h, l⟩ : S26), ⟨w', h', l'⟩] 1 = ⟨w', h', l'⟩ := rfl
  have w1 : wrap64 (0 + 1) = 1 := by unfold wrap64; omega
  have w2 : wrap64 (1 + 1) = 2 := by unfold wrap64; omega
  unfold impl_areAlike.f sameB
  show impl_areAlike.l0 ((K + (j + 2)) + 1) _ _ (2 : Int) 0 = _
  rw [impl_areAlike.l0]
  simp only [r0, a1, Option.bind_some, impl_sameShape.f, if_true, w1, beq_self_eq_true]
  cases fieldB w h l with
  | false => simp
  | true =>
    show _ = some (true && fieldB w' h' l' && decide (w = w') && decide (h = h'))
    rw [if_pos (by omega), if_pos (by omega), if_pos (by simp), if_pos rfl, if_pos (by simp)]
    show impl_areAlike.l0 ((K + (j + 1)) + 1) _ _ (2 : Int) 1 = _
    rw [impl_areAlike.l0]
    simp only [r1, r0, a2, Option.bind_some, impl_sameShape.f, if_true, w2]
    rw [if_pos (by omega), if_pos (by omega), if_pos (by simp)]
    cases fieldB w' h' l' with
    | false => simp
    | true =>
      rw [if_pos rfl, if_pos (by simp)]
      by_cases e : w = w'
      · subst e
        rw [if_pos rfl, Option.bind_some]
        by_cases e2 : h = h'
        · subst e2
          rw [beq_self_eq_true, if_pos rfl]
          show impl_areAlike.l0 ((K + j) + 1) _ _ (2 : Int) 2 = _
          rw [impl_areAlike.l0, if_neg (by omega)]; simp
        · rw [beq_eq_false_iff_ne.2 (Ne.symm e2)]; simp [e2]
      · rw [if_neg (Ne.symm e)]; simp [e]
theorem l2Same_ev (w h : Int) (l : List Int) (w' h' : Int) (l' : List Int) (hl : l.length ≤ 1048576) (hl' : l'.length ≤ 1048576) : Evt fun k => spec_l2Same.f k w h l w' h' l' = some (sameB w h l w' h' l') := by
  refine ((l2Good_ev w h l hl).and (l2Good_ev w' h' l' hl')).mono ?_
  rintro k ⟨h1, h2⟩
  simp only [spec_l2Same.f, h1, h2, Option.bind_some]
  unfold sameB
  cases fieldB w h l with
  | false => simp
  | true =>
    cases fieldB w' h' l' with
    | false => simp
    | true =>
      by_cases e : w = w'
      · by_cases e2 : h = h' <;> simp [e, e2]
      · simp [e]
def ctS2 (lim lo x y : Int) (s : Int × Int × Int × Int) : Int × Int × Int × Int :=
  if x = -9999 ∨ y = -9999 then s else if x > lim ∧ y > lo then (s.1 + 1, s.2.1, s.2.2.1, s.2.2.2) else if y > lo then (s.1, s.2.1 + 1, s.2.2.1, s.2.2.2) else if x > lim then (s.1, s.2.1, s.2.2.1 + 1, s.2.2.2) else (s.1, s.2.1, s.2.2.1, s.2.2.2 + 1)
def ctT2 (a b : List Int) (lim lo : Int) : Nat → Int × Int × Int × Int
  | 0 => (0, 0, 0, 0)
  | n + 1 => ctS2 lim lo (a.getD n 0) (b.getD n 0) (ctT2 a b lim lo n)
def ctI2 (n : Nat) (s : Int × Int × Int × Int) : Prop := (0 ≤ s.1 ∧ s.1 ≤ n) ∧ (0 ≤ s.2.1 ∧ s.2.1 ≤ n) ∧ (0 ≤ s.2.2.1 ∧ s.2.2.1 ≤ n) ∧ (0 ≤ s.2.2.2 ∧ s.2.2.2 ≤ n)
theorem ctT2_I (a b : List Int) (lim lo : Int) : ∀ n, ctI2 n (ctT2 a b lim lo n)
  | 0 => by simp [ctI2, ctT2]
  | n + 1 => by
    have h := ctT2_I a b lim lo n
    unfold ctI2 at h ⊢
    simp only [ctT2, ctS2]
    split
    · omega
    · split
      · dsimp only; omega
      · split
        · dsimp only; omega
        · split <;> dsimp only <;> omega
theorem wr1b {s i : Int} (h : 0 ≤ s ∧ s ≤ i) (hi : i ≤ 64) : wrap64 (s + 1) = s + 1 := wrap_id (by omega) (by omega)
theorem countImpl2 (a b : List Int) (lim lo w' h' : Int) (n : Nat) (hn : n ≤ 64) (ha : a.length = n) (hb : b.length = n) : Evt fun k => impl_countTable.l0 k lim lo a (a.length : Int) 0 w' h' b 0 0 0 0 = some (ctT2 a b lim lo n) := by
  refine evt_loop0 n (fun k (s : Int × Int × Int × Int) i => impl_countTable.l0 k lim lo a (a.length : Int) i w' h' b s.1 s.2.1 s.2.2.1 s.2.2.2) (ctT2 a b lim lo n) (fun i s => s = ctT2 a b lim lo i) ?_ ?_ (0, 0, 0, 0) rfl
  · rintro i s hi rfl
    have i64 : (i : Int) ≤ 64 := by omega
    have wi : wrap64 ((i : Int) + 1) = (i : Int) + 1 := wrap_id (by omega) (by omega)
    have g1 : (i : Int) < (a.length : Int) := by omega
    have g2 : 0 ≤ (i : Int) := by omega
    have g3 : (i : Int) < (b.length : Int) := by omega
    have hI := ctT2_I a b lim lo i
    unfold ctI2 at hI
    obtain ⟨s, hs⟩ : ∃ s, s = ctT2 a b lim lo i := ⟨_, rfl⟩
    rw [← hs] at hI
    obtain ⟨s1, s2, s3, s4⟩ := s
    dsimp only at hI
    obtain ⟨hI1, hI2, hI3, hI4⟩ := hI
    have HS_ := Aside0.mk hs
    clear hs
    obtain ⟨x, hx⟩ : ∃ x, x = a.getD i 0 := ⟨_, rfl⟩
    obtain ⟨y, hy⟩ : ∃ y, y = b.getD i 0 := ⟨_, rfl⟩
    have w1 : wrap64 (s1 + 1) = s1 + 1 := wr1b hI1 i64
    have w2 : wrap64 (s2 + 1) = s2 + 1 := wr1b hI2 i64
    have w3 : wrap64 (s3 + 1) = s3 + 1 := wr1b hI3 i64
    have w4 : wrap64 (s4 + 1) = s4 + 1 := wr1b hI4 i64
    have hs := HS_.out
    refine .inl ⟨ctT2 a b lim lo (i + 1), rfl, if x = -9999 ∨ y = -9999 then 2 else 3, Evt.all fun k => ?_⟩
    simp only [ctT2, ← hs, ← hx, ← hy, ctS2]
    by_cases c : x = -9999 ∨ y = -9999
    · rw [if_pos c, if_pos c]
      show impl_countTable.l0 (k + 1 + 1) _ _ _ _ _ _ _ _ _ _ _ _ = _
      rw [impl_countTable.l0]
      simp only [rd_nat, ← hx, ← hy, if_pos g1, if_pos g2, if_pos g3]
      by_cases c1 : x = -9999
      · rw [if_pos c1, impl_countTable.j1, if_pos rfl, wi]
      · have c2 : y = -9999 := c.resolve_left c1
        rw [if_neg c1, c2, beq_self_eq_true, impl_countTable.j1, if_pos rfl, wi]
    · rw [if_neg c, if_neg c]
      have c1 : ¬ x = -9999 := fun h => c (.inl h)
      have c2 : ¬ y = -9999 := fun h => c (.inr h)
      show impl_countTable.l0 (k + 2 + 1) _ _ _ _ _ _ _ _ _ _ _ _ = _
      rw [impl_countTable.l0]
      simp only [rd_nat, ← hx, ← hy, if_pos g1, if_pos g2, if_pos g3]
      rw [if_neg c1, beq_eq_false_iff_ne.2 c2]
      show impl_countTable.j1 (k + 1 + 1) _ _ _ _ _ _ _ _ _ _ _ _ _ _ _ = _
      rw [impl_countTable.j1, if_neg (by simp)]
      by_cases c3 : x > lim <;> by_cases c4 : y > lo <;> simp [c3, c4, impl_countTable.j2, wi, w1, w2, w3, w4]
  · rintro s rfl
    refine Evt.succ (Evt.all fun k => ?_)
    show impl_countTable.l0 (k + 1) _ _ _ _ (n : Int) _ _ _ _ _ _ _ = _
    rw [impl_countTable.l0, if_neg (by omega)]
theorem countSpec2 (a b : List Int) (lim lo w h w' h' : Int) (n : Nat) (hn : n ≤ 64) (ha : a.length = n) (hb : b.length = n) : Evt fun k => spec_l20Count.l0 k lim lo 0 w h a w' h' b 0 0 0 0 = some (ctT2 a b lim lo n) := by
  refine evt_loop0 n (fun k (s : Int × Int × Int × Int) i => spec_l20Count.l0 k lim lo i w h a w' h' b s.1 s.2.1 s.2.2.1 s.2.2.2) (ctT2 a b lim lo n) (fun i s => s = ctT2 a b lim lo i) ?_ ?_ (0, 0, 0, 0) rfl
  · rintro i s hi rfl
    have i64 : (i : Int) ≤ 64 := by omega
    have wi : wrap64 ((i : Int) + 1) = (i : Int) + 1 := wrap_id (by omega) (by omega)
    have g1 : (i : Int) < (a.length : Int) := by omega
    have g2 : 0 ≤ (i : Int) := by omega
    have g3 : (i : Int) < (b.length : Int) := by omega
    have hI := ctT2_I a b lim lo i
    unfold ctI2 at hI
    obtain ⟨s, hs⟩ : ∃ s, s = ctT2 a b lim lo i := ⟨_, rfl⟩
    rw [← hs] at hI
    obtain ⟨s1, s2, s3, s4⟩ := s
    dsimp only at hI
    obtain ⟨hI1, hI2, hI3, hI4⟩ := hI
    have HS_ := Aside0.mk hs
    clear hs
    obtain ⟨x, hx⟩ : ∃ x, x = a.getD i 0 := ⟨_, rfl⟩
    obtain ⟨y, hy⟩ : ∃ y, y = b.getD i 0 := ⟨_, rfl⟩
    have w1 : wrap64 (s1 + 1) = s1 + 1 := wr1b hI1 i64
    have w2 : wrap64 (s2 + 1) = s2 + 1 := wr1b hI2 i64
    have w3 : wrap64 (s3 + 1) = s3 + 1 := wr1b hI3 i64
    have w4 : wrap64 (s4 + 1) = s4 + 1 := wr1b hI4 i64
    have hs := HS_.out
    refine .inl ⟨ctT2 a b lim lo (i + 1), rfl, if x = -9999 ∨ y = -9999 then 2 else 3, Evt.all fun k => ?_⟩
    simp only [ctT2, ← hs, ← hx, ← hy, ctS2]
    by_cases c : x = -9999 ∨ y = -9999
    · rw [if_pos c, if_pos c]
      show spec_l20Count.l0 (k + 1 + 1) _ _ _ _ _ _ _ _ _ _ _ _ _ = _
      rw [spec_l20Count.l0]
      simp only [rd_nat, ← hx, ← hy, if_pos g1, if_pos g2, if_pos g3]
      by_cases c1 : x = -9999
      · rw [if_pos c1, spec_l20Count.j1, if_pos rfl, wi]
      · have c2 : y = -9999 := c.resolve_left c1
        rw [if_neg c1, c2, beq_self_eq_true, spec_l20Count.j1, if_pos rfl, wi]
    · rw [if_neg c, if_neg c]
      have c1 : ¬ x = -9999 := fun h => c (.inl h)
      have c2 : ¬ y = -9999 := fun h => c (.inr h)
      show spec_l20Count.l0 (k + 2 + 1) _ _ _ _ _ _ _ _ _ _ _ _ _ = _
      rw [spec_l20Count.l0]
      simp only [rd_nat, ← hx, ← hy, if_pos g1, if_pos g2, if_pos g3]
      rw [if_neg c1, beq_eq_false_iff_ne.2 c2]
      show spec_l20Count.j1 (k + 1 + 1) _ _ _ _ _ _ _ _ _ _ _ _ _ _ _ _ = _
      rw [spec_l20Count.j1, if_neg (by simp)]
      by_cases c3 : x > lim <;> by_cases c4 : y > lo <;> simp [c3, c4, spec_l20Count.j2, wi, w1, w2, w3, w4]
  · rintro s rfl
    refine Evt.succ (Evt.all fun k => ?_)
    show spec_l20Count.l0 (k + 1) _ _ (n : Int) _ _ _ _ _ _ _ _ _ _ = _
    rw [spec_l20Count.l0, if_neg (by omega)]
def openI (v : Int) : Bool := !(v == -9999)
theorem vals1_ok (v : Int) : impl_valuesOf_1.f v = some (!openI v) := by unfold impl_valuesOf_1.f openI; rw [Bool.not_not]
theorem take_set_succI (xs : List Int) (i : Nat) (e : Int) (h : i < xs.length) : (xs.set i e).take (i + 1) = xs.take i ++ [e] := by
  rw [List.take_succ_eq_append_getElem (by rw [List.length_set]; exact h), List.getElem_set_self]
  congr 1
  apply List.ext_getElem?
  intro j
  rw [List.getElem?_take, List.getElem?_take]
  split
  · rw [List.getElem?_set_ne (by omega)]
  · rfl
theorem drop_set_ltI (xs : List Int) (i j : Nat) (e : Int) (h : i < j) : (xs.set i e).drop j = xs.drop j := by
  apply List.ext_getElem?
  intro q
  rw [List.getElem?_drop, List.getElem?_drop, List.getElem?_set_ne (by omega)]
theorem filt_succI (l : List Int) (j : Nat) (h : j < l.length) : (l.take (j + 1)).filter openI = (l.take j).filter openI ++ if openI (l.getD j 0) = true then [l.getD j 0] else [] := by
  rw [List.take_succ_eq_append_getElem h, List.filter_append, getD_lt _ _ _ h]
  congr 1
  cases hq : openI l[j] <;> simp [hq]
theorem delLoopI (l : List Int) (hl : l.length ≤ 1048576) : ∀ (j : Nat) (s : List Int × Nat), j ≤ l.length → (s.1.length = l.length ∧ s.2 ≤ j ∧ s.1.take s.2 = (l.take j).filter openI ∧ s.1.drop j = l.drop j) →
    Evt fun k => slices_DeleteFunc_int.l0 k s.1 (s.2 : Int) (j : Int) = some (l.filter openI) := by
  refine evt_loop l.length (fun k (s : List Int × Nat) j => slices_DeleteFunc_int.l0 k s.1 (s.2 : Int) j) (l.filter openI) (fun j s => s.1.length = l.length ∧ s.2 ≤ j ∧ s.1.take s.2 = (l.take j).filter openI ∧ s.1.drop j = l.drop j) ?_ ?_
  · rintro j ⟨xs, i⟩ hj ⟨h1, h2, h3, h4⟩
    dsimp only at h1 h2 h3 h4
    have he : xs.getD j 0 = l.getD j 0 := by
      have a := getD_drop xs 0 j (by omega)
      have b := getD_drop l 0 j hj
      rw [h4, b] at a
      exact (List.cons.inj a).1.symm
    have hd : xs.drop (j + 1) = l.drop (j + 1) := by
      have a := getD_drop xs 0 j (by omega)
      have b := getD_drop l 0 j hj
      rw [h4, b] at a
      exact (List.cons.inj a).2.symm
    have fs := filt_succI l j hj
    have g1 : (j : Int) < (xs.length : Int) := by omega
    have g2 : 0 ≤ (j : Int) := by omega
    have w1 : wrap64 ((j : Int) + 1) = (j : Int) + 1 := wrap_id (by omega) (by omega)
    have w2 : wrap64 ((i : Int) + 1) = (i : Int) + 1 := wrap_id (by omega) (by omega)
    cases hq : openI (l.getD j 0) with
    | false =>
      rw [hq] at fs
      refine .inl ⟨(xs, i), ⟨h1, by dsimp only; omega, by dsimp only; rw [fs, h3]; simp, hd⟩, 1, Evt.all fun k => ?_⟩
      show slices_DeleteFunc_int.l0 (k + 1) xs (i : Int) (j : Int) = slices_DeleteFunc_int.l0 k xs (i : Int) ((j : Int) + 1)
      simp only [slices_DeleteFunc_int.l0, rd_nat, he, vals1_ok, hq, Option.bind_some, if_pos g1, if_pos g2, w1, Bool.not_false, if_true]
    | true =>
      rw [hq, if_pos rfl] at fs
      refine .inl ⟨(xs.set i (l.getD j 0), i + 1), ⟨by simpa using h1, by dsimp only; omega, by dsimp only; rw [take_set_succI _ _ _ (by omega), fs, h3], by dsimp only; rw [drop_set_ltI _ _ _ _ (by omega)]; exact hd⟩, 1, Evt.all fun k => ?_⟩
      show slices_DeleteFunc_int.l0 (k + 1) xs (i : Int) (j : Int) = slices_DeleteFunc_int.l0 k (xs.set i (l.getD j 0)) ((i + 1 : Nat) : Int) ((j : Int) + 1)
      simp only [slices_DeleteFunc_int.l0, rd_nat, he, vals1_ok, hq, Option.bind_some, if_pos g1, if_pos g2, w1, w2, Bool.not_true, Bool.false_eq_true, if_false, Int.toNat_natCast]
      rw [if_pos (by omega), if_pos (by omega)]
      rfl
  · rintro ⟨xs, i⟩ ⟨h1, h2, h3, h4⟩
    dsimp only at h1 h2 h3 h4
    rw [List.take_length] at h3
    refine Evt.succ (Evt.all fun k => ?_)
    show slices_DeleteFunc_int.l0 (k + 1) xs (i : Int) (l.length : Int) = _
    simp only [slices_DeleteFunc_int.l0, Int.toNat_natCast]
    rw [if_neg (by omega), if_pos (by omega), if_pos (by omega), h3]
theorem first_shutI (l : List Int) : ∀ m, m ≤ l.length → (∃ n, n < m ∧ openI (l.getD n 0) = false ∧ ∀ i, i < n → openI (l.getD i 0) = true) ∨ ∀ i, i < m → openI (l.getD i 0) = true
  | 0, _ => .inr (fun i hi => by omega)
  | m + 1, hm => by
    rcases first_shutI l m (by omega) with ⟨n, h1, h2, h3⟩ | h
    · exact .inl ⟨n, by omega, h2, h3⟩
    · cases c : openI (l.getD m 0) with
      | false => exact .inl ⟨m, by omega, c, h⟩
      | true =>
        refine .inr (fun i hi => ?_)
        by_cases e : i = m
        · subst e; exact c
        · exact h i (by omega)
theorem filt_allI (l : List Int) : ∀ n, n ≤ l.length → (∀ i, i < n → openI (l.getD i 0) = true) → (l.take n).filter openI = l.take n
  | 0, _, _ => by simp
  | n + 1, hn, h => by
    rw [filt_succI l n (by omega), filt_allI l n (by omega) (fun i hi => h i (by omega)), if_pos (h n (by omega)), List.take_succ_eq_append_getElem (by omega), getD_lt _ _ _ (by omega)]
theorem indexP_evI (l : List Int) (hl : l.length ≤ 1048576) (n : Nat) (hn : n ≤ l.length) (hb : ∀ i, i < n → openI (l.getD i 0) = true) (v : Int)
    (he : (n < l.length ∧ openI (l.getD n 0) = false ∧ v = n) ∨ (n = l.length ∧ v = -1)) : Evt fun k => slices_IndexFunc_int.f k l = some v := by
  unfold slices_IndexFunc_int.f
  refine evt_loop0 n (fun k (_ : Unit) i => slices_IndexFunc_int.l0 k l (l.length : Int) i) v (fun _ _ => True) ?_ ?_ () trivial
  · rintro i s hi _
    have ne := hb i hi
    refine .inl ⟨(), trivial, 1, Evt.all fun k => ?_⟩
    show slices_IndexFunc_int.l0 (k + 1) l (l.length : Int) (i : Int) = _
    simp only [slices_IndexFunc_int.l0, rd_nat, vals1_ok, Option.bind_some, ne]
    rw [if_pos (by omega), if_pos (by omega), if_pos (by omega), if_neg (by simp), wrap_id (by omega) (by omega)]
  · rintro s _
    refine Evt.succ (Evt.all fun k => ?_)
    show slices_IndexFunc_int.l0 (k + 1) l (l.length : Int) (n : Int) = _
    rcases he with ⟨h1, h2, h3⟩ | ⟨h1, h2⟩
    · simp only [slices_IndexFunc_int.l0, rd_nat, vals1_ok, Option.bind_some, h2]
      rw [if_pos (by omega), if_pos (by omega), if_pos (by omega), if_pos (by simp), h3]
    · simp only [slices_IndexFunc_int.l0]
      rw [if_neg (by omega), h2]
theorem DeleteFunc_evI (l : List Int) (hl : l.length ≤ 1048576) : Evt fun k => slices_DeleteFunc_int.f k l = some (l.filter openI) := by
  rcases first_shutI l l.length (Nat.le_refl _) with ⟨n, h1, h2, h3⟩ | h
  · have a := indexP_evI l hl n (by omega) h3 (n : Int) (.inl ⟨h1, h2, rfl⟩)
    have b := delLoopI l hl (n + 1) (l, n) (by omega) ⟨rfl, by dsimp only; omega, by dsimp only; rw [filt_succI l n h1, h2, filt_allI l n (by omega) h3]; simp, rfl⟩
    refine (a.and b).mono fun k hk => ?_
    simp only [slices_DeleteFunc_int.f, hk.1, Option.bind_some]
    rw [if_neg (by omega), wrap_id (by omega) (by omega)]
    exact hk.2
  · have a := indexP_evI l hl l.length (Nat.le_refl _) h (-1) (.inr ⟨rfl, rfl⟩)
    have f := filt_allI l l.length (Nat.le_refl _) h
    rw [List.take_length] at f
    refine a.mono fun k hk => ?_
    simp only [slices_DeleteFunc_int.f, hk, Option.bind_some, f]
    rw [if_pos trivial]
theorem cloneI (l : List Int) (hl : l.length ≤ 1000000000) : slices_Clone_int.f l = some l := by
  unfold slices_Clone_int.f
  rw [Option.bind_some, if_pos (by simp; omega), List.nil_append]
theorem valuesOf_ev (w h : Int) (l : List Int) (hl : l.length ≤ 1048576) : Evt fun k => impl_valuesOf.f k w h l = some (l.filter openI) :=
  (DeleteFunc_evI l hl).mono fun k hk => by simp only [impl_valuesOf.f, cloneI l (by omega), hk, Option.bind_some]
theorem allWithin_ok (l : List Int) (lo hi : Int) (hl : l.length ≤ 4503599627370496) : ∀ k, l.length < k → impl_allWithin.f k l lo hi = some (l.all fun x => decide (lo ≤ x ∧ x ≤ hi)) := by
  intro k hk
  unfold impl_allWithin.f
  refine all_loop 0 l 0 _ (fun k i => impl_allWithin.l0 k lo hi l (l.length : Int) i) ?_ ?_ k (by omega)
  · intro k i _ hi
    show impl_allWithin.l0 (k + 1) lo _ l (l.length : Int) (i : Int) = _
    simp only [impl_allWithin.l0]
    rw [if_pos (by omega), if_pos (by omega), if_pos (by omega), within_ok, Option.bind_some, wrap_id (by omega) (by omega), rd_nat]
  · intro k _
    show impl_allWithin.l0 (k + 1) lo hi l (l.length : Int) (l.length : Int) = _
    simp only [impl_allWithin.l0]
    rw [if_neg (by omega)]
theorem divisorOf_ok : ∀ (n m k : Nat), n < k → impl_divisorOf.f k (m : Int) (n : Int) = some ((Nat.gcd m n : Nat) : Int) := by
  have key : ∀ (d n m k : Nat), n ≤ d → n < k → impl_divisorOf.l0 k (m : Int) (n : Int) = some ((Nat.gcd m n : Nat) : Int) := by
    intro d
    induction d with
    | zero =>
      intro n m k hn hk
      obtain ⟨k, rfl⟩ : ∃ j, k = j + 1 := ⟨k - 1, by omega⟩
      obtain rfl : n = 0 := by omega
      simp only [impl_divisorOf.l0]
      rw [if_neg (by omega), Nat.gcd_zero_right]
    | succ d ih =>
      intro n m k hn hk
      obtain ⟨k, rfl⟩ : ∃ j, k = j + 1 := ⟨k - 1, by omega⟩
      simp only [impl_divisorOf.l0]
      by_cases h0 : n = 0
      · subst h0
        rw [if_neg (by omega), Nat.gcd_zero_right]
      · have hlt := Nat.mod_lt m (Nat.pos_of_ne_zero h0)
        rw [if_pos (by omega), if_neg (by omega), ← Int.ofNat_tmod, ih (m % n) n k (by omega) (by omega), Nat.gcd_comm n (m % n), ← Nat.gcd_rec n m, Nat.gcd_comm]
  intro n m k hk
  exact key n n m k (Nat.le_refl _) hk
theorem absOf_ok (a : Int) (h : -9223372036854775808 < a) (h2 : a ≤ 9223372036854775807) : impl_absOf.f a = some ((a.natAbs : Nat) : Int) := by
  unfold impl_absOf.f
  split
  · rw [wrap_id (by omega) (by omega)]; congr 1; omega
  · congr 1; omega
def ratioV (num den : Int) : Int × Int × Bool := if den = 0 then (0, 0, false) else (wrap64 (Int.tdiv num (Nat.gcd num.natAbs den.natAbs : Nat)), wrap64 (Int.tdiv den (Nat.gcd num.natAbs den.natAbs : Nat)), true)
theorem ratioOf_ok (num den : Int) (h : -9223372036854775808 < num) (h2 : num ≤ 9223372036854775807) (hd : 0 ≤ den) : ∀ k, num.natAbs < k → impl_ratioOf.f k num den = some (ratioV num den) := by
  intro k hk
  unfold impl_ratioOf.f ratioV
  by_cases h0 : den = 0
  · rw [if_pos h0, if_pos h0]
  · have hg := Nat.gcd_pos_of_pos_right num.natAbs (n := den.natAbs) (by omega)
    have hc := divisorOf_ok num.natAbs den.natAbs k hk
    rw [show ((den.natAbs : Nat) : Int) = den from by omega, Nat.gcd_comm] at hc
    rw [if_neg h0, if_neg h0, if_neg (by omega), absOf_ok num h h2, Option.bind_some, hc, Option.bind_some, if_neg (by omega)]
theorem l10Common_ok : ∀ (n m k : Nat), n < k → spec_l10Common.f k (m : Int) (n : Int) = some ((Nat.gcd m n : Nat) : Int) := by
  have key : ∀ (d n m k : Nat), n ≤ d → n < k → spec_l10Common.l0 k (m : Int) (n : Int) = some ((Nat.gcd m n : Nat) : Int) := by
    intro d
    induction d with
    | zero =>
      intro n m k hn hk
      obtain ⟨k, rfl⟩ : ∃ j, k = j + 1 := ⟨k - 1, by omega⟩
      obtain rfl : n = 0 := by omega
      simp only [spec_l10Common.l0]
      rw [if_neg (by omega), Nat.gcd_zero_right]
    | succ d ih =>
      intro n m k hn hk
      obtain ⟨k, rfl⟩ : ∃ j, k = j + 1 := ⟨k - 1, by omega⟩
      simp only [spec_l10Common.l0]
      by_cases h0 : n = 0
      · subst h0
        rw [if_neg (by omega), Nat.gcd_zero_right]
      · have hlt := Nat.mod_lt m (Nat.pos_of_ne_zero h0)
        rw [if_pos (by omega), if_neg (by omega), ← Int.ofNat_tmod, ih (m % n) n k (by omega) (by omega), Nat.gcd_comm n (m % n), ← Nat.gcd_rec n m, Nat.gcd_comm]
  intro n m k hk
  exact key n n m k (Nat.le_refl _) hk
theorem l11Abs_ok (a : Int) (h : -9223372036854775808 < a) (h2 : a ≤ 9223372036854775807) : spec_l11Abs.f a = some ((a.natAbs : Nat) : Int) := by
  unfold spec_l11Abs.f spec_l1Most.f
  rw [wrap_id (by omega) (by omega)]
  split <;> simp only [Option.bind_some] <;> congr 1 <;> omega
theorem l20Ratio_ok (num den : Int) (h : -9223372036854775808 < num) (h2 : num ≤ 9223372036854775807) (hd : 0 ≤ den) : ∀ k, den.natAbs < k → spec_l20Ratio.f k num den = some (ratioV num den) := by
  intro k hk
  unfold spec_l20Ratio.f ratioV
  by_cases h0 : den = 0
  · rw [if_pos h0, if_pos h0]
  · have hg := Nat.gcd_pos_of_pos_right num.natAbs (n := den.natAbs) (by omega)
    have hc := l10Common_ok den.natAbs num.natAbs k hk
    rw [show ((den.natAbs : Nat) : Int) = den from by omega] at hc
    rw [if_neg h0, if_neg h0, l11Abs_ok num h h2, Option.bind_some, hc, Option.bind_some, if_neg (by omega)]
def goodB (a b c d : Int) : Bool := decide ((0 ≤ a ∧ a ≤ 1000000) ∧ (0 ≤ b ∧ b ≤ 1000000) ∧ (0 ≤ c ∧ c ≤ 1000000) ∧ (0 ≤ d ∧ d ≤ 1000000))
theorem isTable_ok (a b c d : Int) : ∀ k, 4 < k → impl_isTable.f k a b c d = some (goodB a b c d) := by
  intro k hk
  unfold impl_isTable.f goodB
  rw [allWithin_ok _ _ _ (by simp) k (by simpa using hk), Option.bind_some]
  congr 1
  rw [Bool.eq_iff_iff]
  simp
theorem l20Good_ok (a b c d : Int) : spec_l20Good.f a b c d = some (goodB a b c d) := by
  unfold spec_l20Good.f goodB
  simp only [l1In_ok, Option.bind_some]
  by_cases ha : 0 ≤ a ∧ a ≤ 1000000 <;> by_cases hb : 0 ≤ b ∧ b ≤ 1000000 <;> by_cases hc : 0 ≤ c ∧ c ≤ 1000000 <;> simp [ha, hb, hc]
theorem good_out {a b c d : Int} (h : goodB a b c d = true) : (0 ≤ a ∧ a ≤ 1000000) ∧ (0 ≤ b ∧ b ≤ 1000000) ∧ (0 ≤ c ∧ c ≤ 1000000) ∧ (0 ≤ d ∧ d ≤ 1000000) := of_decide_eq_true h
def threatV (a b c d : Int) : Int × Int × Bool := if goodB a b c d = true then ratioV a (wrap64 ((wrap64 (a + b)) + c)) else (0, 0, false)
theorem Threat_ev (a b c d : Int) : (Evt fun k => impl_ThreatScore.f k a b c d = some (threatV a b c d)) ∧ (Evt fun k => spec_ThreatScore.f k a b c d = some (threatV a b c d)) := by
  have hg := l20Good_ok a b c d
  unfold threatV
  cases hG : goodB a b c d with
  | false =>
    refine ⟨Evt.from 10 fun k hk => ?_, Evt.all fun k => ?_⟩
    · have h3 := isTable_ok a b c d k (by omega)
      simp [impl_ThreatScore.f, impl_tableRatio.f, h3, hG]
    · simp [spec_ThreatScore.f, spec_l20Valid.f, hg, hG]
  | true =>
    obtain ⟨ha, hb, hc, hd⟩ := good_out hG
    have bn : -9223372036854775808 < a ∧ a ≤ 9223372036854775807 := by omega
    have bd : 0 ≤ wrap64 ((wrap64 (a + b)) + c) := by rw [wrap_id (x := a + b) (by omega) (by omega), wrap_id (by omega) (by omega)]; omega
    refine ⟨Evt.from (a.natAbs + (wrap64 ((wrap64 (a + b)) + c)).natAbs + 10) fun k hk => ?_, Evt.from (a.natAbs + (wrap64 ((wrap64 (a + b)) + c)).natAbs + 10) fun k hk => ?_⟩
    · have h3 := isTable_ok a b c d k (by omega)
      have h1 := ratioOf_ok a (wrap64 ((wrap64 (a + b)) + c)) bn.1 bn.2 bd k (by omega)
      simp only [impl_ThreatScore.f, impl_tableRatio.f, h3, hG, Option.bind_some, if_true, h1]
    · have h2 := l20Ratio_ok a (wrap64 ((wrap64 (a + b)) + c)) bn.1 bn.2 bd k (by omega)
      simp only [spec_ThreatScore.f, spec_l20Valid.f, hg, hG, Option.bind_some, if_true, h2]
def scV (a b : List Int) (lo : Int) (n : Nat) (v : Int) : Int × Int × Bool := threatV (ctT2 a b (v - 1) lo n).1 (ctT2 a b (v - 1) lo n).2.1 (ctT2 a b (v - 1) lo n).2.2.1 (ctT2 a b (v - 1) lo n).2.2.2
def scF (t : Int × Int × Bool) : Prop := t.2.2 = true → ∃ q r : Nat, t.1 = q ∧ t.2.1 = r ∧ q ≤ 64 ∧ 0 < r ∧ r ≤ 192 ∧ Nat.Coprime q r
theorem sc_form (a b : List Int) (lo : Int) (n : Nat) (hn : n ≤ 64) (v : Int) : scF (scV a b lo n v) := by
  intro h
  have hI := ctT2_I a b (v - 1) lo n
  unfold ctI2 at hI
  unfold scV at h ⊢
  obtain ⟨⟨h1, h2, h3, h4⟩, ht⟩ : ∃ t, t = ctT2 a b (v - 1) lo n := ⟨_, rfl⟩
  rw [← ht] at h hI ⊢
  dsimp only at h hI ⊢
  have hg : goodB h1 h2 h3 h4 = true := by
    unfold goodB
    exact decide_eq_true (by omega)
  have w : wrap64 ((wrap64 (h1 + h2)) + h3) = h1 + h2 + h3 := by rw [wrap_id (x := h1 + h2) (by omega) (by omega), wrap_id (by omega) (by omega)]
  unfold threatV at h ⊢
  rw [if_pos hg, w] at h ⊢
  unfold ratioV at h ⊢
  by_cases h0 : h1 + h2 + h3 = 0
  · rw [if_pos h0] at h; cases h
  · rw [if_neg h0]
    obtain ⟨A, hA⟩ : ∃ A : Nat, h1 = A := ⟨h1.toNat, by omega⟩
    obtain ⟨D, hD⟩ : ∃ D : Nat, h1 + h2 + h3 = D := ⟨(h1 + h2 + h3).toNat, by omega⟩
    rw [hD, hA]
    simp only [Int.natAbs_natCast]
    have hp : 0 < Nat.gcd A D := Nat.gcd_pos_of_pos_right A (by omega)
    have e1 : Int.tdiv (A : Int) (Nat.gcd A D : Nat) = ((A / Nat.gcd A D : Nat) : Int) := (Int.ofNat_tdiv _ _).symm
    have e2 : Int.tdiv (D : Int) (Nat.gcd A D : Nat) = ((D / Nat.gcd A D : Nat) : Int) := (Int.ofNat_tdiv _ _).symm
    have b1 : A / Nat.gcd A D ≤ A := Nat.div_le_self _ _
    have b2 : D / Nat.gcd A D ≤ D := Nat.div_le_self _ _
    have b3 : 0 < D / Nat.gcd A D := Nat.div_pos (Nat.le_of_dvd (by omega) (Nat.gcd_dvd_right A D)) hp
    have hcp := Nat.coprime_div_gcd_div_gcd hp
    rw [e1, e2]
    obtain ⟨Q, hQ⟩ : ∃ Q, Q = A / Nat.gcd A D := ⟨_, rfl⟩
    obtain ⟨R, hR⟩ : ∃ R, R = D / Nat.gcd A D := ⟨_, rfl⟩
    rw [← hQ] at b1 hcp ⊢
    rw [← hR] at b2 b3 hcp ⊢
    clear e1 e2 hQ hR hp w hg
    exact ⟨Q, R, wrap_id (by omega) (by omega), wrap_id (by omega) (by omega), by omega, b3, by omega, hcp⟩
theorem cop_one {q1 r1 q2 r2 : Nat} (p1 : 0 < r1) (h1 : Nat.Coprime q1 r1) (h2 : Nat.Coprime q2 r2) (e : q1 * r2 = q2 * r1) : q1 = q2 ∧ r1 = r2 := by
  have d1 : r1 ∣ r2 := Nat.Coprime.dvd_of_dvd_mul_left h1.symm (e ▸ Nat.dvd_mul_left r1 q2)
  have d2 : r2 ∣ r1 := Nat.Coprime.dvd_of_dvd_mul_left h2.symm (e ▸ Nat.dvd_mul_left r2 q1)
  have er : r1 = r2 := Nat.dvd_antisymm d1 d2
  subst er
  exact ⟨Nat.eq_of_mul_eq_mul_right p1 e, rfl⟩
def lessR (n d n' d' : Int) : Prop := n * d' < n' * d
def Opt (sc : Int → Int × Int × Bool) (S : Int → Prop) (best : Int) (found : Bool) (num den : Int) : Prop :=
  (found = false → best = 0 ∧ num = 0 ∧ den = 0 ∧ ∀ u, S u → (sc u).2.2 = false) ∧
  (found = true → ∃ v, S v ∧ (sc v).2.2 = true ∧ best = v - 1 ∧ num = (sc v).1 ∧ den = (sc v).2.1 ∧ ∀ u, S u → (sc u).2.2 = true → ¬ lessR num den (sc u).1 (sc u).2.1 ∧ ((sc u).1 = num ∧ (sc u).2.1 = den → v ≤ u))
theorem Opt.congr {sc : Int → Int × Int × Bool} {S S' : Int → Prop} {best num den : Int} {found : Bool} (h : Opt sc S best found num den) (e : ∀ u, S u ↔ S' u) : Opt sc S' best found num den :=
  ⟨fun hf => ⟨(h.1 hf).1, (h.1 hf).2.1, (h.1 hf).2.2.1, fun u hu => (h.1 hf).2.2.2 u ((e u).2 hu)⟩, fun hf => by
    obtain ⟨v, h1, h2, h3, h4, h5, h6⟩ := h.2 hf
    exact ⟨v, (e v).1 h1, h2, h3, h4, h5, fun u hu => h6 u ((e u).2 hu)⟩⟩
theorem Opt.skip {sc : Int → Int × Int × Bool} {S S' : Int → Prop} {best num den v : Int} {found : Bool} (h : Opt sc S best found num den) (hv : (sc v).2.2 = false) (e : ∀ u, S' u ↔ S u ∨ u = v) : Opt sc S' best found num den :=
  ⟨fun hf => ⟨(h.1 hf).1, (h.1 hf).2.1, (h.1 hf).2.2.1, fun u hu => by
      rcases (e u).1 hu with k | k
      · exact (h.1 hf).2.2.2 u k
      · rw [k]; exact hv⟩, fun hf => by
    obtain ⟨v', h1, h2, h3, h4, h5, h6⟩ := h.2 hf
    refine ⟨v', (e v').2 (.inl h1), h2, h3, h4, h5, fun u hu ho => ?_⟩
    rcases (e u).1 hu with k | k
    · exact h6 u k ho
    · rw [k, hv] at ho; cases ho⟩
theorem Opt.keep {sc : Int → Int × Int × Bool} {S S' : Int → Prop} {best num den v : Int} (h : Opt sc S best true num den) (hl : ¬ lessR num den (sc v).1 (sc v).2.1) (hb : (sc v).1 = num ∧ (sc v).2.1 = den → best ≤ v - 1) (e : ∀ u, S' u ↔ S u ∨ u = v) : Opt sc S' best true num den :=
  ⟨fun hf => (by cases hf), fun _ => by
    obtain ⟨v', h1, h2, h3, h4, h5, h6⟩ := h.2 rfl
    refine ⟨v', (e v').2 (.inl h1), h2, h3, h4, h5, fun u hu ho => ?_⟩
    rcases (e u).1 hu with k | k
    · exact h6 u k ho
    · subst k
      exact ⟨hl, fun q => by have := hb q; omega⟩⟩
theorem frac_lt {n d n1 d1 n2 d2 : Int} (p1 : 0 < d1) (p2 : 0 < d2) (p : 0 < d) (a : ¬ lessR n d n2 d2) (b : lessR n d n1 d1) : ¬ lessR n1 d1 n2 d2 := by
  unfold lessR at *
  intro c
  have a' : n2 * d ≤ n * d2 := Int.not_lt.1 a
  have s1 : n1 * d2 * d < n2 * d1 * d := Int.mul_lt_mul_of_pos_right c p
  have s2 : n2 * d * d1 ≤ n * d2 * d1 := Int.mul_le_mul_of_nonneg_right a' (by omega)
  have s3 : n * d1 * d2 < n1 * d * d2 := Int.mul_lt_mul_of_pos_right b p2
  have e1 : n2 * d1 * d = n2 * d * d1 := by rw [Int.mul_assoc, Int.mul_comm d1 d, ← Int.mul_assoc]
  have e2 : n * d2 * d1 = n * d1 * d2 := by rw [Int.mul_assoc, Int.mul_comm d2 d1, ← Int.mul_assoc]
  have e3 : n1 * d * d2 = n1 * d2 * d := by rw [Int.mul_assoc, Int.mul_comm d d2, ← Int.mul_assoc]
  omega
theorem Opt.take {sc : Int → Int × Int × Bool} {S S' : Int → Prop} {best num den v : Int} {found : Bool} (hF : ∀ u, scF (sc u)) (h : Opt sc S best found num den) (hv : (sc v).2.2 = true) (hc : found = false ∨ lessR num den (sc v).1 (sc v).2.1 ∨ (((sc v).1 = num ∧ (sc v).2.1 = den) ∧ v - 1 < best)) (e : ∀ u, S' u ↔ S u ∨ u = v) : Opt sc S' (v - 1) true (sc v).1 (sc v).2.1 := by
  refine ⟨fun hf => (by cases hf), fun _ => ⟨v, (e v).2 (.inr rfl), hv, rfl, rfl, rfl, fun u hu ho => ?_⟩⟩
  rcases (e u).1 hu with k | k
  · cases found with
    | false => rw [(h.1 rfl).2.2.2 u k] at ho; cases ho
    | true =>
      obtain ⟨v', h1, h2, h3, h4, h5, h6⟩ := h.2 rfl
      obtain ⟨g1, g2⟩ := h6 u k ho
      obtain ⟨qv, rv, ev1, ev2, _, pv, _, _⟩ := hF v hv
      obtain ⟨qu, ru, eu1, eu2, _, pu, _, _⟩ := hF u ho
      obtain ⟨qw, rw_, ew1, ew2, _, pw, _, _⟩ := hF v' h2
      rcases hc with c | c | ⟨c1, c2⟩
      · cases c
      · refine ⟨frac_lt (by omega) (by omega) (by omega) g1 c, fun q => ?_⟩
        rw [q.1, q.2] at g1
        exact absurd c g1
      · refine ⟨by rw [c1.1, c1.2]; exact g1, fun q => ?_⟩
        have := g2 ⟨q.1.trans c1.1, q.2.trans c1.2⟩
        omega
  · subst k
    exact ⟨by unfold lessR; omega, fun _ => Int.le_refl _⟩
theorem Opt.unique {sc : Int → Int × Int × Bool} {S : Int → Prop} {best num den : Int} {found : Bool} (hF : ∀ u, scF (sc u)) {best' num' den' : Int} {found' : Bool} (h : Opt sc S best found num den) (h' : Opt sc S best' found' num' den') : best = best' ∧ found = found' ∧ num = num' ∧ den = den' := by
  cases found with
  | false =>
    obtain ⟨a1, a2, a3, a4⟩ := h.1 rfl
    cases found' with
    | false =>
      obtain ⟨b1, b2, b3, _⟩ := h'.1 rfl
      exact ⟨a1.trans b1.symm, rfl, a2.trans b2.symm, a3.trans b3.symm⟩
    | true =>
      obtain ⟨v, h1, h2, _⟩ := h'.2 rfl
      rw [a4 v h1] at h2; cases h2
  | true =>
    obtain ⟨v, h1, h2, h3, h4, h5, h6⟩ := h.2 rfl
    cases found' with
    | false =>
      rw [(h'.1 rfl).2.2.2 v h1] at h2; cases h2
    | true =>
      obtain ⟨v', k1, k2, k3, k4, k5, k6⟩ := h'.2 rfl
      obtain ⟨q, r, e1, e2, _, p, _, c⟩ := hF v h2
      obtain ⟨q', r', e1', e2', _, p', _, c'⟩ := hF v' k2
      obtain ⟨x1, x2⟩ := h6 v' k1 k2
      obtain ⟨y1, y2⟩ := k6 v h1 h2
      unfold lessR at x1 y1
      rw [h4, h5, e1, e2, e1', e2'] at x1
      rw [k4, k5, e1, e2, e1', e2'] at y1
      have x1' : (q' : Int) * (r : Int) ≤ (q : Int) * (r' : Int) := Int.not_lt.1 x1
      have y1' : (q : Int) * (r' : Int) ≤ (q' : Int) * (r : Int) := Int.not_lt.1 y1
      have ee : q * r' = q' * r := by
        have := Int.le_antisymm y1' x1'
        exact_mod_cast this
      obtain ⟨eq, er⟩ := cop_one p c c' ee
      subst eq
      subst er
      have z1 := x2 ⟨by rw [h4, e1, e1'], by rw [h5, e2, e2']⟩
      have z2 := y2 ⟨by rw [k4, e1, e1'], by rw [k5, e2, e2']⟩
      have zz : v = v' := Int.le_antisymm z1 z2
      subst zz
      exact ⟨h3.trans k3.symm, rfl, h4.trans k4.symm, h5.trans k5.symm⟩
theorem prod_id {t t' : Int × Int × Bool} (h : scF t) (h' : scF t') (ho : t.2.2 = true) (ho' : t'.2.2 = true) : wrap64 (t.1 * t'.2.1) = t.1 * t'.2.1 := by
  obtain ⟨q, r, e1, e2, b1, b2, b3, _⟩ := h ho
  obtain ⟨q', r', e1', e2', b1', b2', b3', _⟩ := h' ho'
  rw [e1, e2']
  have := Nat.mul_le_mul b1 b3'
  obtain ⟨m, hm⟩ : ∃ m, m = q * r' := ⟨_, rfl⟩
  rw [← Int.natCast_mul, ← hm]
  exact wrap_id (by omega) (by omega)
theorem scV_ev (a b : List Int) (lo w h w' h' : Int) (n : Nat) (hn : n ≤ 64) (ha : a.length = n) (hb : b.length = n) (v : Int) : (Evt fun k => (impl_countTable.f k w h a w' h' b (v - 1) lo).bind (fun bt => (impl_ThreatScore.f k bt.1 bt.2.1 bt.2.2.1 bt.2.2.2)) = some (scV a b lo n v)) ∧ (Evt fun k => (spec_l20Count.f k w h a w' h' b (v - 1) lo).bind (fun bt => (spec_ThreatScore.f k bt.1 bt.2.1 bt.2.2.1 bt.2.2.2)) = some (scV a b lo n v)) := by
  have c1 := countImpl2 a b (v - 1) lo w' h' n hn ha hb
  have c2 := countSpec2 a b (v - 1) lo w h w' h' n hn ha hb
  obtain ⟨t1, t2⟩ := Threat_ev (ctT2 a b (v - 1) lo n).1 (ctT2 a b (v - 1) lo n).2.1 (ctT2 a b (v - 1) lo n).2.2.1 (ctT2 a b (v - 1) lo n).2.2.2
  refine ⟨(c1.and t1).mono fun k hk => ?_, (c2.and t2).mono fun k hk => ?_⟩
  · unfold impl_countTable.f
    rw [hk.1, Option.bind_some, hk.2]; rfl
  · unfold spec_l20Count.f
    rw [hk.1, Option.bind_some, hk.2]; rfl
theorem opt_ex (sc : Int → Int × Int × Bool) (hF : ∀ u, scF (sc u)) : ∀ l : List Int, ∃ best found num den, Opt sc (fun u => u ∈ l) best found num den
  | [] => ⟨0, false, 0, 0, fun _ => ⟨rfl, rfl, rfl, fun u hu => by cases hu⟩, fun h => by cases h⟩
  | v :: l => by
    obtain ⟨best, found, num, den, h⟩ := opt_ex sc hF l
    have e : ∀ u, u ∈ v :: l ↔ u ∈ l ∨ u = v := fun u => by rw [List.mem_cons]; exact Or.comm
    by_cases hv : (sc v).2.2 = true
    · by_cases hc : found = false ∨ lessR num den (sc v).1 (sc v).2.1 ∨ (((sc v).1 = num ∧ (sc v).2.1 = den) ∧ v - 1 < best)
      · exact ⟨_, _, _, _, Opt.take hF h hv hc e⟩
      · cases found with
        | false => exact absurd (.inl rfl) hc
        | true => exact ⟨best, true, num, den, Opt.keep h (fun q => hc (.inr (.inl q))) (fun q => Int.not_lt.1 (fun z => hc (.inr (.inr ⟨q, z⟩)))) e⟩
    · exact ⟨best, found, num, den, Opt.skip h (Bool.eq_false_iff.mpr hv) e⟩
theorem opt_found {sc : Int → Int × Int × Bool} {S : Int → Prop} {best num den : Int} (h : Opt sc S best true num den) : ∃ v, S v ∧ (sc v).2.2 = true ∧ best = v - 1 ∧ num = (sc v).1 ∧ den = (sc v).2.1 := by
  obtain ⟨v, h1, h2, h3, h4, h5, _⟩ := h.2 rfl
  exact ⟨v, h1, h2, h3, h4, h5⟩
theorem bestSpec_loop (a b : List Int) (lo w h w' h' : Int) (n : Nat) (hn : n ≤ 64) (ha : a.length = n) (hb : b.length = n) (hv : ∀ j, j < n → -9999 ≤ a.getD j 0 ∧ a.getD j 0 ≤ 9000) (best num den : Int) (found : Bool) (hO : Opt (scV a b lo n) (fun u => u ∈ a ∧ u ≠ -9999) best found num den) :
    Evt fun k => spec_BestLimit.l0 k lo 0 false 0 w h a w' h' b 0 0 = some (best, num, den, found) := by
  have hF := sc_form a b lo n hn
  refine evt_loop0 n (fun k (s : Int × Bool × Int × Int) i => spec_BestLimit.l0 k lo s.1 s.2.1 i w h a w' h' b s.2.2.1 s.2.2.2) (best, num, den, found) (fun i s => Opt (scV a b lo n) (fun u => ∃ j, j < i ∧ a.getD j 0 = u ∧ u ≠ -9999) s.1 s.2.1 s.2.2.1 s.2.2.2) ?_ ?_ (0, false, 0, 0) ⟨fun _ => ⟨rfl, rfl, rfl, fun u hu => by obtain ⟨j, hj, _⟩ := hu; omega⟩, fun h => by cases h⟩
  · rintro i ⟨bs, fd, nm, dn⟩ hi hs
    dsimp only at hs
    obtain ⟨x, hx⟩ : ∃ x, x = a.getD i 0 := ⟨_, rfl⟩
    have hvx := hv i hi
    rw [← hx] at hvx
    have wi : wrap64 ((i : Int) + 1) = (i : Int) + 1 := wrap_id (by omega) (by omega)
    have wx : wrap64 (x - 1) = x - 1 := wrap_id (by omega) (by omega)
    have g1 : (i : Int) < (a.length : Int) := by omega
    have g2 : 0 ≤ (i : Int) := by omega
    by_cases c0 : x = -9999
    · refine .inl ⟨(bs, fd, nm, dn), Opt.congr hs (fun u => ⟨fun ⟨j, q1, q2, q3⟩ => ⟨j, by omega, q2, q3⟩, fun ⟨j, q1, q2, q3⟩ => ?_⟩), 1, Evt.all fun k => ?_⟩
      · by_cases e : j = i
        · subst e; rw [← hx, c0] at q2; exact absurd q2.symm q3
        · exact ⟨j, by omega, q2, q3⟩
      · show spec_BestLimit.l0 (k + 1) lo bs fd (i : Int) w h a w' h' b nm dn = spec_BestLimit.l0 k lo bs fd ((i : Int) + 1) w h a w' h' b nm dn
        simp only [spec_BestLimit.l0, rd_nat, ← hx]
        rw [if_pos g1, if_pos g2, if_pos c0, wi]
    · have eS : ∀ u, (∃ j, j < i + 1 ∧ a.getD j 0 = u ∧ u ≠ -9999) ↔ (∃ j, j < i ∧ a.getD j 0 = u ∧ u ≠ -9999) ∨ u = x := by
        intro u
        constructor
        · rintro ⟨j, q1, q2, q3⟩
          by_cases e : j = i
          · subst e; exact .inr (by rw [hx]; exact q2.symm)
          · exact .inl ⟨j, by omega, q2, q3⟩
        · rintro (⟨j, q1, q2, q3⟩ | rfl)
          · exact ⟨j, by omega, q2, q3⟩
          · exact ⟨i, by omega, hx.symm, c0⟩
      have ev := (scV_ev a b lo w h w' h' n hn ha hb x).2
      have hFx := hF x
      obtain ⟨t, ht⟩ : ∃ t, t = scV a b lo n x := ⟨_, rfl⟩
      by_cases c1 : t.2.2 = true
      · by_cases hc : fd = false ∨ lessR nm dn t.1 t.2.1 ∨ ((t.1 = nm ∧ t.2.1 = dn) ∧ x - 1 < bs)
        · refine .inl ⟨(x - 1, true, t.1, t.2.1), ?_, 1, ev.mono fun k hk => ?_⟩
          · dsimp only
            rw [ht] at c1 hc ⊢
            exact Opt.take hF hs c1 hc eS
          · obtain ⟨bt, hA, hB⟩ := Option.bind_eq_some_iff.1 hk
            rw [← ht] at hB
            show spec_BestLimit.l0 (k + 1) lo bs fd (i : Int) w h a w' h' b nm dn = spec_BestLimit.l0 k lo (x - 1) true ((i : Int) + 1) w h a w' h' b t.1 t.2.1
            simp only [spec_BestLimit.l0, rd_nat, ← hx, wx, hA, hB, Option.bind_some]
            rw [if_pos g1, if_pos g2, if_neg c0, if_pos c1, wi]
            cases fd with
            | false => rw [if_neg (by simp)]
            | true =>
              obtain ⟨u, _, u2, _, u4, u5⟩ := opt_found hs
              rw [if_pos rfl]
              have p1 : wrap64 (nm * t.2.1) = nm * t.2.1 := by rw [u4, ht]; exact prod_id (hF u) (hF x) u2 (by rw [← ht]; exact c1)
              have p2 : wrap64 (t.1 * dn) = t.1 * dn := by rw [u5, ht]; exact prod_id (hF x) (hF u) (by rw [← ht]; exact c1) u2
              simp only [spec_l20Less.f, p1, p2, Option.bind_some]
              by_cases cl : nm * t.2.1 < t.1 * dn
              · rw [if_pos (decide_eq_true cl)]
              · rw [if_neg (by rw [decide_eq_true_eq]; exact cl)]
                rcases hc with c | c | ⟨c, c'⟩
                · cases c
                · exact absurd c cl
                · rw [if_pos (by simp [c.1, c.2]), if_pos c']
        · cases fd with
          | false => exact absurd (.inl rfl) hc
          | true =>
            refine .inl ⟨(bs, true, nm, dn), ?_, 1, ev.mono fun k hk => ?_⟩
            · dsimp only
              rw [ht] at hc
              exact Opt.keep hs (fun q => hc (.inr (.inl q))) (fun q => Int.not_lt.1 (fun z => hc (.inr (.inr ⟨q, z⟩)))) eS
            · obtain ⟨bt, hA, hB⟩ := Option.bind_eq_some_iff.1 hk
              rw [← ht] at hB
              show spec_BestLimit.l0 (k + 1) lo bs true (i : Int) w h a w' h' b nm dn = spec_BestLimit.l0 k lo bs true ((i : Int) + 1) w h a w' h' b nm dn
              simp only [spec_BestLimit.l0, rd_nat, ← hx, wx, hA, hB, Option.bind_some]
              rw [if_pos g1, if_pos g2, if_neg c0, if_pos c1, wi, if_pos trivial]
              obtain ⟨u, _, u2, _, u4, u5⟩ := opt_found hs
              have p1 : wrap64 (nm * t.2.1) = nm * t.2.1 := by rw [u4, ht]; exact prod_id (hF u) (hF x) u2 (by rw [← ht]; exact c1)
              have p2 : wrap64 (t.1 * dn) = t.1 * dn := by rw [u5, ht]; exact prod_id (hF x) (hF u) (by rw [← ht]; exact c1) u2
              simp only [spec_l20Less.f, p1, p2, Option.bind_some]
              rw [if_neg (by rw [decide_eq_true_eq]; exact fun q => hc (.inr (.inl q)))]
              by_cases ce : t.1 = nm ∧ t.2.1 = dn
              · rw [if_pos (by simp [ce.1, ce.2]), if_neg (fun z => hc (.inr (.inr ⟨ce, z⟩)))]
              · rw [if_neg (by simp only [Bool.and_eq_true, beq_iff_eq]; exact ce)]
      · refine .inl ⟨(bs, fd, nm, dn), ?_, 1, ev.mono fun k hk => ?_⟩
        · dsimp only
          rw [ht] at c1
          exact Opt.skip hs (Bool.eq_false_iff.mpr c1) eS
        · obtain ⟨bt, hA, hB⟩ := Option.bind_eq_some_iff.1 hk
          rw [← ht] at hB
          show spec_BestLimit.l0 (k + 1) lo bs fd (i : Int) w h a w' h' b nm dn = spec_BestLimit.l0 k lo bs fd ((i : Int) + 1) w h a w' h' b nm dn
          simp only [spec_BestLimit.l0, rd_nat, ← hx, wx, hA, hB, Option.bind_some]
          rw [if_pos g1, if_pos g2, if_neg c0, if_neg c1, wi]
  · rintro ⟨bs, fd, nm, dn⟩ hs
    dsimp only at hs
    have hs' : Opt (scV a b lo n) (fun u => u ∈ a ∧ u ≠ -9999) bs fd nm dn := Opt.congr hs (fun u => ⟨fun ⟨j, q1, q2, q3⟩ => ⟨by rw [← q2, getD_lt _ _ _ (by omega)]; exact List.getElem_mem _, q3⟩, fun ⟨q1, q2⟩ => by
      obtain ⟨j, hj, e⟩ := List.mem_iff_getElem.1 q1
      exact ⟨j, by omega, by rw [getD_lt _ _ _ hj]; exact e, q2⟩⟩)
    obtain ⟨e1, e2, e3, e4⟩ := Opt.unique hF hs' hO
    refine Evt.succ (Evt.all fun k => ?_)
    show spec_BestLimit.l0 (k + 1) lo bs fd (n : Int) w h a w' h' b nm dn = _
    simp only [spec_BestLimit.l0]
    rw [if_neg (by omega), e1, e2, e3, e4]
theorem cmpR_ok (x y : Int) : cmp_Compare_int.f x y = some (if x < y then -1 else if x > y then 1 else 0) := by
  simp only [cmp_Compare_int.f, cmp_isNaN_int.f, bne_self_eq_false, Option.bind_some]
  by_cases h1 : x < y
  · simp [h1]
  · by_cases h2 : x > y <;> simp [h1, h2]
theorem bestImpl_loop (a b : List Int) (lo w h w' h' : Int) (n : Nat) (hn : n ≤ 64) (ha : a.length = n) (hb : b.length = n) (vs : List Int) (m : Nat) (hm : vs.length = m) (hm2 : m ≤ 64) (hv : ∀ j, j < m → -9999 ≤ vs.getD j 0 ∧ vs.getD j 0 ≤ 9000) (hup : ∀ i j, i < j → j < m → vs.getD i 0 ≤ vs.getD j 0)
    (best num den : Int) (found : Bool) (hO : Opt (scV a b lo n) (fun u => u ∈ vs) best found num den) :
    Evt fun k => impl_BestLimit.l0 k lo 0 false vs (vs.length : Int) 0 w h a w' h' b 0 0 = some (best, num, den, found) := by
  have hF := sc_form a b lo n hn
  refine evt_loop0 m (fun k (s : Int × Bool × Int × Int) i => impl_BestLimit.l0 k lo s.1 s.2.1 vs (vs.length : Int) i w h a w' h' b s.2.2.1 s.2.2.2) (best, num, den, found) (fun i s => Opt (scV a b lo n) (fun u => ∃ j, j < i ∧ vs.getD j 0 = u) s.1 s.2.1 s.2.2.1 s.2.2.2) ?_ ?_ (0, false, 0, 0) ⟨fun _ => ⟨rfl, rfl, rfl, fun u hu => by obtain ⟨j, hj, _⟩ := hu; omega⟩, fun h => by cases h⟩
  · rintro i ⟨bs, fd, nm, dn⟩ hi hs
    dsimp only at hs
    obtain ⟨x, hx⟩ : ∃ x, x = vs.getD i 0 := ⟨_, rfl⟩
    have hvx := hv i hi
    rw [← hx] at hvx
    have wi : wrap64 ((i : Int) + 1) = (i : Int) + 1 := wrap_id (by omega) (by omega)
    have wx : wrap64 (x - 1) = x - 1 := wrap_id (by omega) (by omega)
    have g1 : (i : Int) < (vs.length : Int) := by omega
    have g2 : 0 ≤ (i : Int) := by omega
    have eS : ∀ u, (∃ j, j < i + 1 ∧ vs.getD j 0 = u) ↔ (∃ j, j < i ∧ vs.getD j 0 = u) ∨ u = x := by
      intro u
      constructor
      · rintro ⟨j, q1, q2⟩
        by_cases e : j = i
        · subst e; exact .inr (by rw [hx]; exact q2.symm)
        · exact .inl ⟨j, by omega, q2⟩
      · rintro (⟨j, q1, q2⟩ | rfl)
        · exact ⟨j, by omega, q2⟩
        · exact ⟨i, by omega, hx.symm⟩
    have ev := (scV_ev a b lo w h w' h' n hn ha hb x).1
    obtain ⟨t, ht⟩ : ∃ t, t = scV a b lo n x := ⟨_, rfl⟩
    by_cases c1 : t.2.2 = true
    · by_cases hc : fd = false ∨ lessR nm dn t.1 t.2.1
      · refine .inl ⟨(x - 1, true, t.1, t.2.1), ?_, 1, ev.mono fun k hk => ?_⟩
        · dsimp only
          rw [ht] at c1 hc ⊢
          exact Opt.take hF hs c1 (hc.elim .inl (fun q => .inr (.inl q))) eS
        · obtain ⟨bt, hA, hB⟩ := Option.bind_eq_some_iff.1 hk
          rw [← ht] at hB
          show impl_BestLimit.l0 (k + 1) lo bs fd vs (vs.length : Int) (i : Int) w h a w' h' b nm dn = impl_BestLimit.l0 k lo (x - 1) true vs (vs.length : Int) ((i : Int) + 1) w h a w' h' b t.1 t.2.1
          simp only [impl_BestLimit.l0, rd_nat, ← hx, wx, hA, hB, Option.bind_some]
          rw [if_pos g1, if_pos g2, if_pos g1, if_pos c1, wi]
          cases fd with
          | false => rw [if_neg (by simp)]
          | true =>
            obtain ⟨u, _, u2, _, u4, u5⟩ := opt_found hs
            rw [if_pos rfl]
            have p1 : wrap64 (nm * t.2.1) = nm * t.2.1 := by rw [u4, ht]; exact prod_id (hF u) (hF x) u2 (by rw [← ht]; exact c1)
            have p2 : wrap64 (t.1 * dn) = t.1 * dn := by rw [u5, ht]; exact prod_id (hF x) (hF u) (by rw [← ht]; exact c1) u2
            rcases hc with c | c
            · cases c
            · unfold lessR at c
              simp only [impl_compareRatios.f, p1, p2, cmpR_ok, Option.bind_some]
              rw [if_neg (show ¬ t.1 * dn < nm * t.2.1 from Int.not_lt.2 (Int.le_of_lt c)), if_pos (show t.1 * dn > nm * t.2.1 from c), if_pos (by decide)]
      · cases fd with
        | false => exact absurd (.inl rfl) hc
        | true =>
          refine .inl ⟨(bs, true, nm, dn), ?_, 1, ev.mono fun k hk => ?_⟩
          · dsimp only
            rw [ht] at hc
            refine Opt.keep hs (fun q => hc (.inr q)) (fun q => ?_) eS
            obtain ⟨u, ⟨j, j1, j2⟩, _, u3, _⟩ := opt_found hs
            have := hup j i j1 (by omega)
            rw [j2, ← hx] at this
            omega
          · obtain ⟨bt, hA, hB⟩ := Option.bind_eq_some_iff.1 hk
            rw [← ht] at hB
            show impl_BestLimit.l0 (k + 1) lo bs true vs (vs.length : Int) (i : Int) w h a w' h' b nm dn = impl_BestLimit.l0 k lo bs true vs (vs.length : Int) ((i : Int) + 1) w h a w' h' b nm dn
            simp only [impl_BestLimit.l0, rd_nat, ← hx, wx, hA, hB, Option.bind_some]
            rw [if_pos g1, if_pos g2, if_pos g1, if_pos c1, wi, if_pos trivial]
            obtain ⟨u, _, u2, _, u4, u5⟩ := opt_found hs
            have p1 : wrap64 (nm * t.2.1) = nm * t.2.1 := by rw [u4, ht]; exact prod_id (hF u) (hF x) u2 (by rw [← ht]; exact c1)
            have p2 : wrap64 (t.1 * dn) = t.1 * dn := by rw [u5, ht]; exact prod_id (hF x) (hF u) (by rw [← ht]; exact c1) u2
            have c : ¬ nm * t.2.1 < t.1 * dn := fun q => hc (.inr q)
            simp only [impl_compareRatios.f, p1, p2, cmpR_ok, Option.bind_some]
            by_cases c3 : t.1 * dn < nm * t.2.1
            · rw [if_pos c3, if_neg (by decide)]
            · rw [if_neg c3, if_neg (show ¬ t.1 * dn > nm * t.2.1 from c), if_neg (by decide)]
    · refine .inl ⟨(bs, fd, nm, dn), ?_, 1, ev.mono fun k hk => ?_⟩
      · dsimp only
        rw [ht] at c1
        exact Opt.skip hs (Bool.eq_false_iff.mpr c1) eS
      · obtain ⟨bt, hA, hB⟩ := Option.bind_eq_some_iff.1 hk
        rw [← ht] at hB
        show impl_BestLimit.l0 (k + 1) lo bs fd vs (vs.length : Int) (i : Int) w h a w' h' b nm dn = impl_BestLimit.l0 k lo bs fd vs (vs.length : Int) ((i : Int) + 1) w h a w' h' b nm dn
        simp only [impl_BestLimit.l0, rd_nat, ← hx, wx, hA, hB, Option.bind_some]
        rw [if_pos g1, if_pos g2, if_pos g1, if_neg c1, wi]
  · rintro ⟨bs, fd, nm, dn⟩ hs
    dsimp only at hs
    have hs' : Opt (scV a b lo n) (fun u => u ∈ vs) bs fd nm dn := Opt.congr hs (fun u => ⟨fun ⟨j, q1, q2⟩ => by rw [← q2, getD_lt _ _ _ (by omega)]; exact List.getElem_mem _, fun q1 => by
      obtain ⟨j, hj, e⟩ := List.mem_iff_getElem.1 q1
      exact ⟨j, by omega, by rw [getD_lt _ _ _ hj]; exact e⟩⟩)
    obtain ⟨e1, e2, e3, e4⟩ := Opt.unique hF hs' hO
    refine Evt.succ (Evt.all fun k => ?_)
    show impl_BestLimit.l0 (k + 1) lo bs fd vs (vs.length : Int) (m : Int) w h a w' h' b nm dn = _
    simp only [impl_BestLimit.l0]
    rw [if_neg (by omega), e1, e2, e3, e4]
theorem compact_mem (zs : List Int) (u : Int) : u ∈ Go.Lib.compact zs ↔ u ∈ zs := by
  unfold Go.Lib.compact Go.Lib.compactUpTo
  rw [List.mem_map]
  constructor
  · rintro ⟨j, hj, rfl⟩
    have := (List.mem_filter.1 hj).1
    rw [List.mem_range] at this
    have hl : j < zs.length := by simpa using this
    simp [hl]
  · intro hu
    obtain ⟨j, hj, e⟩ := List.mem_iff_getElem.1 hu
    have key : ∀ j, (hj : j < zs.length) → ∃ q, q < zs.length ∧ Go.Lib.keeps zs.toArray q = true ∧ zs.toArray[q]! = zs.toArray[j]! := by
      intro j
      induction j with
      | zero => exact fun hj => ⟨0, hj, by simp [Go.Lib.keeps], rfl⟩
      | succ j ih =>
        intro hj
        by_cases c : zs.toArray[j + 1]! = zs.toArray[j]!
        · obtain ⟨q, q1, q2, q3⟩ := ih (by omega)
          exact ⟨q, q1, q2, q3.trans c.symm⟩
        · exact ⟨j + 1, hj, Go.Lib.keeps_pos (by rw [Nat.add_sub_cancel]; exact c), rfl⟩
    obtain ⟨q, q1, q2, q3⟩ := key j hj
    refine ⟨q, List.mem_filter.2 ⟨List.mem_range.2 (by simpa using q1), q2⟩, ?_⟩
    rw [q3]
    simp [hj, e]
theorem compact_up {zs : List Int} (h : zs.Pairwise (fun a b => a ≤ b)) : (Go.Lib.compact zs).Pairwise (fun a b => a ≤ b) := by
  unfold Go.Lib.compact Go.Lib.compactUpTo
  rw [List.pairwise_map]
  refine (List.Pairwise.sublist List.filter_sublist (List.pairwise_lt_range)).imp_of_mem ?_
  intro i j hi hj hij
  rw [List.mem_filter, List.mem_range] at hi hj
  have hi' : i < zs.length := by simpa using hi.1
  have hj' : j < zs.length := by simpa using hj.1
  have := List.pairwise_iff_getElem.1 h i j hi' hj' hij
  simpa [hi', hj'] using this
theorem best_law (w h : Int) (l : List Int) (w' h' : Int) (l' : List Int) (lim : Int) (hl : l.length ≤ 1048576) (hl' : l'.length ≤ 1048576) (hlim : -30 ≤ lim ∧ lim ≤ 110) :
    ∃ v : Int × Int × Int × Bool, (Evt fun k => impl_BestLimit.f k w h l w' h' l' lim = some v) ∧ (Evt fun k => spec_BestLimit.f k w h l w' h' l' lim = some v) ∧
      (v.2.2.2 = true → l.length ≤ 64 ∧ ∃ t : Int × Int × Int × Int, (Evt fun k => impl_CountTable.f k w h l w' h' l' lim = some (t.1, t.2.1, t.2.2.1, t.2.2.2, true)) ∧
        (lim + 1 ∈ l → (threatV t.1 t.2.1 t.2.2.1 t.2.2.2).2.2 = true → ¬ wrap64 (v.2.1 * (threatV t.1 t.2.1 t.2.2.1 t.2.2.2).2.1) < wrap64 ((threatV t.1 t.2.1 t.2.2.1 t.2.2.2).1 * v.2.2.1))) := by
  have s1 := areAlike_ev w h l w' h' l' hl hl'
  have s2 := l2Same_ev w h l w' h' l' hl hl'
  cases hb : sameB w h l w' h' l' with
  | false =>
    rw [hb] at s1 s2
    refine ⟨(0, 0, 0, false), s1.mono fun k hk => ?_, s2.mono fun k hk => ?_, fun h => by simp at h⟩
    · simp [impl_BestLimit.f, hk]
    · simp [spec_BestLimit.f, hk]
  | true =>
    rw [hb] at s1 s2
    have hb' := hb
    unfold sameB at hb'
    simp only [Bool.and_eq_true, decide_eq_true_eq] at hb'
    obtain ⟨⟨⟨f1, f2⟩, e1⟩, e2⟩ := hb'
    obtain ⟨_, _, n1, m1, k1⟩ := fieldB_len f1
    obtain ⟨_, _, n2, m2, _⟩ := fieldB_len f2
    have hn : l'.length = l.length := by rw [e1, e2] at n1; omega
    have cells : ∀ x, x ∈ l → -9999 ≤ x ∧ x ≤ 9000 := by
      intro x hx
      have := List.all_eq_true.1 k1 x hx
      unfold cellOk at this
      simp only [Bool.or_eq_true, decide_eq_true_eq] at this
      omega
    obtain ⟨vs, hvs⟩ : ∃ vs, vs = Go.Lib.compact ((l.filter openI).mergeSort fun x y => decide (x ≤ y)) := ⟨_, rfl⟩
    have hmem : ∀ u, u ∈ vs ↔ u ∈ l ∧ u ≠ -9999 := by
      intro u
      rw [hvs, compact_mem, List.mem_mergeSort, List.mem_filter]
      simp [openI]
    have hfl : (l.filter openI).length ≤ l.length := List.length_filter_le _ _
    have hvl : vs.length ≤ 64 := by
      rw [hvs]
      unfold Go.Lib.compact Go.Lib.compactUpTo
      rw [List.length_map]
      refine Nat.le_trans (List.length_filter_le _ _) ?_
      rw [List.length_range]
      show ((l.filter openI).mergeSort fun x y => decide (x ≤ y)).length ≤ 64
      rw [List.length_mergeSort]
      omega
    have hpw : vs.Pairwise (fun a b => a ≤ b) := by
      rw [hvs]
      refine compact_up ((List.pairwise_mergeSort (le := fun x y : Int => decide (x ≤ y)) (fun a b c h1 h2 => ?_) (fun a b => ?_) _).imp (fun h => of_decide_eq_true h))
      · rw [decide_eq_true_eq] at *; omega
      · simp only [Bool.or_eq_true, decide_eq_true_eq]; omega
    obtain ⟨best, found, num, den, hO⟩ := opt_ex (scV l l' lim l.length) (sc_form l l' lim l.length m1) vs
    have i2 := bestSpec_loop l l' lim w h w' h' l.length m1 rfl hn (fun j hj => by rw [getD_lt _ _ _ hj]; exact cells _ (List.getElem_mem hj)) best num den found (Opt.congr hO hmem)
    have i1 := bestImpl_loop l l' lim w h w' h' l.length m1 rfl hn vs vs.length rfl hvl (fun j hj => by rw [getD_lt _ _ _ hj]; exact cells _ ((hmem _).1 (List.getElem_mem hj)).1) (fun i j hij hj => by
      rw [getD_lt _ _ _ (by omega), getD_lt _ _ _ hj]
      exact List.pairwise_iff_getElem.1 hpw i j (by omega) hj hij) best num den found hO
    have vo := valuesOf_ev w h l (by omega)
    have i3 := countImpl2 l l' lim lim w' h' l.length m1 rfl hn
    have ta : ∀ u, scV l l' lim l.length u = threatV (ctT2 l l' (u - 1) lim l.length).1 (ctT2 l l' (u - 1) lim l.length).2.1 (ctT2 l l' (u - 1) lim l.length).2.2.1 (ctT2 l l' (u - 1) lim l.length).2.2.2 := fun u => rfl
    refine ⟨(best, num, den, found), (s1.and (vo.and i1)).mono ?_, (s2.and i2).mono ?_, fun hf => ⟨m1, ctT2 l l' lim lim l.length, (s1.and i3).mono ?_, fun hmm h2 => ?_⟩⟩
    · rintro k ⟨h1, h2, h3⟩
      have q1 : slices_Sort_int.f (l.filter openI) = some ((l.filter openI).mergeSort fun x y => decide (x ≤ y)) := by unfold slices_Sort_int.f; rw [if_pos (by omega)]
      have q2 : slices_Compact_int.f ((l.filter openI).mergeSort fun x y => decide (x ≤ y)) = some vs := by unfold slices_Compact_int.f; rw [if_pos (by rw [List.length_mergeSort]; omega), hvs]
      simp only [impl_BestLimit.f, h1, h2, q1, q2, h3, Option.bind_some, if_true]
    · rintro k ⟨h1, h2⟩; simp only [spec_BestLimit.f, h1, h2, Option.bind_some, if_true]
    · rintro k ⟨h1, h2⟩; simp only [impl_CountTable.f, impl_countTable.f, h1, h2, Option.bind_some, if_true]
    · dsimp only at hf
      subst hf
      have e := ta (lim + 1)
      rw [show lim + 1 - 1 = lim from by omega] at e
      rw [← e] at h2 ⊢
      have F := sc_form l l' lim l.length m1
      obtain ⟨v0, hv0, ho0, hb0, hn0, hd0⟩ := opt_found hO
      obtain ⟨_, _, _, _, _, _, best0⟩ := hO.2 rfl
      have hl := (best0 (lim + 1) ((hmem _).2 ⟨hmm, by omega⟩) h2).1
      unfold lessR at hl
      dsimp only
      rw [hn0, hd0] at hl ⊢
      rw [prod_id (F v0) (F (lim + 1)) ho0 h2, prod_id (F (lim + 1)) (F v0) h2 ho0]
      exact hl
def cmpV (x y : Int × Int × Bool) : Int × Bool := if x.2.2 = true ∧ y.2.2 = true then (if wrap64 (x.1 * y.2.1) < wrap64 (y.1 * x.2.1) then 2 else if wrap64 (y.1 * x.2.1) < wrap64 (x.1 * y.2.1) then 1 else 0, true) else (0, false)
theorem Compare_ev (a b c d e f g h : Int) : (Evt fun k => impl_CompareTables.f k a b c d e f g h = some (cmpV (threatV a b c d) (threatV e f g h))) ∧ (Evt fun k => spec_CompareTables.f k a b c d e f g h = some (cmpV (threatV a b c d) (threatV e f g h))) := by
  obtain ⟨i1, s1⟩ := Threat_ev a b c d
  obtain ⟨i2, s2⟩ := Threat_ev e f g h
  obtain ⟨⟨x0, x1, x2⟩, hx⟩ : ∃ x, x = threatV a b c d := ⟨_, rfl⟩
  obtain ⟨⟨y0, y1, y2⟩, hy⟩ : ∃ y, y = threatV e f g h := ⟨_, rfl⟩
  rw [← hx] at i1 s1 ⊢
  rw [← hy] at i2 s2 ⊢
  cases x2 with
  | false =>
    have ev : cmpV (x0, x1, false) (y0, y1, y2) = (0, false) := by simp [cmpV]
    rw [ev]
    refine ⟨(i1.and i2).mono fun k hk => ?_, Evt.succ ((s1.shift.and s2.shift).mono fun k hk => ?_)⟩
    · simp [impl_CompareTables.f, hk.1, hk.2]
    · simp [spec_CompareTables.f, spec_CompareTables.j0, hk.1, hk.2]
  | true =>
    cases y2 with
    | false =>
      have ev : cmpV (x0, x1, true) (y0, y1, false) = (0, false) := by simp [cmpV]
      rw [ev]
      refine ⟨(i1.and i2).mono fun k hk => ?_, Evt.succ ((s1.shift.and s2.shift).mono fun k hk => ?_)⟩
      · simp [impl_CompareTables.f, hk.1, hk.2]
      · simp [spec_CompareTables.f, spec_CompareTables.j0, hk.1, hk.2]
    | true =>
      obtain ⟨p, hp⟩ : ∃ p, p = wrap64 (x0 * y1) := ⟨_, rfl⟩
      obtain ⟨q, hq⟩ : ∃ q, q = wrap64 (y0 * x1) := ⟨_, rfl⟩
      have ev : cmpV (x0, x1, true) (y0, y1, true) = (if p < q then 2 else if q < p then 1 else 0, true) := by unfold cmpV; dsimp only; rw [if_pos ⟨rfl, rfl⟩, ← hp, ← hq]
      rw [ev]
      refine ⟨(i1.and i2).mono fun k hk => ?_, Evt.succ ((s1.shift.and s2.shift).mono fun k hk => ?_)⟩
      · simp only [impl_CompareTables.f, hk.1, hk.2, Option.bind_some, if_true, impl_compareRatios.f, cmp_Compare_int.f, cmp_isNaN_int.f, bne_self_eq_false, Bool.false_eq_true, if_false, ← hp, ← hq]
        by_cases c1 : p < q
        · rw [if_pos c1, if_pos c1]; simp only [Option.bind_some]; rw [show wrap64 (-1 + 3) = 2 from by unfold wrap64; omega]; rfl
        · rw [if_neg c1, if_neg c1]
          by_cases c2 : q < p
          · rw [if_pos c2, if_pos c2]; simp only [Option.bind_some]; rw [show wrap64 (1 + 3) = 4 from by unfold wrap64; omega]; rfl
          · rw [if_neg c2, if_neg c2]; simp only [Option.bind_some]; rw [show wrap64 (0 + 3) = 3 from by unfold wrap64; omega]; rfl
      · simp only [spec_CompareTables.f, spec_CompareTables.j0, hk.1, hk.2, Option.bind_some, if_true, spec_l20Less.f, ← hp, ← hq, Bool.not_true, Bool.false_eq_true, if_false, decide_eq_true_eq]
        by_cases c1 : q < p
        · rw [if_pos c1, if_neg (by omega), if_pos c1]
        · rw [if_neg c1]
          by_cases c2 : p < q
          · rw [if_pos c2, if_pos c2]
          · rw [if_neg c2, if_neg c2, if_neg c1]
theorem cmpV_swap (x y : Int × Int × Bool) : (cmpV y x).2 = (cmpV x y).2 ∧ Int.tmod (wrap64 ((cmpV x y).1 + (cmpV y x).1)) 3 = 0 := by
  unfold cmpV
  by_cases c : x.2.2 = true ∧ y.2.2 = true
  · rw [if_pos c, if_pos ⟨c.2, c.1⟩]
    generalize wrap64 (x.1 * y.2.1) = p
    generalize wrap64 (y.1 * x.2.1) = q
    refine ⟨rfl, ?_⟩
    dsimp only
    by_cases c1 : p < q
    · rw [if_pos c1, if_neg (by omega), if_pos c1, show wrap64 (2 + 1) = 3 from by unfold wrap64; omega]; rfl
    · by_cases c2 : q < p
      · rw [if_neg c1, if_pos c2, if_pos c2, show wrap64 (1 + 2) = 3 from by unfold wrap64; omega]; rfl
      · rw [if_neg c1, if_neg c2, if_neg c2, if_neg c1, show wrap64 (0 + 0) = 0 from by unfold wrap64; omega]; rfl
  · rw [if_neg c, if_neg (fun h => c ⟨h.2, h.1⟩)]
    exact ⟨rfl, by rw [show wrap64 (0 + 0) = 0 from by unfold wrap64; omega]; rfl⟩
def addT (a b c d e f g h : Int) : Int × Int × Int × Int × Bool := if goodB a b c d = true ∧ goodB e f g h = true ∧ goodB (wrap64 (a + e)) (wrap64 (b + f)) (wrap64 (c + g)) (wrap64 (d + h)) = true then (wrap64 (a + e), wrap64 (b + f), wrap64 (c + g), wrap64 (d + h), true) else (0, 0, 0, 0, false)
theorem addT_swap (a b c d e f g h : Int) : addT e f g h a b c d = addT a b c d e f g h := by
  unfold addT
  rw [Int.add_comm e a, Int.add_comm f b, Int.add_comm g c, Int.add_comm h d]
  by_cases q : goodB a b c d = true ∧ goodB e f g h = true ∧ goodB (wrap64 (a + e)) (wrap64 (b + f)) (wrap64 (c + g)) (wrap64 (d + h)) = true
  · rw [if_pos q, if_pos ⟨q.2.1, q.1, q.2.2⟩]
  · rw [if_neg q, if_neg (fun r => q ⟨r.2.1, r.1, r.2.2⟩)]
theorem Add_ev (a b c d e f g h : Int) : (Evt fun k => impl_AddTables.f k a b c d e f g h = some (addT a b c d e f g h)) ∧ spec_AddTables.f a b c d e f g h = some (addT a b c d e f g h) := by
  refine ⟨Evt.from 6 fun k hk => ?_, ?_⟩
  · obtain ⟨m, rfl⟩ : ∃ m, k = m + 1 := ⟨k - 1, by omega⟩
    simp only [addT, impl_AddTables.f, impl_AddTables.j0, isTable_ok _ _ _ _ (m + 1) (by omega), isTable_ok _ _ _ _ m (by omega), Option.bind_some]
    cases h1 : goodB a b c d <;> cases h2 : goodB e f g h <;> cases h3 : goodB (wrap64 (a + e)) (wrap64 (b + f)) (wrap64 (c + g)) (wrap64 (d + h)) <;> simp
  · simp only [addT, spec_AddTables.f, l20Good_ok, Option.bind_some]
    cases h1 : goodB a b c d <;> cases h2 : goodB e f g h <;> cases h3 : goodB (wrap64 (a + e)) (wrap64 (b + f)) (wrap64 (c + g)) (wrap64 (d + h)) <;> simp
theorem vHas_ev (l : List Int) (hl : l.length ≤ 64) (x : Int) : ∃ b, (b = true → x ∈ l) ∧ Evt fun k => laws_vHas.f k l x = some b := by
  unfold laws_vHas.f
  refine evt_loop_ex l.length (fun k (_ : Unit) i => laws_vHas.l0 k l x i) (fun b => b = true → x ∈ l) (fun _ _ => True) ?_ ?_ () trivial
  · rintro i s hi _
    by_cases c : l.getD i 0 = x
    · refine .inr ⟨true, fun _ => by rw [← c, getD_lt _ _ _ hi]; exact List.getElem_mem hi, Evt.succ (Evt.all fun k => ?_)⟩
      show laws_vHas.l0 (k + 1) l x (i : Int) = _
      simp only [laws_vHas.l0, rd_nat]
      rw [if_pos (by omega), if_pos (by omega), if_pos c]
    · refine .inl ⟨(), trivial, 1, Evt.all fun k => ?_⟩
      show laws_vHas.l0 (k + 1) l x (i : Int) = _
      simp only [laws_vHas.l0, rd_nat]
      rw [if_pos (by omega), if_pos (by omega), if_neg c, wrap_id (by omega) (by omega)]
  · rintro s _
    refine ⟨false, fun h => by simp at h, Evt.succ (Evt.all fun k => ?_)⟩
    show laws_vHas.l0 (k + 1) l x (l.length : Int) = _
    simp only [laws_vHas.l0]
    rw [if_neg (by omega)]
theorem FnLimits : laws_FnLimits.Pure := by
  intro l0 hl _ hw
  have hby := bytes_of l0 hw
  by_cases hbig : (l0.length : Int) > 65536
  · exact ⟨0, by simp [laws_FnLimits.f, laws_vBig.f, hbig]⟩
  obtain ⟨w, h, xs, w', h', ys, lim, hx, hy, hlim, g1⟩ := DrawCountTable_ev l0 hby
  obtain ⟨v, i1, i2, i3⟩ := best_law w h xs w' h' ys lim (by omega) (by omega) hlim
  obtain ⟨a, b, c, d, p, s, hd, hp0, hp1⟩ := table_draw l0 hby 0 0 (by omega) (by omega)
  obtain ⟨e, f, g, q, p2, s2, hd2, _⟩ := table_draw l0 hby p s (by omega) (by omega)
  have hadd : spec_DrawAddTables.f l0 = some (a, b, c, d, e, f, g, q) := by
    unfold spec_DrawAddTables.f
    rw [hd, Option.bind_some]; dsimp only
    rw [hd2, Option.bind_some]
  have hcmp : spec_DrawCompareTables.f l0 = some (a, b, c, d, e, f, g, q) := by
    unfold spec_DrawCompareTables.f
    rw [hadd, Option.bind_some]
  obtain ⟨a1, a2⟩ := Add_ev a b c d e f g q
  obtain ⟨a3, _⟩ := Add_ev e f g q a b c d
  rw [addT_swap] at a3
  obtain ⟨c1, c2⟩ := Compare_ev a b c d e f g q
  obtain ⟨c3, _⟩ := Compare_ev e f g q a b c d
  obtain ⟨w1, w2⟩ := cmpV_swap (threatV a b c d) (threatV e f g q)
  have J3 : Evt fun k => laws_FnLimits.j3 k l0 false = some true := by
    refine Evt.succ ((a1.and a3).mono ?_)
    rintro k ⟨q1, q2⟩
    simp only [laws_FnLimits.j3, hadd, Option.bind_some, q1, q2, a2, beq_self_eq_true, Bool.and_self, Bool.false_eq_true, if_false, if_true]
  have J2 : Evt fun k => laws_FnLimits.j2 k l0 = some true := by
    refine Evt.succ ((c1.and (c2.and (c3.and J3))).mono ?_)
    rintro k ⟨q1, q2, q3, q4⟩
    simp only [laws_FnLimits.j2, hcmp, Option.bind_some, q1, q2, q3, w1, bne_self_eq_false, Bool.false_eq_true, if_false, if_true]
    rw [w2]
    split
    · exact q4
    · exact q4
  have J1 : ∀ (bb : Bool) (n1 n2 t1 t2 t3 t4 : Int), (bb = true → (threatV t1 t2 t3 t4).2.2 = true → ¬ wrap64 (n1 * (threatV t1 t2 t3 t4).2.1) < wrap64 ((threatV t1 t2 t3 t4).1 * n2)) → Evt fun k => laws_FnLimits.j1 k l0 bb n1 n2 t1 t2 t3 t4 = some true := by
    intro bb n1 n2 t1 t2 t3 t4 hh
    cases bb with
    | false =>
      refine Evt.succ (J2.mono fun k hk => ?_)
      simp only [laws_FnLimits.j1, Bool.false_eq_true, if_false]
      exact hk
    | true =>
      refine Evt.succ (((Threat_ev t1 t2 t3 t4).1.and J2).mono ?_)
      rintro k ⟨q1, q2⟩
      simp only [laws_FnLimits.j1, q1, Option.bind_some, if_true]
      by_cases k1 : (threatV t1 t2 t3 t4).2.2 = true
      · rw [if_pos k1, if_neg (hh rfl k1)]; exact q2
      · rw [if_neg k1]; exact q2
  have wl : wrap64 (lim + 1) = lim + 1 := wrap_id (by omega) (by omega)
  have J0 : Evt fun k => laws_FnLimits.j0 k l0 lim v.2.2.2 false w h xs w' h' ys v.2.1 v.2.2.1 = some true := by
    cases hv : v.2.2.2 with
    | false =>
      refine Evt.succ (J2.mono fun k hk => ?_)
      simp only [laws_FnLimits.j0, Bool.false_eq_true, if_false]
      exact hk
    | true =>
      obtain ⟨hx2, t, i4, i5⟩ := i3 hv
      obtain ⟨bb, hbb, ev⟩ := vHas_ev xs hx2 (lim + 1)
      refine Evt.succ ((i4.and (ev.and (J1 bb v.2.1 v.2.2.1 t.1 t.2.1 t.2.2.1 t.2.2.2 (fun h1 h2 => i5 (hbb h1) h2)))).mono ?_)
      rintro k ⟨q1, q2, q3⟩
      simp only [laws_FnLimits.j0, Bool.false_eq_true, if_false, if_true, q1, Option.bind_some, wl, q2]
      exact q3
  obtain ⟨K, hK⟩ := (g1.and (i1.and (i2.and J0))).at
  have d0 := fun j => (hK j).1
  have d1 := fun j => (hK j).2.1
  have d2 := fun j => (hK j).2.2.1
  have d3 := fun j => (hK j).2.2.2
  refine ⟨K + 0, ?_⟩
  unfold laws_FnLimits.f
  simp only [laws_vBig.f, Option.bind_some, decide_eq_false hbig, spec_DrawBestLimit.f, d0, d1, d2, beq_self_eq_true, bne_self_eq_false, Bool.not_true, Bool.or_self, Bool.false_eq_true, if_false, if_true]
  exact d3 0
end Go.Proofs.Ytddgbaohepfekaa.Pure
