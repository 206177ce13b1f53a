/-
  The pure statement of the law FnScores: what its printed function answers is 'true' for all numbers and lists of its kinds. Conditions: the kinds' own bounds, as the statement lays them.
-/
import Derived.Test.YtddgbaohepfekaaXFnScoresx14
import Derived.DataShut
namespace Go.Proofs.Ytddgbaohepfekaa.Pure
open Go.RowKit Go.Proofs.Ytddgbaohepfekaa.XFnScores Go.Proofs.YtddgbaohepfekaaW.PrintWords Go.Proofs.YtddgbaohepfekaaW.PrintLast Go.Proofs.YtddgbaohepfekaaW.PrintMore
set_option linter.unusedVariables false
set_option linter.unusedSimpArgs false
theorem wrap_id {x : Int} (h0 : -9223372036854775808 ≤ x) (h1 : x ≤ 9223372036854775807) : wrap64 x = x := by unfold wrap64; omega
theorem rd_nat (xs : List Int) (i : Nat) : rd xs (i : Int) = xs.getD i 0 := by simp [rd]
theorem for_loop {σ ρ : Type} (K n : Nat) (L : Nat → σ → Int → Option ρ) (v : ρ) (Inv : Nat → σ → Prop)
    (step : ∀ k i s, K ≤ k → i < n → Inv i s → (∃ s', Inv (i + 1) s' ∧ L (k + 1) s (i : Int) = L k s' ((i : Int) + 1)) ∨ L (k + 1) s (i : Int) = some v)
    (fin : ∀ k s, K ≤ k → Inv n s → L (k + 1) s (n : Int) = some v) :
    ∀ k s, Inv 0 s → n + K < k → L k s 0 = some v := by
  have key : ∀ d k i s, i + d = n → Inv i s → d + K < k → L k s (i : Int) = some v := by
    intro d
    induction d with
    | zero =>
      intro k i s hi h hk
      obtain ⟨k, rfl⟩ : ∃ m, k = m + 1 := ⟨k - 1, by omega⟩
      obtain rfl : i = n := by omega
      exact fin k s (by omega) h
    | succ d ih =>
      intro k i s hi h hk
      obtain ⟨k, rfl⟩ : ∃ m, k = m + 1 := ⟨k - 1, by omega⟩
      rcases step k i s (by omega) (by omega) h with ⟨s', h', e⟩ | e
      · rw [e]
        have := ih k (i + 1) s' (by omega) h' (by omega)
        rw [show ((i + 1 : Nat) : Int) = (i : Int) + 1 from by omega] at this
        exact this
      · exact e
  intro k s h hk
  exact key n k 0 s (by omega) h hk
theorem getD_drop {α : Type} (xs : List α) (z : α) (i : Nat) (h : i < xs.length) : xs.drop i = xs.getD i z :: xs.drop (i + 1) := by
  rw [List.drop_eq_getElem_cons h, List.getD_eq_getElem?_getD, List.getElem?_eq_getElem h]; rfl
theorem all_loop {α : Type} (K : Nat) (xs : List α) (z : α) (p : α → Bool) (L : Nat → Int → Option Bool)
    (step : ∀ k i, K ≤ k → i < xs.length → L (k + 1) (i : Int) = if p (xs.getD i z) = true then L k ((i : Int) + 1) else some false)
    (fin : ∀ k, K ≤ k → L (k + 1) (xs.length : Int) = some true) : ∀ k, xs.length + K < k → L k 0 = some (xs.all p) := by
  intro k hk
  refine for_loop K xs.length (fun k (_ : Unit) i => L k i) (xs.all p) (fun i _ => (xs.drop i).all p = xs.all p) ?_ ?_ k () (by simp) hk
  · intro k i s hK hi h
    rw [getD_drop xs z i hi, List.all_cons] at h
    by_cases hp : p (xs.getD i z) = true
    · refine .inl ⟨(), by rw [hp, Bool.true_and] at h; exact h, ?_⟩
      show L (k + 1) (i : Int) = _
      rw [step k i hK hi, if_pos hp]
    · refine .inr ?_
      show L (k + 1) (i : Int) = _
      rw [step k i hK hi, if_neg hp, ← h, (Bool.eq_false_iff.2 hp : p (xs.getD i z) = false), Bool.false_and]
  · intro k s hK h
    rw [List.drop_of_length_le (Nat.le_refl _)] at h
    show L (k + 1) (xs.length : Int) = _
    rw [fin k hK, ← h]; rfl
def Evt (P : Nat → Prop) : Prop := ∃ K, ∀ k, K ≤ k → P k
theorem Evt.all {P : Nat → Prop} (h : ∀ k, P k) : Evt P := ⟨0, fun k _ => h k⟩
theorem Evt.from {P : Nat → Prop} (K : Nat) (h : ∀ k, K ≤ k → P k) : Evt P := ⟨K, h⟩
theorem Evt.and {P Q : Nat → Prop} (h : Evt P) (g : Evt Q) : Evt fun k => P k ∧ Q k := by
  obtain ⟨K, h⟩ := h
  obtain ⟨M, g⟩ := g
  exact ⟨K + M, fun k hk => ⟨h k (by omega), g k (by omega)⟩⟩
theorem Evt.mono {P Q : Nat → Prop} (h : Evt P) (g : ∀ k, P k → Q k) : Evt Q := by
  obtain ⟨K, h⟩ := h
  exact ⟨K, fun k hk => g k (h k hk)⟩
theorem Evt.succ {Q : Nat → Prop} (h : Evt fun k => Q (k + 1)) : Evt Q := by
  obtain ⟨K, h⟩ := h
  refine ⟨K + 1, fun k hk => ?_⟩
  obtain ⟨m, rfl⟩ : ∃ m, k = m + 1 := ⟨k - 1, by omega⟩
  exact h m (by omega)
theorem Evt.add {Q : Nat → Prop} (c : Nat) (h : Evt fun k => Q (k + c)) : Evt Q := by
  obtain ⟨K, h⟩ := h
  refine ⟨K + c, fun k hk => ?_⟩
  obtain ⟨m, rfl⟩ : ∃ m, k = m + c := ⟨k - c, by omega⟩
  exact h m (by omega)
theorem Evt.at {P : Nat → Prop} (h : Evt P) : ∃ K, ∀ j, P (K + j) := by
  obtain ⟨K, h⟩ := h
  exact ⟨K, fun j => h _ (by omega)⟩
theorem evt_loop {σ ρ : Type} (n : Nat) (L : Nat → σ → Int → Option ρ) (v : ρ) (Inv : Nat → σ → Prop)
    (step : ∀ i s, i < n → Inv i s → (∃ s', Inv (i + 1) s' ∧ ∃ c, Evt fun k => L (k + c) s (i : Int) = L k s' ((i : Int) + 1)) ∨ Evt fun k => L k s (i : Int) = some v)
    (fin : ∀ s, Inv n s → Evt fun k => L k s (n : Int) = some v) :
    ∀ i s, i ≤ n → Inv i s → Evt fun k => L k s (i : Int) = some v := by
  have key : ∀ d i s, i + d = n → Inv i s → Evt fun k => L k s (i : Int) = some v := by
    intro d
    induction d with
    | zero =>
      intro i s hi h
      obtain rfl : i = n := by omega
      exact fin s h
    | succ d ih =>
      intro i s hi h
      rcases step i s (by omega) h with ⟨s', h', c, e⟩ | e
      · have h2 := ih (i + 1) s' (by omega) h'
        rw [show ((i + 1 : Nat) : Int) = (i : Int) + 1 from by omega] at h2
        exact Evt.add c ((e.and h2).mono fun k hk => hk.1.trans hk.2)
      · exact e
  intro i s hi h
  exact key (n - i) i s (by omega) h
theorem evt_loop0 {σ ρ : Type} (n : Nat) (L : Nat → σ → Int → Option ρ) (v : ρ) (Inv : Nat → σ → Prop)
    (step : ∀ i s, i < n → Inv i s → (∃ s', Inv (i + 1) s' ∧ ∃ c, Evt fun k => L (k + c) s (i : Int) = L k s' ((i : Int) + 1)) ∨ Evt fun k => L k s (i : Int) = some v)
    (fin : ∀ s, Inv n s → Evt fun k => L k s (n : Int) = some v) (s : σ) (h0 : Inv 0 s) : Evt fun k => L k s 0 = some v :=
  evt_loop n L v Inv step fin 0 s (Nat.zero_le _) h0
theorem evt_loop_ex {σ ρ : Type} (n : Nat) (L : Nat → σ → Int → Option ρ) (R : ρ → Prop) (Inv : Nat → σ → Prop)
    (step : ∀ i s, i < n → Inv i s → (∃ s', Inv (i + 1) s' ∧ ∃ c, Evt fun k => L (k + c) s (i : Int) = L k s' ((i : Int) + 1)) ∨ ∃ v, R v ∧ Evt fun k => L k s (i : Int) = some v)
    (fin : ∀ s, Inv n s → ∃ v, R v ∧ Evt fun k => L k s (n : Int) = some v) (s : σ) (h0 : Inv 0 s) : ∃ v, R v ∧ Evt fun k => L k s 0 = some v := by
  have key : ∀ d i s, i + d = n → Inv i s → ∃ v, R v ∧ Evt fun k => L k s (i : Int) = some v := by
    intro d
    induction d with
    | zero =>
      intro i s hi h
      obtain rfl : i = n := by omega
      exact fin s h
    | succ d ih =>
      intro i s hi h
      rcases step i s (by omega) h with ⟨s', h', c, e⟩ | e
      · obtain ⟨v, hv, h2⟩ := ih (i + 1) s' (by omega) h'
        rw [show ((i + 1 : Nat) : Int) = (i : Int) + 1 from by omega] at h2
        exact ⟨v, hv, Evt.add c ((e.and h2).mono fun k hk => hk.1.trans hk.2)⟩
      · exact e
  exact key n 0 s (by omega) h0
theorem u64_range (x : Int) : 0 ≤ IntKind.u64.wrap x ∧ IntKind.u64.wrap x ≤ 18446744073709551615 := by
  simp [IntKind.wrap, IntKind.signed, IntKind.bits]; omega
theorem and255 (x : Int) : 0 ≤ wrap64 (Go.bits .and .u64 (IntKind.u64.wrap x / 1099511627776) 255) ∧ wrap64 (Go.bits .and .u64 (IntKind.u64.wrap x / 1099511627776) 255) ≤ 255 := by
  obtain ⟨h0, h1⟩ := u64_range x
  obtain ⟨y, hy⟩ : ∃ y, y = IntKind.u64.wrap x / 1099511627776 := ⟨_, rfl⟩
  rw [← hy]
  have h := bits_and_u64_nat y.toNat 255 (by omega) (by omega)
  have e : ((y.toNat : Nat) : Int) = y := by omega
  have h2 : bits BinOp.and IntKind.u64 y 255 = ((y.toNat &&& 255 : Nat) : Int) := by rw [← e]; exact h
  have h3 : y.toNat &&& 255 ≤ 255 := Nat.and_le_right
  rw [show Go.bits .and .u64 y 255 = bits BinOp.and IntKind.u64 y 255 from rfl, h2, wrap_id (by omega) (by omega)]
  omega
theorem next_ok (l : List Int) (hb : ∀ x ∈ l, 0 ≤ x ∧ x ≤ 255) (p s : Int) (h0 : 0 ≤ p) (h1 : p ≤ 4611686018427387904) : ∃ v s', spec_l1Cur_next.f l p s = some (v, p + 1, s') ∧ 0 ≤ v ∧ v ≤ 255 := by
  unfold spec_l1Cur_next.f
  have e : wrap64 (p + 1) = p + 1 := wrap_id (by omega) (by omega)
  by_cases c : p < (l.length : Int)
  · have hm : rd l p ∈ l := by
      have : rd l p = l.getD p.toNat 0 := by simp [rd]
      rw [this, List.getD_eq_getElem?_getD, List.getElem?_eq_getElem (by omega), Option.getD_some]
      exact List.getElem_mem _
    obtain ⟨b0, b1⟩ := hb _ hm
    rw [if_pos c, if_pos h0, e, if_pos (by omega)]
    exact ⟨_, _, rfl, by rw [wrap_id (by omega) (by omega)]; exact ⟨b0, b1⟩⟩
  · rw [if_neg c, e, if_neg (by omega)]
    exact ⟨_, _, rfl, and255 _⟩
theorem tmod_range (x a : Int) (h0 : 0 ≤ x) (ha : 1 ≤ a) : 0 ≤ Int.tmod x a ∧ Int.tmod x a < a := ⟨Int.tmod_nonneg a h0, Int.tmod_lt_of_pos x (by omega)⟩
theorem pick_ok (l : List Int) (hb : ∀ x ∈ l, 0 ≤ x ∧ x ≤ 255) (p s a : Int) (h0 : 0 ≤ p) (h1 : p ≤ 4611686018427387000) (ha : 1 ≤ a) :
    ∃ v p' s', spec_l1Cur_pick.f l p s a = some (v, p', s') ∧ p ≤ p' ∧ p' ≤ p + 2 ∧ 0 ≤ v ∧ v < a := by
  unfold spec_l1Cur_pick.f
  by_cases c : a ≤ 1
  · rw [if_pos c]; exact ⟨0, p, s, rfl, by omega, by omega, by omega, by omega⟩
  · obtain ⟨v, s1, e1, v0, v1⟩ := next_ok l hb p s h0 (by omega)
    rw [if_neg c, e1, Option.bind_some]
    by_cases c2 : a > 200
    · obtain ⟨u, s2, e2, u0, u1⟩ := next_ok l hb (p + 1) s1 (by omega) (by omega)
      rw [if_pos c2]; dsimp only; rw [e2, Option.bind_some, if_neg (by omega)]
      have q : 0 ≤ wrap64 (wrap64 (v * 256) + u) := by rw [wrap_id (x := v * 256) (by omega) (by omega), wrap_id (by omega) (by omega)]; omega
      exact ⟨_, _, _, rfl, by dsimp only; omega, by dsimp only; omega, tmod_range _ a q ha⟩
    · rw [if_neg c2, if_neg (by omega)]
      exact ⟨_, _, _, rfl, by dsimp only; omega, by dsimp only; omega, tmod_range _ a v0 ha⟩
theorem one_ok (l : List Int) (hb : ∀ x ∈ l, 0 ≤ x ∧ x ≤ 255) (p s a : Int) (h0 : 0 ≤ p) (h1 : p ≤ 4611686018427387000) (ha : 1 ≤ a) :
    ∃ b p' s', spec_l1Cur_one.f l p s a = some (b, p', s') ∧ p ≤ p' ∧ p' ≤ p + 2 := by
  obtain ⟨v, p', s', e, q0, q1, _, _⟩ := pick_ok l hb p s a h0 h1 ha
  unfold spec_l1Cur_one.f
  rw [e]; exact ⟨_, _, _, rfl, q0, q1⟩
theorem among_ok (l : List Int) (hb : ∀ x ∈ l, 0 ≤ x ∧ x ≤ 255) (p s : Int) (h0 : 0 ≤ p) (h1 : p ≤ 4611686018427387000) (xs : List Int) (hx : 1 ≤ xs.length) :
    ∃ v p' s', spec_l1Cur_among.f l p s xs = some (v, p', s') ∧ p ≤ p' ∧ p' ≤ p + 2 ∧ v ∈ xs := by
  obtain ⟨v, p', s', e, q0, q1, v0, v1⟩ := pick_ok l hb p s (xs.length : Int) h0 h1 (by omega)
  unfold spec_l1Cur_among.f
  rw [e, Option.bind_some, if_pos v0, if_pos v1]
  refine ⟨_, _, _, rfl, q0, q1, ?_⟩
  have : rd xs v = xs.getD v.toNat 0 := by simp [rd]
  dsimp only
  rw [this, List.getD_eq_getElem?_getD, List.getElem?_eq_getElem (by omega), Option.getD_some]
  exact List.getElem_mem _
theorem bytes_of (l : List Int) (h : ∀ x ∈ l, (Lit.int .u8 x).wf = true) : ∀ x ∈ l, 0 ≤ x ∧ x ≤ 255 := by
  intro x hx
  have := h x hx
  simpa [Lit.wf, IntKind.min, IntKind.max, IntKind.signed, IntKind.bits] using this
theorem l2Fill_ev (w h v : Int) (n : Nat) (hn : w * h = (n : Int)) (hn2 : n ≤ 64) : ∃ r : Int × Int × List Int, (r.2.2.length = n) ∧ Evt fun k => spec_l2Fill.f k w h v = some r := by
  unfold spec_l2Fill.f
  refine evt_loop_ex n (fun k (q : List Int) i => spec_l2Fill.l0 k w h v i w h q) _ (fun i q => q.length = i) ?_ ?_ [] rfl
  · rintro i q hi e
    refine .inl ⟨q ++ [v], by simp [e], 1, Evt.all fun k => ?_⟩
    show spec_l2Fill.l0 (k + 1) w h v (i : Int) w h q = _
    simp only [spec_l2Fill.l0]
    rw [hn, wrap_id (x := (n : Int)) (by omega) (by omega), if_pos (by omega), if_pos (by omega), wrap_id (by omega) (by omega)]
  · rintro q e
    refine ⟨(w, h, q), e, Evt.succ (Evt.all fun k => ?_)⟩
    show spec_l2Fill.l0 (k + 1) w h v (n : Int) w h q = _
    simp only [spec_l2Fill.l0]
    rw [hn, wrap_id (x := (n : Int)) (by omega) (by omega), if_neg (by omega)]
theorem fieldJ_ev (l : List Int) (hb : ∀ x ∈ l, 0 ≤ x ∧ x ≤ 255) (p s : Int) (h0 : 0 ≤ p) (h1 : p ≤ 4611686018427386000) (w h : Int) (xs : List Int) (hx : 1 ≤ xs.length ∧ xs.length ≤ 64) :
    ∃ r : Int × Int × List Int × Int × Int, ((1 ≤ r.2.2.1.length ∧ r.2.2.1.length ≤ 64) ∧ p ≤ r.2.2.2.1 ∧ r.2.2.2.1 ≤ p + 2) ∧ Evt fun k => spec_l1Cur_field.j1 k l p s w h xs = some r := by
  obtain ⟨b, p', s', e, a1, b1⟩ := one_ok l hb p s 24 h0 (by omega) (by omega)
  cases b with
  | true =>
    obtain ⟨q, hq, ev⟩ := l2Fill_ev 8 8 3 64 rfl (Nat.le_refl _)
    refine ⟨(q.1, q.2.1, q.2.2, p', s'), ⟨⟨by dsimp only; omega, by dsimp only; omega⟩, a1, b1⟩, Evt.succ (ev.mono fun k hk => ?_)⟩
    simp only [spec_l1Cur_field.j1]
    rw [e, Option.bind_some, if_pos rfl, hk, Option.bind_some]
  | false =>
    refine ⟨(w, h, xs, p', s'), ⟨hx, a1, b1⟩, Evt.succ (Evt.all fun k => ?_)⟩
    simp only [spec_l1Cur_field.j1]
    rw [e, Option.bind_some, if_neg (by simp)]
theorem field_draw (l : List Int) (hb : ∀ x ∈ l, 0 ≤ x ∧ x ≤ 255) (p s : Int) (h0 : 0 ≤ p) (h1 : p ≤ 4611686018427385000) :
    ∃ r : Int × Int × List Int × Int × Int, ((1 ≤ r.2.2.1.length ∧ r.2.2.1.length ≤ 64) ∧ p ≤ r.2.2.2.1 ∧ r.2.2.2.1 ≤ p + 120) ∧ Evt fun k => spec_l1Cur_field.f k l p s = some r := by
  obtain ⟨v1, p1, s1, e1, a1, b1, v10, v11⟩ := pick_ok l hb p s 5 h0 (by omega) (by omega)
  obtain ⟨v2, p2, s2, e2, a2, b2, v20, v21⟩ := pick_ok l hb p1 s1 5 (by omega) (by omega) (by omega)
  obtain ⟨v3, p3, s3, e3, a3, b3, m3⟩ := among_ok l hb p2 s2 (by omega) (by omega) [0, 10, 100, -50] (by decide)
  have w1 : wrap64 (1 + v1) = 1 + v1 := wrap_id (by omega) (by omega)
  have w2 : wrap64 (1 + v2) = 1 + v2 := wrap_id (by omega) (by omega)
  obtain ⟨n, hn, n1, n2⟩ : ∃ n : Nat, (1 + v1) * (1 + v2) = (n : Int) ∧ 1 ≤ n ∧ n ≤ 25 := by
    have g : v1 = 0 ∨ v1 = 1 ∨ v1 = 2 ∨ v1 = 3 ∨ v1 = 4 := by omega
    refine ⟨((1 + v1) * (1 + v2)).toNat, ?_, ?_, ?_⟩ <;> rcases g with g | g | g | g | g <;> subst g <;> omega
  have m3' : -50 ≤ v3 ∧ v3 ≤ 100 := by
    simp only [List.mem_cons, List.not_mem_nil, or_false] at m3; omega
  have main : ∃ r : Int × Int × List Int × Int × Int, ((1 ≤ r.2.2.1.length ∧ r.2.2.1.length ≤ 64) ∧ p ≤ r.2.2.2.1 ∧ r.2.2.2.1 ≤ p + 120) ∧ Evt fun k => spec_l1Cur_field.l0 k v3 0 l p3 s3 (1 + v1) (1 + v2) [] = some r := by
    refine evt_loop_ex n (fun k (q : List Int × Int × Int) i => spec_l1Cur_field.l0 k v3 i l q.2.1 q.2.2 (1 + v1) (1 + v2) q.1) _
      (fun i q => q.1.length = i ∧ p ≤ q.2.1 ∧ q.2.1 ≤ p + 6 + 4 * i) ?_ ?_ ([], p3, s3) ⟨rfl, by dsimp only; omega, by dsimp only; omega⟩
    · rintro i ⟨xs, q, t⟩ hi ⟨i1, i2, i3⟩
      dsimp only at i1 i2 i3
      obtain ⟨u, p4, s4, e4, a4, b4, u0, u1⟩ := pick_ok l hb q t 40 (by omega) (by omega) (by omega)
      obtain ⟨y, p5, s5, e5, a5, b5⟩ := one_ok l hb p4 s4 12 (by omega) (by omega) (by omega)
      refine .inl ⟨(xs ++ [if y = true then -9999 else wrap64 (v3 + u)], p5, s5), ⟨by simp [i1], by dsimp only; omega, by dsimp only; omega⟩, 1, Evt.all fun k => ?_⟩
      show spec_l1Cur_field.l0 (k + 1) v3 (i : Int) l q t (1 + v1) (1 + v2) xs = _
      simp only [spec_l1Cur_field.l0]
      rw [hn, wrap_id (x := (n : Int)) (by omega) (by omega), if_pos (by omega), e4, Option.bind_some]; dsimp only
      rw [e5, Option.bind_some, wrap_id (x := (i : Int) + 1) (by omega) (by omega)]
      cases y with
      | true => rw [if_pos rfl, if_pos (by omega), if_pos rfl]
      | false => rw [if_neg (by simp), if_pos (by omega), if_neg (by simp)]
    · rintro ⟨xs, q, t⟩ ⟨i1, i2, i3⟩
      dsimp only at i1 i2 i3
      obtain ⟨y, p4, s4, e4, a4, b4⟩ := one_ok l hb q t 10 (by omega) (by omega) (by omega)
      cases y with
      | true =>
        obtain ⟨u, p5, s5, e5, a5, b5, u0, u1⟩ := pick_ok l hb p4 s4 (xs.length : Int) (by omega) (by omega) (by omega)
        obtain ⟨v, p6, s6, e6, a6, b6, _⟩ := among_ok l hb p5 s5 (by omega) (by omega) [9000, -9000, 0] (by decide)
        obtain ⟨r, ⟨hr, r1, r2⟩, ev⟩ := fieldJ_ev l hb p6 s6 (by omega) (by omega) (1 + v1) (1 + v2) (xs.set (u : Int).toNat v) (by rw [List.length_set]; omega)
        refine ⟨r, ⟨hr, by omega, by omega⟩, Evt.succ (ev.mono fun k hk => ?_)⟩
        show spec_l1Cur_field.l0 (k + 1) v3 (n : Int) l q t (1 + v1) (1 + v2) xs = _
        simp only [spec_l1Cur_field.l0]
        rw [hn, wrap_id (x := (n : Int)) (by omega) (by omega), if_neg (by omega), e4, Option.bind_some, if_pos rfl]; dsimp only
        rw [e5, Option.bind_some]; dsimp only
        rw [e6, Option.bind_some, if_pos (by omega), if_pos (by omega)]; dsimp only
        exact hk
      | false =>
        obtain ⟨r, ⟨hr, r1, r2⟩, ev⟩ := fieldJ_ev l hb p4 s4 (by omega) (by omega) (1 + v1) (1 + v2) xs (by omega)
        refine ⟨r, ⟨hr, by omega, by omega⟩, Evt.succ (ev.mono fun k hk => ?_)⟩
        show spec_l1Cur_field.l0 (k + 1) v3 (n : Int) l q t (1 + v1) (1 + v2) xs = _
        simp only [spec_l1Cur_field.l0]
        rw [hn, wrap_id (x := (n : Int)) (by omega) (by omega), if_neg (by omega), e4, Option.bind_some, if_neg (by simp)]
        exact hk
  obtain ⟨r, hr, ev⟩ := main
  refine ⟨r, hr, ev.mono fun k hk => ?_⟩
  unfold spec_l1Cur_field.f
  rw [e1, Option.bind_some]; dsimp only
  rw [e2, Option.bind_some]; dsimp only
  rw [e3, Option.bind_some, w1, w2]
  exact hk
theorem anyField_draw (l : List Int) (hb : ∀ x ∈ l, 0 ≤ x ∧ x ≤ 255) (p s : Int) (h0 : 0 ≤ p) (h1 : p ≤ 4611686018427384000) :
    ∃ r : Int × Int × List Int × Int × Int, (r.2.2.1.length ≤ 64 ∧ p ≤ r.2.2.2.1 ∧ r.2.2.2.1 ≤ p + 130) ∧ Evt fun k => spec_l1Cur_anyField.f k l p s = some r := by
  obtain ⟨⟨w, h, xs, p1, s1⟩, ⟨⟨x1, x2⟩, a1, b1⟩, ev⟩ := field_draw l hb p s h0 (by omega)
  dsimp only at x1 x2 a1 b1
  obtain ⟨v, p2, s2, e2, a2, b2, v0, v1⟩ := pick_ok l hb p1 s1 24 (by omega) (by omega) (by omega)
  by_cases k0 : v = 0
  · obtain ⟨u, p3, s3, e3, a3, b3, _⟩ := among_ok l hb p2 s2 (by omega) (by omega) [0, 9, 8, h] (by simp)
    refine ⟨(u, h, xs, p3, s3), ⟨x2, by dsimp only; omega, by dsimp only; omega⟩, ev.mono fun k hk => ?_⟩
    unfold spec_l1Cur_anyField.f
    rw [hk, Option.bind_some]; dsimp only
    rw [e2, Option.bind_some, if_pos k0]; dsimp only
    rw [e3, Option.bind_some]
  · by_cases k1 : v = 1
    · obtain ⟨u, p3, s3, e3, a3, b3, u0, u1⟩ := pick_ok l hb p2 s2 (xs.length : Int) (by omega) (by omega) (by omega)
      obtain ⟨y, p4, s4, e4, a4, b4, _⟩ := among_ok l hb p3 s3 (by omega) (by omega) [9001, -9001, -9998, -9999] (by decide)
      refine ⟨(w, h, xs.set (u : Int).toNat y, p4, s4), ⟨by rw [List.length_set]; exact x2, by dsimp only; omega, by dsimp only; omega⟩, ev.mono fun k hk => ?_⟩
      unfold spec_l1Cur_anyField.f
      rw [hk, Option.bind_some]; dsimp only
      rw [e2, Option.bind_some, if_neg k0, if_pos k1]; dsimp only
      rw [e3, Option.bind_some]; dsimp only
      rw [e4, Option.bind_some, if_pos u0, if_pos u1]
    · by_cases k2 : v = 2
      · refine ⟨(w, h, xs.drop (1 : Int).toNat, p2, s2), ⟨by dsimp only; rw [List.length_drop]; omega, by dsimp only; omega, by dsimp only; omega⟩, ev.mono fun k hk => ?_⟩
        unfold spec_l1Cur_anyField.f
        rw [hk, Option.bind_some]; dsimp only
        rw [e2, Option.bind_some, if_neg k0, if_neg k1, if_pos k2, if_pos (by omega)]
      · refine ⟨(w, h, xs, p2, s2), ⟨x2, by dsimp only; omega, by dsimp only; omega⟩, ev.mono fun k hk => ?_⟩
        unfold spec_l1Cur_anyField.f
        rw [hk, Option.bind_some]; dsimp only
        rw [e2, Option.bind_some, if_neg k0, if_neg k1, if_neg k2]
theorem like_step (l : List Int) (hb : ∀ x ∈ l, 0 ≤ x ∧ x ≤ 255) (q t : Int) (h0 : 0 ≤ q) (h1 : q ≤ 4611686018427386000) (w h : Int) (xs : List Int) (i : Nat) (hi : i < xs.length) (hx : xs.length ≤ 64) :
    ∃ ys p' s', List.length ys = xs.length ∧ q ≤ p' ∧ p' ≤ q + 4 ∧ ∀ k, spec_l1Cur_like.l0 (k + 1) (i : Int) l q t w h xs = spec_l1Cur_like.l0 k ((i : Int) + 1) l p' s' w h ys := by
  have wi : wrap64 ((i : Int) + 1) = (i : Int) + 1 := wrap_id (by omega) (by omega)
  have c0 : (i : Int) < (xs.length : Int) := by omega
  have c1 : 0 ≤ (i : Int) := by omega
  obtain ⟨u, p4, s4, e4, a4, b4, u0, u1⟩ := pick_ok l hb q t 5 h0 (by omega) (by omega)
  by_cases k0 : u = 0
  · obtain ⟨v, p5, s5, e5, a5, b5, _⟩ := pick_ok l hb p4 s4 40 (by omega) (by omega) (by omega)
    refine ⟨xs.set (i : Int).toNat v, p5, s5, List.length_set, by omega, by omega, fun k => ?_⟩
    simp only [spec_l1Cur_like.l0]
    rw [if_pos c0, e4, Option.bind_some, if_pos k0]; dsimp only
    rw [e5, Option.bind_some, if_pos c1, wi]
  · by_cases k1 : u = 1
    · obtain ⟨y, p6, s6, e6, a6, b6⟩ := one_ok l hb p4 s4 3 (by omega) (by omega) (by omega)
      cases y with
      | true =>
        refine ⟨xs.set (i : Int).toNat (-9999), p6, s6, List.length_set, by omega, by omega, fun k => ?_⟩
        simp only [spec_l1Cur_like.l0]
        rw [if_pos c0, e4, Option.bind_some, if_neg k0, if_pos k1]; dsimp only
        rw [e6, Option.bind_some, if_pos rfl, if_pos c1, wi]
      | false =>
        refine ⟨xs, p6, s6, rfl, by omega, by omega, fun k => ?_⟩
        simp only [spec_l1Cur_like.l0]
        rw [if_pos c0, e4, Option.bind_some, if_neg k0, if_pos k1]; dsimp only
        rw [e6, Option.bind_some, if_neg (by simp), wi]
    · refine ⟨xs, p4, s4, rfl, by omega, by omega, fun k => ?_⟩
      simp only [spec_l1Cur_like.l0]
      rw [if_pos c0, e4, Option.bind_some, if_neg k0, if_neg k1, wi]
theorem like_draw (l : List Int) (hb : ∀ x ∈ l, 0 ≤ x ∧ x ≤ 255) (p s : Int) (h0 : 0 ≤ p) (h1 : p ≤ 4611686018427383000) (w h : Int) (zs : List Int) (hz : zs.length ≤ 64) :
    ∃ r : Int × Int × List Int × Int × Int, (r.2.2.1.length ≤ 64 ∧ p ≤ r.2.2.2.1 ∧ r.2.2.2.1 ≤ p + 500) ∧ Evt fun k => spec_l1Cur_like.f k l p s w h zs = some r := by
  have main : ∃ r : Int × Int × List Int × Int × Int, (r.2.2.1.length ≤ 64 ∧ p ≤ r.2.2.2.1 ∧ r.2.2.2.1 ≤ p + 500) ∧ Evt fun k => spec_l1Cur_like.l0 k 0 l p s w h zs = some r := by
    refine evt_loop_ex zs.length (fun k (q : List Int × Int × Int) i => spec_l1Cur_like.l0 k i l q.2.1 q.2.2 w h q.1) _
      (fun i q => q.1.length = zs.length ∧ p ≤ q.2.1 ∧ q.2.1 ≤ p + 4 * i) ?_ ?_ (zs, p, s) ⟨rfl, by dsimp only; omega, by dsimp only; omega⟩
    · rintro i ⟨xs, q, t⟩ hi ⟨i1, i2, i3⟩
      dsimp only at i1 i2 i3
      obtain ⟨ys, p', s', l1, l2, l3, e⟩ := like_step l hb q t (by omega) (by omega) w h xs i (by omega) (by omega)
      exact .inl ⟨(ys, p', s'), ⟨l1.trans i1, Int.le_trans i2 l2, by dsimp only; omega⟩, 1, Evt.all e⟩
    · rintro ⟨xs, q, t⟩ ⟨i1, i2, i3⟩
      dsimp only at i1 i2 i3
      obtain ⟨y, p4, s4, e4, a4, b4⟩ := one_ok l hb q t 16 (by omega) (by omega) (by omega)
      cases y with
      | true =>
        obtain ⟨r, ⟨⟨r0, r1⟩, r2, r3⟩, ev⟩ := field_draw l hb p4 s4 (by omega) (by omega)
        refine ⟨r, ⟨r1, by omega, by omega⟩, Evt.succ (ev.mono fun k hk => ?_)⟩
        show spec_l1Cur_like.l0 (k + 1) (zs.length : Int) l q t w h xs = _
        simp only [spec_l1Cur_like.l0]
        rw [if_neg (by omega), e4, Option.bind_some, if_pos rfl]; dsimp only
        rw [hk, Option.bind_some]
      | false =>
        refine ⟨(w, h, xs, p4, s4), ⟨by dsimp only; omega, by dsimp only; omega, by dsimp only; omega⟩, Evt.succ (Evt.all fun k => ?_)⟩
        show spec_l1Cur_like.l0 (k + 1) (zs.length : Int) l q t w h xs = _
        simp only [spec_l1Cur_like.l0]
        rw [if_neg (by omega), e4, Option.bind_some, if_neg (by simp)]
  obtain ⟨r, hr, ev⟩ := main
  refine ⟨r, hr, ev.mono fun k hk => ?_⟩
  unfold spec_l1Cur_like.f spec_l2Own.f spec_l1Own.f
  rw [Option.bind_some, if_pos (by simp only [List.length_nil]; omega), Option.bind_some, Option.bind_some, List.nil_append]
  exact hk
theorem DrawCountTable_ev (l : List Int) (hb : ∀ x ∈ l, 0 ≤ x ∧ x ≤ 255) : ∃ w h xs w' h' ys lim, List.length xs ≤ 64 ∧ List.length ys ≤ 64 ∧ (-30 ≤ lim ∧ lim ≤ 110) ∧ Evt fun k => spec_DrawCountTable.f k l = some (w, h, xs, w', h', ys, lim) := by
  obtain ⟨⟨w, h, xs, p, s⟩, ⟨x1, a1, b1⟩, e1⟩ := anyField_draw l hb 0 0 (by omega) (by omega)
  dsimp only at x1 a1 b1
  obtain ⟨⟨w', h', ys, p2, s2⟩, ⟨y1, a2, b2⟩, e2⟩ := like_draw l hb p s (by omega) (by omega) w h xs x1
  dsimp only at y1 a2 b2
  obtain ⟨lim, p3, s3, e3, _, _, m⟩ := among_ok l hb p2 s2 (by omega) (by omega) [5, 15, 25, 110, -30, 0] (by decide)
  simp only [List.mem_cons, List.not_mem_nil, or_false] at m
  refine ⟨w, h, xs, w', h', ys, lim, x1, y1, by omega, (e1.and e2).mono ?_⟩
  rintro k ⟨h1, h2⟩
  unfold spec_DrawCountTable.f
  rw [h1, Option.bind_some]; dsimp only
  rw [h2, Option.bind_some]; dsimp only
  rw [e3, Option.bind_some]
theorem table_draw (l : List Int) (hb : ∀ x ∈ l, 0 ≤ x ∧ x ≤ 255) (p s : Int) (h0 : 0 ≤ p) (h1 : p ≤ 4611686018427383000) :
    ∃ a b c d p' s', spec_l1Cur_table.f l p s = some (a, b, c, d, p', s') ∧ p ≤ p' ∧ p' ≤ p + 20 := by
  obtain ⟨v1, p1, s1, e1, a1, b1, _⟩ := pick_ok l hb p s 12 (by omega) (by omega) (by omega)
  obtain ⟨v2, p2, s2, e2, a2, b2, _⟩ := pick_ok l hb p1 s1 8 (by omega) (by omega) (by omega)
  obtain ⟨v3, p3, s3, e3, a3, b3, _⟩ := pick_ok l hb p2 s2 8 (by omega) (by omega) (by omega)
  obtain ⟨v4, p4, s4, e4, a4, b4, _⟩ := pick_ok l hb p3 s3 40 (by omega) (by omega) (by omega)
  obtain ⟨v5, p5, s5, e5, a5, b5, _⟩ := pick_ok l hb p4 s4 16 (by omega) (by omega) (by omega)
  obtain ⟨v6, p6, s6, e6, a6, b6, _⟩ := among_ok l hb p5 s5 (by omega) (by omega) [0, 1000000, 1000001, -1] (by decide)
  obtain ⟨v7, p7, s7, e7, a7, b7, _⟩ := among_ok l hb p5 s5 (by omega) (by omega) [0, 5, 1000000] (by decide)
  unfold spec_l1Cur_table.f
  rw [e1, Option.bind_some]; dsimp only
  rw [e2, Option.bind_some]; dsimp only
  rw [e3, Option.bind_some]; dsimp only
  rw [e4, Option.bind_some]; dsimp only
  rw [e5, Option.bind_some]; dsimp only
  by_cases k0 : v5 = 0
  · rw [if_pos k0, e6, Option.bind_some]; exact ⟨_, _, _, _, _, _, rfl, by (try dsimp only); omega, by (try dsimp only); omega⟩
  · by_cases k1 : v5 = 1
    · rw [if_neg k0, if_pos k1]; exact ⟨_, _, _, _, _, _, rfl, by (try dsimp only); omega, by (try dsimp only); omega⟩
    · by_cases k2 : v5 = 2
      · rw [if_neg k0, if_neg k1, if_pos k2, e7, Option.bind_some]; exact ⟨_, _, _, _, _, _, rfl, by (try dsimp only); omega, by (try dsimp only); omega⟩
      · rw [if_neg k0, if_neg k1, if_neg k2]; exact ⟨_, _, _, _, _, _, rfl, by (try dsimp only); omega, by (try dsimp only); omega⟩
theorem within_ok (a b c : Int) : impl_within.f a b c = some (decide (b ≤ a ∧ a ≤ c)) := by
  unfold impl_within.f
  split <;> simp <;> omega
theorem l1In_ok (a b c : Int) : spec_l1In.f a b c = some (decide (b ≤ a ∧ a ≤ c)) := by
  unfold spec_l1In.f
  split <;> simp <;> omega
def cellOk (x : Int) : Bool := decide (x = -9999) || decide (-9000 ≤ x ∧ x ≤ 9000)
theorem isCell_ok (x : Int) : impl_isCell.f x = some (cellOk x) := by
  unfold impl_isCell.f cellOk
  by_cases h : x = -9999
  · rw [if_pos h, decide_eq_true h]; rfl
  · rw [if_neg h, within_ok, Option.bind_some, decide_eq_false h, Bool.false_or]
theorem l2Value_ok (x : Int) : spec_l2Value.f x = some (cellOk x) := by
  unfold spec_l2Value.f cellOk
  by_cases h : x = -9999
  · rw [if_pos h, decide_eq_true h]; rfl
  · rw [if_neg h, l1In_ok, Option.bind_some, decide_eq_false h, Bool.false_or]
def fieldB (w h : Int) (l : List Int) : Bool := decide (1 ≤ w ∧ w ≤ 8) && decide (1 ≤ h ∧ h ≤ 8) && decide ((l.length : Int) = w * h) && l.all cellOk
theorem prod8 {w h : Int} (hw : 1 ≤ w ∧ w ≤ 8) (hh : 1 ≤ h ∧ h ≤ 8) : 1 ≤ w * h ∧ w * h ≤ 64 := by
  have a : w * 1 ≤ w * h := Int.mul_le_mul_of_nonneg_left (by omega) (by omega)
  have b : w * h ≤ 8 * h := Int.mul_le_mul_of_nonneg_right (by omega) (by omega)
  omega
theorem fieldB_len {w h : Int} {l : List Int} (q : fieldB w h l = true) : (1 ≤ w ∧ w ≤ 8) ∧ (1 ≤ h ∧ h ≤ 8) ∧ (l.length : Int) = w * h ∧ l.length ≤ 64 ∧ l.all cellOk = true := by
  unfold fieldB at q
  simp only [Bool.and_eq_true, decide_eq_true_eq] at q
  have := prod8 q.1.1.1 q.1.1.2
  exact ⟨q.1.1.1, q.1.1.2, q.1.2, by omega, q.2⟩
theorem IndexFuncI_ev (l : List Int) (hl : l.length ≤ 4503599627370496) : ∃ r, decide (r ≥ (0 : Int)) = !(l.all cellOk) ∧ Evt fun k => slices_IndexFunc_int.f k l = some r := by
  unfold slices_IndexFunc_int.f
  refine evt_loop_ex l.length (fun k (_ : Unit) i => slices_IndexFunc_int.l0 k l (l.length : Int) i) _ (fun i _ => (l.drop i).all cellOk = l.all cellOk) ?_ ?_ () rfl
  · intro i s hi h
    rw [getD_drop l 0 i hi, List.all_cons] at h
    cases hp : cellOk (l.getD i 0) with
    | true =>
      refine .inl ⟨(), by rw [hp, Bool.true_and] at h; exact h, 1, Evt.all fun k => ?_⟩
      show slices_IndexFunc_int.l0 (k + 1) l (l.length : Int) (i : Int) = _
      simp only [slices_IndexFunc_int.l0, rd_nat, impl_IsValidField_1.f, isCell_ok, Option.bind_some, hp]
      rw [if_pos (by omega), if_pos (by omega), if_pos (by omega), if_neg (by simp), wrap_id (by omega) (by omega)]
    | false =>
      refine .inr ⟨(i : Int), by rw [← h, hp]; simp, Evt.succ (Evt.all fun k => ?_)⟩
      show slices_IndexFunc_int.l0 (k + 1) l (l.length : Int) (i : Int) = _
      simp only [slices_IndexFunc_int.l0, rd_nat, impl_IsValidField_1.f, isCell_ok, Option.bind_some, hp]
      rw [if_pos (by omega), if_pos (by omega), if_pos (by omega)]; simp
  · intro s h
    rw [List.drop_of_length_le (Nat.le_refl _)] at h
    refine ⟨-1, by rw [← h]; simp, Evt.succ (Evt.all fun k => ?_)⟩
    show slices_IndexFunc_int.l0 (k + 1) l (l.length : Int) (l.length : Int) = _
    simp only [slices_IndexFunc_int.l0]
    rw [if_neg (by omega)]
theorem IsValidField_ev (w h : Int) (l : List Int) (hl : l.length ≤ 1048576) : Evt fun k => impl_IsValidField.f k w h l = some (fieldB w h l) := by
  obtain ⟨r, hr, ev⟩ := IndexFuncI_ev l (by omega)
  refine ev.mono fun k hk => ?_
  simp only [impl_IsValidField.f, slices_ContainsFunc_int.f, hk, Option.bind_some, hr, Bool.not_not, within_ok]
  unfold fieldB
  by_cases hw : 1 ≤ w ∧ w ≤ 8
  · rw [decide_eq_true hw, if_pos rfl]
    by_cases hh : 1 ≤ h ∧ h ≤ 8
    · have := prod8 hw hh
      rw [decide_eq_true hh, if_pos rfl, wrap_id (by omega) (by omega)]
      by_cases hn : (l.length : Int) = w * h
      · rw [if_pos hn, decide_eq_true hn]; simp
      · rw [if_neg hn, decide_eq_false hn]; simp
    · rw [decide_eq_false hh]; simp
  · rw [decide_eq_false hw]; simp
theorem l2Good_ev (w h : Int) (l : List Int) (hl : l.length ≤ 1048576) : Evt fun k => spec_l2Good.f k w h l = some (fieldB w h l) := by
  have lo : Evt fun k => spec_l2Good.l0 k 0 w h l = some (l.all cellOk) := by
    refine evt_loop0 l.length (fun k (_ : Unit) i => spec_l2Good.l0 k i w h l) (l.all cellOk) (fun i _ => (l.drop i).all cellOk = l.all cellOk) ?_ ?_ () rfl
    · intro i s hi h
      rw [getD_drop l 0 i hi, List.all_cons] at h
      cases hp : cellOk (l.getD i 0) with
      | true =>
        refine .inl ⟨(), by rw [hp, Bool.true_and] at h; exact h, 1, Evt.all fun k => ?_⟩
        show spec_l2Good.l0 (k + 1) (i : Int) _ _ l = _
        simp only [spec_l2Good.l0, rd_nat, l2Value_ok, Option.bind_some, hp]
        rw [if_pos (by omega), if_pos (by omega), if_pos trivial, wrap_id (by omega) (by omega)]
      | false =>
        refine .inr (Evt.succ (Evt.all fun k => ?_))
        show spec_l2Good.l0 (k + 1) (i : Int) _ _ l = _
        simp only [spec_l2Good.l0, rd_nat, l2Value_ok, Option.bind_some, hp]
        rw [if_pos (by omega), if_pos (by omega), ← h, hp]; simp
    · intro s h
      rw [List.drop_of_length_le (Nat.le_refl _)] at h
      refine Evt.succ (Evt.all fun k => ?_)
      show spec_l2Good.l0 (k + 1) (l.length : Int) _ _ l = _
      simp only [spec_l2Good.l0]
      rw [if_neg (by omega), ← h]; rfl
  refine Evt.succ (lo.mono fun k hk => ?_)
  simp only [spec_l2Good.f, spec_l2Shape.f, l1In_ok, Option.bind_some, spec_l2Good.j0, hk]
  unfold fieldB
  by_cases hw : 1 ≤ w ∧ w ≤ 8
  · rw [decide_eq_true hw, if_pos rfl, Option.bind_some]
    by_cases hh : 1 ≤ h ∧ h ≤ 8
    · have := prod8 hw hh
      rw [decide_eq_true hh, if_pos rfl, wrap_id (by omega) (by omega)]
      by_cases hn : (l.length : Int) = w * h
      · rw [decide_eq_true hn, hn]; simp
      · rw [decide_eq_false hn, if_pos (by simpa using hn)]; simp
    · rw [decide_eq_false hh]; simp
  · rw [decide_eq_false hw]; simp
def sameB (w h : Int) (l : List Int) (w' h' : Int) (l' : List Int) : Bool := fieldB w h l && fieldB w' h' l' && decide (w = w') && decide (h = h')
theorem areAlike_ev (w h : Int) (l : List Int) (w' h' : Int) (l' : List Int) (hl : l.length ≤ 1048576) (hl' : l'.length ≤ 1048576) : Evt fun k => impl_areAlike.f k [⟨w, h, l⟩, ⟨w', h', l'⟩] = some (sameB w h l w' h' l') := by
  refine Evt.add 3 (((IsValidField_ev w h l hl).and (IsValidField_ev w' h' l' hl')).at.elim fun K hK => Evt.from K fun k hk => ?_)
  obtain ⟨j, rfl⟩ : ∃ j, k = K + j := ⟨k - K, by omega⟩
  have a1 := fun m => (hK m).1
  have a2 := fun m => (hK m).2
  have r0 : rd_T26 [(⟨w, h, l⟩ : S26), ⟨w', h', l'⟩] 0 = ⟨w, h, l⟩ := rfl
  have r1 : rd_T26 [(⟨w, h, l⟩ : S26), ⟨w', h', l'⟩] 1 = ⟨w', h', l'⟩ := rfl
  have w1 : wrap64 (0 + 1) = 1 := by unfold wrap64; omega
  have w2 : wrap64 (1 + 1) = 2 := by unfold wrap64; omega
  unfold impl_areAlike.f sameB
  show impl_areAlike.l0 ((K + (j + 2)) + 1) _ _ (2 : Int) 0 = _
  rw [impl_areAlike.l0]
  simp only [r0, a1, Option.bind_some, impl_sameShape.f, if_true, w1, beq_self_eq_true]
  cases fieldB w h l with
  | false => simp
  | true =>
    show _ = some (true && fieldB w' h' l' && decide (w = w') && decide (h = h'))
    rw [if_pos (by omega), if_pos (by omega), if_pos (by simp), if_pos rfl, if_pos (by simp)]
    show impl_areAlike.l0 ((K + (j + 1)) + 1) _ _ (2 : Int) 1 = _
    rw [impl_areAlike.l0]
    simp only [r1, r0, a2, Option.bind_some, impl_sameShape.f, if_true, w2]
    rw [if_pos (by omega), if_pos (by omega), if_pos (by simp)]
    cases fieldB w' h' l' with
    | false => simp
    | true =>
      rw [if_pos rfl, if_pos (by simp)]
      by_cases e : w = w'
      · subst e
        rw [if_pos rfl, Option.bind_some]
        by_cases e2 : h = h'
        · subst e2
          rw [beq_self_eq_true, if_pos rfl]
          show impl_areAlike.l0 ((K + j) + 1) _ _ (2 : Int) 2 = _
          rw [impl_areAlike.l0, if_neg (by omega)]; simp
        · rw [beq_eq_false_iff_ne.2 (Ne.symm e2)]; simp [e2]
      · rw [if_neg (Ne.symm e)]; simp [e]
theorem l2Same_ev (w h : Int) (l : List Int) (w' h' : Int) (l' : List Int) (hl : l.length ≤ 1048576) (hl' : l'.length ≤ 1048576) : Evt fun k => spec_l2Same.f k w h l w' h' l' = some (sameB w h l w' h' l') := by
  refine ((l2Good_ev w h l hl).and (l2Good_ev w' h' l' hl')).mono ?_
  rintro k ⟨h1, h2⟩
  simp only [spec_l2Same.f, h1, h2, Option.bind_some]
  unfold sameB
  cases fieldB w h l with
  | false => simp
  | true =>
    cases fieldB w' h' l' with
    | false => simp
    | true =>
      by_cases e : w = w'
      · by_cases e2 : h = h' <;> simp [e, e2]
      · simp [e]
def ctS (lim x y : Int) (s : Int × Int × Int × Int) : Int × Int × Int × Int :=
  if x = -9999 ∨ y = -9999 then s else if x > lim ∧ y > lim then (s.1 + 1, s.2.1, s.2.2.1, s.2.2.2) else if y > lim then (s.1, s.2.1 + 1, s.2.2.1, s.2.2.2) else if x > lim then (s.1, s.2.1, s.2.2.1 + 1, s.2.2.2) else (s.1, s.2.1, s.2.2.1, s.2.2.2 + 1)
def ctTo (a b : List Int) (lim : Int) : Nat → Int × Int × Int × Int
  | 0 => (0, 0, 0, 0)
  | n + 1 => ctS lim (a.getD n 0) (b.getD n 0) (ctTo a b lim n)
def ctI (n : Nat) (s : Int × Int × Int × Int) : Prop := (0 ≤ s.1 ∧ s.1 ≤ n) ∧ (0 ≤ s.2.1 ∧ s.2.1 ≤ n) ∧ (0 ≤ s.2.2.1 ∧ s.2.2.1 ≤ n) ∧ (0 ≤ s.2.2.2 ∧ s.2.2.2 ≤ n)
theorem ctTo_I (a b : List Int) (lim : Int) : ∀ n, ctI n (ctTo a b lim n)
  | 0 => by simp [ctI, ctTo]
  | n + 1 => by
    have h := ctTo_I a b lim n
    unfold ctI at h ⊢
    simp only [ctTo, ctS]
    split
    · omega
    · split
      · dsimp only; omega
      · split
        · dsimp only; omega
        · split <;> dsimp only <;> omega
theorem wr1 {s i : Int} (h : 0 ≤ s ∧ s ≤ i) (hi : i ≤ 64) : wrap64 (s + 1) = s + 1 := wrap_id (by omega) (by omega)
theorem countImpl_loop (a b : List Int) (lim w' h' : Int) (n : Nat) (hn : n ≤ 64) (ha : a.length = n) (hb : b.length = n) : Evt fun k => impl_countTable.l0 k lim lim a (a.length : Int) 0 w' h' b 0 0 0 0 = some (ctTo a b lim n) := by
  refine evt_loop0 n (fun k (s : Int × Int × Int × Int) i => impl_countTable.l0 k lim lim a (a.length : Int) i w' h' b s.1 s.2.1 s.2.2.1 s.2.2.2) (ctTo a b lim n) (fun i s => s = ctTo a b lim i) ?_ ?_ (0, 0, 0, 0) rfl
  · rintro i s hi rfl
    have i64 : (i : Int) ≤ 64 := by omega
    have wi : wrap64 ((i : Int) + 1) = (i : Int) + 1 := wrap_id (by omega) (by omega)
    have g1 : (i : Int) < (a.length : Int) := by omega
    have g2 : 0 ≤ (i : Int) := by omega
    have g3 : (i : Int) < (b.length : Int) := by omega
    have hI := ctTo_I a b lim i
    unfold ctI at hI
    obtain ⟨s, hs⟩ : ∃ s, s = ctTo a b lim i := ⟨_, rfl⟩
    rw [← hs] at hI
    obtain ⟨s1, s2, s3, s4⟩ := s
    dsimp only at hI
    obtain ⟨hI1, hI2, hI3, hI4⟩ := hI
    have HS_ := Aside0.mk hs
    clear hs
    obtain ⟨x, hx⟩ : ∃ x, x = a.getD i 0 := ⟨_, rfl⟩
    obtain ⟨y, hy⟩ : ∃ y, y = b.getD i 0 := ⟨_, rfl⟩
    have w1 : wrap64 (s1 + 1) = s1 + 1 := wr1 hI1 i64
    have w2 : wrap64 (s2 + 1) = s2 + 1 := wr1 hI2 i64
    have w3 : wrap64 (s3 + 1) = s3 + 1 := wr1 hI3 i64
    have w4 : wrap64 (s4 + 1) = s4 + 1 := wr1 hI4 i64
    have hs := HS_.out
    refine .inl ⟨ctTo a b lim (i + 1), rfl, if x = -9999 ∨ y = -9999 then 2 else 3, Evt.all fun k => ?_⟩
    simp only [ctTo, ← hs, ← hx, ← hy, ctS]
    by_cases c : x = -9999 ∨ y = -9999
    · rw [if_pos c, if_pos c]
      show impl_countTable.l0 (k + 1 + 1) _ _ _ _ _ _ _ _ _ _ _ _ = _
      rw [impl_countTable.l0]
      simp only [rd_nat, ← hx, ← hy, if_pos g1, if_pos g2, if_pos g3]
      by_cases c1 : x = -9999
      · rw [if_pos c1, impl_countTable.j1, if_pos rfl, wi]
      · have c2 : y = -9999 := c.resolve_left c1
        rw [if_neg c1, c2, beq_self_eq_true, impl_countTable.j1, if_pos rfl, wi]
    · rw [if_neg c, if_neg c]
      have c1 : ¬ x = -9999 := fun h => c (.inl h)
      have c2 : ¬ y = -9999 := fun h => c (.inr h)
      show impl_countTable.l0 (k + 2 + 1) _ _ _ _ _ _ _ _ _ _ _ _ = _
      rw [impl_countTable.l0]
      simp only [rd_nat, ← hx, ← hy, if_pos g1, if_pos g2, if_pos g3]
      rw [if_neg c1, beq_eq_false_iff_ne.2 c2]
      show impl_countTable.j1 (k + 1 + 1) _ _ _ _ _ _ _ _ _ _ _ _ _ _ _ = _
      rw [impl_countTable.j1, if_neg (by simp)]
      by_cases c3 : x > lim <;> by_cases c4 : y > lim <;> simp [c3, c4, impl_countTable.j2, wi, w1, w2, w3, w4]
  · rintro s rfl
    refine Evt.succ (Evt.all fun k => ?_)
    show impl_countTable.l0 (k + 1) _ _ _ _ (n : Int) _ _ _ _ _ _ _ = _
    rw [impl_countTable.l0, if_neg (by omega)]
theorem countSpec_loop (a b : List Int) (lim w h w' h' : Int) (n : Nat) (hn : n ≤ 64) (ha : a.length = n) (hb : b.length = n) : Evt fun k => spec_l20Count.l0 k lim lim 0 w h a w' h' b 0 0 0 0 = some (ctTo a b lim n) := by
  refine evt_loop0 n (fun k (s : Int × Int × Int × Int) i => spec_l20Count.l0 k lim lim i w h a w' h' b s.1 s.2.1 s.2.2.1 s.2.2.2) (ctTo a b lim n) (fun i s => s = ctTo a b lim i) ?_ ?_ (0, 0, 0, 0) rfl
  · rintro i s hi rfl
    have i64 : (i : Int) ≤ 64 := by omega
    have wi : wrap64 ((i : Int) + 1) = (i : Int) + 1 := wrap_id (by omega) (by omega)
    have g1 : (i : Int) < (a.length : Int) := by omega
    have g2 : 0 ≤ (i : Int) := by omega
    have g3 : (i : Int) < (b.length : Int) := by omega
    have hI := ctTo_I a b lim i
    unfold ctI at hI
    obtain ⟨s, hs⟩ : ∃ s, s = ctTo a b lim i := ⟨_, rfl⟩
    rw [← hs] at hI
    obtain ⟨s1, s2, s3, s4⟩ := s
    dsimp only at hI
    obtain ⟨hI1, hI2, hI3, hI4⟩ := hI
    have HS_ := Aside0.mk hs
    clear hs
    obtain ⟨x, hx⟩ : ∃ x, x = a.getD i 0 := ⟨_, rfl⟩
    obtain ⟨y, hy⟩ : ∃ y, y = b.getD i 0 := ⟨_, rfl⟩
    have w1 : wrap64 (s1 + 1) = s1 + 1 := wr1 hI1 i64
    have w2 : wrap64 (s2 + 1) = s2 + 1 := wr1 hI2 i64
    have w3 : wrap64 (s3 + 1) = s3 + 1 := wr1 hI3 i64
    have w4 : wrap64 (s4 + 1) = s4 + 1 := wr1 hI4 i64
    have hs := HS_.out
    refine .inl ⟨ctTo a b lim (i + 1), rfl, if x = -9999 ∨ y = -9999 then 2 else 3, Evt.all fun k => ?_⟩
    simp only [ctTo, ← hs, ← hx, ← hy, ctS]
    by_cases c : x = -9999 ∨ y = -9999
    · rw [if_pos c, if_pos c]
      show spec_l20Count.l0 (k + 1 + 1) _ _ _ _ _ _ _ _ _ _ _ _ _ = _
      rw [spec_l20Count.l0]
      simp only [rd_nat, ← hx, ← hy, if_pos g1, if_pos g2, if_pos g3]
      by_cases c1 : x = -9999
      · rw [if_pos c1, spec_l20Count.j1, if_pos rfl, wi]
      · have c2 : y = -9999 := c.resolve_left c1
        rw [if_neg c1, c2, beq_self_eq_true, spec_l20Count.j1, if_pos rfl, wi]
    · rw [if_neg c, if_neg c]
      have c1 : ¬ x = -9999 := fun h => c (.inl h)
      have c2 : ¬ y = -9999 := fun h => c (.inr h)
      show spec_l20Count.l0 (k + 2 + 1) _ _ _ _ _ _ _ _ _ _ _ _ _ = _
      rw [spec_l20Count.l0]
      simp only [rd_nat, ← hx, ← hy, if_pos g1, if_pos g2, if_pos g3]
      rw [if_neg c1, beq_eq_false_iff_ne.2 c2]
      show spec_l20Count.j1 (k + 1 + 1) _ _ _ _ _ _ _ _ _ _ _ _ _ _ _ _ = _
      rw [spec_l20Count.j1, if_neg (by simp)]
      by_cases c3 : x > lim <;> by_cases c4 : y > lim <;> simp [c3, c4, spec_l20Count.j2, wi, w1, w2, w3, w4]
  · rintro s rfl
    refine Evt.succ (Evt.all fun k => ?_)
    show spec_l20Count.l0 (k + 1) _ _ (n : Int) _ _ _ _ _ _ _ _ _ _ = _
    rw [spec_l20Count.l0, if_neg (by omega)]
def cnTo (a b : List Int) : Nat → Int
  | 0 => 0
  | n + 1 => if a.getD n 0 = -9999 ∨ b.getD n 0 = -9999 then cnTo a b n else cnTo a b n + 1
theorem cnTo_le (a b : List Int) : ∀ n, 0 ≤ cnTo a b n ∧ cnTo a b n ≤ n
  | 0 => by simp [cnTo]
  | n + 1 => by have := cnTo_le a b n; simp only [cnTo]; split <;> omega
theorem ct_sum (a b : List Int) (lim : Int) : ∀ n, (ctTo a b lim n).1 + (ctTo a b lim n).2.1 + (ctTo a b lim n).2.2.1 + (ctTo a b lim n).2.2.2 = cnTo a b n
  | 0 => by simp [ctTo, cnTo]
  | n + 1 => by
    have h := ct_sum a b lim n
    simp only [ctTo, cnTo, ctS]
    split
    · exact h
    · split
      · dsimp only; omega
      · split
        · dsimp only; omega
        · split <;> dsimp only <;> omega
theorem diff_loop (a b : List Int) (w' h' : Int) (n : Nat) (hn : n ≤ 64) (ha : a.length = n) (hb : b.length = n) (hab : ∀ x, ∃ y, impl_absOf.f x = some y) :
    ∃ v : Int × Int, v.2 = cnTo a b n ∧ Evt fun k => impl_differences.l0 k 0 0 a (a.length : Int) 0 w' h' b = some v := by
  refine evt_loop_ex n (fun k (q : Int × Int) i => impl_differences.l0 k q.1 q.2 a (a.length : Int) i w' h' b) _ (fun i q => q.2 = cnTo a b i) ?_ ?_ (0, 0) rfl
  · rintro i ⟨x, y⟩ hi e
    dsimp only at e
    have wi : wrap64 ((i : Int) + 1) = (i : Int) + 1 := wrap_id (by omega) (by omega)
    have cl := cnTo_le a b i
    have wy : wrap64 (y + 1) = y + 1 := wrap_id (by omega) (by omega)
    obtain ⟨t, ht⟩ := hab (wrap64 (a.getD i 0 - b.getD i 0))
    by_cases c : a.getD i 0 = -9999 ∨ b.getD i 0 = -9999
    · refine .inl ⟨(x, y), by simp only [cnTo]; rw [if_pos c]; exact e, 1, Evt.all fun k => ?_⟩
      show impl_differences.l0 (k + 1) x y a (a.length : Int) (i : Int) w' h' b = _
      simp only [impl_differences.l0, rd_nat]
      rw [if_pos (by omega), if_pos (by omega), if_pos (by omega), if_pos (by omega), wi]
      by_cases c1 : a.getD i 0 = -9999
      · rw [if_pos c1]
      · rw [if_neg c1, if_pos (c.resolve_left c1)]
    · refine .inl ⟨(wrap64 (x + t), y + 1), by simp only [cnTo]; rw [if_neg c, e], 1, Evt.all fun k => ?_⟩
      show impl_differences.l0 (k + 1) x y a (a.length : Int) (i : Int) w' h' b = _
      simp only [impl_differences.l0, rd_nat]
      rw [if_pos (by omega), if_pos (by omega), if_pos (by omega), if_pos (by omega), wi, if_neg (fun h => c (.inl h)), if_neg (fun h => c (.inr h)), ht, Option.bind_some, wy]
  · rintro ⟨x, y⟩ e
    refine ⟨(x, y), e, Evt.succ (Evt.all fun k => ?_)⟩
    show impl_differences.l0 (k + 1) x y a (a.length : Int) (n : Int) w' h' b = _
    simp only [impl_differences.l0]
    rw [if_neg (by omega)]
theorem absOf_some (x : Int) : ∃ y, impl_absOf.f x = some y := by
  unfold impl_absOf.f
  repeat' split
  all_goals exact ⟨_, rfl⟩
theorem count_motion (w h : Int) (l : List Int) (w' h' : Int) (l' : List Int) (lim : Int) (hl : l.length ≤ 1048576) (hl' : l'.length ≤ 1048576) :
    ∃ v : Int × Int × Int × Int × Bool, (Evt fun k => impl_CountTable.f k w h l w' h' l' lim = some v) ∧ (Evt fun k => spec_CountTable.f k w h l w' h' l' lim = some v) ∧
      (v.2.2.2.2 = true → ∃ s, Evt fun k => impl_MotionError.f k w h l w' h' l' = some (s, wrap64 (wrap64 (wrap64 (v.1 + v.2.1) + v.2.2.1) + v.2.2.2.1), true)) := by
  have s1 := areAlike_ev w h l w' h' l' hl hl'
  have s2 := l2Same_ev w h l w' h' l' hl hl'
  cases hb : sameB w h l w' h' l' with
  | false =>
    rw [hb] at s1 s2
    refine ⟨(0, 0, 0, 0, false), s1.mono fun k hk => ?_, s2.mono fun k hk => ?_, fun h => by simp at h⟩
    · simp [impl_CountTable.f, hk]
    · simp [spec_CountTable.f, hk]
  | true =>
    rw [hb] at s1 s2
    have hb' := hb
    unfold sameB at hb'
    simp only [Bool.and_eq_true, decide_eq_true_eq] at hb'
    obtain ⟨⟨⟨f1, f2⟩, e1⟩, e2⟩ := hb'
    obtain ⟨_, _, n1, m1, _⟩ := fieldB_len f1
    obtain ⟨_, _, n2, m2, _⟩ := fieldB_len f2
    have hn : l'.length = l.length := by rw [e1, e2] at n1; omega
    have i1 := countImpl_loop l l' lim w' h' l.length m1 rfl hn
    have i2 := countSpec_loop l l' lim w h w' h' l.length m1 rfl hn
    have hs := ct_sum l l' lim l.length
    have hI := ctTo_I l l' lim l.length
    unfold ctI at hI
    obtain ⟨⟨s, c⟩, hc, i3⟩ := diff_loop l l' w' h' l.length m1 rfl hn absOf_some
    obtain ⟨t, ht⟩ : ∃ t, t = ctTo l l' lim l.length := ⟨_, rfl⟩
    rw [← ht] at i1 i2 hs hI
    dsimp only at hc
    refine ⟨(t.1, t.2.1, t.2.2.1, t.2.2.2, true), (s1.and i1).mono ?_, (s2.and i2).mono ?_, fun _ => ⟨s, (s1.and i3).mono ?_⟩⟩
    · rintro k ⟨h1, h2⟩; simp only [impl_CountTable.f, impl_countTable.f, h1, h2, Option.bind_some, if_true]
    · rintro k ⟨h1, h2⟩; simp only [spec_CountTable.f, spec_l20Count.f, h1, h2, Option.bind_some, if_true]
    · rintro k ⟨h1, h2⟩
      simp only [impl_MotionError.f, impl_differences.f, h1, h2, Option.bind_some, if_true]
      try dsimp only
      rw [wrap_id (x := t.1 + t.2.1) (by omega) (by omega), wrap_id (x := t.1 + t.2.1 + t.2.2.1) (by omega) (by omega), wrap_id (by omega) (by omega), hs, ← hc]
theorem allWithin_ok (l : List Int) (lo hi : Int) (hl : l.length ≤ 4503599627370496) : ∀ k, l.length < k → impl_allWithin.f k l lo hi = some (l.all fun x => decide (lo ≤ x ∧ x ≤ hi)) := by
  intro k hk
  unfold impl_allWithin.f
  refine all_loop 0 l 0 _ (fun k i => impl_allWithin.l0 k lo hi l (l.length : Int) i) ?_ ?_ k (by omega)
  · intro k i _ hi
    show impl_allWithin.l0 (k + 1) lo _ l (l.length : Int) (i : Int) = _
    simp only [impl_allWithin.l0]
    rw [if_pos (by omega), if_pos (by omega), if_pos (by omega), within_ok, Option.bind_some, wrap_id (by omega) (by omega), rd_nat]
  · intro k _
    show impl_allWithin.l0 (k + 1) lo hi l (l.length : Int) (l.length : Int) = _
    simp only [impl_allWithin.l0]
    rw [if_neg (by omega)]
theorem divisorOf_ok : ∀ (n m k : Nat), n < k → impl_divisorOf.f k (m : Int) (n : Int) = some ((Nat.gcd m n : Nat) : Int) := by
  have key : ∀ (d n m k : Nat), n ≤ d → n < k → impl_divisorOf.l0 k (m : Int) (n : Int) = some ((Nat.gcd m n : Nat) : Int) := by
    intro d
    induction d with
    | zero =>
      intro n m k hn hk
      obtain ⟨k, rfl⟩ : ∃ j, k = j + 1 := ⟨k - 1, by omega⟩
      obtain rfl : n = 0 := by omega
      simp only [impl_divisorOf.l0]
      rw [if_neg (by omega), Nat.gcd_zero_right]
    | succ d ih =>
      intro n m k hn hk
      obtain ⟨k, rfl⟩ : ∃ j, k = j + 1 := ⟨k - 1, by omega⟩
      simp only [impl_divisorOf.l0]
      by_cases h0 : n = 0
      · subst h0
        rw [if_neg (by omega), Nat.gcd_zero_right]
      · have hlt := Nat.mod_lt m (Nat.pos_of_ne_zero h0)
        rw [if_pos (by omega), if_neg (by omega), ← Int.ofNat_tmod, ih (m % n) n k (by omega) (by omega), Nat.gcd_comm n (m % n), ← Nat.gcd_rec n m, Nat.gcd_comm]
  intro n m k hk
  exact key n n m k (Nat.le_refl _) hk
theorem absOf_ok (a : Int) (h : -9223372036854775808 < a) (h2 : a ≤ 9223372036854775807) : impl_absOf.f a = some ((a.natAbs : Nat) : Int) := by
  unfold impl_absOf.f
  split
  · rw [wrap_id (by omega) (by omega)]; congr 1; omega
  · congr 1; omega
def ratioV (num den : Int) : Int × Int × Bool := if den = 0 then (0, 0, false) else (wrap64 (Int.tdiv num (Nat.gcd num.natAbs den.natAbs : Nat)), wrap64 (Int.tdiv den (Nat.gcd num.natAbs den.natAbs : Nat)), true)
theorem ratioOf_ok (num den : Int) (h : -9223372036854775808 < num) (h2 : num ≤ 9223372036854775807) (hd : 0 ≤ den) : ∀ k, num.natAbs < k → impl_ratioOf.f k num den = some (ratioV num den) := by
  intro k hk
  unfold impl_ratioOf.f ratioV
  by_cases h0 : den = 0
  · rw [if_pos h0, if_pos h0]
  · have hg := Nat.gcd_pos_of_pos_right num.natAbs (n := den.natAbs) (by omega)
    have hc := divisorOf_ok num.natAbs den.natAbs k hk
    rw [show ((den.natAbs : Nat) : Int) = den from by omega, Nat.gcd_comm] at hc
    rw [if_neg h0, if_neg h0, if_neg (by omega), absOf_ok num h h2, Option.bind_some, hc, Option.bind_some, if_neg (by omega)]
theorem l10Common_ok : ∀ (n m k : Nat), n < k → spec_l10Common.f k (m : Int) (n : Int) = some ((Nat.gcd m n : Nat) : Int) := by
  have key : ∀ (d n m k : Nat), n ≤ d → n < k → spec_l10Common.l0 k (m : Int) (n : Int) = some ((Nat.gcd m n : Nat) : Int) := by
    intro d
    induction d with
    | zero =>
      intro n m k hn hk
      obtain ⟨k, rfl⟩ : ∃ j, k = j + 1 := ⟨k - 1, by omega⟩
      obtain rfl : n = 0 := by omega
      simp only [spec_l10Common.l0]
      rw [if_neg (by omega), Nat.gcd_zero_right]
    | succ d ih =>
      intro n m k hn hk
      obtain ⟨k, rfl⟩ : ∃ j, k = j + 1 := ⟨k - 1, by omega⟩
      simp only [spec_l10Common.l0]
      by_cases h0 : n = 0
      · subst h0
        rw [if_neg (by omega), Nat.gcd_zero_right]
      · have hlt := Nat.mod_lt m (Nat.pos_of_ne_zero h0)
        rw [if_pos (by omega), if_neg (by omega), ← Int.ofNat_tmod, ih (m % n) n k (by omega) (by omega), Nat.gcd_comm n (m % n), ← Nat.gcd_rec n m, Nat.gcd_comm]
  intro n m k hk
  exact key n n m k (Nat.le_refl _) hk
theorem l11Abs_ok (a : Int) (h : -9223372036854775808 < a) (h2 : a ≤ 9223372036854775807) : spec_l11Abs.f a = some ((a.natAbs : Nat) : Int) := by
  unfold spec_l11Abs.f spec_l1Most.f
  rw [wrap_id (by omega) (by omega)]
  split <;> simp only [Option.bind_some] <;> congr 1 <;> omega
theorem l20Ratio_ok (num den : Int) (h : -9223372036854775808 < num) (h2 : num ≤ 9223372036854775807) (hd : 0 ≤ den) : ∀ k, den.natAbs < k → spec_l20Ratio.f k num den = some (ratioV num den) := by
  intro k hk
  unfold spec_l20Ratio.f ratioV
  by_cases h0 : den = 0
  · rw [if_pos h0, if_pos h0]
  · have hg := Nat.gcd_pos_of_pos_right num.natAbs (n := den.natAbs) (by omega)
    have hc := l10Common_ok den.natAbs num.natAbs k hk
    rw [show ((den.natAbs : Nat) : Int) = den from by omega] at hc
    rw [if_neg h0, if_neg h0, l11Abs_ok num h h2, Option.bind_some, hc, Option.bind_some, if_neg (by omega)]
def goodB (a b c d : Int) : Bool := decide ((0 ≤ a ∧ a ≤ 1000000) ∧ (0 ≤ b ∧ b ≤ 1000000) ∧ (0 ≤ c ∧ c ≤ 1000000) ∧ (0 ≤ d ∧ d ≤ 1000000))
theorem isTable_ok (a b c d : Int) : ∀ k, 4 < k → impl_isTable.f k a b c d = some (goodB a b c d) := by
  intro k hk
  unfold impl_isTable.f goodB
  rw [allWithin_ok _ _ _ (by simp) k (by simpa using hk), Option.bind_some]
  congr 1
  rw [Bool.eq_iff_iff]
  simp
theorem l20Good_ok (a b c d : Int) : spec_l20Good.f a b c d = some (goodB a b c d) := by
  unfold spec_l20Good.f goodB
  simp only [l1In_ok, Option.bind_some]
  by_cases ha : 0 ≤ a ∧ a ≤ 1000000 <;> by_cases hb : 0 ≤ b ∧ b ≤ 1000000 <;> by_cases hc : 0 ≤ c ∧ c ≤ 1000000 <;> simp [ha, hb, hc]
theorem good_out {a b c d : Int} (h : goodB a b c d = true) : (0 ≤ a ∧ a ≤ 1000000) ∧ (0 ≤ b ∧ b ≤ 1000000) ∧ (0 ≤ c ∧ c ≤ 1000000) ∧ (0 ≤ d ∧ d ≤ 1000000) := of_decide_eq_true h
def threatV (a b c d : Int) : Int × Int × Bool := if goodB a b c d = true then ratioV a (wrap64 ((wrap64 (a + b)) + c)) else (0, 0, false)
theorem Threat_ev (a b c d : Int) : (Evt fun k => impl_ThreatScore.f k a b c d = some (threatV a b c d)) ∧ (Evt fun k => spec_ThreatScore.f k a b c d = some (threatV a b c d)) := by
  have hg := l20Good_ok a b c d
  unfold threatV
  cases hG : goodB a b c d with
  | false =>
    refine ⟨Evt.from 10 fun k hk => ?_, Evt.all fun k => ?_⟩
    · have h3 := isTable_ok a b c d k (by omega)
      simp [impl_ThreatScore.f, impl_tableRatio.f, h3, hG]
    · simp [spec_ThreatScore.f, spec_l20Valid.f, hg, hG]
  | true =>
    obtain ⟨ha, hb, hc, hd⟩ := good_out hG
    have bn : -9223372036854775808 < a ∧ a ≤ 9223372036854775807 := by omega
    have bd : 0 ≤ wrap64 ((wrap64 (a + b)) + c) := by rw [wrap_id (x := a + b) (by omega) (by omega), wrap_id (by omega) (by omega)]; omega
    refine ⟨Evt.from (a.natAbs + (wrap64 ((wrap64 (a + b)) + c)).natAbs + 10) fun k hk => ?_, Evt.from (a.natAbs + (wrap64 ((wrap64 (a + b)) + c)).natAbs + 10) fun k hk => ?_⟩
    · have h3 := isTable_ok a b c d k (by omega)
      have h1 := ratioOf_ok a (wrap64 ((wrap64 (a + b)) + c)) bn.1 bn.2 bd k (by omega)
      simp only [impl_ThreatScore.f, impl_tableRatio.f, h3, hG, Option.bind_some, if_true, h1]
    · have h2 := l20Ratio_ok a (wrap64 ((wrap64 (a + b)) + c)) bn.1 bn.2 bd k (by omega)
      simp only [spec_ThreatScore.f, spec_l20Valid.f, hg, hG, Option.bind_some, if_true, h2]
theorem mul_le_big {x y A B : Int} (h0 : 0 ≤ x) (h1 : x ≤ A) (g0 : 0 ≤ y) (g1 : y ≤ B) : 0 ≤ x * y ∧ x * y ≤ A * B :=
  ⟨Int.mul_nonneg h0 g0, Int.mul_le_mul h1 g1 g0 (Int.le_trans h0 h1)⟩
theorem score_ev (F G : Nat → Option (Int × Int × Bool)) (a b c d num den : Int) (bn : goodB a b c d = true → -9223372036854775808 < num ∧ num ≤ 9223372036854775807) (bd : goodB a b c d = true → 0 ≤ den)
    (hF : ∀ k, F k = impl_tableRatio.f k a b c d num den) (hG : ∀ k, G k = if goodB a b c d = true then spec_l20Ratio.f k num den else some (0, 0, false)) :
    (Evt fun k => F k = some (if goodB a b c d = true then ratioV num den else (0, 0, false))) ∧ (Evt fun k => G k = some (if goodB a b c d = true then ratioV num den else (0, 0, false))) := by
  cases hg : goodB a b c d with
  | false =>
    refine ⟨Evt.from 10 fun k hk => ?_, Evt.all fun k => ?_⟩
    · have h3 := isTable_ok a b c d k (by omega)
      rw [hF]; simp [impl_tableRatio.f, h3, hg]
    · rw [hG]; simp [hg]
  | true =>
    have bn := bn hg
    have bd := bd hg
    refine ⟨Evt.from (num.natAbs + den.natAbs + 10) fun k hk => ?_, Evt.from (num.natAbs + den.natAbs + 10) fun k hk => ?_⟩
    · have h3 := isTable_ok a b c d k (by omega)
      have h1 := ratioOf_ok num den bn.1 bn.2 bd k (by omega)
      rw [hF]; simp only [impl_tableRatio.f, h3, hg, Option.bind_some, if_true, h1]
    · have h2 := l20Ratio_ok num den bn.1 bn.2 bd k (by omega)
      rw [hG]; simp only [hg, if_true, h2]
def hitV (a b c d : Int) : Int × Int × Bool := if goodB a b c d = true then ratioV a (wrap64 (a + b)) else (0, 0, false)
theorem Hit_ev (a b c d : Int) : (Evt fun k => impl_HitRate.f k a b c d = some (hitV a b c d)) ∧ (Evt fun k => spec_HitRate.f k a b c d = some (hitV a b c d)) :=
  score_ev (fun k => impl_HitRate.f k a b c d) (fun k => spec_HitRate.f k a b c d) a b c d a (wrap64 (a + b)) (fun h => by have := good_out h; omega) (fun h => by have := good_out h; rw [wrap_id (by omega) (by omega)]; omega)
    (fun k => by simp only [impl_HitRate.f]; cases impl_tableRatio.f k a b c d a (wrap64 (a + b)) <;> rfl) (fun k => by have hg := l20Good_ok a b c d; cases hG : goodB a b c d <;> cases hR : spec_l20Ratio.f k a (wrap64 (a + b)) <;> simp [spec_HitRate.f, spec_l20Valid.f, hg, hG, hR])
theorem Alarm_ev (a b c d : Int) : ∃ v, (Evt fun k => impl_AlarmRatio.f k a b c d = some v) ∧ (Evt fun k => spec_AlarmRatio.f k a b c d = some v) :=
  ⟨_, score_ev (fun k => impl_AlarmRatio.f k a b c d) (fun k => spec_AlarmRatio.f k a b c d) a b c d c (wrap64 (a + c)) (fun h => by have := good_out h; omega) (fun h => by have := good_out h; rw [wrap_id (by omega) (by omega)]; omega)
    (fun k => by simp only [impl_AlarmRatio.f]; cases impl_tableRatio.f k a b c d c (wrap64 (a + c)) <;> rfl) (fun k => by have hg := l20Good_ok a b c d; cases hG : goodB a b c d <;> cases hR : spec_l20Ratio.f k c (wrap64 (a + c)) <;> simp [spec_AlarmRatio.f, spec_l20Valid.f, hg, hG, hR])⟩
theorem Bias_ev (a b c d : Int) : ∃ v, (Evt fun k => impl_FrequencyBias.f k a b c d = some v) ∧ (Evt fun k => spec_FrequencyBias.f k a b c d = some v) :=
  ⟨_, score_ev (fun k => impl_FrequencyBias.f k a b c d) (fun k => spec_FrequencyBias.f k a b c d) a b c d (wrap64 (a + c)) (wrap64 (a + b)) (fun h => by have := good_out h; rw [wrap_id (by omega) (by omega)]; omega) (fun h => by have := good_out h; rw [wrap_id (by omega) (by omega)]; omega)
    (fun k => by simp only [impl_FrequencyBias.f]; cases impl_tableRatio.f k a b c d (wrap64 (a + c)) (wrap64 (a + b)) <;> rfl) (fun k => by have hg := l20Good_ok a b c d; cases hG : goodB a b c d <;> cases hR : spec_l20Ratio.f k (wrap64 (a + c)) (wrap64 (a + b)) <;> simp [spec_FrequencyBias.f, spec_l20Valid.f, hg, hG, hR])⟩
theorem heidke_num {a b c d : Int} (ha : 0 ≤ a ∧ a ≤ 1000000) (hb : 0 ≤ b ∧ b ≤ 1000000) (hc : 0 ≤ c ∧ c ≤ 1000000) (hd : 0 ≤ d ∧ d ≤ 1000000) :
    -9223372036854775808 < wrap64 (2 * (wrap64 ((wrap64 (a * d)) - (wrap64 (c * b))))) ∧ wrap64 (2 * (wrap64 ((wrap64 (a * d)) - (wrap64 (c * b))))) ≤ 9223372036854775807 := by
  have h1 := mul_le_big ha.1 ha.2 hd.1 hd.2
  have h2 := mul_le_big hc.1 hc.2 hb.1 hb.2
  generalize a * d = x at *
  generalize c * b = y at *
  rw [wrap_id (x := x) (by omega) (by omega), wrap_id (x := y) (by omega) (by omega), wrap_id (x := x - y) (by omega) (by omega), wrap_id (by omega) (by omega)]
  omega
theorem heidke_den {a b c d : Int} (ha : 0 ≤ a ∧ a ≤ 1000000) (hb : 0 ≤ b ∧ b ≤ 1000000) (hc : 0 ≤ c ∧ c ≤ 1000000) (hd : 0 ≤ d ∧ d ≤ 1000000) :
    0 ≤ wrap64 ((wrap64 ((wrap64 (a + b)) * (wrap64 (b + d)))) + (wrap64 ((wrap64 (a + c)) * (wrap64 (c + d))))) := by
  rw [wrap_id (x := a + b) (by omega) (by omega), wrap_id (x := b + d) (by omega) (by omega), wrap_id (x := a + c) (by omega) (by omega), wrap_id (x := c + d) (by omega) (by omega)]
  have h1 := mul_le_big (x := a + b) (y := b + d) (A := 2000000) (B := 2000000) (by omega) (by omega) (by omega) (by omega)
  have h2 := mul_le_big (x := a + c) (y := c + d) (A := 2000000) (B := 2000000) (by omega) (by omega) (by omega) (by omega)
  generalize (a + b) * (b + d) = x at *
  generalize (a + c) * (c + d) = y at *
  rw [wrap_id (x := x) (by omega) (by omega), wrap_id (x := y) (by omega) (by omega), wrap_id (by omega) (by omega)]
  omega
theorem Heidke_ev (a b c d : Int) : ∃ v, (Evt fun k => impl_HeidkeScore.f k a b c d = some v) ∧ (Evt fun k => spec_HeidkeScore.f k a b c d = some v) :=
  ⟨_, score_ev (fun k => impl_HeidkeScore.f k a b c d) (fun k => spec_HeidkeScore.f k a b c d) a b c d (wrap64 (2 * (wrap64 ((wrap64 (a * d)) - (wrap64 (c * b)))))) (wrap64 ((wrap64 ((wrap64 (a + b)) * (wrap64 (b + d)))) + (wrap64 ((wrap64 (a + c)) * (wrap64 (c + d))))))
    (fun h => by obtain ⟨ha, hb, hc, hd⟩ := good_out h; exact heidke_num ha hb hc hd) (fun h => by obtain ⟨ha, hb, hc, hd⟩ := good_out h; exact heidke_den ha hb hc hd)
    (fun k => by simp only [impl_HeidkeScore.f]; cases impl_tableRatio.f k a b c d (wrap64 (2 * (wrap64 ((wrap64 (a * d)) - (wrap64 (c * b)))))) (wrap64 ((wrap64 ((wrap64 (a + b)) * (wrap64 (b + d)))) + (wrap64 ((wrap64 (a + c)) * (wrap64 (c + d)))))) <;> rfl) (fun k => by have hg := l20Good_ok a b c d; cases hG : goodB a b c d <;> cases hR : spec_l20Ratio.f k (wrap64 (2 * (wrap64 ((wrap64 (a * d)) - (wrap64 (c * b)))))) (wrap64 ((wrap64 ((wrap64 (a + b)) * (wrap64 (b + d)))) + (wrap64 ((wrap64 (a + c)) * (wrap64 (c + d)))))) <;> simp [spec_HeidkeScore.f, hg, hG, hR])⟩
theorem ratioV_form (n d : Int) (hd : 0 < d) (hd2 : d ≤ 9223372036854775807) (hn : 0 ≤ n) (hn2 : n ≤ 9223372036854775807) :
    ∃ q r g, ratioV n d = (q, r, true) ∧ 0 < g ∧ n = g * q ∧ d = g * r ∧ (0 ≤ q ∧ q ≤ n) ∧ 0 < r ∧ r ≤ d := by
  unfold ratioV
  rw [if_neg (by omega)]
  have hg := Nat.gcd_pos_of_pos_right n.natAbs (n := d.natAbs) (by omega)
  obtain ⟨g, hG⟩ : ∃ g : Int, g = (Nat.gcd n.natAbs d.natAbs : Nat) := ⟨_, rfl⟩
  rw [← hG]
  have g0 : 0 < g := by omega
  obtain ⟨q, hq⟩ : g ∣ n := by rw [hG, ← Int.dvd_natAbs]; exact Int.natCast_dvd_natCast.2 (Nat.gcd_dvd_left _ _)
  obtain ⟨r, hr⟩ : g ∣ d := by rw [hG, ← Int.dvd_natAbs]; exact Int.natCast_dvd_natCast.2 (Nat.gcd_dvd_right _ _)
  have a1 : n.natAbs = g.natAbs * q.natAbs := by rw [hq, Int.natAbs_mul]
  have a2 : d.natAbs = g.natAbs * r.natAbs := by rw [hr, Int.natAbs_mul]
  have b1 : q.natAbs ≤ g.natAbs * q.natAbs := Nat.le_mul_of_pos_left _ (by omega)
  have b2 : r.natAbs ≤ g.natAbs * r.natAbs := Nat.le_mul_of_pos_left _ (by omega)
  have c1 : Int.tdiv n g = q := by rw [hq]; exact Int.mul_tdiv_cancel_left _ (by omega)
  have c2 : Int.tdiv d g = r := by rw [hr]; exact Int.mul_tdiv_cancel_left _ (by omega)
  have q0 : 0 ≤ q := by
    rcases Int.lt_or_le q 0 with k | k
    · have := Int.mul_neg_of_pos_of_neg g0 k; omega
    · exact k
  have r0 : 0 < r := by
    rcases Int.lt_or_le 0 r with k | k
    · exact k
    · have := Int.mul_nonpos_of_nonneg_of_nonpos (Int.le_of_lt g0) k; omega
  rw [c1, c2, wrap_id (x := q) (by omega) (by omega), wrap_id (x := r) (by omega) (by omega)]
  exact ⟨q, r, g, rfl, g0, hq, hr, ⟨q0, by omega⟩, r0, by omega⟩
theorem hit_threat (a b c d : Int) (h1 : (threatV a b c d).2.2 = true) (h2 : (hitV a b c d).2.2 = true) : wrap64 ((threatV a b c d).1 * (hitV a b c d).2.1) ≤ wrap64 ((hitV a b c d).1 * (threatV a b c d).2.1) := by
  unfold threatV at h1 ⊢
  unfold hitV at h2 ⊢
  cases hG : goodB a b c d with
  | false => rw [if_neg (by rw [hG]; simp)] at h1; simp at h1
  | true =>
    rw [if_pos hG] at h1 h2
    rw [if_pos rfl, if_pos rfl]
    obtain ⟨ha, hb, hc, hd⟩ := good_out hG
    have w1 : wrap64 (wrap64 (a + b) + c) = a + b + c := by rw [wrap_id (x := a + b) (by omega) (by omega), wrap_id (by omega) (by omega)]
    have w2 : wrap64 (a + b) = a + b := wrap_id (by omega) (by omega)
    rw [w1] at h1 ⊢
    rw [w2] at h2 ⊢
    have p2 : 0 < a + b := by
      rcases Int.lt_or_le 0 (a + b) with k | k
      · exact k
      · unfold ratioV at h2; rw [if_pos (by omega)] at h2; simp at h2
    obtain ⟨q1, r1, g1, e1, g10, n1, d1, ⟨q10, q11⟩, r10, r11⟩ := ratioV_form a (a + b + c) (by omega) (by omega) (by omega) (by omega)
    obtain ⟨q2, r2, g2, e2, g20, n2, d2, ⟨q20, q21⟩, r20, r21⟩ := ratioV_form a (a + b) (by omega) (by omega) (by omega) (by omega)
    rw [e1, e2]; dsimp only
    have k1 := mul_le_big (x := q1) (y := r2) (A := 1000000) (B := 2000000) (by omega) (by omega) (by omega) (by omega)
    have k2 := mul_le_big (x := q2) (y := r1) (A := 1000000) (B := 3000000) (by omega) (by omega) (by omega) (by omega)
    have key : q1 * r2 ≤ q2 * r1 := by
      refine Int.le_of_mul_le_mul_left (a := g1 * g2) ?_ (Int.mul_pos g10 g20)
      have x1 : g1 * g2 * (q1 * r2) = a * (a + b) := by
        rw [d2]; conv => rhs; rw [n1]
        ac_rfl
      have x2 : g1 * g2 * (q2 * r1) = a * (a + b + c) := by
        rw [d1]; conv => rhs; rw [n2]
        ac_rfl
      rw [x1, x2]
      exact Int.mul_le_mul_of_nonneg_left (by omega) ha.1
    rw [wrap_id (x := q1 * r2) (by omega) (by omega), wrap_id (x := q2 * r1) (by omega) (by omega)]
    exact key
theorem FnScores : laws_FnScores.Pure := by
  intro l0 hl _ hw
  have hby := bytes_of l0 hw
  by_cases hbig : (l0.length : Int) > 65536
  · exact ⟨0, by simp [laws_FnScores.f, laws_vBig.f, hbig]⟩
  obtain ⟨w, h, xs, w', h', ys, lim, hx, hy, _, g1⟩ := DrawCountTable_ev l0 hby
  obtain ⟨v, i1, i2, i3⟩ := count_motion w h xs w' h' ys lim (by omega) (by omega)
  obtain ⟨a, b, c, d, p, s, hd, _⟩ := table_draw l0 hby 0 0 (by omega) (by omega)
  have hdr : spec_DrawThreatScore.f l0 = some (a, b, c, d) := by
    unfold spec_DrawThreatScore.f spec_DrawHitRate.f
    rw [hd, Option.bind_some, Option.bind_some]
  obtain ⟨t1, t2⟩ := Threat_ev a b c d
  obtain ⟨h1, h2⟩ := Hit_ev a b c d
  obtain ⟨va, a1, a2⟩ := Alarm_ev a b c d
  obtain ⟨vb, b1, b2⟩ := Bias_ev a b c d
  obtain ⟨ve, e1, e2⟩ := Heidke_ev a b c d
  have hle := hit_threat a b c d
  have J1 : Evt fun k => laws_FnScores.j1 k l0 = some true := by
    refine Evt.succ ((t1.and (t2.and (h1.and (h2.and (a1.and (a2.and (b1.and (b2.and (e1.and e2))))))))).mono ?_)
    rintro k ⟨q1, q2, q3, q4, q5, q6, q7, q8, q9, q10⟩
    simp only [laws_FnScores.j1, hdr, Option.bind_some, q1, q2, q3, q4, q5, q6, q7, q8, q9, q10, beq_self_eq_true, bne_self_eq_false, Bool.not_true, Bool.or_self, Bool.false_eq_true, if_false]
    cases k1 : (threatV a b c d).2.2 with
    | false => simp
    | true =>
      cases k2 : (hitV a b c d).2.2 with
      | false => simp
      | true =>
        have := hle k1 k2
        simp only [if_true]
        rw [decide_eq_true this]
  have J0 : Evt fun k => laws_FnScores.j0 k l0 v.2.2.2.2 false w h xs w' h' ys v.1 v.2.1 v.2.2.1 v.2.2.2.1 = some true := by
    cases hv : v.2.2.2.2 with
    | false =>
      refine Evt.succ (J1.mono fun k hk => ?_)
      simp only [laws_FnScores.j0, Bool.false_eq_true, if_false]
      exact hk
    | true =>
      obtain ⟨s, i4⟩ := i3 hv
      refine Evt.succ ((J1.and i4).mono ?_)
      rintro k ⟨q1, q2⟩
      simp only [laws_FnScores.j0, Bool.false_eq_true, if_false, if_true, q2, Option.bind_some]
      exact q1
  obtain ⟨K, hK⟩ := (g1.and (i1.and (i2.and J0))).at
  have d0 := fun j => (hK j).1
  have d1 := fun j => (hK j).2.1
  have d2 := fun j => (hK j).2.2.1
  have d3 := fun j => (hK j).2.2.2
  refine ⟨K + 0, ?_⟩
  unfold laws_FnScores.f
  simp only [laws_vBig.f, Option.bind_some, decide_eq_false hbig, d0, d1, d2, beq_self_eq_true, bne_self_eq_false, Bool.not_true, Bool.or_self, Bool.false_eq_true, if_false]
  exact d3 0
end Go.Proofs.Ytddgbaohepfekaa.Pure
