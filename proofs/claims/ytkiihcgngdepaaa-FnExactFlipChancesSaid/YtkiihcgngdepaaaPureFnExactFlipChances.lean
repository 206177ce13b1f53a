/-
  The pure statement of the law FnExactFlipChances: what its printed function answers is 'true' for all numbers and lists of its kinds. Conditions: the kinds' own bounds, as the statement lays them.
-/
import Derived.Test.YtkiihcgngdepaaaStmFnExactFlipChances
import Derived.DataShut
namespace Go.Proofs.Ytkiihcgngdepaaa.XFnExactFlipChances.Pure
open Go.RowKit Go.Proofs.Ytkiihcgngdepaaa.XFnExactFlipChances Go.Proofs.YtkiihcgngdepaaaW.PrintWords Go.Proofs.YtkiihcgngdepaaaW.PrintLast Go.Proofs.YtkiihcgngdepaaaW.PrintMore
set_option linter.unusedVariables false
set_option linter.unusedSimpArgs false
theorem wrap_id {x : Int} (h0 : -9223372036854775808 ≤ x) (h1 : x ≤ 9223372036854775807) : wrap64 x = x := by unfold wrap64; omega
theorem getD_drop {α : Type} (xs : List α) (z : α) (i : Nat) (h : i < xs.length) : xs.drop i = xs.getD i z :: xs.drop (i + 1) := by
  rw [List.drop_eq_getElem_cons h, List.getD_eq_getElem?_getD, List.getElem?_eq_getElem h]; rfl
def Evt (P : Nat → Prop) : Prop := ∃ K, ∀ k, K ≤ k → P k
theorem Evt.all {P : Nat → Prop} (h : ∀ k, P k) : Evt P := ⟨0, fun k _ => h k⟩
theorem Evt.and {P Q : Nat → Prop} (h : Evt P) (g : Evt Q) : Evt fun k => P k ∧ Q k := by
  obtain ⟨K, h⟩ := h
  obtain ⟨M, g⟩ := g
  exact ⟨K + M, fun k hk => ⟨h k (by omega), g k (by omega)⟩⟩
theorem Evt.mono {P Q : Nat → Prop} (h : Evt P) (g : ∀ k, P k → Q k) : Evt Q := by
  obtain ⟨K, h⟩ := h
  exact ⟨K, fun k hk => g k (h k hk)⟩
theorem Evt.succ {Q : Nat → Prop} (h : Evt fun k => Q (k + 1)) : Evt Q := by
  obtain ⟨K, h⟩ := h
  refine ⟨K + 1, fun k hk => ?_⟩
  obtain ⟨m, rfl⟩ : ∃ m, k = m + 1 := ⟨k - 1, by omega⟩
  exact h m (by omega)
theorem Evt.add {Q : Nat → Prop} (c : Nat) (h : Evt fun k => Q (k + c)) : Evt Q := by
  obtain ⟨K, h⟩ := h
  refine ⟨K + c, fun k hk => ?_⟩
  obtain ⟨m, rfl⟩ : ∃ m, k = m + c := ⟨k - c, by omega⟩
  exact h m (by omega)
theorem Evt.at {P : Nat → Prop} (h : Evt P) : ∃ K, ∀ j, P (K + j) := by
  obtain ⟨K, h⟩ := h
  exact ⟨K, fun j => h _ (by omega)⟩
theorem evt_loop {σ ρ : Type} (n : Nat) (L : Nat → σ → Int → Option ρ) (v : ρ) (Inv : Nat → σ → Prop)
    (step : ∀ i s, i < n → Inv i s → (∃ s', Inv (i + 1) s' ∧ ∃ c, Evt fun k => L (k + c) s (i : Int) = L k s' ((i : Int) + 1)) ∨ Evt fun k => L k s (i : Int) = some v)
    (fin : ∀ s, Inv n s → Evt fun k => L k s (n : Int) = some v) :
    ∀ i s, i ≤ n → Inv i s → Evt fun k => L k s (i : Int) = some v := by
  have key : ∀ d i s, i + d = n → Inv i s → Evt fun k => L k s (i : Int) = some v := by
    intro d
    induction d with
    | zero =>
      intro i s hi h
      obtain rfl : i = n := by omega
      exact fin s h
    | succ d ih =>
      intro i s hi h
      rcases step i s (by omega) h with ⟨s', h', c, e⟩ | e
      · have h2 := ih (i + 1) s' (by omega) h'
        rw [show ((i + 1 : Nat) : Int) = (i : Int) + 1 from by omega] at h2
        exact Evt.add c ((e.and h2).mono fun k hk => hk.1.trans hk.2)
      · exact e
  intro i s hi h
  exact key (n - i) i s (by omega) h
theorem evt_loop0 {σ ρ : Type} (n : Nat) (L : Nat → σ → Int → Option ρ) (v : ρ) (Inv : Nat → σ → Prop)
    (step : ∀ i s, i < n → Inv i s → (∃ s', Inv (i + 1) s' ∧ ∃ c, Evt fun k => L (k + c) s (i : Int) = L k s' ((i : Int) + 1)) ∨ Evt fun k => L k s (i : Int) = some v)
    (fin : ∀ s, Inv n s → Evt fun k => L k s (n : Int) = some v) (s : σ) (h0 : Inv 0 s) : Evt fun k => L k s 0 = some v :=
  evt_loop n L v Inv step fin 0 s (Nat.zero_le _) h0
theorem getD_lt {α : Type} (xs : List α) (z : α) (i : Nat) (h : i < xs.length) : xs.getD i z = xs[i] := by
  rw [List.getD_eq_getElem?_getD, List.getElem?_eq_getElem h]; rfl
theorem getD_set_self {α : Type} (xs : List α) (z v : α) (i : Nat) (h : i < xs.length) : (xs.set i v).getD i z = v := by
  rw [List.getD_eq_getElem?_getD, List.getElem?_set_self h]; rfl
theorem getD_set_ne {α : Type} (xs : List α) (z v : α) (i j : Nat) (h : i ≠ j) : (xs.set i v).getD j z = xs.getD j z := by
  rw [List.getD_eq_getElem?_getD, List.getElem?_set_ne h, List.getD_eq_getElem?_getD]
theorem getD_map {α β : Type} (f : α → β) (xs : List α) (z : α) (y : β) (i : Nat) (h : i < xs.length) : (xs.map f).getD i y = f (xs.getD i z) := by
  rw [getD_lt _ _ _ (by simpa using h), getD_lt _ _ _ h, List.getElem_map]
theorem list_ext_getD {α : Type} (xs ys : List α) (z : α) (h : xs.length = ys.length) (e : ∀ j, j < xs.length → xs.getD j z = ys.getD j z) : xs = ys := by
  apply List.ext_getElem h
  intro j h1 h2
  have := e j h1
  rwa [getD_lt _ _ _ h1, getD_lt _ _ _ h2] at this
def c_Chance (x : S63) : S61 := ⟨x.f0, x.f1⟩
theorem toChanceS_ev (l : List S63) (hl : l.length ≤ 1048576) : Evt fun k => laws_toChanceS.f k l = some (l.map c_Chance) := by
  unfold laws_toChanceS.f
  simp only [if_pos (show 0 ≤ (l.length : Int) by omega), if_pos (show ((l.length : Int) : Int).toNat ≤ 17592186044416 by omega)]
  refine evt_loop0 l.length (fun k s i => laws_toChanceS.l0 k l s i) (l.map c_Chance) (fun i s => s.length = l.length ∧ ∀ j, j < i → s.getD j z61 = (l.map c_Chance).getD j z61) ?_ ?_ _ ⟨by simp, fun j hj => by omega⟩
  · rintro i s hi ⟨h1, h2⟩
    refine .inl ⟨s.set i ((l.map c_Chance).getD i z61), ⟨by simpa using h1, fun j hj => ?_⟩, 1, Evt.all fun k => ?_⟩
    · by_cases e : j = i
      · subst e; rw [getD_set_self _ _ _ _ (by omega)]
      · rw [getD_set_ne _ _ _ _ _ (by omega)]; exact h2 j (by omega)
    · show laws_toChanceS.l0 (k + 1) l s (i : Int) = _
      simp only [laws_toChanceS.l0, laws_toChance.f, Option.bind_some]
      rw [if_pos (by omega), if_pos (by omega), if_pos (by omega), wrap_id (by omega) (by omega), Int.toNat_natCast, getD_map _ _ z63 _ _ hi]
      rfl
  · rintro s ⟨h1, h2⟩
    refine Evt.succ (Evt.all fun k => ?_)
    show laws_toChanceS.l0 (k + 1) l s (l.length : Int) = _
    simp only [laws_toChanceS.l0]
    rw [if_neg (by omega)]
    exact congrArg some (list_ext_getD _ _ z61 (by simpa using h1) (fun j hj => h2 j (by omega)))
theorem eqChanceS_self (l : List S61) (hl : l.length ≤ 4503599627370496) : Evt fun k => laws_eqChanceS.f k l l = some true := by
  unfold laws_eqChanceS.f
  simp only [if_true]
  refine evt_loop0 l.length (fun k (_ : Unit) i => laws_eqChanceS.l0 k l l i) true (fun _ _ => True) ?_ ?_ () trivial
  · intro i s hi _
    refine .inl ⟨(), trivial, 1, Evt.all fun k => ?_⟩
    show laws_eqChanceS.l0 (k + 1) l l (i : Int) = _
    simp only [laws_eqChanceS.l0, laws_eqChance.f]
    rw [if_pos (by omega), if_pos (by omega), if_pos (by omega), wrap_id (by omega) (by omega)]
    simp
  · intro s _
    refine Evt.succ (Evt.all fun k => ?_)
    show laws_eqChanceS.l0 (k + 1) l l (l.length : Int) = _
    simp only [laws_eqChanceS.l0]
    rw [if_neg (by omega)]
theorem szChanceS_ok (l : List S63) (a : Int) (ha : 0 ≤ a ∧ a ≤ 1048576) (hl : l.length ≤ maxLen) : laws_szChanceS.f l a = some (if a - (l.length : Int) < 0 then -1 else a - (l.length : Int)) := by
  unfold maxLen at hl
  unfold laws_szChanceS.f
  rw [wrap_id (by omega) (by omega)]
  split <;> rfl
def mk_Chance (a : Int) (j : Nat) : S61 := ⟨a + 2 * (j : Int), (Int.tmod (a + 2 * (j : Int) + 1) 3 == 0)⟩
def marked_Chance (a : Int) (n : Nat) : List S61 := (List.range n).map (mk_Chance a)
theorem marked_Chance_len (a : Int) (n : Nat) : (marked_Chance a n).length = n := by simp [marked_Chance]
theorem marked_Chance_get (a : Int) (n j : Nat) (h : j < n) : (marked_Chance a n).getD j z61 = mk_Chance a j := by
  rw [getD_lt _ _ _ (by simpa [marked_Chance] using h)]; simp [marked_Chance]
theorem markChanceS_ev (l : List S61) (a : Int) (ha : 0 ≤ a ∧ a ≤ 1000000000000) (hl : l.length ≤ 1000000000000) : Evt fun k => laws_markChanceS.f k l a = some (a + 2 * l.length, marked_Chance a l.length) := by
  unfold laws_markChanceS.f
  refine evt_loop0 l.length (fun k (s : List S61 × Int) i => laws_markChanceS.l0 k s.1 s.2 i) _ (fun i s => s.1.length = l.length ∧ s.2 = a + 2 * i ∧ ∀ j, j < i → s.1.getD j z61 = mk_Chance a j) ?_ ?_ (l, a) ⟨rfl, by simp, fun j hj => by omega⟩
  · rintro i ⟨s, x⟩ hi ⟨h1, h2, h3⟩
    simp only at h1 h2 h3
    refine .inl ⟨(s.set i (mk_Chance a i), x + 1 + 1), ⟨by simpa using h1, by simp only; omega, fun j hj => ?_⟩, 1, Evt.all fun k => ?_⟩
    · simp only
      by_cases e : j = i
      · subst e; rw [getD_set_self _ _ _ _ (by omega)]
      · rw [getD_set_ne _ _ _ _ _ (by omega)]; exact h3 j (by omega)
    · show laws_markChanceS.l0 (k + 1) s x (i : Int) = laws_markChanceS.l0 k (s.set i (mk_Chance a i)) (x + 1 + 1) ((i : Int) + 1)
      have w1 : wrap64 (x + 1) = x + 1 := wrap_id (by omega) (by omega)
      have w2 : wrap64 (x + 1 + 1) = x + 1 + 1 := wrap_id (by omega) (by omega)
      simp only [laws_markChanceS.l0, Option.bind_some]
      rw [if_pos (by omega), if_pos (by omega), wrap_id (x := (i : Int) + 1) (by omega) (by omega)]
      simp only [w1, w2, rd_T61, Int.toNat_natCast, getD_set_self _ _ _ _ (show i < s.length by omega), List.set_set]
      subst h2
      rfl
  · rintro ⟨s, x⟩ ⟨h1, h2, h3⟩
    simp only at h1 h2 h3
    refine Evt.succ (Evt.all fun k => ?_)
    show laws_markChanceS.l0 (k + 1) s x (l.length : Int) = _
    simp only [laws_markChanceS.l0]
    rw [if_neg (by omega), h2]
    refine congrArg some (Prod.ext rfl (list_ext_getD _ _ z61 (by rw [marked_Chance_len]; exact h1) (fun j hj => ?_)))
    have hj' : j < l.length := by simp only at hj; omega
    rw [marked_Chance_get _ _ _ hj']; exact h3 j hj'
theorem heldChanceS_ev (n : Nat) (a : Int) (ha : 0 ≤ a ∧ a ≤ 1000000000000) (hl : n ≤ 1000000000000) : Evt fun k => laws_heldChanceS.f k (marked_Chance a n) a = some (a + 2 * n) := by
  unfold laws_heldChanceS.f
  refine evt_loop0 n (fun k (x : Int) i => laws_heldChanceS.l0 k (marked_Chance a n) x i) _ (fun i x => x = a + 2 * i) ?_ ?_ a (by simp)
  · rintro i x hi h2
    refine .inl ⟨x + 1 + 1, by omega, 1, Evt.all fun k => ?_⟩
    show laws_heldChanceS.l0 (k + 1) (marked_Chance a n) x (i : Int) = _
    have w1 : wrap64 (x + 1) = x + 1 := wrap_id (by omega) (by omega)
    have w2 : wrap64 (x + 1 + 1) = x + 1 + 1 := wrap_id (by omega) (by omega)
    simp only [laws_heldChanceS.l0]
    rw [marked_Chance_len, if_pos (by omega), if_pos (by omega), wrap_id (x := (i : Int) + 1) (by omega) (by omega)]
    simp only [w1, w2, rd_T61, Int.toNat_natCast, marked_Chance_get _ _ _ hi]
    subst h2
    simp [mk_Chance]
  · rintro x h2
    refine Evt.succ (Evt.all fun k => ?_)
    show laws_heldChanceS.l0 (k + 1) (marked_Chance a n) x (n : Int) = _
    simp only [laws_heldChanceS.l0]
    rw [marked_Chance_len, if_neg (by omega), h2]
theorem within_ok (a b c : Int) : impl_within.f a b c = some (decide (b ≤ a ∧ a ≤ c)) := by
  unfold impl_within.f
  split <;> simp <;> omega
theorem l1In_ok (a b c : Int) : spec_l1In.f a b c = some (decide (b ≤ a ∧ a ≤ c)) := by
  unfold spec_l1In.f
  split <;> simp <;> omega
theorem evt_loop_ex {σ ρ : Type} (n : Nat) (L : Nat → σ → Int → Option ρ) (R : ρ → Prop) (Inv : Nat → σ → Prop)
    (step : ∀ i s, i < n → Inv i s → (∃ s', Inv (i + 1) s' ∧ ∃ c, Evt fun k => L (k + c) s (i : Int) = L k s' ((i : Int) + 1)) ∨ ∃ v, R v ∧ Evt fun k => L k s (i : Int) = some v)
    (fin : ∀ s, Inv n s → ∃ v, R v ∧ Evt fun k => L k s (n : Int) = some v) (s : σ) (h0 : Inv 0 s) : ∃ v, R v ∧ Evt fun k => L k s 0 = some v := by
  have key : ∀ d i s, i + d = n → Inv i s → ∃ v, R v ∧ Evt fun k => L k s (i : Int) = some v := by
    intro d
    induction d with
    | zero =>
      intro i s hi h
      obtain rfl : i = n := by omega
      exact fin s h
    | succ d ih =>
      intro i s hi h
      rcases step i s (by omega) h with ⟨s', h', c, e⟩ | e
      · obtain ⟨v, hv, h2⟩ := ih (i + 1) s' (by omega) h'
        rw [show ((i + 1 : Nat) : Int) = (i : Int) + 1 from by omega] at h2
        exact ⟨v, hv, Evt.add c ((e.and h2).mono fun k hk => hk.1.trans hk.2)⟩
      · exact e
  exact key n 0 s (by omega) h0
def chOk (c : S61) : Bool := decide (0 ≤ c.f0 ∧ c.f0 ≤ 10)
def chancesB (l : List S61) : Bool := l.all chOk && decide (l.length ≤ 40)
theorem chancesB_len {l : List S61} (h : chancesB l = true) : l.length ≤ 40 := by
  unfold chancesB at h
  simp only [Bool.and_eq_true, decide_eq_true_eq] at h
  exact h.2
theorem chancesB_at {l : List S61} (h : chancesB l = true) (i : Nat) (hi : i < l.length) : 0 ≤ (l.getD i z61).f0 ∧ (l.getD i z61).f0 ≤ 10 := by
  unfold chancesB at h
  simp only [Bool.and_eq_true, decide_eq_true_eq] at h
  rw [getD_lt _ _ _ hi]
  have := List.all_eq_true.1 h.1 _ (List.getElem_mem hi)
  unfold chOk at this
  exact of_decide_eq_true this
theorem rd_ch (l : List S61) (i : Nat) : rd_T61 l (i : Int) = l.getD i z61 := by unfold rd_T61; rw [Int.toNat_natCast]
theorem IndexFunc_ev (l : List S61) (hl : l.length ≤ 4503599627370496) : ∃ r, decide (r ≥ (0 : Int)) = !(l.all chOk) ∧ Evt fun k => slices_IndexFunc_Chance.f k l = some r := by
  unfold slices_IndexFunc_Chance.f
  refine evt_loop_ex l.length (fun k (_ : Unit) i => slices_IndexFunc_Chance.l0 k l (l.length : Int) i) _ (fun i _ => (l.drop i).all chOk = l.all chOk) ?_ ?_ () rfl
  · intro i s hi h
    rw [getD_drop l z61 i hi, List.all_cons] at h
    by_cases hp : 0 ≤ (l.getD i z61).f0 ∧ (l.getD i z61).f0 ≤ 10
    · refine .inl ⟨(), by rw [← h, chOk, decide_eq_true hp, Bool.true_and], 1, Evt.all fun k => ?_⟩
      show slices_IndexFunc_Chance.l0 (k + 1) l (l.length : Int) (i : Int) = _
      simp only [slices_IndexFunc_Chance.l0, impl_IsValidChances_1.f, within_ok, Option.bind_some, rd_ch, decide_eq_true hp, Bool.not_true]
      rw [if_pos (by omega), if_pos (by omega), if_pos (by omega), if_neg (by simp), wrap_id (by omega) (by omega)]
    · refine .inr ⟨(i : Int), ?_, Evt.succ (Evt.all fun k => ?_)⟩
      · rw [← h, chOk, decide_eq_false hp, Bool.false_and]; simp
      · show slices_IndexFunc_Chance.l0 (k + 1) l (l.length : Int) (i : Int) = _
        simp only [slices_IndexFunc_Chance.l0, impl_IsValidChances_1.f, within_ok, Option.bind_some, rd_ch, decide_eq_false hp, Bool.not_false]
        rw [if_pos (by omega), if_pos (by omega), if_pos (by omega), if_pos trivial]
  · intro s h
    rw [List.drop_of_length_le (Nat.le_refl _)] at h
    refine ⟨-1, by rw [← h]; simp, Evt.succ (Evt.all fun k => ?_)⟩
    show slices_IndexFunc_Chance.l0 (k + 1) l (l.length : Int) (l.length : Int) = _
    simp only [slices_IndexFunc_Chance.l0]
    rw [if_neg (by omega)]
theorem IsValidChances_ev (l : List S61) (hl : l.length ≤ 4503599627370496) : Evt fun k => impl_IsValidChances.f k l = some (chancesB l) := by
  obtain ⟨r, hr, e⟩ := IndexFunc_ev l hl
  refine e.mono fun k hk => ?_
  simp only [impl_IsValidChances.f, slices_ContainsFunc_Chance.f, hk, Option.bind_some, hr, Bool.not_not, chancesB]
  by_cases h : l.length ≤ 40
  · rw [if_pos (by omega), decide_eq_true h, Bool.and_true]
  · rw [if_neg (by omega), decide_eq_false h, Bool.and_false]
theorem l21Good_ev (l : List S61) (hl : l.length ≤ 4503599627370496) : Evt fun k => spec_l21Good.f k l = some (chancesB l) := by
  unfold spec_l21Good.f
  refine evt_loop0 l.length (fun k (_ : Unit) i => spec_l21Good.l0 k l i) (chancesB l) (fun i _ => (l.drop i).all chOk = l.all chOk) ?_ ?_ () rfl
  · intro i s hi h
    rw [getD_drop l z61 i hi, List.all_cons] at h
    by_cases hp : 0 ≤ (l.getD i z61).f0 ∧ (l.getD i z61).f0 ≤ 10
    · refine .inl ⟨(), by rw [← h, chOk, decide_eq_true hp, Bool.true_and], 1, Evt.all fun k => ?_⟩
      show spec_l21Good.l0 (k + 1) l (i : Int) = _
      simp only [spec_l21Good.l0, l1In_ok, Option.bind_some, rd_ch, decide_eq_true hp, if_true]
      rw [if_pos (by omega), if_pos (by omega), wrap_id (by omega) (by omega)]
    · refine .inr (Evt.succ (Evt.all fun k => ?_))
      show spec_l21Good.l0 (k + 1) l (i : Int) = _
      simp only [spec_l21Good.l0, l1In_ok, Option.bind_some, rd_ch, decide_eq_false hp]
      rw [if_pos (by omega), if_pos (by omega), if_neg (by simp), chancesB, ← h, chOk, decide_eq_false hp, Bool.false_and, Bool.false_and]
  · intro s h
    rw [List.drop_of_length_le (Nat.le_refl _)] at h
    refine Evt.succ (Evt.all fun k => ?_)
    show spec_l21Good.l0 (k + 1) l (l.length : Int) = _
    simp only [spec_l21Good.l0]
    rw [if_neg (by omega), chancesB, ← h, List.all_nil, Bool.true_and]
    exact congrArg some (decide_eq_decide.2 (by omega))
def flipC (c : S61) : S61 := ⟨10 - c.f0, !c.f1⟩
theorem pair_FlipChances (l : List S61) (hl : l.length ≤ 1048576) : ∃ v, (Evt fun k => impl_FlipChances.f k l = some v) ∧ (Evt fun k => spec_FlipChances.f k l = some v) ∧ v.1.length ≤ 1048576 := by
  have c1 := IsValidChances_ev l (by omega)
  have c2 := l21Good_ev l (by omega)
  cases hc : chancesB l with
  | false =>
    refine ⟨([], false), c1.mono fun k hk => ?_, c2.mono fun k hk => ?_, by simp⟩
    · simp [impl_FlipChances.f, hk, hc]
    · simp [spec_FlipChances.f, hk, hc]
  | true =>
    have hat := chancesB_at hc
    have hlen := chancesB_len hc
    have f1 := evt_loop0 l.length (fun k s i => impl_FlipChances.l0 k s l (l.length : Int) i) (l.map flipC, true) (fun i s => s.length = l.length ∧ ∀ j, j < i → s.getD j z61 = (l.map flipC).getD j z61) (by
      rintro i s hi ⟨h1, h2⟩
      refine .inl ⟨s.set i (flipC (l.getD i z61)), ⟨by simpa using h1, fun j hj => ?_⟩, 1, Evt.all fun k => ?_⟩
      · by_cases e : j = i
        · subst e; rw [getD_set_self _ _ _ _ (by omega), getD_map _ _ z61 _ _ hi]
        · rw [getD_set_ne _ _ _ _ _ (by omega)]; exact h2 j (by omega)
      · have := hat i hi
        show impl_FlipChances.l0 (k + 1) s l (l.length : Int) (i : Int) = _
        simp only [impl_FlipChances.l0, rd_ch]
        rw [if_pos (by omega), if_pos (by omega), if_pos (by omega), if_pos (by omega), wrap_id (x := (i : Int) + 1) (by omega) (by omega), wrap_id (x := 10 - _) (by omega) (by omega), Int.toNat_natCast]
        rfl) (by
      rintro s ⟨h1, h2⟩
      refine Evt.succ (Evt.all fun k => ?_)
      show impl_FlipChances.l0 (k + 1) s l (l.length : Int) (l.length : Int) = _
      simp only [impl_FlipChances.l0]
      rw [if_neg (by omega)]
      exact congrArg some (Prod.ext (list_ext_getD _ _ z61 (by simpa using h1) (fun j hj => h2 j (by simp only at hj; omega))) rfl)) (List.replicate l.length z61) ⟨by simp, fun j hj => by omega⟩
    have f2 := evt_loop0 l.length (fun k s i => spec_FlipChances.l0 k l s i) (l.map flipC, true) (fun i s => s = (l.take i).map flipC) (by
      rintro i s hi rfl
      refine .inl ⟨_, rfl, 1, Evt.all fun k => ?_⟩
      have := hat i hi
      have hlt : ((l.take i).map flipC).length ≤ i := by simp; omega
      show spec_FlipChances.l0 (k + 1) l ((l.take i).map flipC) (i : Int) = _
      simp only [spec_FlipChances.l0, rd_ch]
      rw [if_pos (by omega), if_pos (by omega), if_pos (by omega), wrap_id (x := (i : Int) + 1) (by omega) (by omega), wrap_id (x := 10 - _) (by omega) (by omega)]
      congr 1
      rw [List.take_succ_eq_append_getElem hi, List.map_append, getD_lt _ _ _ hi]
      rfl) (by
      rintro s rfl
      refine Evt.succ (Evt.all fun k => ?_)
      show spec_FlipChances.l0 (k + 1) l ((l.take l.length).map flipC) (l.length : Int) = _
      simp only [spec_FlipChances.l0]
      rw [if_neg (by omega), List.take_length]) [] (by simp)
    refine ⟨(l.map flipC, true), (c1.and f1).mono ?_, (c2.and f2).mono ?_, by simp; omega⟩
    · rintro k ⟨h1, h2⟩
      simp only [impl_FlipChances.f, h1, hc, Option.bind_some, if_true]
      rw [if_pos (by omega), if_pos (by omega), Int.toNat_natCast]
      exact h2
    · rintro k ⟨h1, h2⟩
      simp only [spec_FlipChances.f, h1, hc, Option.bind_some, if_true]
      exact h2
theorem FnExactFlipChances : FnExactFlipChancesPure := by
  intro l0 hm0 hw0
  have q0 := szChanceS_ok l0 1048576 (by omega) hm0
  by_cases hl0 : (1048576 - (l0.length : Int)) < 0
  · exact ⟨0, by unfold laws_FnExactFlipChances.f; rw [q0, if_pos hl0, Option.bind_some, if_pos (by omega)]⟩
  rw [if_neg hl0] at q0
  have hn0 : l0.length ≤ 1048576 := by omega
  obtain ⟨⟨g0, g1⟩, hi, hs, hb⟩ := pair_FlipChances (l0.map c_Chance) (by rw [List.length_map]; exact hn0)
  simp only at hb
  have n0 : ¬ (1 + 2 * (l0.length : Int) < 0) := by omega
  have n1 : ¬ (1 + 2 * (g0.length : Int) < 0) := by omega
  obtain ⟨K, hK⟩ := ((hi).and ((hs).and ((toChanceS_ev l0 hn0).and ((eqChanceS_self (l0.map c_Chance) (by rw [List.length_map]; omega)).and ((markChanceS_ev (l0.map c_Chance) 1 (by omega) (by rw [List.length_map]; omega)).and ((eqChanceS_self g0 (by omega)).and ((markChanceS_ev g0 1 (by omega) (by omega)).and (heldChanceS_ev g0.length 1 (by omega) (by omega))))))))).at
  have e0 := fun j => (hK j).1
  have e1 := fun j => (hK j).2.1
  have e2 := fun j => (hK j).2.2.1
  have e3 := fun j => (hK j).2.2.2.1
  have e4 := fun j => (hK j).2.2.2.2.1
  have e5 := fun j => (hK j).2.2.2.2.2.1
  have e6 := fun j => (hK j).2.2.2.2.2.2.1
  have e7 := fun j => (hK j).2.2.2.2.2.2.2
  refine ⟨K + 6, ?_⟩
  simp only [laws_FnExactFlipChances.f, q0, if_neg hl0, Option.bind_some, e0, e1, e2, e3, e4, e5, e6, e7, if_true]
  simp [laws_FnExactFlipChances.j0, laws_FnExactFlipChances.j1, laws_FnExactFlipChances.j2, e0, e1, e2, e3, e4, e5, e6, e7, n0, n1]
end Go.Proofs.Ytkiihcgngdepaaa.XFnExactFlipChances.Pure
