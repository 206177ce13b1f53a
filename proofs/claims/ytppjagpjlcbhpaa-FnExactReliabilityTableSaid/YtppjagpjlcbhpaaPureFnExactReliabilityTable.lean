/-
  The pure statement of the law FnExactReliabilityTable: what its printed function answers is 'true' for all numbers and lists of its kinds. Conditions: the kinds' own bounds, as the statement lays them.
-/
import Derived.Test.YtppjagpjlcbhpaaStmFnExactReliabilityTable
import Derived.DataShut
namespace Go.Proofs.Ytppjagpjlcbhpaa.XFnExactReliabilityTable.Pure
open Go.RowKit Go.Proofs.Ytppjagpjlcbhpaa.XFnExactReliabilityTable Go.Proofs.YtppjagpjlcbhpaaW.PrintWords Go.Proofs.YtppjagpjlcbhpaaW.PrintLast Go.Proofs.YtppjagpjlcbhpaaW.PrintMore
set_option linter.unusedVariables false
set_option linter.unusedSimpArgs false
theorem wrap_id {x : Int} (h0 : -9223372036854775808 ≤ x) (h1 : x ≤ 9223372036854775807) : wrap64 x = x := by unfold wrap64; omega
theorem rd_nat (xs : List Int) (i : Nat) : rd xs (i : Int) = xs.getD i 0 := by simp [rd]
theorem for_loop {σ ρ : Type} (K n : Nat) (L : Nat → σ → Int → Option ρ) (v : ρ) (Inv : Nat → σ → Prop)
    (step : ∀ k i s, K ≤ k → i < n → Inv i s → (∃ s', Inv (i + 1) s' ∧ L (k + 1) s (i : Int) = L k s' ((i : Int) + 1)) ∨ L (k + 1) s (i : Int) = some v)
    (fin : ∀ k s, K ≤ k → Inv n s → L (k + 1) s (n : Int) = some v) :
    ∀ k s, Inv 0 s → n + K < k → L k s 0 = some v := by
  have key : ∀ d k i s, i + d = n → Inv i s → d + K < k → L k s (i : Int) = some v := by
    intro d
    induction d with
    | zero =>
      intro k i s hi h hk
      obtain ⟨k, rfl⟩ : ∃ m, k = m + 1 := ⟨k - 1, by omega⟩
      obtain rfl : i = n := by omega
      exact fin k s (by omega) h
    | succ d ih =>
      intro k i s hi h hk
      obtain ⟨k, rfl⟩ : ∃ m, k = m + 1 := ⟨k - 1, by omega⟩
      rcases step k i s (by omega) (by omega) h with ⟨s', h', e⟩ | e
      · rw [e]
        have := ih k (i + 1) s' (by omega) h' (by omega)
        rw [show ((i + 1 : Nat) : Int) = (i : Int) + 1 from by omega] at this
        exact this
      · exact e
  intro k s h hk
  exact key n k 0 s (by omega) h hk
theorem getD_drop {α : Type} (xs : List α) (z : α) (i : Nat) (h : i < xs.length) : xs.drop i = xs.getD i z :: xs.drop (i + 1) := by
  rw [List.drop_eq_getElem_cons h, List.getD_eq_getElem?_getD, List.getElem?_eq_getElem h]; rfl
def Evt (P : Nat → Prop) : Prop := ∃ K, ∀ k, K ≤ k → P k
theorem Evt.all {P : Nat → Prop} (h : ∀ k, P k) : Evt P := ⟨0, fun k _ => h k⟩
theorem Evt.above {P : Nat → Prop} (K : Nat) (h : ∀ k, K < k → P k) : Evt P := ⟨K + 1, fun k hk => h k hk⟩
theorem Evt.and {P Q : Nat → Prop} (h : Evt P) (g : Evt Q) : Evt fun k => P k ∧ Q k := by
  obtain ⟨K, h⟩ := h
  obtain ⟨M, g⟩ := g
  exact ⟨K + M, fun k hk => ⟨h k (by omega), g k (by omega)⟩⟩
theorem Evt.mono {P Q : Nat → Prop} (h : Evt P) (g : ∀ k, P k → Q k) : Evt Q := by
  obtain ⟨K, h⟩ := h
  exact ⟨K, fun k hk => g k (h k hk)⟩
theorem Evt.succ {Q : Nat → Prop} (h : Evt fun k => Q (k + 1)) : Evt Q := by
  obtain ⟨K, h⟩ := h
  refine ⟨K + 1, fun k hk => ?_⟩
  obtain ⟨m, rfl⟩ : ∃ m, k = m + 1 := ⟨k - 1, by omega⟩
  exact h m (by omega)
theorem Evt.add {Q : Nat → Prop} (c : Nat) (h : Evt fun k => Q (k + c)) : Evt Q := by
  obtain ⟨K, h⟩ := h
  refine ⟨K + c, fun k hk => ?_⟩
  obtain ⟨m, rfl⟩ : ∃ m, k = m + c := ⟨k - c, by omega⟩
  exact h m (by omega)
theorem Evt.at {P : Nat → Prop} (h : Evt P) : ∃ K, ∀ j, P (K + j) := by
  obtain ⟨K, h⟩ := h
  exact ⟨K, fun j => h _ (by omega)⟩
theorem evt_loop {σ ρ : Type} (n : Nat) (L : Nat → σ → Int → Option ρ) (v : ρ) (Inv : Nat → σ → Prop)
    (step : ∀ i s, i < n → Inv i s → (∃ s', Inv (i + 1) s' ∧ ∃ c, Evt fun k => L (k + c) s (i : Int) = L k s' ((i : Int) + 1)) ∨ Evt fun k => L k s (i : Int) = some v)
    (fin : ∀ s, Inv n s → Evt fun k => L k s (n : Int) = some v) :
    ∀ i s, i ≤ n → Inv i s → Evt fun k => L k s (i : Int) = some v := by
  have key : ∀ d i s, i + d = n → Inv i s → Evt fun k => L k s (i : Int) = some v := by
    intro d
    induction d with
    | zero =>
      intro i s hi h
      obtain rfl : i = n := by omega
      exact fin s h
    | succ d ih =>
      intro i s hi h
      rcases step i s (by omega) h with ⟨s', h', c, e⟩ | e
      · have h2 := ih (i + 1) s' (by omega) h'
        rw [show ((i + 1 : Nat) : Int) = (i : Int) + 1 from by omega] at h2
        exact Evt.add c ((e.and h2).mono fun k hk => hk.1.trans hk.2)
      · exact e
  intro i s hi h
  exact key (n - i) i s (by omega) h
theorem evt_loop0 {σ ρ : Type} (n : Nat) (L : Nat → σ → Int → Option ρ) (v : ρ) (Inv : Nat → σ → Prop)
    (step : ∀ i s, i < n → Inv i s → (∃ s', Inv (i + 1) s' ∧ ∃ c, Evt fun k => L (k + c) s (i : Int) = L k s' ((i : Int) + 1)) ∨ Evt fun k => L k s (i : Int) = some v)
    (fin : ∀ s, Inv n s → Evt fun k => L k s (n : Int) = some v) (s : σ) (h0 : Inv 0 s) : Evt fun k => L k s 0 = some v :=
  evt_loop n L v Inv step fin 0 s (Nat.zero_le _) h0
theorem getD_lt {α : Type} (xs : List α) (z : α) (i : Nat) (h : i < xs.length) : xs.getD i z = xs[i] := by
  rw [List.getD_eq_getElem?_getD, List.getElem?_eq_getElem h]; rfl
theorem getD_set_self {α : Type} (xs : List α) (z v : α) (i : Nat) (h : i < xs.length) : (xs.set i v).getD i z = v := by
  rw [List.getD_eq_getElem?_getD, List.getElem?_set_self h]; rfl
theorem getD_set_ne {α : Type} (xs : List α) (z v : α) (i j : Nat) (h : i ≠ j) : (xs.set i v).getD j z = xs.getD j z := by
  rw [List.getD_eq_getElem?_getD, List.getElem?_set_ne h, List.getD_eq_getElem?_getD]
theorem getD_map {α β : Type} (f : α → β) (xs : List α) (z : α) (y : β) (i : Nat) (h : i < xs.length) : (xs.map f).getD i y = f (xs.getD i z) := by
  rw [getD_lt _ _ _ (by simpa using h), getD_lt _ _ _ h, List.getElem_map]
theorem list_ext_getD {α : Type} (xs ys : List α) (z : α) (h : xs.length = ys.length) (e : ∀ j, j < xs.length → xs.getD j z = ys.getD j z) : xs = ys := by
  apply List.ext_getElem h
  intro j h1 h2
  have := e j h1
  rwa [getD_lt _ _ _ h1, getD_lt _ _ _ h2] at this
def c_Chance (x : S78) : S76 := ⟨x.f0, x.f1⟩
theorem toChanceS_ev (l : List S78) (hl : l.length ≤ 1048576) : Evt fun k => laws_toChanceS.f k l = some (l.map c_Chance) := by
  unfold laws_toChanceS.f
  simp only [if_pos (show 0 ≤ (l.length : Int) by omega), if_pos (show ((l.length : Int) : Int).toNat ≤ 17592186044416 by omega)]
  refine evt_loop0 l.length (fun k s i => laws_toChanceS.l0 k l s i) (l.map c_Chance) (fun i s => s.length = l.length ∧ ∀ j, j < i → s.getD j z76 = (l.map c_Chance).getD j z76) ?_ ?_ _ ⟨by simp, fun j hj => by omega⟩
  · rintro i s hi ⟨h1, h2⟩
    refine .inl ⟨s.set i ((l.map c_Chance).getD i z76), ⟨by simpa using h1, fun j hj => ?_⟩, 1, Evt.all fun k => ?_⟩
    · by_cases e : j = i
      · subst e; rw [getD_set_self _ _ _ _ (by omega)]
      · rw [getD_set_ne _ _ _ _ _ (by omega)]; exact h2 j (by omega)
    · show laws_toChanceS.l0 (k + 1) l s (i : Int) = _
      simp only [laws_toChanceS.l0, laws_toChance.f, Option.bind_some]
      rw [if_pos (by omega), if_pos (by omega), if_pos (by omega), wrap_id (by omega) (by omega), Int.toNat_natCast, getD_map _ _ z78 _ _ hi]
      rfl
  · rintro s ⟨h1, h2⟩
    refine Evt.succ (Evt.all fun k => ?_)
    show laws_toChanceS.l0 (k + 1) l s (l.length : Int) = _
    simp only [laws_toChanceS.l0]
    rw [if_neg (by omega)]
    exact congrArg some (list_ext_getD _ _ z76 (by simpa using h1) (fun j hj => h2 j (by omega)))
theorem eqChanceS_self (l : List S76) (hl : l.length ≤ 4503599627370496) : Evt fun k => laws_eqChanceS.f k l l = some true := by
  unfold laws_eqChanceS.f
  simp only [if_true]
  refine evt_loop0 l.length (fun k (_ : Unit) i => laws_eqChanceS.l0 k l l i) true (fun _ _ => True) ?_ ?_ () trivial
  · intro i s hi _
    refine .inl ⟨(), trivial, 1, Evt.all fun k => ?_⟩
    show laws_eqChanceS.l0 (k + 1) l l (i : Int) = _
    simp only [laws_eqChanceS.l0, laws_eqChance.f]
    rw [if_pos (by omega), if_pos (by omega), if_pos (by omega), wrap_id (by omega) (by omega)]
    simp
  · intro s _
    refine Evt.succ (Evt.all fun k => ?_)
    show laws_eqChanceS.l0 (k + 1) l l (l.length : Int) = _
    simp only [laws_eqChanceS.l0]
    rw [if_neg (by omega)]
theorem szChanceS_ok (l : List S78) (a : Int) (ha : 0 ≤ a ∧ a ≤ 1048576) (hl : l.length ≤ maxLen) : laws_szChanceS.f l a = some (if a - (l.length : Int) < 0 then -1 else a - (l.length : Int)) := by
  unfold maxLen at hl
  unfold laws_szChanceS.f
  rw [wrap_id (by omega) (by omega)]
  split <;> rfl
def mk_Chance (a : Int) (j : Nat) : S76 := ⟨a + 2 * (j : Int), (Int.tmod (a + 2 * (j : Int) + 1) 3 == 0)⟩
def marked_Chance (a : Int) (n : Nat) : List S76 := (List.range n).map (mk_Chance a)
theorem marked_Chance_len (a : Int) (n : Nat) : (marked_Chance a n).length = n := by simp [marked_Chance]
theorem marked_Chance_get (a : Int) (n j : Nat) (h : j < n) : (marked_Chance a n).getD j z76 = mk_Chance a j := by
  rw [getD_lt _ _ _ (by simpa [marked_Chance] using h)]; simp [marked_Chance]
theorem markChanceS_ev (l : List S76) (a : Int) (ha : 0 ≤ a ∧ a ≤ 1000000000000) (hl : l.length ≤ 1000000000000) : Evt fun k => laws_markChanceS.f k l a = some (a + 2 * l.length, marked_Chance a l.length) := by
  unfold laws_markChanceS.f
  refine evt_loop0 l.length (fun k (s : List S76 × Int) i => laws_markChanceS.l0 k s.1 s.2 i) _ (fun i s => s.1.length = l.length ∧ s.2 = a + 2 * i ∧ ∀ j, j < i → s.1.getD j z76 = mk_Chance a j) ?_ ?_ (l, a) ⟨rfl, by simp, fun j hj => by omega⟩
  · rintro i ⟨s, x⟩ hi ⟨h1, h2, h3⟩
    simp only at h1 h2 h3
    refine .inl ⟨(s.set i (mk_Chance a i), x + 1 + 1), ⟨by simpa using h1, by simp only; omega, fun j hj => ?_⟩, 1, Evt.all fun k => ?_⟩
    · simp only
      by_cases e : j = i
      · subst e; rw [getD_set_self _ _ _ _ (by omega)]
      · rw [getD_set_ne _ _ _ _ _ (by omega)]; exact h3 j (by omega)
    · show laws_markChanceS.l0 (k + 1) s x (i : Int) = laws_markChanceS.l0 k (s.set i (mk_Chance a i)) (x + 1 + 1) ((i : Int) + 1)
      have w1 : wrap64 (x + 1) = x + 1 := wrap_id (by omega) (by omega)
      have w2 : wrap64 (x + 1 + 1) = x + 1 + 1 := wrap_id (by omega) (by omega)
      simp only [laws_markChanceS.l0, Option.bind_some]
      rw [if_pos (by omega), if_pos (by omega), wrap_id (x := (i : Int) + 1) (by omega) (by omega)]
      simp only [w1, w2, rd_T76, Int.toNat_natCast, getD_set_self _ _ _ _ (show i < s.length by omega), List.set_set]
      subst h2
      rfl
  · rintro ⟨s, x⟩ ⟨h1, h2, h3⟩
    simp only at h1 h2 h3
    refine Evt.succ (Evt.all fun k => ?_)
    show laws_markChanceS.l0 (k + 1) s x (l.length : Int) = _
    simp only [laws_markChanceS.l0]
    rw [if_neg (by omega), h2]
    refine congrArg some (Prod.ext rfl (list_ext_getD _ _ z76 (by rw [marked_Chance_len]; exact h1) (fun j hj => ?_)))
    have hj' : j < l.length := by simp only at hj; omega
    rw [marked_Chance_get _ _ _ hj']; exact h3 j hj'
theorem within_ok (a b c : Int) : impl_within.f a b c = some (decide (b ≤ a ∧ a ≤ c)) := by
  unfold impl_within.f
  split <;> simp <;> omega
theorem l1In_ok (a b c : Int) : spec_l1In.f a b c = some (decide (b ≤ a ∧ a ≤ c)) := by
  unfold spec_l1In.f
  split <;> simp <;> omega
theorem evt_loop_ex {σ ρ : Type} (n : Nat) (L : Nat → σ → Int → Option ρ) (R : ρ → Prop) (Inv : Nat → σ → Prop)
    (step : ∀ i s, i < n → Inv i s → (∃ s', Inv (i + 1) s' ∧ ∃ c, Evt fun k => L (k + c) s (i : Int) = L k s' ((i : Int) + 1)) ∨ ∃ v, R v ∧ Evt fun k => L k s (i : Int) = some v)
    (fin : ∀ s, Inv n s → ∃ v, R v ∧ Evt fun k => L k s (n : Int) = some v) (s : σ) (h0 : Inv 0 s) : ∃ v, R v ∧ Evt fun k => L k s 0 = some v := by
  have key : ∀ d i s, i + d = n → Inv i s → ∃ v, R v ∧ Evt fun k => L k s (i : Int) = some v := by
    intro d
    induction d with
    | zero =>
      intro i s hi h
      obtain rfl : i = n := by omega
      exact fin s h
    | succ d ih =>
      intro i s hi h
      rcases step i s (by omega) h with ⟨s', h', c, e⟩ | e
      · obtain ⟨v, hv, h2⟩ := ih (i + 1) s' (by omega) h'
        rw [show ((i + 1 : Nat) : Int) = (i : Int) + 1 from by omega] at h2
        exact ⟨v, hv, Evt.add c ((e.and h2).mono fun k hk => hk.1.trans hk.2)⟩
      · exact e
  exact key n 0 s (by omega) h0
theorem evt_fold {α σ ρ : Type} (xs : List α) (z : α) (g : σ → α → σ) (out : σ → ρ) (I : Nat → σ → Prop) (L : Nat → σ → Int → Option ρ)
    (step : ∀ k i s, i < xs.length → I i s → I (i + 1) (g s (xs.getD i z)) ∧ L (k + 1) s (i : Int) = L k (g s (xs.getD i z)) ((i : Int) + 1))
    (fin : ∀ k s, I xs.length s → L (k + 1) s (xs.length : Int) = some (out s)) (s : σ) (h0 : I 0 s) : (Evt fun k => L k s 0 = some (out (xs.foldl g s))) ∧ I xs.length (xs.foldl g s) := by
  have key : ∀ d i s, i + d = xs.length → I i s → (Evt fun k => L k s (i : Int) = some (out ((xs.drop i).foldl g s))) ∧ I xs.length ((xs.drop i).foldl g s) := by
    intro d
    induction d with
    | zero =>
      intro i s hi h
      obtain rfl : i = xs.length := by omega
      rw [List.drop_of_length_le (Nat.le_refl _)]
      exact ⟨Evt.succ (Evt.all fun k => fin k s h), h⟩
    | succ d ih =>
      intro i s hi h
      have hlt : i < xs.length := by omega
      rw [getD_drop xs z i hlt, List.foldl_cons]
      have h1 := fun k => step k i s hlt h
      obtain ⟨h2, h3⟩ := ih (i + 1) _ (by omega) (h1 0).1
      rw [show ((i + 1 : Nat) : Int) = (i : Int) + 1 from by omega] at h2
      exact ⟨Evt.succ (h2.mono fun k hk => (h1 k).2.trans hk), h3⟩
  exact key xs.length 0 s (by omega) h0
def chOk (c : S76) : Bool := decide (0 ≤ c.f0 ∧ c.f0 ≤ 10)
def chancesB (l : List S76) : Bool := l.all chOk && decide (l.length ≤ 40)
theorem chancesB_len {l : List S76} (h : chancesB l = true) : l.length ≤ 40 := by
  unfold chancesB at h
  simp only [Bool.and_eq_true, decide_eq_true_eq] at h
  exact h.2
theorem rd_ch (l : List S76) (i : Nat) : rd_T76 l (i : Int) = l.getD i z76 := by unfold rd_T76; rw [Int.toNat_natCast]
theorem IndexFunc_ev (l : List S76) (hl : l.length ≤ 4503599627370496) : ∃ r, decide (r ≥ (0 : Int)) = !(l.all chOk) ∧ Evt fun k => slices_IndexFunc_Chance.f k l = some r := by
  unfold slices_IndexFunc_Chance.f
  refine evt_loop_ex l.length (fun k (_ : Unit) i => slices_IndexFunc_Chance.l0 k l (l.length : Int) i) _ (fun i _ => (l.drop i).all chOk = l.all chOk) ?_ ?_ () rfl
  · intro i s hi h
    rw [getD_drop l z76 i hi, List.all_cons] at h
    by_cases hp : 0 ≤ (l.getD i z76).f0 ∧ (l.getD i z76).f0 ≤ 10
    · refine .inl ⟨(), by rw [← h, chOk, decide_eq_true hp, Bool.true_and], 1, Evt.all fun k => ?_⟩
      show slices_IndexFunc_Chance.l0 (k + 1) l (l.length : Int) (i : Int) = _
      simp only [slices_IndexFunc_Chance.l0, impl_IsValidChances_1.f, within_ok, Option.bind_some, rd_ch, decide_eq_true hp, Bool.not_true]
      rw [if_pos (by omega), if_pos (by omega), if_pos (by omega), if_neg (by simp), wrap_id (by omega) (by omega)]
    · refine .inr ⟨(i : Int), ?_, Evt.succ (Evt.all fun k => ?_)⟩
      · rw [← h, chOk, decide_eq_false hp, Bool.false_and]; simp
      · show slices_IndexFunc_Chance.l0 (k + 1) l (l.length : Int) (i : Int) = _
        simp only [slices_IndexFunc_Chance.l0, impl_IsValidChances_1.f, within_ok, Option.bind_some, rd_ch, decide_eq_false hp, Bool.not_false]
        rw [if_pos (by omega), if_pos (by omega), if_pos (by omega), if_pos trivial]
  · intro s h
    rw [List.drop_of_length_le (Nat.le_refl _)] at h
    refine ⟨-1, by rw [← h]; simp, Evt.succ (Evt.all fun k => ?_)⟩
    show slices_IndexFunc_Chance.l0 (k + 1) l (l.length : Int) (l.length : Int) = _
    simp only [slices_IndexFunc_Chance.l0]
    rw [if_neg (by omega)]
theorem IsValidChances_ev (l : List S76) (hl : l.length ≤ 4503599627370496) : Evt fun k => impl_IsValidChances.f k l = some (chancesB l) := by
  obtain ⟨r, hr, e⟩ := IndexFunc_ev l hl
  refine e.mono fun k hk => ?_
  simp only [impl_IsValidChances.f, slices_ContainsFunc_Chance.f, hk, Option.bind_some, hr, Bool.not_not, chancesB]
  by_cases h : l.length ≤ 40
  · rw [if_pos (by omega), decide_eq_true h, Bool.and_true]
  · rw [if_neg (by omega), decide_eq_false h, Bool.and_false]
theorem l21Good_ev (l : List S76) (hl : l.length ≤ 4503599627370496) : Evt fun k => spec_l21Good.f k l = some (chancesB l) := by
  unfold spec_l21Good.f
  refine evt_loop0 l.length (fun k (_ : Unit) i => spec_l21Good.l0 k l i) (chancesB l) (fun i _ => (l.drop i).all chOk = l.all chOk) ?_ ?_ () rfl
  · intro i s hi h
    rw [getD_drop l z76 i hi, List.all_cons] at h
    by_cases hp : 0 ≤ (l.getD i z76).f0 ∧ (l.getD i z76).f0 ≤ 10
    · refine .inl ⟨(), by rw [← h, chOk, decide_eq_true hp, Bool.true_and], 1, Evt.all fun k => ?_⟩
      show spec_l21Good.l0 (k + 1) l (i : Int) = _
      simp only [spec_l21Good.l0, l1In_ok, Option.bind_some, rd_ch, decide_eq_true hp, if_true]
      rw [if_pos (by omega), if_pos (by omega), wrap_id (by omega) (by omega)]
    · refine .inr (Evt.succ (Evt.all fun k => ?_))
      show spec_l21Good.l0 (k + 1) l (i : Int) = _
      simp only [spec_l21Good.l0, l1In_ok, Option.bind_some, rd_ch, decide_eq_false hp]
      rw [if_pos (by omega), if_pos (by omega), if_neg (by simp), chancesB, ← h, chOk, decide_eq_false hp, Bool.false_and, Bool.false_and]
  · intro s h
    rw [List.drop_of_length_le (Nat.le_refl _)] at h
    refine Evt.succ (Evt.all fun k => ?_)
    show spec_l21Good.l0 (k + 1) l (l.length : Int) = _
    simp only [spec_l21Good.l0]
    rw [if_neg (by omega), chancesB, ← h, List.all_nil, Bool.true_and]
    exact congrArg some (decide_eq_decide.2 (by omega))
def stepR (t : Int) (s : Int × Int) (c : S76) : Int × Int := if c.f0 = t then (s.1 + 1, if c.f1 = true then s.2 + 1 else s.2) else s
def binV (l : List S76) (t : Int) : Int × Int := l.foldl (stepR t) (0, 0)
def binI (i : Nat) (s : Int × Int) : Prop := (0 ≤ s.1 ∧ s.1 ≤ (i : Int)) ∧ (0 ≤ s.2 ∧ s.2 ≤ (i : Int))
theorem binI_step (t : Int) (c : S76) {i : Nat} {s : Int × Int} (h : binI i s) : binI (i + 1) (stepR t s c) := by
  unfold stepR binI at *
  split
  · refine ⟨by simp only; omega, ?_⟩
    simp only
    split <;> omega
  · omega
theorem l21Bin_ev (l : List S76) (t : Int) (hl : l.length ≤ 1000000000) : (Evt fun k => spec_l21Bin.f k l t = some (binV l t)) ∧ binI l.length (binV l t) := by
  unfold spec_l21Bin.f binV
  refine evt_fold l z76 (stepR t) id binI (fun k s i => spec_l21Bin.l0 k l t s.1 s.2 i) ?_ ?_ (0, 0) ⟨by simp, by simp⟩
  · rintro k i ⟨s, u⟩ hi h
    refine ⟨binI_step t _ h, ?_⟩
    unfold binI at h
    simp only at h
    simp only [spec_l21Bin.l0, rd_ch]
    rw [if_pos (by omega), if_pos (by omega), wrap_id (x := (i : Int) + 1) (by omega) (by omega), wrap_id (x := s + 1) (by omega) (by omega), wrap_id (x := u + 1) (by omega) (by omega)]
    unfold stepR
    by_cases h1 : (l.getD i z76).f0 = t
    · rw [if_pos h1, if_pos h1]
      by_cases h2 : (l.getD i z76).f1 = true
      · simp only [if_pos h2]
      · simp only [if_neg h2]
    · rw [if_neg h1, if_neg h1]
  · rintro k s h
    simp only [spec_l21Bin.l0]
    rw [if_neg (by omega)]; rfl
def rowV (l : List S76) (t : Nat) : List Int := [(t : Int), (binV l t).1, (binV l t).2]
def relTo (l : List S76) : Nat → List (List Int)
  | 0 => []
  | m + 1 => relTo l m ++ if (binV l m).1 > 0 then [rowV l m] else []
theorem relTo_len (l : List S76) : ∀ m, (relTo l m).length ≤ m
  | 0 => Nat.le_refl _
  | m + 1 => by have := relTo_len l m; simp only [relTo, List.length_append]; split <;> simp <;> omega
theorem relTo_mem (l : List S76) : ∀ m, ∀ r ∈ relTo l m, ∃ t, t < m ∧ r = rowV l t
  | 0 => by simp [relTo]
  | m + 1 => by
    intro r hr
    simp only [relTo, List.mem_append] at hr
    rcases hr with hr | hr
    · obtain ⟨t, ht, e⟩ := relTo_mem l m r hr; exact ⟨t, by omega, e⟩
    · split at hr
      · exact ⟨m, by omega, by simpa using hr⟩
      · simp at hr
theorem relInner (l : List S76) (hl : l.length ≤ 1000000000) (tb : List (List Int)) (htb : tb.length ≤ 100) (t : Nat) (ht : t < 100) : ∀ (d i : Nat) (s : Int × Int) (k : Nat), i + d = l.length → binI i s →
    impl_reliabilityTable.l1 (k + (d + 1)) l tb (t : Int) [(t : Int), s.1, s.2] (t : Int) l (l.length : Int) (i : Int) = impl_reliabilityTable.l0 k l (tb ++ if ((l.drop i).foldl (stepR t) s).1 > 0 then [[(t : Int), ((l.drop i).foldl (stepR t) s).1, ((l.drop i).foldl (stepR t) s).2]] else []) ((t : Int) + 1) := by
  intro d
  induction d with
  | zero =>
    intro i s k hi h
    obtain rfl : i = l.length := by omega
    rw [List.drop_of_length_le (Nat.le_refl _), List.foldl_nil]
    show impl_reliabilityTable.l1 (k + 1) l tb (t : Int) [(t : Int), s.1, s.2] (t : Int) l (l.length : Int) (l.length : Int) = _
    rw [impl_reliabilityTable.l1]
    have e1 : rd [(t : Int), s.1, s.2] 1 = s.1 := rfl
    rw [if_neg (by omega), if_pos (by simp), e1, wrap_id (x := (t : Int) + 1) (by omega) (by omega)]
    by_cases h1 : s.1 > 0
    · rw [if_pos h1, if_pos h1, if_pos (by omega)]
    · rw [if_neg h1, if_neg h1, List.append_nil]
  | succ d ih =>
    intro i s k hi h
    have hlt : i < l.length := by omega
    rw [getD_drop l z76 i hlt, List.foldl_cons]
    have h2 := ih (i + 1) (stepR t s (l.getD i z76)) k (by omega) (binI_step _ _ h)
    rw [show ((i + 1 : Nat) : Int) = (i : Int) + 1 from by omega] at h2
    rw [← h2]
    show impl_reliabilityTable.l1 ((k + (d + 1)) + 1) l tb (t : Int) [(t : Int), s.1, s.2] (t : Int) l (l.length : Int) (i : Int) = _
    rw [impl_reliabilityTable.l1]
    unfold binI at h
    rw [if_pos (by omega), if_pos (by omega), if_pos (by omega), rd_ch, wrap_id (x := (i : Int) + 1) (by omega) (by omega)]
    unfold stepR
    by_cases h1 : (l.getD i z76).f0 = (t : Int)
    · rw [if_pos h1, if_pos h1, if_pos (by simp), Option.bind_some]
      have e1 : rd [(t : Int), s.1, s.2] 1 = s.1 := rfl
      rw [e1, wrap_id (x := s.1 + 1) (by omega) (by omega)]
      have e2 : ([(t : Int), s.1, s.2] : List Int).set (1 : Int).toNat (s.1 + 1) = [(t : Int), s.1 + 1, s.2] := rfl
      rw [e2]
      have e3 : rd [(t : Int), s.1 + 1, s.2] 2 = s.2 := rfl
      rw [e3, wrap_id (x := s.2 + 1) (by omega) (by omega)]
      by_cases h3 : (l.getD i z76).f1 = true
      · rw [if_pos h3, if_pos h3, if_pos (by simp)]; rfl
      · rw [if_neg h3, if_neg h3]
    · rw [if_neg h1, if_neg h1]
theorem reliabilityTable_ev (l : List S76) (hl : l.length ≤ 1000000000) (n : Nat) (hn : n = 11) : Evt fun k => impl_reliabilityTable.f k l = some (relTo l n) := by
  unfold impl_reliabilityTable.f
  refine evt_loop0 n (fun k s i => impl_reliabilityTable.l0 k l s i) (relTo l n) (fun i s => s = relTo l i) ?_ ?_ [] rfl
  · rintro i s hi rfl
    have hlen := relTo_len l i
    refine .inl ⟨_, rfl, l.length + 2, Evt.all fun k => ?_⟩
    show impl_reliabilityTable.l0 ((k + (l.length + 1)) + 1) l (relTo l i) (i : Int) = _
    rw [impl_reliabilityTable.l0, if_pos (by omega)]
    have := relInner l hl (relTo l i) (by omega) i (by omega) l.length 0 (0, 0) k (by omega) ⟨by simp, by simp⟩
    exact this
  · rintro s rfl
    refine Evt.succ (Evt.all fun k => ?_)
    show impl_reliabilityTable.l0 (k + 1) l (relTo l n) (n : Int) = _
    simp only [impl_reliabilityTable.l0]
    rw [if_neg (by omega)]
theorem relSpecT_loop (l : List S76) (hl : l.length ≤ 1000000000) (n : Nat) (hn : n = 11) : Evt fun k => spec_ReliabilityTable.l0 k l [] 0 = some (relTo l n, true) := by
  refine evt_loop0 n (fun k s i => spec_ReliabilityTable.l0 k l s i) (relTo l n, true) (fun i s => s = relTo l i) ?_ ?_ [] rfl
  · rintro i s hi rfl
    have hx := relTo_len l i
    refine .inl ⟨_, rfl, 1, (l21Bin_ev l (i : Int) hl).1.mono fun k hk => ?_⟩
    show spec_ReliabilityTable.l0 (k + 1) l (relTo l i) (i : Int) = _
    simp only [spec_ReliabilityTable.l0, hk, Option.bind_some, relTo]
    rw [if_pos (by omega), wrap_id (by omega) (by omega)]
    by_cases h : (binV l (i : Int)).1 > 0
    · rw [if_pos h, if_pos h, if_pos (by omega)]; rfl
    · rw [if_neg h, if_neg h, List.append_nil]
  · rintro s rfl
    refine Evt.succ (Evt.all fun k => ?_)
    show spec_ReliabilityTable.l0 (k + 1) l (relTo l n) (n : Int) = _
    simp only [spec_ReliabilityTable.l0]
    rw [if_neg (by omega)]
def markedI (a : Int) (n : Nat) : List Int := (List.range n).map (fun j : Nat => a + (j : Int))
theorem markedI_len (a : Int) (n : Nat) : (markedI a n).length = n := by simp [markedI]
theorem markedI_get (a : Int) (n j : Nat) (h : j < n) : (markedI a n).getD j 0 = a + (j : Int) := by
  rw [getD_lt _ _ _ (by simpa [markedI] using h)]; simp [markedI]
theorem markIntS_ev (l : List Int) (a : Int) (ha : 0 ≤ a ∧ a ≤ 1000000000000) (hl : l.length ≤ 1000000000000) : Evt fun k => laws_markIntS.f k l a = some (a + l.length, markedI a l.length) := by
  unfold laws_markIntS.f
  refine evt_loop0 l.length (fun k (s : List Int × Int) i => laws_markIntS.l0 k s.1 s.2 i) _ (fun i s => s.1.length = l.length ∧ s.2 = a + i ∧ ∀ j, j < i → s.1.getD j 0 = a + (j : Int)) ?_ ?_ (l, a) ⟨rfl, by simp, fun j hj => by omega⟩
  · rintro i ⟨s, x⟩ hi ⟨h1, h2, h3⟩
    simp only at h1 h2 h3
    refine .inl ⟨(s.set i x, x + 1), ⟨by simpa using h1, by simp only; omega, fun j hj => ?_⟩, 1, Evt.all fun k => ?_⟩
    · simp only
      by_cases e : j = i
      · subst e; rw [getD_set_self _ _ _ _ (by omega)]; exact h2
      · rw [getD_set_ne _ _ _ _ _ (by omega)]; exact h3 j (by omega)
    · show laws_markIntS.l0 (k + 1) s x (i : Int) = laws_markIntS.l0 k (s.set i x) (x + 1) ((i : Int) + 1)
      simp only [laws_markIntS.l0]
      rw [if_pos (by omega), if_pos (by omega), wrap_id (x := (i : Int) + 1) (by omega) (by omega), wrap_id (x := x + 1) (by omega) (by omega), Int.toNat_natCast]
  · rintro ⟨s, x⟩ ⟨h1, h2, h3⟩
    simp only at h1 h2 h3
    refine Evt.succ (Evt.all fun k => ?_)
    show laws_markIntS.l0 (k + 1) s x (l.length : Int) = _
    simp only [laws_markIntS.l0]
    rw [if_neg (by omega), h2]
    refine congrArg some (Prod.ext rfl (list_ext_getD _ _ 0 (by rw [markedI_len]; exact h1) (fun j hj => ?_)))
    have hj' : j < l.length := by simp only at hj; omega
    rw [markedI_get _ _ _ hj']; exact h3 j hj'
theorem heldIntS_ev (n : Nat) (a : Int) (ha : 0 ≤ a ∧ a ≤ 1000000000000) (hl : n ≤ 1000000000000) : Evt fun k => laws_heldIntS.f k (markedI a n) a = some (a + n) := by
  unfold laws_heldIntS.f
  refine evt_loop0 n (fun k (x : Int) i => laws_heldIntS.l0 k (markedI a n) x i) _ (fun i x => x = a + i) ?_ ?_ a (by simp)
  · rintro i x hi h2
    refine .inl ⟨x + 1, by omega, 1, Evt.all fun k => ?_⟩
    show laws_heldIntS.l0 (k + 1) (markedI a n) x (i : Int) = _
    simp only [laws_heldIntS.l0]
    rw [markedI_len, if_pos (by omega), if_pos (by omega), rd_nat, markedI_get _ _ _ hi, if_pos h2.symm, wrap_id (x := (i : Int) + 1) (by omega) (by omega), wrap_id (x := x + 1) (by omega) (by omega)]
  · rintro x h2
    refine Evt.succ (Evt.all fun k => ?_)
    show laws_heldIntS.l0 (k + 1) (markedI a n) x (n : Int) = _
    simp only [laws_heldIntS.l0]
    rw [markedI_len, if_neg (by omega), h2]
theorem eqIntS_self (l : List Int) (hl : l.length ≤ 4503599627370496) : ∀ k, l.length < k → laws_eqIntS.f k l l = some true := by
  intro k hk
  unfold laws_eqIntS.f
  rw [if_pos rfl]
  refine for_loop 0 l.length (fun k (_ : Unit) i => laws_eqIntS.l0 k l l i) true (fun _ _ => True) ?_ ?_ k () trivial (by omega)
  · intro k i s _ hi _
    refine .inl ⟨(), trivial, ?_⟩
    show laws_eqIntS.l0 (k + 1) l l (i : Int) = _
    simp only [laws_eqIntS.l0]
    rw [if_pos (by omega), if_pos (by omega), if_pos (by omega), wrap_id (by omega) (by omega)]
    simp
  · intro k s _ _
    show laws_eqIntS.l0 (k + 1) l l (l.length : Int) = _
    simp only [laws_eqIntS.l0]
    rw [if_neg (by omega)]
theorem eqIntS_ev (l : List Int) (hl : l.length ≤ 4503599627370496) : Evt fun k => laws_eqIntS.f k l l = some true := Evt.above _ (eqIntS_self l hl)
def psum (l : List (List Int)) : Nat → Nat
  | 0 => 0
  | i + 1 => psum l i + (l.getD i []).length
def mSS (l : List (List Int)) (a : Int) : List (List Int) := (List.range l.length).map (fun j : Nat => markedI (a + (psum l j : Nat)) (l.getD j []).length)
theorem mSS_len (l : List (List Int)) (a : Int) : (mSS l a).length = l.length := by simp [mSS]
theorem mSS_get (l : List (List Int)) (a : Int) (j : Nat) (h : j < l.length) : (mSS l a).getD j [] = markedI (a + (psum l j : Nat)) (l.getD j []).length := by
  rw [getD_lt _ _ _ (by rw [mSS_len]; exact h)]; simp [mSS]
theorem psum_le (l : List (List Int)) (hin : ∀ j, j < l.length → (l.getD j []).length ≤ 100) : ∀ i, i ≤ l.length → psum l i ≤ 100 * i
  | 0, _ => Nat.le_refl _
  | i + 1, h => by
    have h1 := psum_le l hin i (by omega)
    have h2 := hin i (by omega)
    simp only [psum]
    omega
theorem rdL_nat (xs : List (List Int)) (i : Nat) : rd_L1 xs (i : Int) = xs.getD i [] := by unfold rd_L1; rw [Int.toNat_natCast]
theorem markIntSS_ev (l : List (List Int)) (a : Int) (ha : 0 ≤ a ∧ a ≤ 1000000) (hl : l.length ≤ 10000000) (hin : ∀ j, j < l.length → (l.getD j []).length ≤ 100) : Evt fun k => laws_markIntSS.f k l a = some (a + (psum l l.length : Nat), mSS l a) := by
  unfold laws_markIntSS.f
  refine evt_loop0 l.length (fun k (s : List (List Int) × Int) i => laws_markIntSS.l0 k s.1 s.2 i) _ (fun i s => s.1.length = l.length ∧ s.2 = a + (psum l i : Nat) ∧ (∀ j, j < i → s.1.getD j [] = markedI (a + (psum l j : Nat)) (l.getD j []).length) ∧ ∀ j, i ≤ j → s.1.getD j [] = l.getD j []) ?_ ?_ (l, a) ⟨rfl, by simp [psum], fun j hj => by omega, fun j _ => rfl⟩
  · rintro i ⟨s, x⟩ hi ⟨h1, h2, h3, h4⟩
    simp only at h1 h2 h3 h4
    have b1 := psum_le l hin i (by omega)
    have b2 := hin i hi
    refine .inl ⟨(s.set i (markedI x (l.getD i []).length), x + ((l.getD i []).length : Nat)), ⟨by simpa using h1, by simp only [psum]; omega, fun j hj => ?_, fun j hj => ?_⟩, 1, ?_⟩
    · simp only
      by_cases e : j = i
      · subst e; rw [getD_set_self _ _ _ _ (by omega), h2]
      · rw [getD_set_ne _ _ _ _ _ (by omega)]; exact h3 j (by omega)
    · simp only
      rw [getD_set_ne _ _ _ _ _ (by omega)]; exact h4 j (by omega)
    · refine (markIntS_ev (s.getD i []) x (by omega) (by rw [h4 i (Nat.le_refl _)]; omega)).mono fun k hk => ?_
      show laws_markIntSS.l0 (k + 1) s x (i : Int) = laws_markIntSS.l0 k (s.set i (markedI x (l.getD i []).length)) (x + ((l.getD i []).length : Nat)) ((i : Int) + 1)
      rw [h4 i (Nat.le_refl _)] at hk
      simp only [laws_markIntSS.l0]
      rw [if_pos (by omega), if_pos (by omega), rdL_nat, h4 i (Nat.le_refl _), hk, Option.bind_some, wrap_id (x := (i : Int) + 1) (by omega) (by omega), Int.toNat_natCast]
  · rintro ⟨s, x⟩ ⟨h1, h2, h3, h4⟩
    simp only at h1 h2 h3 h4
    refine Evt.succ (Evt.all fun k => ?_)
    show laws_markIntSS.l0 (k + 1) s x (l.length : Int) = _
    simp only [laws_markIntSS.l0]
    rw [if_neg (by omega), h2]
    refine congrArg some (Prod.ext rfl (list_ext_getD _ _ [] (by rw [mSS_len]; exact h1) (fun j hj => ?_)))
    have hj' : j < l.length := by simp only at hj; omega
    rw [mSS_get _ _ _ hj']; exact h3 j hj'
theorem heldIntSS_ev (l : List (List Int)) (a : Int) (ha : 0 ≤ a ∧ a ≤ 1000000) (hl : l.length ≤ 10000000) (hin : ∀ j, j < l.length → (l.getD j []).length ≤ 100) : Evt fun k => laws_heldIntSS.f k (mSS l a) a = some (a + (psum l l.length : Nat)) := by
  unfold laws_heldIntSS.f
  refine evt_loop0 l.length (fun k (x : Int) i => laws_heldIntSS.l0 k (mSS l a) x i) _ (fun i x => x = a + (psum l i : Nat)) ?_ ?_ a (by simp [psum])
  · rintro i x hi h2
    have b1 := psum_le l hin i (by omega)
    have b2 := hin i hi
    refine .inl ⟨x + ((l.getD i []).length : Nat), by simp only [psum]; omega, 1, (heldIntS_ev (l.getD i []).length x (by omega) (by omega)).mono fun k hk => ?_⟩
    show laws_heldIntSS.l0 (k + 1) (mSS l a) x (i : Int) = _
    simp only [laws_heldIntSS.l0]
    rw [mSS_len, if_pos (by omega), if_pos (by omega), rdL_nat, mSS_get _ _ _ hi, ← h2, hk, Option.bind_some, if_neg (by omega), wrap_id (x := (i : Int) + 1) (by omega) (by omega)]
  · rintro x h2
    refine Evt.succ (Evt.all fun k => ?_)
    show laws_heldIntSS.l0 (k + 1) (mSS l a) x (l.length : Int) = _
    simp only [laws_heldIntSS.l0]
    rw [mSS_len, if_neg (by omega), h2]
theorem eqIntSS_ev (l : List (List Int)) (hl : l.length ≤ 10000000) (hin : ∀ j, j < l.length → (l.getD j []).length ≤ 100) : Evt fun k => laws_eqIntSS.f k l l = some true := by
  have h : Evt fun k => laws_eqIntSS.l0 k l l 0 = some true := by
    refine evt_loop0 l.length (fun k (_ : Unit) i => laws_eqIntSS.l0 k l l i) _ (fun _ _ => True) ?_ ?_ () trivial
    · rintro i x hi _
      have b2 := hin i hi
      refine .inl ⟨(), trivial, 1, (eqIntS_ev (l.getD i []) (by omega)).mono fun k hk => ?_⟩
      show laws_eqIntSS.l0 (k + 1) l l (i : Int) = laws_eqIntSS.l0 k l l ((i : Int) + 1)
      simp only [laws_eqIntSS.l0]
      rw [if_pos (by omega), if_pos (by omega), if_pos (by omega), rdL_nat, hk, Option.bind_some, if_pos rfl, wrap_id (x := (i : Int) + 1) (by omega) (by omega)]
    · rintro x _
      refine Evt.succ (Evt.all fun k => ?_)
      show laws_eqIntSS.l0 (k + 1) l l (l.length : Int) = _
      simp only [laws_eqIntSS.l0]
      rw [if_neg (by omega)]
  refine h.mono fun k hk => ?_
  unfold laws_eqIntSS.f
  rw [if_pos rfl]
  exact hk
theorem relTo_in (l : List S76) (n : Nat) : ∀ r ∈ relTo l n, r.length ≤ 100 := by
  intro r hr
  obtain ⟨t, _, rfl⟩ := relTo_mem l n r hr
  simp [rowV]
theorem getD_of_all (l : List (List Int)) (h : ∀ r ∈ l, r.length ≤ 100) : ∀ j, j < l.length → (l.getD j []).length ≤ 100 := by
  intro j hj
  rw [getD_lt _ _ _ hj]
  exact h _ (List.getElem_mem hj)
def relR (l : List S76) (n : Nat) : List (List Int) × Bool := if chancesB l = true then (relTo l n, true) else ([], false)
theorem ReliabilityTable_ev (l : List S76) (hl : l.length ≤ 4503599627370496) (n : Nat) (hn : n = 11) : (Evt fun k => impl_ReliabilityTable.f k l = some (relR l n)) ∧ (Evt fun k => spec_ReliabilityTable.f k l = some (relR l n)) := by
  unfold relR
  by_cases hb : chancesB l = true
  · have h40 := chancesB_len hb
    refine ⟨((IsValidChances_ev l hl).and (reliabilityTable_ev l (by omega) n hn)).mono ?_, ((l21Good_ev l hl).and (relSpecT_loop l (by omega) n hn)).mono ?_⟩
    · rintro k ⟨h1, h2⟩
      simp only [impl_ReliabilityTable.f, h1, h2, Option.bind_some, hb, if_true]
    · rintro k ⟨h1, h2⟩
      simp only [spec_ReliabilityTable.f, h1, h2, Option.bind_some, hb, if_true]
  · replace hb := Bool.eq_false_iff.mpr hb
    refine ⟨(IsValidChances_ev l hl).mono ?_, (l21Good_ev l hl).mono ?_⟩
    · rintro k h1
      simp [impl_ReliabilityTable.f, h1, hb]
    · rintro k h1
      simp [spec_ReliabilityTable.f, h1, hb]
theorem FnExactReliabilityTable : FnExactReliabilityTablePure := by
  intro l0 hm0 hw0
  have q0 := szChanceS_ok l0 1048576 (by omega) hm0
  by_cases hl0 : (1048576 - (l0.length : Int)) < 0
  · exact ⟨0, by unfold laws_FnExactReliabilityTable.f; rw [q0, if_pos hl0, Option.bind_some, if_pos (by omega)]⟩
  rw [if_neg hl0] at q0
  have hn0 : l0.length ≤ 1048576 := by omega
  obtain ⟨n, hn⟩ : ∃ n : Nat, n = 11 := ⟨_, rfl⟩
  obtain ⟨hi, hs⟩ := ReliabilityTable_ev (l0.map c_Chance) (by rw [List.length_map]; omega) n hn
  have hgl : (relR (l0.map c_Chance) n).1.length ≤ 11 := by
    have := relTo_len (l0.map c_Chance) n
    unfold relR
    split
    · simp only; omega
    · simp
  have hgi := getD_of_all (relR (l0.map c_Chance) n).1 (by
    unfold relR
    split
    · exact relTo_in _ _
    · simp)
  obtain ⟨⟨g0, g1⟩, hg⟩ : ∃ p, p = relR (l0.map c_Chance) n := ⟨_, rfl⟩
  rw [← hg] at hi hs hgl hgi
  simp only at hgl hgi
  have n0 : ¬ (1 + 2 * (l0.length : Int) < 0) := by omega
  have n1 : ¬ (1 + ((psum g0 g0.length : Nat) : Int) < 0) := by omega
  obtain ⟨K, hK⟩ := ((hi).and ((hs).and ((toChanceS_ev l0 hn0).and ((eqChanceS_self (l0.map c_Chance) (by rw [List.length_map]; omega)).and ((markChanceS_ev (l0.map c_Chance) 1 (by omega) (by rw [List.length_map]; omega)).and ((eqIntSS_ev g0 (by omega) hgi).and ((markIntSS_ev g0 1 (by omega) (by omega) hgi).and (heldIntSS_ev g0 1 (by omega) (by omega) hgi)))))))).at
  have e0 := fun j => (hK j).1
  have e1 := fun j => (hK j).2.1
  have e2 := fun j => (hK j).2.2.1
  have e3 := fun j => (hK j).2.2.2.1
  have e4 := fun j => (hK j).2.2.2.2.1
  have e5 := fun j => (hK j).2.2.2.2.2.1
  have e6 := fun j => (hK j).2.2.2.2.2.2.1
  have e7 := fun j => (hK j).2.2.2.2.2.2.2
  refine ⟨K + 6, ?_⟩
  simp only [laws_FnExactReliabilityTable.f, q0, if_neg hl0, Option.bind_some, e0, e1, e2, e3, e4, e5, e6, e7, if_true]
  simp [laws_FnExactReliabilityTable.j0, laws_FnExactReliabilityTable.j1, laws_FnExactReliabilityTable.j2, e0, e1, e2, e3, e4, e5, e6, e7, n0, n1]
end Go.Proofs.Ytppjagpjlcbhpaa.XFnExactReliabilityTable.Pure
