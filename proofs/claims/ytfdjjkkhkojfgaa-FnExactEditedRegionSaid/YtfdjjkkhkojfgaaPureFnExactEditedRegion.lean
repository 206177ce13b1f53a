/-
  The pure statement of the law FnExactEditedRegion: what its printed function answers is 'true' for all numbers and lists of its kinds. Conditions: the kinds' own bounds, as the statement lays them.
-/
import Derived.Test.YtfdjjkkhkojfgaaStmFnExactEditedRegion
import Derived.DataShut
namespace Go.Proofs.Ytfdjjkkhkojfgaa.XFnExactEditedRegion.Pure
open Go.RowKit Go.Proofs.Ytfdjjkkhkojfgaa.XFnExactEditedRegion Go.Proofs.YtfdjjkkhkojfgaaW.PrintWords Go.Proofs.YtfdjjkkhkojfgaaW.PrintLast Go.Proofs.YtfdjjkkhkojfgaaW.PrintMore
set_option linter.unusedVariables false
set_option linter.unusedSimpArgs false
theorem wrap_id {x : Int} (h0 : -9223372036854775808 ≤ x) (h1 : x ≤ 9223372036854775807) : wrap64 x = x := by unfold wrap64; omega
theorem rd_nat (xs : List Int) (i : Nat) : rd xs (i : Int) = xs.getD i 0 := by simp [rd]
theorem for_loop {σ ρ : Type} (K n : Nat) (L : Nat → σ → Int → Option ρ) (v : ρ) (Inv : Nat → σ → Prop)
    (step : ∀ k i s, K ≤ k → i < n → Inv i s → (∃ s', Inv (i + 1) s' ∧ L (k + 1) s (i : Int) = L k s' ((i : Int) + 1)) ∨ L (k + 1) s (i : Int) = some v)
    (fin : ∀ k s, K ≤ k → Inv n s → L (k + 1) s (n : Int) = some v) :
    ∀ k s, Inv 0 s → n + K < k → L k s 0 = some v := by
  have key : ∀ d k i s, i + d = n → Inv i s → d + K < k → L k s (i : Int) = some v := by
    intro d
    induction d with
    | zero =>
      intro k i s hi h hk
      obtain ⟨k, rfl⟩ : ∃ m, k = m + 1 := ⟨k - 1, by omega⟩
      obtain rfl : i = n := by omega
      exact fin k s (by omega) h
    | succ d ih =>
      intro k i s hi h hk
      obtain ⟨k, rfl⟩ : ∃ m, k = m + 1 := ⟨k - 1, by omega⟩
      rcases step k i s (by omega) (by omega) h with ⟨s', h', e⟩ | e
      · rw [e]
        have := ih k (i + 1) s' (by omega) h' (by omega)
        rw [show ((i + 1 : Nat) : Int) = (i : Int) + 1 from by omega] at this
        exact this
      · exact e
  intro k s h hk
  exact key n k 0 s (by omega) h hk
theorem getD_drop {α : Type} (xs : List α) (z : α) (i : Nat) (h : i < xs.length) : xs.drop i = xs.getD i z :: xs.drop (i + 1) := by
  rw [List.drop_eq_getElem_cons h, List.getD_eq_getElem?_getD, List.getElem?_eq_getElem h]; rfl
def Evt (P : Nat → Prop) : Prop := ∃ K, ∀ k, K ≤ k → P k
theorem Evt.all {P : Nat → Prop} (h : ∀ k, P k) : Evt P := ⟨0, fun k _ => h k⟩
theorem Evt.from {P : Nat → Prop} (K : Nat) (h : ∀ k, K ≤ k → P k) : Evt P := ⟨K, h⟩
theorem Evt.above {P : Nat → Prop} (K : Nat) (h : ∀ k, K < k → P k) : Evt P := ⟨K + 1, fun k hk => h k hk⟩
theorem Evt.and {P Q : Nat → Prop} (h : Evt P) (g : Evt Q) : Evt fun k => P k ∧ Q k := by
  obtain ⟨K, h⟩ := h
  obtain ⟨M, g⟩ := g
  exact ⟨K + M, fun k hk => ⟨h k (by omega), g k (by omega)⟩⟩
theorem Evt.mono {P Q : Nat → Prop} (h : Evt P) (g : ∀ k, P k → Q k) : Evt Q := by
  obtain ⟨K, h⟩ := h
  exact ⟨K, fun k hk => g k (h k hk)⟩
theorem Evt.succ {Q : Nat → Prop} (h : Evt fun k => Q (k + 1)) : Evt Q := by
  obtain ⟨K, h⟩ := h
  refine ⟨K + 1, fun k hk => ?_⟩
  obtain ⟨m, rfl⟩ : ∃ m, k = m + 1 := ⟨k - 1, by omega⟩
  exact h m (by omega)
theorem Evt.add {Q : Nat → Prop} (c : Nat) (h : Evt fun k => Q (k + c)) : Evt Q := by
  obtain ⟨K, h⟩ := h
  refine ⟨K + c, fun k hk => ?_⟩
  obtain ⟨m, rfl⟩ : ∃ m, k = m + c := ⟨k - c, by omega⟩
  exact h m (by omega)
theorem Evt.at {P : Nat → Prop} (h : Evt P) : ∃ K, ∀ j, P (K + j) := by
  obtain ⟨K, h⟩ := h
  exact ⟨K, fun j => h _ (by omega)⟩
theorem evt_loop {σ ρ : Type} (n : Nat) (L : Nat → σ → Int → Option ρ) (v : ρ) (Inv : Nat → σ → Prop)
    (step : ∀ i s, i < n → Inv i s → (∃ s', Inv (i + 1) s' ∧ ∃ c, Evt fun k => L (k + c) s (i : Int) = L k s' ((i : Int) + 1)) ∨ Evt fun k => L k s (i : Int) = some v)
    (fin : ∀ s, Inv n s → Evt fun k => L k s (n : Int) = some v) :
    ∀ i s, i ≤ n → Inv i s → Evt fun k => L k s (i : Int) = some v := by
  have key : ∀ d i s, i + d = n → Inv i s → Evt fun k => L k s (i : Int) = some v := by
    intro d
    induction d with
    | zero =>
      intro i s hi h
      obtain rfl : i = n := by omega
      exact fin s h
    | succ d ih =>
      intro i s hi h
      rcases step i s (by omega) h with ⟨s', h', c, e⟩ | e
      · have h2 := ih (i + 1) s' (by omega) h'
        rw [show ((i + 1 : Nat) : Int) = (i : Int) + 1 from by omega] at h2
        exact Evt.add c ((e.and h2).mono fun k hk => hk.1.trans hk.2)
      · exact e
  intro i s hi h
  exact key (n - i) i s (by omega) h
theorem evt_loop0 {σ ρ : Type} (n : Nat) (L : Nat → σ → Int → Option ρ) (v : ρ) (Inv : Nat → σ → Prop)
    (step : ∀ i s, i < n → Inv i s → (∃ s', Inv (i + 1) s' ∧ ∃ c, Evt fun k => L (k + c) s (i : Int) = L k s' ((i : Int) + 1)) ∨ Evt fun k => L k s (i : Int) = some v)
    (fin : ∀ s, Inv n s → Evt fun k => L k s (n : Int) = some v) (s : σ) (h0 : Inv 0 s) : Evt fun k => L k s 0 = some v :=
  evt_loop n L v Inv step fin 0 s (Nat.zero_le _) h0
theorem getD_lt {α : Type} (xs : List α) (z : α) (i : Nat) (h : i < xs.length) : xs.getD i z = xs[i] := by
  rw [List.getD_eq_getElem?_getD, List.getElem?_eq_getElem h]; rfl
theorem getD_set_self {α : Type} (xs : List α) (z v : α) (i : Nat) (h : i < xs.length) : (xs.set i v).getD i z = v := by
  rw [List.getD_eq_getElem?_getD, List.getElem?_set_self h]; rfl
theorem getD_set_ne {α : Type} (xs : List α) (z v : α) (i j : Nat) (h : i ≠ j) : (xs.set i v).getD j z = xs.getD j z := by
  rw [List.getD_eq_getElem?_getD, List.getElem?_set_ne h, List.getD_eq_getElem?_getD]
theorem list_ext_getD {α : Type} (xs ys : List α) (z : α) (h : xs.length = ys.length) (e : ∀ j, j < xs.length → xs.getD j z = ys.getD j z) : xs = ys := by
  apply List.ext_getElem h
  intro j h1 h2
  have := e j h1
  rwa [getD_lt _ _ _ h1, getD_lt _ _ _ h2] at this
theorem toIntS_ok (l : List Int) (hl : l.length ≤ 1048576) : ∀ k, l.length < k → laws_toIntS.f k l = some l := by
  intro k hk
  unfold laws_toIntS.f
  rw [if_pos (by omega), if_pos (by omega)]
  refine for_loop 0 l.length (fun k s i => laws_toIntS.l0 k l s i) l (fun i s => s.length = l.length ∧ ∀ j, j < i → s[j]? = l[j]?) ?_ ?_ k _ ⟨by simp, fun j hj => by omega⟩ (by omega)
  · rintro k i s _ hi ⟨h1, h2⟩
    refine .inl ⟨s.set i (l.getD i 0), ⟨by simpa using h1, fun j hj => ?_⟩, ?_⟩
    · by_cases e : j = i
      · subst e
        rw [List.getElem?_set_self (by omega), List.getD_eq_getElem?_getD, List.getElem?_eq_getElem hi]; rfl
      · rw [List.getElem?_set_ne (by omega)]; exact h2 j (by omega)
    · show laws_toIntS.l0 (k + 1) l s (i : Int) = _
      simp only [laws_toIntS.l0]
      rw [if_pos (by omega), if_pos (by omega), if_pos (by omega), wrap_id (by omega) (by omega), rd_nat, Int.toNat_natCast]
  · rintro k s _ ⟨h1, h2⟩
    show laws_toIntS.l0 (k + 1) l s (l.length : Int) = _
    simp only [laws_toIntS.l0]
    rw [if_neg (by omega)]
    congr 1
    apply List.ext_getElem?
    intro j
    by_cases hj : j < l.length
    · exact h2 j hj
    · rw [List.getElem?_eq_none (by omega), List.getElem?_eq_none (by omega)]
theorem eqIntS_self (l : List Int) (hl : l.length ≤ 4503599627370496) : ∀ k, l.length < k → laws_eqIntS.f k l l = some true := by
  intro k hk
  unfold laws_eqIntS.f
  rw [if_pos rfl]
  refine for_loop 0 l.length (fun k (_ : Unit) i => laws_eqIntS.l0 k l l i) true (fun _ _ => True) ?_ ?_ k () trivial (by omega)
  · intro k i s _ hi _
    refine .inl ⟨(), trivial, ?_⟩
    show laws_eqIntS.l0 (k + 1) l l (i : Int) = _
    simp only [laws_eqIntS.l0]
    rw [if_pos (by omega), if_pos (by omega), if_pos (by omega), wrap_id (by omega) (by omega)]
    simp
  · intro k s _ _
    show laws_eqIntS.l0 (k + 1) l l (l.length : Int) = _
    simp only [laws_eqIntS.l0]
    rw [if_neg (by omega)]
theorem toIntS_ev (l : List Int) (hl : l.length ≤ 1048576) : Evt fun k => laws_toIntS.f k l = some l := Evt.above _ (toIntS_ok l hl)
theorem eqIntS_ev (l : List Int) (hl : l.length ≤ 4503599627370496) : Evt fun k => laws_eqIntS.f k l l = some true := Evt.above _ (eqIntS_self l hl)
def markedI (a : Int) (n : Nat) : List Int := (List.range n).map (fun j : Nat => a + (j : Int))
theorem markedI_len (a : Int) (n : Nat) : (markedI a n).length = n := by simp [markedI]
theorem markedI_get (a : Int) (n j : Nat) (h : j < n) : (markedI a n).getD j 0 = a + (j : Int) := by
  rw [getD_lt _ _ _ (by simpa [markedI] using h)]; simp [markedI]
theorem markIntS_ev (l : List Int) (a : Int) (ha : 0 ≤ a ∧ a ≤ 1000000000000) (hl : l.length ≤ 1000000000000) : Evt fun k => laws_markIntS.f k l a = some (a + l.length, markedI a l.length) := by
  unfold laws_markIntS.f
  refine evt_loop0 l.length (fun k (s : List Int × Int) i => laws_markIntS.l0 k s.1 s.2 i) _ (fun i s => s.1.length = l.length ∧ s.2 = a + i ∧ ∀ j, j < i → s.1.getD j 0 = a + (j : Int)) ?_ ?_ (l, a) ⟨rfl, by simp, fun j hj => by omega⟩
  · rintro i ⟨s, x⟩ hi ⟨h1, h2, h3⟩
    simp only at h1 h2 h3
    refine .inl ⟨(s.set i x, x + 1), ⟨by simpa using h1, by simp only; omega, fun j hj => ?_⟩, 1, Evt.all fun k => ?_⟩
    · simp only
      by_cases e : j = i
      · subst e; rw [getD_set_self _ _ _ _ (by omega)]; exact h2
      · rw [getD_set_ne _ _ _ _ _ (by omega)]; exact h3 j (by omega)
    · show laws_markIntS.l0 (k + 1) s x (i : Int) = laws_markIntS.l0 k (s.set i x) (x + 1) ((i : Int) + 1)
      simp only [laws_markIntS.l0]
      rw [if_pos (by omega), if_pos (by omega), wrap_id (x := (i : Int) + 1) (by omega) (by omega), wrap_id (x := x + 1) (by omega) (by omega), Int.toNat_natCast]
  · rintro ⟨s, x⟩ ⟨h1, h2, h3⟩
    simp only at h1 h2 h3
    refine Evt.succ (Evt.all fun k => ?_)
    show laws_markIntS.l0 (k + 1) s x (l.length : Int) = _
    simp only [laws_markIntS.l0]
    rw [if_neg (by omega), h2]
    refine congrArg some (Prod.ext rfl (list_ext_getD _ _ 0 (by rw [markedI_len]; exact h1) (fun j hj => ?_)))
    have hj' : j < l.length := by simp only at hj; omega
    rw [markedI_get _ _ _ hj']; exact h3 j hj'
theorem heldIntS_ev (n : Nat) (a : Int) (ha : 0 ≤ a ∧ a ≤ 1000000000000) (hl : n ≤ 1000000000000) : Evt fun k => laws_heldIntS.f k (markedI a n) a = some (a + n) := by
  unfold laws_heldIntS.f
  refine evt_loop0 n (fun k (x : Int) i => laws_heldIntS.l0 k (markedI a n) x i) _ (fun i x => x = a + i) ?_ ?_ a (by simp)
  · rintro i x hi h2
    refine .inl ⟨x + 1, by omega, 1, Evt.all fun k => ?_⟩
    show laws_heldIntS.l0 (k + 1) (markedI a n) x (i : Int) = _
    simp only [laws_heldIntS.l0]
    rw [markedI_len, if_pos (by omega), if_pos (by omega), rd_nat, markedI_get _ _ _ hi, if_pos h2.symm, wrap_id (x := (i : Int) + 1) (by omega) (by omega), wrap_id (x := x + 1) (by omega) (by omega)]
  · rintro x h2
    refine Evt.succ (Evt.all fun k => ?_)
    show laws_heldIntS.l0 (k + 1) (markedI a n) x (n : Int) = _
    simp only [laws_heldIntS.l0]
    rw [markedI_len, if_neg (by omega), h2]
theorem szIntS_ok (l : List Int) (n : Int) (hn : 0 ≤ n ∧ n ≤ 1048576) (hl : l.length ≤ maxLen) : laws_szIntS.f l n = some (if n - (l.length : Int) < 0 then -1 else n - (l.length : Int)) := by
  have hm : maxLen = 9223372036854775807 := by decide
  unfold laws_szIntS.f
  rw [wrap_id (by omega) (by omega)]
  split <;> rfl
theorem szField_ok (w h : Int) (l : List Int) (n : Int) (hn : 0 ≤ n ∧ n ≤ 1048576) (hl : l.length ≤ maxLen) : laws_szField.f w h l n = some (if n - (l.length : Int) < 0 then -1 else n - (l.length : Int)) := by
  unfold laws_szField.f
  rw [szIntS_ok l n hn hl, Option.bind_some]
  by_cases c : n - (l.length : Int) < 0
  · rw [if_pos c, if_pos (by omega)]
  · rw [if_neg c, if_neg c]
theorem toField_ev (w h : Int) (l : List Int) (hl : l.length ≤ 1048576) : Evt fun k => laws_toField.f k w h l = some (w, h, l) := (toIntS_ev l hl).mono fun k hk => by rw [laws_toField.f, hk, Option.bind_some]
theorem eqField_ev (w h : Int) (l : List Int) (hl : l.length ≤ 1048576) : Evt fun k => laws_eqField.f k w h l w h l = some true := (eqIntS_ev l (by omega)).mono fun k hk => by rw [laws_eqField.f, if_pos rfl, if_pos rfl, hk, Option.bind_some, if_pos rfl]
theorem markField_ev (w h : Int) (l : List Int) (a : Int) (ha : 0 ≤ a ∧ a ≤ 1000000000000) (hl : l.length ≤ 1048576) : Evt fun k => laws_markField.f k w h l a = some (a + l.length, markedI a l.length) := (markIntS_ev l a ha (by omega)).mono fun k hk => by rw [laws_markField.f, hk, Option.bind_some]
theorem evt_loop_ex {σ ρ : Type} (n : Nat) (L : Nat → σ → Int → Option ρ) (R : ρ → Prop) (Inv : Nat → σ → Prop)
    (step : ∀ i s, i < n → Inv i s → (∃ s', Inv (i + 1) s' ∧ ∃ c, Evt fun k => L (k + c) s (i : Int) = L k s' ((i : Int) + 1)) ∨ ∃ v, R v ∧ Evt fun k => L k s (i : Int) = some v)
    (fin : ∀ s, Inv n s → ∃ v, R v ∧ Evt fun k => L k s (n : Int) = some v) (s : σ) (h0 : Inv 0 s) : ∃ v, R v ∧ Evt fun k => L k s 0 = some v := by
  have key : ∀ d i s, i + d = n → Inv i s → ∃ v, R v ∧ Evt fun k => L k s (i : Int) = some v := by
    intro d
    induction d with
    | zero =>
      intro i s hi h
      obtain rfl : i = n := by omega
      exact fin s h
    | succ d ih =>
      intro i s hi h
      rcases step i s (by omega) h with ⟨s', h', c, e⟩ | e
      · obtain ⟨v, hv, h2⟩ := ih (i + 1) s' (by omega) h'
        rw [show ((i + 1 : Nat) : Int) = (i : Int) + 1 from by omega] at h2
        exact ⟨v, hv, Evt.add c ((e.and h2).mono fun k hk => hk.1.trans hk.2)⟩
      · exact e
  exact key n 0 s (by omega) h0
theorem within_ok (a b c : Int) : impl_within.f a b c = some (decide (b ≤ a ∧ a ≤ c)) := by
  unfold impl_within.f
  split <;> simp <;> omega
theorem l1In_ok (a b c : Int) : spec_l1In.f a b c = some (decide (b ≤ a ∧ a ≤ c)) := by
  unfold spec_l1In.f
  split <;> simp <;> omega
def cellOk (x : Int) : Bool := decide (x = -9999) || decide (-9000 ≤ x ∧ x ≤ 9000)
theorem isCell_ok (x : Int) : impl_isCell.f x = some (cellOk x) := by
  unfold impl_isCell.f cellOk
  by_cases h : x = -9999
  · rw [if_pos h, decide_eq_true h]; rfl
  · rw [if_neg h, within_ok, Option.bind_some, decide_eq_false h, Bool.false_or]
theorem l2Value_ok (x : Int) : spec_l2Value.f x = some (cellOk x) := by
  unfold spec_l2Value.f cellOk
  by_cases h : x = -9999
  · rw [if_pos h, decide_eq_true h]; rfl
  · rw [if_neg h, l1In_ok, Option.bind_some, decide_eq_false h, Bool.false_or]
def fieldB (w h : Int) (l : List Int) : Bool := decide (1 ≤ w ∧ w ≤ 8) && decide (1 ≤ h ∧ h ≤ 8) && decide ((l.length : Int) = w * h) && l.all cellOk
theorem prod8 {w h : Int} (hw : 1 ≤ w ∧ w ≤ 8) (hh : 1 ≤ h ∧ h ≤ 8) : 1 ≤ w * h ∧ w * h ≤ 64 := by
  have a : w * 1 ≤ w * h := Int.mul_le_mul_of_nonneg_left (by omega) (by omega)
  have b : w * h ≤ 8 * h := Int.mul_le_mul_of_nonneg_right (by omega) (by omega)
  omega
theorem fieldB_len {w h : Int} {l : List Int} (q : fieldB w h l = true) : (1 ≤ w ∧ w ≤ 8) ∧ (1 ≤ h ∧ h ≤ 8) ∧ (l.length : Int) = w * h ∧ l.length ≤ 64 ∧ l.all cellOk = true := by
  unfold fieldB at q
  simp only [Bool.and_eq_true, decide_eq_true_eq] at q
  have := prod8 q.1.1.1 q.1.1.2
  exact ⟨q.1.1.1, q.1.1.2, q.1.2, by omega, q.2⟩
theorem IndexFuncI_ev (l : List Int) (hl : l.length ≤ 4503599627370496) : ∃ r, decide (r ≥ (0 : Int)) = !(l.all cellOk) ∧ Evt fun k => slices_IndexFunc_int.f k l = some r := by
  unfold slices_IndexFunc_int.f
  refine evt_loop_ex l.length (fun k (_ : Unit) i => slices_IndexFunc_int.l0 k l (l.length : Int) i) _ (fun i _ => (l.drop i).all cellOk = l.all cellOk) ?_ ?_ () rfl
  · intro i s hi h
    rw [getD_drop l 0 i hi, List.all_cons] at h
    cases hp : cellOk (l.getD i 0) with
    | true =>
      refine .inl ⟨(), by rw [hp, Bool.true_and] at h; exact h, 1, Evt.all fun k => ?_⟩
      show slices_IndexFunc_int.l0 (k + 1) l (l.length : Int) (i : Int) = _
      simp only [slices_IndexFunc_int.l0, rd_nat, impl_IsValidField_1.f, isCell_ok, Option.bind_some, hp]
      rw [if_pos (by omega), if_pos (by omega), if_pos (by omega), if_neg (by simp), wrap_id (by omega) (by omega)]
    | false =>
      refine .inr ⟨(i : Int), by rw [← h, hp]; simp, Evt.succ (Evt.all fun k => ?_)⟩
      show slices_IndexFunc_int.l0 (k + 1) l (l.length : Int) (i : Int) = _
      simp only [slices_IndexFunc_int.l0, rd_nat, impl_IsValidField_1.f, isCell_ok, Option.bind_some, hp]
      rw [if_pos (by omega), if_pos (by omega), if_pos (by omega)]; simp
  · intro s h
    rw [List.drop_of_length_le (Nat.le_refl _)] at h
    refine ⟨-1, by rw [← h]; simp, Evt.succ (Evt.all fun k => ?_)⟩
    show slices_IndexFunc_int.l0 (k + 1) l (l.length : Int) (l.length : Int) = _
    simp only [slices_IndexFunc_int.l0]
    rw [if_neg (by omega)]
theorem IsValidField_ev (w h : Int) (l : List Int) (hl : l.length ≤ 1048576) : Evt fun k => impl_IsValidField.f k w h l = some (fieldB w h l) := by
  obtain ⟨r, hr, ev⟩ := IndexFuncI_ev l (by omega)
  refine ev.mono fun k hk => ?_
  simp only [impl_IsValidField.f, slices_ContainsFunc_int.f, hk, Option.bind_some, hr, Bool.not_not, within_ok]
  unfold fieldB
  by_cases hw : 1 ≤ w ∧ w ≤ 8
  · rw [decide_eq_true hw, if_pos rfl]
    by_cases hh : 1 ≤ h ∧ h ≤ 8
    · have := prod8 hw hh
      rw [decide_eq_true hh, if_pos rfl, wrap_id (by omega) (by omega)]
      by_cases hn : (l.length : Int) = w * h
      · rw [if_pos hn, decide_eq_true hn]; simp
      · rw [if_neg hn, decide_eq_false hn]; simp
    · rw [decide_eq_false hh]; simp
  · rw [decide_eq_false hw]; simp
theorem l2Good_ev (w h : Int) (l : List Int) (hl : l.length ≤ 1048576) : Evt fun k => spec_l2Good.f k w h l = some (fieldB w h l) := by
  have lo : Evt fun k => spec_l2Good.l0 k 0 w h l = some (l.all cellOk) := by
    refine evt_loop0 l.length (fun k (_ : Unit) i => spec_l2Good.l0 k i w h l) (l.all cellOk) (fun i _ => (l.drop i).all cellOk = l.all cellOk) ?_ ?_ () rfl
    · intro i s hi h
      rw [getD_drop l 0 i hi, List.all_cons] at h
      cases hp : cellOk (l.getD i 0) with
      | true =>
        refine .inl ⟨(), by rw [hp, Bool.true_and] at h; exact h, 1, Evt.all fun k => ?_⟩
        show spec_l2Good.l0 (k + 1) (i : Int) _ _ l = _
        simp only [spec_l2Good.l0, rd_nat, l2Value_ok, Option.bind_some, hp]
        rw [if_pos (by omega), if_pos (by omega), if_pos trivial, wrap_id (by omega) (by omega)]
      | false =>
        refine .inr (Evt.succ (Evt.all fun k => ?_))
        show spec_l2Good.l0 (k + 1) (i : Int) _ _ l = _
        simp only [spec_l2Good.l0, rd_nat, l2Value_ok, Option.bind_some, hp]
        rw [if_pos (by omega), if_pos (by omega), ← h, hp]; simp
    · intro s h
      rw [List.drop_of_length_le (Nat.le_refl _)] at h
      refine Evt.succ (Evt.all fun k => ?_)
      show spec_l2Good.l0 (k + 1) (l.length : Int) _ _ l = _
      simp only [spec_l2Good.l0]
      rw [if_neg (by omega), ← h]; rfl
  refine Evt.succ (lo.mono fun k hk => ?_)
  simp only [spec_l2Good.f, spec_l2Shape.f, l1In_ok, Option.bind_some, spec_l2Good.j0, hk]
  unfold fieldB
  by_cases hw : 1 ≤ w ∧ w ≤ 8
  · rw [decide_eq_true hw, if_pos rfl, Option.bind_some]
    by_cases hh : 1 ≤ h ∧ h ≤ 8
    · have := prod8 hw hh
      rw [decide_eq_true hh, if_pos rfl, wrap_id (by omega) (by omega)]
      by_cases hn : (l.length : Int) = w * h
      · rw [decide_eq_true hn, hn]; simp
      · rw [decide_eq_false hn, if_pos (by simpa using hn)]; simp
    · rw [decide_eq_false hh]; simp
  · rw [decide_eq_false hw]; simp
def sameB (w h : Int) (l : List Int) (w' h' : Int) (l' : List Int) : Bool := fieldB w h l && fieldB w' h' l' && decide (w = w') && decide (h = h')
theorem areAlike_ev (w h : Int) (l : List Int) (w' h' : Int) (l' : List Int) (hl : l.length ≤ 1048576) (hl' : l'.length ≤ 1048576) : Evt fun k => impl_areAlike.f k [⟨w, h, l⟩, ⟨w', h', l'⟩] = some (sameB w h l w' h' l') := by
  refine Evt.add 3 (((IsValidField_ev w h l hl).and (IsValidField_ev w' h' l' hl')).at.elim fun K hK => Evt.from K fun k hk => ?_)
  obtain ⟨j, rfl⟩ : ∃ j, k = K + j := ⟨k - K, by omega⟩
  have a1 := fun m => (hK m).1
  have a2 := fun m => (hK m).2
  have r0 : rd_T28 [(⟨w, h, l⟩ : S28), ⟨w', h', l'⟩] 0 = ⟨w, h, l⟩ := rfl
  have r1 : rd_T28 [(⟨w, h, l⟩ : S28), ⟨w', h', l'⟩] 1 = ⟨w', h', l'⟩ := rfl
  have w1 : wrap64 (0 + 1) = 1 := by unfold wrap64; omega
  have w2 : wrap64 (1 + 1) = 2 := by unfold wrap64; omega
  unfold impl_areAlike.f sameB
  show impl_areAlike.l0 ((K + (j + 2)) + 1) _ _ (2 : Int) 0 = _
  rw [impl_areAlike.l0]
  simp only [r0, a1, Option.bind_some, impl_sameShape.f, if_true, w1, beq_self_eq_true]
  cases fieldB w h l with
  | false => simp
  | true =>
    show _ = some (true && fieldB w' h' l' && decide (w = w') && decide (h = h'))
    rw [if_pos (by omega), if_pos (by omega), if_pos (by simp), if_pos rfl, if_pos (by simp)]
    show impl_areAlike.l0 ((K + (j + 1)) + 1) _ _ (2 : Int) 1 = _
    rw [impl_areAlike.l0]
    simp only [r1, r0, a2, Option.bind_some, impl_sameShape.f, if_true, w2]
    rw [if_pos (by omega), if_pos (by omega), if_pos (by simp)]
    cases fieldB w' h' l' with
    | false => simp
    | true =>
      rw [if_pos rfl, if_pos (by simp)]
      by_cases e : w = w'
      · subst e
        rw [if_pos rfl, Option.bind_some]
        by_cases e2 : h = h'
        · subst e2
          rw [beq_self_eq_true, if_pos rfl]
          show impl_areAlike.l0 ((K + j) + 1) _ _ (2 : Int) 2 = _
          rw [impl_areAlike.l0, if_neg (by omega)]; simp
        · rw [beq_eq_false_iff_ne.2 (Ne.symm e2)]; simp [e2]
      · rw [if_neg (Ne.symm e)]; simp [e]
theorem l2Same_ev (w h : Int) (l : List Int) (w' h' : Int) (l' : List Int) (hl : l.length ≤ 1048576) (hl' : l'.length ≤ 1048576) : Evt fun k => spec_l2Same.f k w h l w' h' l' = some (sameB w h l w' h' l') := by
  refine ((l2Good_ev w h l hl).and (l2Good_ev w' h' l' hl')).mono ?_
  rintro k ⟨h1, h2⟩
  simp only [spec_l2Same.f, h1, h2, Option.bind_some]
  unfold sameB
  cases fieldB w h l with
  | false => simp
  | true =>
    cases fieldB w' h' l' with
    | false => simp
    | true =>
      by_cases e : w = w'
      · by_cases e2 : h = h' <;> simp [e, e2]
      · simp [e]
def edTo (a b : List Int) : Nat → List Int
  | 0 => []
  | n + 1 => if a.getD n 0 = b.getD n 0 then edTo a b n else edTo a b n ++ [(n : Int)]
theorem edTo_len (a b : List Int) : ∀ n, (edTo a b n).length ≤ n
  | 0 => Nat.le_refl _
  | n + 1 => by have := edTo_len a b n; simp only [edTo]; split <;> simp <;> omega
theorem pair_EditedRegion (w h : Int) (l : List Int) (w' h' : Int) (l' : List Int) (hl : l.length ≤ 1048576) (hl' : l'.length ≤ 1048576) :
    ∃ v : List Int × Bool, (Evt fun k => impl_EditedRegion.f k w h l w' h' l' = some v) ∧ (Evt fun k => spec_EditedRegion.f k w h l w' h' l' = some v) ∧ v.1.length ≤ 1048576 := by
  have s1 := areAlike_ev w h l w' h' l' hl hl'
  have s2 := l2Same_ev w h l w' h' l' hl hl'
  cases hb : sameB w h l w' h' l' with
  | false =>
    rw [hb] at s1 s2
    refine ⟨([], false), s1.mono fun k hk => ?_, s2.mono fun k hk => ?_, by simp⟩
    · simp [impl_EditedRegion.f, hk]
    · simp [spec_EditedRegion.f, hk]
  | true =>
    rw [hb] at s1 s2
    have hb' := hb
    unfold sameB at hb'
    simp only [Bool.and_eq_true, decide_eq_true_eq] at hb'
    obtain ⟨⟨⟨f1, f2⟩, e1⟩, e2⟩ := hb'
    obtain ⟨_, _, n1, m1, _⟩ := fieldB_len f1
    obtain ⟨_, _, n2, m2, _⟩ := fieldB_len f2
    have hn : l.length = l'.length := by rw [e1, e2] at n1; omega
    have i1 : Evt fun k => impl_EditedRegion.l0 k [] l (l.length : Int) 0 w' h' l' = some (edTo l l' l.length, true) := by
      refine evt_loop0 l.length (fun k s i => impl_EditedRegion.l0 k s l (l.length : Int) i w' h' l') (edTo l l' l.length, true) (fun i s => s = edTo l l' i) ?_ ?_ [] rfl
      · rintro i s hi rfl
        have := edTo_len l l' i
        refine .inl ⟨_, rfl, 1, Evt.all fun k => ?_⟩
        show impl_EditedRegion.l0 (k + 1) (edTo l l' i) l (l.length : Int) (i : Int) w' h' l' = _
        simp only [impl_EditedRegion.l0, rd_nat, edTo]
        rw [if_pos (by omega), if_pos (by omega), if_pos (by omega), if_pos (by omega), wrap_id (by omega) (by omega)]
        by_cases c : l.getD i 0 = l'.getD i 0
        · rw [if_pos c, if_pos c]
        · rw [if_neg c, if_neg c, if_pos (by omega)]
      · rintro s rfl
        refine Evt.succ (Evt.all fun k => ?_)
        show impl_EditedRegion.l0 (k + 1) (edTo l l' l.length) l (l.length : Int) (l.length : Int) w' h' l' = _
        simp only [impl_EditedRegion.l0]
        rw [if_neg (by omega)]
    have i2 : Evt fun k => spec_EditedRegion.l0 k [] 0 w h l w' h' l' = some (edTo l l' l.length, true) := by
      refine evt_loop0 l.length (fun k s i => spec_EditedRegion.l0 k s i w h l w' h' l') (edTo l l' l.length, true) (fun i s => s = edTo l l' i) ?_ ?_ [] rfl
      · rintro i s hi rfl
        have := edTo_len l l' i
        refine .inl ⟨_, rfl, 1, Evt.all fun k => ?_⟩
        show spec_EditedRegion.l0 (k + 1) (edTo l l' i) (i : Int) w h l w' h' l' = _
        simp only [spec_EditedRegion.l0, rd_nat, edTo]
        rw [if_pos (by omega), if_pos (by omega), if_pos (by omega), wrap_id (by omega) (by omega)]
        by_cases c : l.getD i 0 = l'.getD i 0
        · rw [if_pos c, if_pos c]
        · rw [if_neg c, if_neg c, if_pos (by omega)]
      · rintro s rfl
        refine Evt.succ (Evt.all fun k => ?_)
        show spec_EditedRegion.l0 (k + 1) (edTo l l' l.length) (l.length : Int) w h l w' h' l' = _
        simp only [spec_EditedRegion.l0]
        rw [if_neg (by omega)]
    refine ⟨(edTo l l' l.length, true), (s1.and i1).mono ?_, (s2.and i2).mono ?_, by have := edTo_len l l' l.length; dsimp only; omega⟩
    · rintro k ⟨h1, h2⟩; simp only [impl_EditedRegion.f, h1, h2, Option.bind_some, if_true]
    · rintro k ⟨h1, h2⟩; simp only [spec_EditedRegion.f, h1, h2, Option.bind_some, if_true]
theorem FnExactEditedRegion : FnExactEditedRegionPure := by
  intro w h l w' h' l' _ _ hm1 _ _ _ hm2 _
  have q1 := szField_ok w h l 1048576 (by omega) hm1
  by_cases c1 : (1048576 - (l.length : Int)) < 0
  · exact ⟨0, by unfold laws_FnExactEditedRegion.f; rw [q1, if_pos c1, Option.bind_some, if_pos (by omega)]⟩
  rw [if_neg c1] at q1
  have q2 := szField_ok w' h' l' (1048576 - (l.length : Int)) (by omega) hm2
  by_cases c2 : (1048576 - (l.length : Int)) - (l'.length : Int) < 0
  · exact ⟨0, by unfold laws_FnExactEditedRegion.f; rw [q1, Option.bind_some, if_neg c1, q2, if_pos c2, Option.bind_some, if_pos (by omega)]⟩
  rw [if_neg c2] at q2
  have hn1 : l.length ≤ 1048576 := by omega
  have hn2 : l'.length ≤ 1048576 := by omega
  obtain ⟨⟨g0, g1⟩, hi, hs, hg⟩ := pair_EditedRegion w h l w' h' l' hn1 hn2
  obtain ⟨K, hK⟩ := ((hi).and ((hs).and ((toField_ev w h l hn1).and ((toField_ev w' h' l' hn2).and ((eqField_ev w h l hn1).and ((eqField_ev w' h' l' hn2).and ((markField_ev w h l 1 (by omega) hn1).and ((markField_ev w' h' l' (1 + l.length) (by omega) hn2).and ((eqIntS_ev g0 (by dsimp only at hg; omega)).and ((markIntS_ev g0 1 (by omega) (by dsimp only at hg; omega)).and (heldIntS_ev g0.length 1 (by omega) (by dsimp only at hg; omega)))))))))))).at
  have e0 := fun j => (hK j).1
  have e1 := fun j => (hK j).2.1
  have e2 := fun j => (hK j).2.2.1
  have e3 := fun j => (hK j).2.2.2.1
  have e4 := fun j => (hK j).2.2.2.2.1
  have e5 := fun j => (hK j).2.2.2.2.2.1
  have e6 := fun j => (hK j).2.2.2.2.2.2.1
  have e7 := fun j => (hK j).2.2.2.2.2.2.2.1
  have e8 := fun j => (hK j).2.2.2.2.2.2.2.2.1
  have e9 := fun j => (hK j).2.2.2.2.2.2.2.2.2.1
  have e10 := fun j => (hK j).2.2.2.2.2.2.2.2.2.2
  refine ⟨K + 6, ?_⟩
  simp only [laws_FnExactEditedRegion.f, q1, if_neg c1, q2, if_neg c2, Option.bind_some, e0, e1, e2, e3, e8, if_true]
  have z1 : ¬ ((1 : Int) + (l.length : Int) + (l'.length : Int)) < 0 := by omega
  have z2 : ¬ ((1 : Int) + (g0.length : Int)) < 0 := by omega
  simp [laws_FnExactEditedRegion.j0, laws_FnExactEditedRegion.j1, laws_FnExactEditedRegion.j2, e0, e1, e2, e3, e4, e5, e6, e7, e8, e9, e10, z1, z2]
end Go.Proofs.Ytfdjjkkhkojfgaa.XFnExactEditedRegion.Pure
