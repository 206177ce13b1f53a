/-
  The pure statement of the law FnExactKeepsSlope: what its printed function answers is 'true' for all numbers and lists of its kinds. Conditions: the kinds' own bounds, as the statement lays them.
-/
import Derived.Test.YtfdjjkkhkojfgaaStmFnExactKeepsSlope
import Derived.DataShut
namespace Go.Proofs.Ytfdjjkkhkojfgaa.XFnExactKeepsSlope.Pure
open Go.RowKit Go.Proofs.Ytfdjjkkhkojfgaa.XFnExactKeepsSlope Go.Proofs.YtfdjjkkhkojfgaaW.PrintWords Go.Proofs.YtfdjjkkhkojfgaaW.PrintLast Go.Proofs.YtfdjjkkhkojfgaaW.PrintMore
set_option linter.unusedVariables false
set_option linter.unusedSimpArgs false
theorem wrap_id {x : Int} (h0 : -9223372036854775808 ≤ x) (h1 : x ≤ 9223372036854775807) : wrap64 x = x := by unfold wrap64; omega
theorem rd_nat (xs : List Int) (i : Nat) : rd xs (i : Int) = xs.getD i 0 := by simp [rd]
theorem for_loop {σ ρ : Type} (K n : Nat) (L : Nat → σ → Int → Option ρ) (v : ρ) (Inv : Nat → σ → Prop)
    (step : ∀ k i s, K ≤ k → i < n → Inv i s → (∃ s', Inv (i + 1) s' ∧ L (k + 1) s (i : Int) = L k s' ((i : Int) + 1)) ∨ L (k + 1) s (i : Int) = some v)
    (fin : ∀ k s, K ≤ k → Inv n s → L (k + 1) s (n : Int) = some v) :
    ∀ k s, Inv 0 s → n + K < k → L k s 0 = some v := by
  have key : ∀ d k i s, i + d = n → Inv i s → d + K < k → L k s (i : Int) = some v := by
    intro d
    induction d with
    | zero =>
      intro k i s hi h hk
      obtain ⟨k, rfl⟩ : ∃ m, k = m + 1 := ⟨k - 1, by omega⟩
      obtain rfl : i = n := by omega
      exact fin k s (by omega) h
    | succ d ih =>
      intro k i s hi h hk
      obtain ⟨k, rfl⟩ : ∃ m, k = m + 1 := ⟨k - 1, by omega⟩
      rcases step k i s (by omega) (by omega) h with ⟨s', h', e⟩ | e
      · rw [e]
        have := ih k (i + 1) s' (by omega) h' (by omega)
        rw [show ((i + 1 : Nat) : Int) = (i : Int) + 1 from by omega] at this
        exact this
      · exact e
  intro k s h hk
  exact key n k 0 s (by omega) h hk
theorem getD_drop {α : Type} (xs : List α) (z : α) (i : Nat) (h : i < xs.length) : xs.drop i = xs.getD i z :: xs.drop (i + 1) := by
  rw [List.drop_eq_getElem_cons h, List.getD_eq_getElem?_getD, List.getElem?_eq_getElem h]; rfl
def Evt (P : Nat → Prop) : Prop := ∃ K, ∀ k, K ≤ k → P k
theorem Evt.all {P : Nat → Prop} (h : ∀ k, P k) : Evt P := ⟨0, fun k _ => h k⟩
theorem Evt.from {P : Nat → Prop} (K : Nat) (h : ∀ k, K ≤ k → P k) : Evt P := ⟨K, h⟩
theorem Evt.above {P : Nat → Prop} (K : Nat) (h : ∀ k, K < k → P k) : Evt P := ⟨K + 1, fun k hk => h k hk⟩
theorem Evt.and {P Q : Nat → Prop} (h : Evt P) (g : Evt Q) : Evt fun k => P k ∧ Q k := by
  obtain ⟨K, h⟩ := h
  obtain ⟨M, g⟩ := g
  exact ⟨K + M, fun k hk => ⟨h k (by omega), g k (by omega)⟩⟩
theorem Evt.mono {P Q : Nat → Prop} (h : Evt P) (g : ∀ k, P k → Q k) : Evt Q := by
  obtain ⟨K, h⟩ := h
  exact ⟨K, fun k hk => g k (h k hk)⟩
theorem Evt.succ {Q : Nat → Prop} (h : Evt fun k => Q (k + 1)) : Evt Q := by
  obtain ⟨K, h⟩ := h
  refine ⟨K + 1, fun k hk => ?_⟩
  obtain ⟨m, rfl⟩ : ∃ m, k = m + 1 := ⟨k - 1, by omega⟩
  exact h m (by omega)
theorem Evt.add {Q : Nat → Prop} (c : Nat) (h : Evt fun k => Q (k + c)) : Evt Q := by
  obtain ⟨K, h⟩ := h
  refine ⟨K + c, fun k hk => ?_⟩
  obtain ⟨m, rfl⟩ : ∃ m, k = m + c := ⟨k - c, by omega⟩
  exact h m (by omega)
theorem Evt.at {P : Nat → Prop} (h : Evt P) : ∃ K, ∀ j, P (K + j) := by
  obtain ⟨K, h⟩ := h
  exact ⟨K, fun j => h _ (by omega)⟩
theorem evt_loop {σ ρ : Type} (n : Nat) (L : Nat → σ → Int → Option ρ) (v : ρ) (Inv : Nat → σ → Prop)
    (step : ∀ i s, i < n → Inv i s → (∃ s', Inv (i + 1) s' ∧ ∃ c, Evt fun k => L (k + c) s (i : Int) = L k s' ((i : Int) + 1)) ∨ Evt fun k => L k s (i : Int) = some v)
    (fin : ∀ s, Inv n s → Evt fun k => L k s (n : Int) = some v) :
    ∀ i s, i ≤ n → Inv i s → Evt fun k => L k s (i : Int) = some v := by
  have key : ∀ d i s, i + d = n → Inv i s → Evt fun k => L k s (i : Int) = some v := by
    intro d
    induction d with
    | zero =>
      intro i s hi h
      obtain rfl : i = n := by omega
      exact fin s h
    | succ d ih =>
      intro i s hi h
      rcases step i s (by omega) h with ⟨s', h', c, e⟩ | e
      · have h2 := ih (i + 1) s' (by omega) h'
        rw [show ((i + 1 : Nat) : Int) = (i : Int) + 1 from by omega] at h2
        exact Evt.add c ((e.and h2).mono fun k hk => hk.1.trans hk.2)
      · exact e
  intro i s hi h
  exact key (n - i) i s (by omega) h
theorem evt_loop0 {σ ρ : Type} (n : Nat) (L : Nat → σ → Int → Option ρ) (v : ρ) (Inv : Nat → σ → Prop)
    (step : ∀ i s, i < n → Inv i s → (∃ s', Inv (i + 1) s' ∧ ∃ c, Evt fun k => L (k + c) s (i : Int) = L k s' ((i : Int) + 1)) ∨ Evt fun k => L k s (i : Int) = some v)
    (fin : ∀ s, Inv n s → Evt fun k => L k s (n : Int) = some v) (s : σ) (h0 : Inv 0 s) : Evt fun k => L k s 0 = some v :=
  evt_loop n L v Inv step fin 0 s (Nat.zero_le _) h0
theorem getD_lt {α : Type} (xs : List α) (z : α) (i : Nat) (h : i < xs.length) : xs.getD i z = xs[i] := by
  rw [List.getD_eq_getElem?_getD, List.getElem?_eq_getElem h]; rfl
theorem evt_loop_ex {σ ρ : Type} (n : Nat) (L : Nat → σ → Int → Option ρ) (R : ρ → Prop) (Inv : Nat → σ → Prop)
    (step : ∀ i s, i < n → Inv i s → (∃ s', Inv (i + 1) s' ∧ ∃ c, Evt fun k => L (k + c) s (i : Int) = L k s' ((i : Int) + 1)) ∨ ∃ v, R v ∧ Evt fun k => L k s (i : Int) = some v)
    (fin : ∀ s, Inv n s → ∃ v, R v ∧ Evt fun k => L k s (n : Int) = some v) (s : σ) (h0 : Inv 0 s) : ∃ v, R v ∧ Evt fun k => L k s 0 = some v := by
  have key : ∀ d i s, i + d = n → Inv i s → ∃ v, R v ∧ Evt fun k => L k s (i : Int) = some v := by
    intro d
    induction d with
    | zero =>
      intro i s hi h
      obtain rfl : i = n := by omega
      exact fin s h
    | succ d ih =>
      intro i s hi h
      rcases step i s (by omega) h with ⟨s', h', c, e⟩ | e
      · obtain ⟨v, hv, h2⟩ := ih (i + 1) s' (by omega) h'
        rw [show ((i + 1 : Nat) : Int) = (i : Int) + 1 from by omega] at h2
        exact ⟨v, hv, Evt.add c ((e.and h2).mono fun k hk => hk.1.trans hk.2)⟩
      · exact e
  exact key n 0 s (by omega) h0
theorem within_ok (a b c : Int) : impl_within.f a b c = some (decide (b ≤ a ∧ a ≤ c)) := by
  unfold impl_within.f
  split <;> simp <;> omega
theorem l1In_ok (a b c : Int) : spec_l1In.f a b c = some (decide (b ≤ a ∧ a ≤ c)) := by
  unfold spec_l1In.f
  split <;> simp <;> omega
def cellOk (x : Int) : Bool := decide (x = -9999) || decide (-9000 ≤ x ∧ x ≤ 9000)
theorem isCell_ok (x : Int) : impl_isCell.f x = some (cellOk x) := by
  unfold impl_isCell.f cellOk
  by_cases h : x = -9999
  · rw [if_pos h, decide_eq_true h]; rfl
  · rw [if_neg h, within_ok, Option.bind_some, decide_eq_false h, Bool.false_or]
theorem l2Value_ok (x : Int) : spec_l2Value.f x = some (cellOk x) := by
  unfold spec_l2Value.f cellOk
  by_cases h : x = -9999
  · rw [if_pos h, decide_eq_true h]; rfl
  · rw [if_neg h, l1In_ok, Option.bind_some, decide_eq_false h, Bool.false_or]
def fieldB (w h : Int) (l : List Int) : Bool := decide (1 ≤ w ∧ w ≤ 8) && decide (1 ≤ h ∧ h ≤ 8) && decide ((l.length : Int) = w * h) && l.all cellOk
theorem prod8 {w h : Int} (hw : 1 ≤ w ∧ w ≤ 8) (hh : 1 ≤ h ∧ h ≤ 8) : 1 ≤ w * h ∧ w * h ≤ 64 := by
  have a : w * 1 ≤ w * h := Int.mul_le_mul_of_nonneg_left (by omega) (by omega)
  have b : w * h ≤ 8 * h := Int.mul_le_mul_of_nonneg_right (by omega) (by omega)
  omega
theorem fieldB_len {w h : Int} {l : List Int} (q : fieldB w h l = true) : (1 ≤ w ∧ w ≤ 8) ∧ (1 ≤ h ∧ h ≤ 8) ∧ (l.length : Int) = w * h ∧ l.length ≤ 64 ∧ l.all cellOk = true := by
  unfold fieldB at q
  simp only [Bool.and_eq_true, decide_eq_true_eq] at q
  have := prod8 q.1.1.1 q.1.1.2
  exact ⟨q.1.1.1, q.1.1.2, q.1.2, by omega, q.2⟩
theorem IndexFuncI_ev (l : List Int) (hl : l.length ≤ 4503599627370496) : ∃ r, decide (r ≥ (0 : Int)) = !(l.all cellOk) ∧ Evt fun k => slices_IndexFunc_int.f k l = some r := by
  unfold slices_IndexFunc_int.f
  refine evt_loop_ex l.length (fun k (_ : Unit) i => slices_IndexFunc_int.l0 k l (l.length : Int) i) _ (fun i _ => (l.drop i).all cellOk = l.all cellOk) ?_ ?_ () rfl
  · intro i s hi h
    rw [getD_drop l 0 i hi, List.all_cons] at h
    cases hp : cellOk (l.getD i 0) with
    | true =>
      refine .inl ⟨(), by rw [hp, Bool.true_and] at h; exact h, 1, Evt.all fun k => ?_⟩
      show slices_IndexFunc_int.l0 (k + 1) l (l.length : Int) (i : Int) = _
      simp only [slices_IndexFunc_int.l0, rd_nat, impl_IsValidField_1.f, isCell_ok, Option.bind_some, hp]
      rw [if_pos (by omega), if_pos (by omega), if_pos (by omega), if_neg (by simp), wrap_id (by omega) (by omega)]
    | false =>
      refine .inr ⟨(i : Int), by rw [← h, hp]; simp, Evt.succ (Evt.all fun k => ?_)⟩
      show slices_IndexFunc_int.l0 (k + 1) l (l.length : Int) (i : Int) = _
      simp only [slices_IndexFunc_int.l0, rd_nat, impl_IsValidField_1.f, isCell_ok, Option.bind_some, hp]
      rw [if_pos (by omega), if_pos (by omega), if_pos (by omega)]; simp
  · intro s h
    rw [List.drop_of_length_le (Nat.le_refl _)] at h
    refine ⟨-1, by rw [← h]; simp, Evt.succ (Evt.all fun k => ?_)⟩
    show slices_IndexFunc_int.l0 (k + 1) l (l.length : Int) (l.length : Int) = _
    simp only [slices_IndexFunc_int.l0]
    rw [if_neg (by omega)]
theorem IsValidField_ev (w h : Int) (l : List Int) (hl : l.length ≤ 1048576) : Evt fun k => impl_IsValidField.f k w h l = some (fieldB w h l) := by
  obtain ⟨r, hr, ev⟩ := IndexFuncI_ev l (by omega)
  refine ev.mono fun k hk => ?_
  simp only [impl_IsValidField.f, slices_ContainsFunc_int.f, hk, Option.bind_some, hr, Bool.not_not, within_ok]
  unfold fieldB
  by_cases hw : 1 ≤ w ∧ w ≤ 8
  · rw [decide_eq_true hw, if_pos rfl]
    by_cases hh : 1 ≤ h ∧ h ≤ 8
    · have := prod8 hw hh
      rw [decide_eq_true hh, if_pos rfl, wrap_id (by omega) (by omega)]
      by_cases hn : (l.length : Int) = w * h
      · rw [if_pos hn, decide_eq_true hn]; simp
      · rw [if_neg hn, decide_eq_false hn]; simp
    · rw [decide_eq_false hh]; simp
  · rw [decide_eq_false hw]; simp
theorem l2Good_ev (w h : Int) (l : List Int) (hl : l.length ≤ 1048576) : Evt fun k => spec_l2Good.f k w h l = some (fieldB w h l) := by
  have lo : Evt fun k => spec_l2Good.l0 k 0 w h l = some (l.all cellOk) := by
    refine evt_loop0 l.length (fun k (_ : Unit) i => spec_l2Good.l0 k i w h l) (l.all cellOk) (fun i _ => (l.drop i).all cellOk = l.all cellOk) ?_ ?_ () rfl
    · intro i s hi h
      rw [getD_drop l 0 i hi, List.all_cons] at h
      cases hp : cellOk (l.getD i 0) with
      | true =>
        refine .inl ⟨(), by rw [hp, Bool.true_and] at h; exact h, 1, Evt.all fun k => ?_⟩
        show spec_l2Good.l0 (k + 1) (i : Int) _ _ l = _
        simp only [spec_l2Good.l0, rd_nat, l2Value_ok, Option.bind_some, hp]
        rw [if_pos (by omega), if_pos (by omega), if_pos trivial, wrap_id (by omega) (by omega)]
      | false =>
        refine .inr (Evt.succ (Evt.all fun k => ?_))
        show spec_l2Good.l0 (k + 1) (i : Int) _ _ l = _
        simp only [spec_l2Good.l0, rd_nat, l2Value_ok, Option.bind_some, hp]
        rw [if_pos (by omega), if_pos (by omega), ← h, hp]; simp
    · intro s h
      rw [List.drop_of_length_le (Nat.le_refl _)] at h
      refine Evt.succ (Evt.all fun k => ?_)
      show spec_l2Good.l0 (k + 1) (l.length : Int) _ _ l = _
      simp only [spec_l2Good.l0]
      rw [if_neg (by omega), ← h]; rfl
  refine Evt.succ (lo.mono fun k hk => ?_)
  simp only [spec_l2Good.f, spec_l2Shape.f, l1In_ok, Option.bind_some, spec_l2Good.j0, hk]
  unfold fieldB
  by_cases hw : 1 ≤ w ∧ w ≤ 8
  · rw [decide_eq_true hw, if_pos rfl, Option.bind_some]
    by_cases hh : 1 ≤ h ∧ h ≤ 8
    · have := prod8 hw hh
      rw [decide_eq_true hh, if_pos rfl, wrap_id (by omega) (by omega)]
      by_cases hn : (l.length : Int) = w * h
      · rw [decide_eq_true hn, hn]; simp
      · rw [decide_eq_false hn, if_pos (by simpa using hn)]; simp
    · rw [decide_eq_false hh]; simp
  · rw [decide_eq_false hw]; simp
theorem toIntS_ok (l : List Int) (hl : l.length ≤ 1048576) : ∀ k, l.length < k → laws_toIntS.f k l = some l := by
  intro k hk
  unfold laws_toIntS.f
  rw [if_pos (by omega), if_pos (by omega)]
  refine for_loop 0 l.length (fun k s i => laws_toIntS.l0 k l s i) l (fun i s => s.length = l.length ∧ ∀ j, j < i → s[j]? = l[j]?) ?_ ?_ k _ ⟨by simp, fun j hj => by omega⟩ (by omega)
  · rintro k i s _ hi ⟨h1, h2⟩
    refine .inl ⟨s.set i (l.getD i 0), ⟨by simpa using h1, fun j hj => ?_⟩, ?_⟩
    · by_cases e : j = i
      · subst e
        rw [List.getElem?_set_self (by omega), List.getD_eq_getElem?_getD, List.getElem?_eq_getElem hi]; rfl
      · rw [List.getElem?_set_ne (by omega)]; exact h2 j (by omega)
    · show laws_toIntS.l0 (k + 1) l s (i : Int) = _
      simp only [laws_toIntS.l0]
      rw [if_pos (by omega), if_pos (by omega), if_pos (by omega), wrap_id (by omega) (by omega), rd_nat, Int.toNat_natCast]
  · rintro k s _ ⟨h1, h2⟩
    show laws_toIntS.l0 (k + 1) l s (l.length : Int) = _
    simp only [laws_toIntS.l0]
    rw [if_neg (by omega)]
    congr 1
    apply List.ext_getElem?
    intro j
    by_cases hj : j < l.length
    · exact h2 j hj
    · rw [List.getElem?_eq_none (by omega), List.getElem?_eq_none (by omega)]
theorem eqIntS_self (l : List Int) (hl : l.length ≤ 4503599627370496) : ∀ k, l.length < k → laws_eqIntS.f k l l = some true := by
  intro k hk
  unfold laws_eqIntS.f
  rw [if_pos rfl]
  refine for_loop 0 l.length (fun k (_ : Unit) i => laws_eqIntS.l0 k l l i) true (fun _ _ => True) ?_ ?_ k () trivial (by omega)
  · intro k i s _ hi _
    refine .inl ⟨(), trivial, ?_⟩
    show laws_eqIntS.l0 (k + 1) l l (i : Int) = _
    simp only [laws_eqIntS.l0]
    rw [if_pos (by omega), if_pos (by omega), if_pos (by omega), wrap_id (by omega) (by omega)]
    simp
  · intro k s _ _
    show laws_eqIntS.l0 (k + 1) l l (l.length : Int) = _
    simp only [laws_eqIntS.l0]
    rw [if_neg (by omega)]
theorem toIntS_ev (l : List Int) (hl : l.length ≤ 1048576) : Evt fun k => laws_toIntS.f k l = some l := Evt.above _ (toIntS_ok l hl)
theorem eqIntS_ev (l : List Int) (hl : l.length ≤ 4503599627370496) : Evt fun k => laws_eqIntS.f k l l = some true := Evt.above _ (eqIntS_self l hl)
theorem szIntS_ok (l : List Int) (n : Int) (hn : 0 ≤ n ∧ n ≤ 1048576) (hl : l.length ≤ maxLen) : laws_szIntS.f l n = some (if n - (l.length : Int) < 0 then -1 else n - (l.length : Int)) := by
  have hm : maxLen = 9223372036854775807 := by decide
  unfold laws_szIntS.f
  rw [wrap_id (by omega) (by omega)]
  split <;> rfl
theorem szField_ok (w h : Int) (l : List Int) (n : Int) (hn : 0 ≤ n ∧ n ≤ 1048576) (hl : l.length ≤ maxLen) : laws_szField.f w h l n = some (if n - (l.length : Int) < 0 then -1 else n - (l.length : Int)) := by
  unfold laws_szField.f
  rw [szIntS_ok l n hn hl, Option.bind_some]
  by_cases c : n - (l.length : Int) < 0
  · rw [if_pos c, if_pos (by omega)]
  · rw [if_neg c, if_neg c]
theorem toField_ev (w h : Int) (l : List Int) (hl : l.length ≤ 1048576) : Evt fun k => laws_toField.f k w h l = some (w, h, l) := (toIntS_ev l hl).mono fun k hk => by rw [laws_toField.f, hk, Option.bind_some]
theorem eqField_ev (w h : Int) (l : List Int) (hl : l.length ≤ 1048576) : Evt fun k => laws_eqField.f k w h l w h l = some true := (eqIntS_ev l (by omega)).mono fun k hk => by rw [laws_eqField.f, if_pos rfl, if_pos rfl, hk, Option.bind_some, if_pos rfl]
theorem evt_meas {σ ρ : Type} (L : Nat → σ → Option ρ) (v : ρ) (Inv : σ → Prop) (m : σ → Nat)
    (step : ∀ s, Inv s → (∃ s', Inv s' ∧ m s' < m s ∧ ∃ c, Evt fun k => L (k + c) s = L k s') ∨ Evt fun k => L k s = some v) :
    ∀ s, Inv s → Evt fun k => L k s = some v := by
  have key : ∀ (n : Nat) (s : σ), m s < n → Inv s → Evt fun k => L k s = some v := by
    intro n
    induction n with
    | zero => intro s hs; omega
    | succ n ih =>
      intro s hs hi
      rcases step s hi with ⟨s', hi', hm, c, e⟩ | e
      · exact Evt.add c ((e.and (ih s' (by omega) hi')).mono fun k hk => hk.1.trans hk.2)
      · exact e
  intro s hi
  exact key (m s + 1) s (by omega) hi
def fullB (w h : Int) (l : List Int) : Bool := fieldB w h l && !l.any (fun x => decide (x = -9999))
theorem IndexI_ev (l : List Int) (a : Int) (hl : l.length ≤ 4503599627370496) : ∃ r, decide (r ≥ (0 : Int)) = l.any (fun x => decide (x = a)) ∧ Evt fun k => slices_Index_int.f k l a = some r := by
  unfold slices_Index_int.f
  refine evt_loop_ex l.length (fun k (_ : Unit) i => slices_Index_int.l0 k l a (l.length : Int) i) _ (fun i _ => (l.drop i).any (fun x => decide (x = a)) = l.any (fun x => decide (x = a))) ?_ ?_ () rfl
  · intro i s hi h
    rw [getD_drop l 0 i hi, List.any_cons] at h
    by_cases hp : l.getD i 0 = a
    · refine .inr ⟨(i : Int), by rw [← h, decide_eq_true hp]; simp, Evt.succ (Evt.all fun k => ?_)⟩
      show slices_Index_int.l0 (k + 1) l a (l.length : Int) (i : Int) = _
      simp only [slices_Index_int.l0, rd_nat]
      rw [if_pos (by omega), if_pos (by omega), if_pos (by omega), if_pos hp.symm]
    · refine .inl ⟨(), by rw [decide_eq_false hp, Bool.false_or] at h; exact h, 1, Evt.all fun k => ?_⟩
      show slices_Index_int.l0 (k + 1) l a (l.length : Int) (i : Int) = _
      simp only [slices_Index_int.l0, rd_nat]
      rw [if_pos (by omega), if_pos (by omega), if_pos (by omega), if_neg (fun e => hp e.symm), wrap_id (by omega) (by omega)]
  · intro s h
    rw [List.drop_of_length_le (Nat.le_refl _)] at h
    refine ⟨-1, by rw [← h]; simp, Evt.succ (Evt.all fun k => ?_)⟩
    show slices_Index_int.l0 (k + 1) l a (l.length : Int) (l.length : Int) = _
    simp only [slices_Index_int.l0]
    rw [if_neg (by omega)]
theorem isFull_ev (w h : Int) (l : List Int) (hl : l.length ≤ 1048576) : Evt fun k => impl_isFull.f k w h l = some (fullB w h l) := by
  obtain ⟨r, hr, ev⟩ := IndexI_ev l (-9999) (by omega)
  refine (ev.and (IsValidField_ev w h l hl)).mono ?_
  rintro k ⟨h1, h2⟩
  simp only [impl_isFull.f, h2, Option.bind_some, slices_Contains_int.f, h1, hr]
  unfold fullB
  cases fieldB w h l <;> simp
theorem l7Full_ev (w h : Int) (l : List Int) (hl : l.length ≤ 1048576) : Evt fun k => spec_l7Full.f k w h l = some (fullB w h l) := by
  obtain ⟨K, hK⟩ := (l2Good_ev w h l hl).at
  suffices hs : Evt fun k => spec_l7Full.l0 (K + k) 0 w h l = some (fullB w h l) by
    obtain ⟨M, hM⟩ := hs
    exact Evt.from (K + M) fun k hk => by obtain ⟨j, rfl⟩ : ∃ j, k = K + j := ⟨k - K, by omega⟩; exact hM j (by omega)
  refine evt_loop0 l.length (fun k (_ : Unit) i => spec_l7Full.l0 (K + k) i w h l) _ (fun i _ => (l.drop i).any (fun x => decide (x = -9999)) = l.any (fun x => decide (x = -9999))) ?_ ?_ () rfl
  · intro i s hi h
    rw [getD_drop l 0 i hi, List.any_cons] at h
    by_cases hp : l.getD i 0 = -9999
    · refine .inr (Evt.succ (Evt.all fun k => ?_))
      show spec_l7Full.l0 ((K + k) + 1) (i : Int) _ _ l = _
      simp only [spec_l7Full.l0, rd_nat]
      rw [if_pos (by omega), if_pos (by omega), if_pos hp]
      unfold fullB
      rw [← h, decide_eq_true hp]; simp
    · refine .inl ⟨(), by rw [decide_eq_false hp, Bool.false_or] at h; exact h, 1, Evt.all fun k => ?_⟩
      show spec_l7Full.l0 ((K + k) + 1) (i : Int) _ _ l = _
      simp only [spec_l7Full.l0, rd_nat]
      rw [if_pos (by omega), if_pos (by omega), if_neg hp, wrap_id (by omega) (by omega)]
  · intro s h'
    rw [List.drop_of_length_le (Nat.le_refl _)] at h'
    refine Evt.succ (Evt.all fun k => ?_)
    show spec_l7Full.l0 ((K + k) + 1) (l.length : Int) _ _ l = _
    simp only [spec_l7Full.l0]
    rw [if_neg (by omega), hK]
    unfold fullB
    rw [← h']; simp
def absI (d : Int) : Int := if d < 0 then -d else d
theorem absOf_ok (d : Int) (h : -1000000 ≤ d ∧ d ≤ 1000000) : impl_absOf.f d = some (absI d) := by
  unfold impl_absOf.f absI
  by_cases c : d < 0
  · rw [if_pos c, if_pos c, wrap_id (by omega) (by omega)]
  · rw [if_neg c, if_neg c]
theorem l1Most_ok (a b : Int) : spec_l1Most.f a b = some (mx a b) := by
  unfold spec_l1Most.f mx
  split <;> split <;> simp <;> omega
theorem l11Abs_ok (d : Int) (h : -1000000 ≤ d ∧ d ≤ 1000000) : spec_l11Abs.f d = some (absI d) := by
  unfold spec_l11Abs.f
  rw [wrap_id (x := -d) (by omega) (by omega), l1Most_ok, Option.bind_some]
  unfold mx absI
  split <;> split <;> simp <;> omega
theorem sqB (d : Int) (h : -64 ≤ d ∧ d ≤ 64) : d * d ≤ 4096 ∧ ((d = 0 ∧ d * d = 0) ∨ ((d = 1 ∨ d = -1) ∧ d * d = 1) ∨ ((2 ≤ d ∨ d ≤ -2) ∧ 4 ≤ d * d)) := by
  have up : d * d ≤ 4096 := by
    by_cases c : 0 ≤ d
    · have := Int.mul_le_mul (a := d) (b := d) (c := 64) (d := 64) (by omega) (by omega) (by omega) (by omega)
      omega
    · have := Int.mul_le_mul (a := -d) (b := -d) (c := 64) (d := 64) (by omega) (by omega) (by omega) (by omega)
      rw [Int.neg_mul_neg] at this
      omega
  refine ⟨up, ?_⟩
  by_cases c0 : d = 0
  · subst c0; exact .inl ⟨rfl, rfl⟩
  by_cases c1 : d = 1
  · subst c1; exact .inr (.inl ⟨.inl rfl, rfl⟩)
  by_cases c2 : d = -1
  · subst c2; exact .inr (.inl ⟨.inr rfl, rfl⟩)
  refine .inr (.inr ⟨by omega, ?_⟩)
  by_cases c : 0 ≤ d
  · have := Int.mul_le_mul (a := 2) (b := 2) (c := d) (d := d) (by omega) (by omega) (by omega) (by omega)
    omega
  · have := Int.mul_le_mul (a := 2) (b := 2) (c := -d) (d := -d) (by omega) (by omega) (by omega) (by omega)
    rw [Int.neg_mul_neg] at this
    omega
def nearB (w i j : Int) : Bool := absI (Int.tmod i w - Int.tmod j w) + absI (Int.tdiv i w - Int.tdiv j w) == 1
theorem tm8 {w : Int} (hw : 1 ≤ w ∧ w ≤ 8) (i : Nat) (hi : i < 64) : (0 ≤ Int.tmod (i : Int) w ∧ Int.tmod (i : Int) w ≤ 7) ∧ (0 ≤ Int.tdiv (i : Int) w ∧ Int.tdiv (i : Int) w ≤ 63) := by
  rw [Int.tmod_eq_emod_of_nonneg (by omega), Int.tdiv_eq_ediv_of_nonneg (by omega)]
  have a := Int.emod_nonneg (i : Int) (b := w) (by omega)
  have b := Int.emod_lt_of_pos (i : Int) (b := w) (by omega)
  have c := Int.ediv_nonneg (a := (i : Int)) (b := w) (by omega) (by omega)
  have d := Int.ediv_le_self (a := (i : Int)) w (by omega)
  omega
theorem absI_le {d : Int} (h : -64 ≤ d ∧ d ≤ 64) : 0 ≤ absI d ∧ absI d ≤ 64 := by unfold absI; split <;> omega
theorem areConnected_ok {w : Int} (hw : 1 ≤ w ∧ w ≤ 8) (i j : Nat) (hi : i < 64) (hj : j < 64) : impl_areConnected.f w i j = some (nearB w i j) := by
  obtain ⟨a1, a2⟩ := tm8 hw i hi
  obtain ⟨b1, b2⟩ := tm8 hw j hj
  unfold impl_areConnected.f nearB
  have c1 := absI_le (d := Int.tmod i w - Int.tmod j w) (by omega)
  have c2 := absI_le (d := Int.tdiv i w - Int.tdiv j w) (by omega)
  rw [if_neg (by omega), wrap_id (x := Int.tmod (i : Int) w - Int.tmod (j : Int) w) (by omega) (by omega), absOf_ok _ (by omega), Option.bind_some, wrap_id (x := Int.tdiv (i : Int) w) (by omega) (by omega), wrap_id (x := Int.tdiv (j : Int) w) (by omega) (by omega), wrap_id (x := Int.tdiv (i : Int) w - Int.tdiv (j : Int) w) (by omega) (by omega), absOf_ok _ (by omega), Option.bind_some, wrap_id (by omega) (by omega)]
theorem l8Beside_ok {w : Int} (hw : 1 ≤ w ∧ w ≤ 8) (i j : Nat) (hi : i < 64) (hj : j < 64) : spec_l8Beside.f w i j = some (nearB w i j) := by
  obtain ⟨a1, a2⟩ := tm8 hw i hi
  obtain ⟨b1, b2⟩ := tm8 hw j hj
  unfold spec_l8Beside.f nearB
  obtain ⟨u1, s1⟩ := sqB (Int.tmod i w - Int.tmod j w) (by omega)
  obtain ⟨u2, s2⟩ := sqB (Int.tdiv i w - Int.tdiv j w) (by omega)
  rw [if_neg (by omega), wrap_id (x := Int.tmod (i : Int) w - Int.tmod (j : Int) w) (by omega) (by omega), wrap_id (x := Int.tdiv (i : Int) w) (by omega) (by omega), wrap_id (x := Int.tdiv (j : Int) w) (by omega) (by omega), wrap_id (x := Int.tdiv (i : Int) w - Int.tdiv (j : Int) w) (by omega) (by omega),
    wrap_id (x := (Int.tmod (i : Int) w - Int.tmod (j : Int) w) * (Int.tmod (i : Int) w - Int.tmod (j : Int) w)) (by omega) (by omega),
    wrap_id (x := (Int.tdiv (i : Int) w - Int.tdiv (j : Int) w) * (Int.tdiv (i : Int) w - Int.tdiv (j : Int) w)) (by omega) (by omega), wrap_id (by omega) (by omega)]
  generalize Int.tmod (i : Int) w - Int.tmod (j : Int) w = x at *
  generalize Int.tdiv (i : Int) w - Int.tdiv (j : Int) w = y at *
  generalize x * x = p at *
  generalize y * y = q at *
  congr 1
  rw [Bool.eq_iff_iff, beq_iff_eq, beq_iff_eq]
  unfold absI
  split <;> split <;> omega
def stIn (w : Int) (l : List Int) (i : Nat) (m : Int) : Nat → Int
  | 0 => m
  | j + 1 => if nearB w i j = true then mx (stIn w l i m j) (absI (l.getD i 0 - l.getD j 0)) else stIn w l i m j
def stOut (w : Int) (l : List Int) : Nat → Int
  | 0 => 0
  | i + 1 => stIn w l i (stOut w l i) i
theorem cell_bd {l : List Int} (h : l.all cellOk = true) (i : Nat) (hi : i < l.length) : -9999 ≤ l.getD i 0 ∧ l.getD i 0 ≤ 9000 := by
  have := List.all_eq_true.1 h (l.getD i 0) (by rw [getD_lt l 0 i hi]; exact List.getElem_mem hi)
  unfold cellOk at this
  simp only [Bool.or_eq_true, decide_eq_true_eq] at this
  omega
theorem l23Steepest_ev {w h : Int} {l : List Int} (q : fieldB w h l = true) : Evt fun k => spec_l23Steepest.f k w h l = some (stOut w l l.length) := by
  obtain ⟨hw, hh, _, hn, hc⟩ := fieldB_len q
  unfold spec_l23Steepest.f
  refine evt_meas (fun k (s : Option (Nat × Nat) × Nat) => match s with | (none, i) => spec_l23Steepest.l0 k (stOut w l i) (i : Int) w h l | (some (j, _), i) => spec_l23Steepest.l1 k (stIn w l i (stOut w l i) j) (i : Int) (j : Int) w h l) _
    (fun s => match s with | (none, i) => i ≤ l.length | (some (j, _), i) => i < l.length ∧ j ≤ i) (fun s => match s with | (none, i) => (65 - i) * 100 + 99 | (some (j, _), i) => (65 - i) * 100 + 98 - j) ?_ (none, 0) (Nat.zero_le _)
  rintro ⟨_ | ⟨j, u⟩, i⟩ hs
  · have hs : i ≤ l.length := hs
    by_cases e : i < l.length
    · refine .inl ⟨(some (0, 0), i), ⟨e, Nat.zero_le _⟩, by dsimp only; omega, 1, Evt.all fun k => ?_⟩
      show spec_l23Steepest.l0 (k + 1) _ _ w h l = _
      simp only [spec_l23Steepest.l0]
      rw [if_pos (by omega)]; rfl
    · obtain rfl : i = l.length := by omega
      refine .inr (Evt.succ (Evt.all fun k => ?_))
      show spec_l23Steepest.l0 (k + 1) _ _ w h l = _
      simp only [spec_l23Steepest.l0]
      rw [if_neg (by omega)]
  · obtain ⟨hi, hj⟩ : i < l.length ∧ j ≤ i := hs
    by_cases e : j < i
    · refine .inl ⟨(some (j + 1, 0), i), ⟨hi, e⟩, by dsimp only; omega, 1, Evt.all fun k => ?_⟩
      show spec_l23Steepest.l1 (k + 1) _ _ _ w h l = spec_l23Steepest.l1 k (stIn w l i (stOut w l i) (j + 1)) _ _ w h l
      have b1 := cell_bd hc i hi
      have b2 := cell_bd hc j (by omega)
      simp only [spec_l23Steepest.l1, l8Beside_ok hw i j (by omega) (by omega), Option.bind_some, rd_nat, stIn]
      rw [if_pos (by omega), wrap_id (x := (j : Int) + 1) (by omega) (by omega)]
      cases nearB w i j with
      | false => rfl
      | true => rw [if_pos rfl, if_pos (by omega), if_pos (by omega), if_pos (by omega), if_pos (by omega), wrap_id (by omega) (by omega), l11Abs_ok _ (by omega), Option.bind_some, l1Most_ok, Option.bind_some]; rfl
    · obtain rfl : j = i := by omega
      refine .inl ⟨(none, j + 1), hi, by dsimp only; omega, 1, Evt.all fun k => ?_⟩
      show spec_l23Steepest.l1 (k + 1) _ _ _ w h l = spec_l23Steepest.l0 k (stOut w l (j + 1)) _ w h l
      simp only [spec_l23Steepest.l1]
      rw [if_neg (by omega), wrap_id (by omega) (by omega)]; rfl
theorem steepestSlope_ev {w h : Int} {l : List Int} (q : fieldB w h l = true) : Evt fun k => impl_steepestSlope.f k w h l = some (stOut w l l.length) := by
  obtain ⟨hw, hh, _, hn, hc⟩ := fieldB_len q
  unfold impl_steepestSlope.f
  refine evt_meas (fun k (s : Option (Nat × Nat) × Nat) => match s with | (none, i) => impl_steepestSlope.l0 k (stOut w l i) l (l.length : Int) (i : Int) w h l | (some (j, _), i) => impl_steepestSlope.l1 k (stIn w l i (stOut w l i) j) (i : Int) (l.getD i 0) l (l.length : Int) (i : Int) (l.take i) (i : Int) (j : Int) w h l) _
    (fun s => match s with | (none, i) => i ≤ l.length | (some (j, _), i) => i < l.length ∧ j ≤ i) (fun s => match s with | (none, i) => (65 - i) * 100 + 99 | (some (j, _), i) => (65 - i) * 100 + 98 - j) ?_ (none, 0) (Nat.zero_le _)
  rintro ⟨_ | ⟨j, u⟩, i⟩ hs
  · have hs : i ≤ l.length := hs
    by_cases e : i < l.length
    · refine .inl ⟨(some (0, 0), i), ⟨e, Nat.zero_le _⟩, by dsimp only; omega, 1, Evt.all fun k => ?_⟩
      show impl_steepestSlope.l0 (k + 1) _ l _ _ w h l = _
      simp only [impl_steepestSlope.l0, rd_nat]
      rw [if_pos (by omega), if_pos (by omega), if_pos (by omega), if_pos (by omega), Int.toNat_natCast, List.length_take, Nat.min_eq_left (by omega)]; rfl
    · obtain rfl : i = l.length := by omega
      refine .inr (Evt.succ (Evt.all fun k => ?_))
      show impl_steepestSlope.l0 (k + 1) _ l _ _ w h l = _
      simp only [impl_steepestSlope.l0]
      rw [if_neg (by omega)]
  · obtain ⟨hi, hj⟩ : i < l.length ∧ j ≤ i := hs
    by_cases e : j < i
    · refine .inl ⟨(some (j + 1, 0), i), ⟨hi, e⟩, by dsimp only; omega, 1, Evt.all fun k => ?_⟩
      show impl_steepestSlope.l1 (k + 1) _ _ _ l _ _ _ _ _ w h l = impl_steepestSlope.l1 k (stIn w l i (stOut w l i) (j + 1)) _ _ l _ _ _ _ _ w h l
      have b1 := cell_bd hc i hi
      have b2 := cell_bd hc j (by omega)
      have ht : (l.take i).getD j 0 = l.getD j 0 := by rw [List.getD_eq_getElem?_getD, List.getElem?_take, if_pos e, List.getD_eq_getElem?_getD]
      simp only [impl_steepestSlope.l1, areConnected_ok hw i j (by omega) (by omega), Option.bind_some, rd_nat, stIn, ht]
      rw [if_pos (by omega), if_pos (by omega), if_pos (by rw [List.length_take]; omega), wrap_id (x := (j : Int) + 1) (by omega) (by omega)]
      cases nearB w i j with
      | false => rfl
      | true => rw [if_pos rfl, wrap_id (by omega) (by omega), absOf_ok _ (by omega), Option.bind_some]; rfl
    · obtain rfl : j = i := by omega
      refine .inl ⟨(none, j + 1), hi, by dsimp only; omega, 1, Evt.all fun k => ?_⟩
      show impl_steepestSlope.l1 (k + 1) _ _ _ l _ _ _ _ _ w h l = impl_steepestSlope.l0 k (stOut w l (j + 1)) l _ _ w h l
      simp only [impl_steepestSlope.l1]
      rw [if_neg (by omega), wrap_id (by omega) (by omega)]; rfl
theorem fullB_field {w h : Int} {l : List Int} (q : fullB w h l = true) : fieldB w h l = true := by
  unfold fullB at q
  rw [Bool.and_eq_true] at q
  exact q.1
theorem pair_KeepsSlope (w h : Int) (l : List Int) (s : Int) (hl : l.length ≤ 1048576) : ∃ v : Bool × Bool, (Evt fun k => impl_KeepsSlope.f k w h l s = some v) ∧ (Evt fun k => spec_KeepsSlope.f k w h l s = some v) := by
  have a := isFull_ev w h l hl
  have b := l7Full_ev w h l hl
  cases q : fullB w h l with
  | false =>
    rw [q] at a b
    exact ⟨(false, false), a.mono fun k hk => by simp [impl_KeepsSlope.f, hk], b.mono fun k hk => by simp [spec_KeepsSlope.f, hk]⟩
  | true =>
    rw [q] at a b
    by_cases c : 0 ≤ s ∧ s ≤ 1000
    · refine ⟨(decide (stOut w l l.length ≤ s), true), (a.and (steepestSlope_ev (fullB_field q))).mono fun k hk => ?_, (b.and (l23Steepest_ev (fullB_field q))).mono fun k hk => ?_⟩
      · simp [impl_KeepsSlope.f, hk.1, hk.2, impl_isSlope.f, within_ok, c]
      · simp [spec_KeepsSlope.f, hk.1, hk.2, spec_l23Slope.f, l1In_ok, c]
    · refine ⟨(false, false), a.mono fun k hk => ?_, b.mono fun k hk => ?_⟩
      · simp only [impl_KeepsSlope.f, hk, impl_isSlope.f, within_ok, Option.bind_some, decide_eq_false c]; simp
      · simp only [spec_KeepsSlope.f, hk, spec_l23Slope.f, l1In_ok, Option.bind_some, decide_eq_false c]; simp
theorem FnExactKeepsSlope : FnExactKeepsSlopePure := by
  intro w h l s _ _ hm1 _ _
  have q1 := szField_ok w h l 1048576 (by omega) hm1
  by_cases c1 : (1048576 - (l.length : Int)) < 0
  · exact ⟨0, by unfold laws_FnExactKeepsSlope.f; rw [q1, if_pos c1, Option.bind_some, if_pos (by omega)]⟩
  rw [if_neg c1] at q1
  have hn1 : l.length ≤ 1048576 := by omega
  obtain ⟨⟨g0, g1⟩, hi, hs⟩ := pair_KeepsSlope w h l s hn1
  obtain ⟨K, hK⟩ := (hi.and (hs.and ((toField_ev w h l hn1).and (eqField_ev w h l hn1)))).at
  have e0 := fun j => (hK j).1
  have e1 := fun j => (hK j).2.1
  have e2 := fun j => (hK j).2.2.1
  have e3 := fun j => (hK j).2.2.2
  refine ⟨K + 6, ?_⟩
  simp only [laws_FnExactKeepsSlope.f, q1, if_neg c1, Option.bind_some, e0, e1, e2, e3, if_true]
  simp [laws_FnExactKeepsSlope.j0, e0, e1, e2, e3]
end Go.Proofs.Ytfdjjkkhkojfgaa.XFnExactKeepsSlope.Pure
