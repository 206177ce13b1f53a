/-
  The pure statement of the law FnExactCountTable: what its printed function answers is 'true' for all numbers and lists of its kinds. Conditions: the kinds' own bounds, as the statement lays them.
-/
import Derived.Test.YtfdjjkkhkojfgaaStmFnExactCountTable
import Derived.DataShut
namespace Go.Proofs.Ytfdjjkkhkojfgaa.XFnExactCountTable.Pure
open Go.RowKit Go.Proofs.Ytfdjjkkhkojfgaa.XFnExactCountTable Go.Proofs.YtfdjjkkhkojfgaaW.PrintWords Go.Proofs.YtfdjjkkhkojfgaaW.PrintLast Go.Proofs.YtfdjjkkhkojfgaaW.PrintMore
set_option linter.unusedVariables false
set_option linter.unusedSimpArgs false
theorem wrap_id {x : Int} (h0 : -9223372036854775808 ≤ x) (h1 : x ≤ 9223372036854775807) : wrap64 x = x := by unfold wrap64; omega
theorem rd_nat (xs : List Int) (i : Nat) : rd xs (i : Int) = xs.getD i 0 := by simp [rd]
theorem for_loop {σ ρ : Type} (K n : Nat) (L : Nat → σ → Int → Option ρ) (v : ρ) (Inv : Nat → σ → Prop)
    (step : ∀ k i s, K ≤ k → i < n → Inv i s → (∃ s', Inv (i + 1) s' ∧ L (k + 1) s (i : Int) = L k s' ((i : Int) + 1)) ∨ L (k + 1) s (i : Int) = some v)
    (fin : ∀ k s, K ≤ k → Inv n s → L (k + 1) s (n : Int) = some v) :
    ∀ k s, Inv 0 s → n + K < k → L k s 0 = some v := by
  have key : ∀ d k i s, i + d = n → Inv i s → d + K < k → L k s (i : Int) = some v := by
    intro d
    induction d with
    | zero =>
      intro k i s hi h hk
      obtain ⟨k, rfl⟩ : ∃ m, k = m + 1 := ⟨k - 1, by omega⟩
      obtain rfl : i = n := by omega
      exact fin k s (by omega) h
    | succ d ih =>
      intro k i s hi h hk
      obtain ⟨k, rfl⟩ : ∃ m, k = m + 1 := ⟨k - 1, by omega⟩
      rcases step k i s (by omega) (by omega) h with ⟨s', h', e⟩ | e
      · rw [e]
        have := ih k (i + 1) s' (by omega) h' (by omega)
        rw [show ((i + 1 : Nat) : Int) = (i : Int) + 1 from by omega] at this
        exact this
      · exact e
  intro k s h hk
  exact key n k 0 s (by omega) h hk
theorem getD_drop {α : Type} (xs : List α) (z : α) (i : Nat) (h : i < xs.length) : xs.drop i = xs.getD i z :: xs.drop (i + 1) := by
  rw [List.drop_eq_getElem_cons h, List.getD_eq_getElem?_getD, List.getElem?_eq_getElem h]; rfl
def Evt (P : Nat → Prop) : Prop := ∃ K, ∀ k, K ≤ k → P k
theorem Evt.all {P : Nat → Prop} (h : ∀ k, P k) : Evt P := ⟨0, fun k _ => h k⟩
theorem Evt.from {P : Nat → Prop} (K : Nat) (h : ∀ k, K ≤ k → P k) : Evt P := ⟨K, h⟩
theorem Evt.above {P : Nat → Prop} (K : Nat) (h : ∀ k, K < k → P k) : Evt P := ⟨K + 1, fun k hk => h k hk⟩
theorem Evt.and {P Q : Nat → Prop} (h : Evt P) (g : Evt Q) : Evt fun k => P k ∧ Q k := by
  obtain ⟨K, h⟩ := h
  obtain ⟨M, g⟩ := g
  exact ⟨K + M, fun k hk => ⟨h k (by omega), g k (by omega)⟩⟩
theorem Evt.mono {P Q : Nat → Prop} (h : Evt P) (g : ∀ k, P k → Q k) : Evt Q := by
  obtain ⟨K, h⟩ := h
  exact ⟨K, fun k hk => g k (h k hk)⟩
theorem Evt.succ {Q : Nat → Prop} (h : Evt fun k => Q (k + 1)) : Evt Q := by
  obtain ⟨K, h⟩ := h
  refine ⟨K + 1, fun k hk => ?_⟩
  obtain ⟨m, rfl⟩ : ∃ m, k = m + 1 := ⟨k - 1, by omega⟩
  exact h m (by omega)
theorem Evt.add {Q : Nat → Prop} (c : Nat) (h : Evt fun k => Q (k + c)) : Evt Q := by
  obtain ⟨K, h⟩ := h
  refine ⟨K + c, fun k hk => ?_⟩
  obtain ⟨m, rfl⟩ : ∃ m, k = m + c := ⟨k - c, by omega⟩
  exact h m (by omega)
theorem Evt.at {P : Nat → Prop} (h : Evt P) : ∃ K, ∀ j, P (K + j) := by
  obtain ⟨K, h⟩ := h
  exact ⟨K, fun j => h _ (by omega)⟩
theorem evt_loop {σ ρ : Type} (n : Nat) (L : Nat → σ → Int → Option ρ) (v : ρ) (Inv : Nat → σ → Prop)
    (step : ∀ i s, i < n → Inv i s → (∃ s', Inv (i + 1) s' ∧ ∃ c, Evt fun k => L (k + c) s (i : Int) = L k s' ((i : Int) + 1)) ∨ Evt fun k => L k s (i : Int) = some v)
    (fin : ∀ s, Inv n s → Evt fun k => L k s (n : Int) = some v) :
    ∀ i s, i ≤ n → Inv i s → Evt fun k => L k s (i : Int) = some v := by
  have key : ∀ d i s, i + d = n → Inv i s → Evt fun k => L k s (i : Int) = some v := by
    intro d
    induction d with
    | zero =>
      intro i s hi h
      obtain rfl : i = n := by omega
      exact fin s h
    | succ d ih =>
      intro i s hi h
      rcases step i s (by omega) h with ⟨s', h', c, e⟩ | e
      · have h2 := ih (i + 1) s' (by omega) h'
        rw [show ((i + 1 : Nat) : Int) = (i : Int) + 1 from by omega] at h2
        exact Evt.add c ((e.and h2).mono fun k hk => hk.1.trans hk.2)
      · exact e
  intro i s hi h
  exact key (n - i) i s (by omega) h
theorem evt_loop0 {σ ρ : Type} (n : Nat) (L : Nat → σ → Int → Option ρ) (v : ρ) (Inv : Nat → σ → Prop)
    (step : ∀ i s, i < n → Inv i s → (∃ s', Inv (i + 1) s' ∧ ∃ c, Evt fun k => L (k + c) s (i : Int) = L k s' ((i : Int) + 1)) ∨ Evt fun k => L k s (i : Int) = some v)
    (fin : ∀ s, Inv n s → Evt fun k => L k s (n : Int) = some v) (s : σ) (h0 : Inv 0 s) : Evt fun k => L k s 0 = some v :=
  evt_loop n L v Inv step fin 0 s (Nat.zero_le _) h0
theorem toIntS_ok (l : List Int) (hl : l.length ≤ 1048576) : ∀ k, l.length < k → laws_toIntS.f k l = some l := by
  intro k hk
  unfold laws_toIntS.f
  rw [if_pos (by omega), if_pos (by omega)]
  refine for_loop 0 l.length (fun k s i => laws_toIntS.l0 k l s i) l (fun i s => s.length = l.length ∧ ∀ j, j < i → s[j]? = l[j]?) ?_ ?_ k _ ⟨by simp, fun j hj => by omega⟩ (by omega)
  · rintro k i s _ hi ⟨h1, h2⟩
    refine .inl ⟨s.set i (l.getD i 0), ⟨by simpa using h1, fun j hj => ?_⟩, ?_⟩
    · by_cases e : j = i
      · subst e
        rw [List.getElem?_set_self (by omega), List.getD_eq_getElem?_getD, List.getElem?_eq_getElem hi]; rfl
      · rw [List.getElem?_set_ne (by omega)]; exact h2 j (by omega)
    · show laws_toIntS.l0 (k + 1) l s (i : Int) = _
      simp only [laws_toIntS.l0]
      rw [if_pos (by omega), if_pos (by omega), if_pos (by omega), wrap_id (by omega) (by omega), rd_nat, Int.toNat_natCast]
  · rintro k s _ ⟨h1, h2⟩
    show laws_toIntS.l0 (k + 1) l s (l.length : Int) = _
    simp only [laws_toIntS.l0]
    rw [if_neg (by omega)]
    congr 1
    apply List.ext_getElem?
    intro j
    by_cases hj : j < l.length
    · exact h2 j hj
    · rw [List.getElem?_eq_none (by omega), List.getElem?_eq_none (by omega)]
theorem eqIntS_self (l : List Int) (hl : l.length ≤ 4503599627370496) : ∀ k, l.length < k → laws_eqIntS.f k l l = some true := by
  intro k hk
  unfold laws_eqIntS.f
  rw [if_pos rfl]
  refine for_loop 0 l.length (fun k (_ : Unit) i => laws_eqIntS.l0 k l l i) true (fun _ _ => True) ?_ ?_ k () trivial (by omega)
  · intro k i s _ hi _
    refine .inl ⟨(), trivial, ?_⟩
    show laws_eqIntS.l0 (k + 1) l l (i : Int) = _
    simp only [laws_eqIntS.l0]
    rw [if_pos (by omega), if_pos (by omega), if_pos (by omega), wrap_id (by omega) (by omega)]
    simp
  · intro k s _ _
    show laws_eqIntS.l0 (k + 1) l l (l.length : Int) = _
    simp only [laws_eqIntS.l0]
    rw [if_neg (by omega)]
theorem toIntS_ev (l : List Int) (hl : l.length ≤ 1048576) : Evt fun k => laws_toIntS.f k l = some l := Evt.above _ (toIntS_ok l hl)
theorem eqIntS_ev (l : List Int) (hl : l.length ≤ 4503599627370496) : Evt fun k => laws_eqIntS.f k l l = some true := Evt.above _ (eqIntS_self l hl)
theorem szIntS_ok (l : List Int) (n : Int) (hn : 0 ≤ n ∧ n ≤ 1048576) (hl : l.length ≤ maxLen) : laws_szIntS.f l n = some (if n - (l.length : Int) < 0 then -1 else n - (l.length : Int)) := by
  have hm : maxLen = 9223372036854775807 := by decide
  unfold laws_szIntS.f
  rw [wrap_id (by omega) (by omega)]
  split <;> rfl
theorem szField_ok (w h : Int) (l : List Int) (n : Int) (hn : 0 ≤ n ∧ n ≤ 1048576) (hl : l.length ≤ maxLen) : laws_szField.f w h l n = some (if n - (l.length : Int) < 0 then -1 else n - (l.length : Int)) := by
  unfold laws_szField.f
  rw [szIntS_ok l n hn hl, Option.bind_some]
  by_cases c : n - (l.length : Int) < 0
  · rw [if_pos c, if_pos (by omega)]
  · rw [if_neg c, if_neg c]
theorem toField_ev (w h : Int) (l : List Int) (hl : l.length ≤ 1048576) : Evt fun k => laws_toField.f k w h l = some (w, h, l) := (toIntS_ev l hl).mono fun k hk => by rw [laws_toField.f, hk, Option.bind_some]
theorem eqField_ev (w h : Int) (l : List Int) (hl : l.length ≤ 1048576) : Evt fun k => laws_eqField.f k w h l w h l = some true := (eqIntS_ev l (by omega)).mono fun k hk => by rw [laws_eqField.f, if_pos rfl, if_pos rfl, hk, Option.bind_some, if_pos rfl]
theorem evt_loop_ex {σ ρ : Type} (n : Nat) (L : Nat → σ → Int → Option ρ) (R : ρ → Prop) (Inv : Nat → σ → Prop)
    (step : ∀ i s, i < n → Inv i s → (∃ s', Inv (i + 1) s' ∧ ∃ c, Evt fun k => L (k + c) s (i : Int) = L k s' ((i : Int) + 1)) ∨ ∃ v, R v ∧ Evt fun k => L k s (i : Int) = some v)
    (fin : ∀ s, Inv n s → ∃ v, R v ∧ Evt fun k => L k s (n : Int) = some v) (s : σ) (h0 : Inv 0 s) : ∃ v, R v ∧ Evt fun k => L k s 0 = some v := by
  have key : ∀ d i s, i + d = n → Inv i s → ∃ v, R v ∧ Evt fun k => L k s (i : Int) = some v := by
    intro d
    induction d with
    | zero =>
      intro i s hi h
      obtain rfl : i = n := by omega
      exact fin s h
    | succ d ih =>
      intro i s hi h
      rcases step i s (by omega) h with ⟨s', h', c, e⟩ | e
      · obtain ⟨v, hv, h2⟩ := ih (i + 1) s' (by omega) h'
        rw [show ((i + 1 : Nat) : Int) = (i : Int) + 1 from by omega] at h2
        exact ⟨v, hv, Evt.add c ((e.and h2).mono fun k hk => hk.1.trans hk.2)⟩
      · exact e
  exact key n 0 s (by omega) h0
theorem within_ok (a b c : Int) : impl_within.f a b c = some (decide (b ≤ a ∧ a ≤ c)) := by
  unfold impl_within.f
  split <;> simp <;> omega
theorem l1In_ok (a b c : Int) : spec_l1In.f a b c = some (decide (b ≤ a ∧ a ≤ c)) := by
  unfold spec_l1In.f
  split <;> simp <;> omega
def cellOk (x : Int) : Bool := decide (x = -9999) || decide (-9000 ≤ x ∧ x ≤ 9000)
theorem isCell_ok (x : Int) : impl_isCell.f x = some (cellOk x) := by
  unfold impl_isCell.f cellOk
  by_cases h : x = -9999
  · rw [if_pos h, decide_eq_true h]; rfl
  · rw [if_neg h, within_ok, Option.bind_some, decide_eq_false h, Bool.false_or]
theorem l2Value_ok (x : Int) : spec_l2Value.f x = some (cellOk x) := by
  unfold spec_l2Value.f cellOk
  by_cases h : x = -9999
  · rw [if_pos h, decide_eq_true h]; rfl
  · rw [if_neg h, l1In_ok, Option.bind_some, decide_eq_false h, Bool.false_or]
def fieldB (w h : Int) (l : List Int) : Bool := decide (1 ≤ w ∧ w ≤ 8) && decide (1 ≤ h ∧ h ≤ 8) && decide ((l.length : Int) = w * h) && l.all cellOk
theorem prod8 {w h : Int} (hw : 1 ≤ w ∧ w ≤ 8) (hh : 1 ≤ h ∧ h ≤ 8) : 1 ≤ w * h ∧ w * h ≤ 64 := by
  have a : w * 1 ≤ w * h := Int.mul_le_mul_of_nonneg_left (by omega) (by omega)
  have b : w * h ≤ 8 * h := Int.mul_le_mul_of_nonneg_right (by omega) (by omega)
  omega
theorem fieldB_len {w h : Int} {l : List Int} (q : fieldB w h l = true) : (1 ≤ w ∧ w ≤ 8) ∧ (1 ≤ h ∧ h ≤ 8) ∧ (l.length : Int) = w * h ∧ l.length ≤ 64 ∧ l.all cellOk = true := by
  unfold fieldB at q
  simp only [Bool.and_eq_true, decide_eq_true_eq] at q
  have := prod8 q.1.1.1 q.1.1.2
  exact ⟨q.1.1.1, q.1.1.2, q.1.2, by omega, q.2⟩
theorem IndexFuncI_ev (l : List Int) (hl : l.length ≤ 4503599627370496) : ∃ r, decide (r ≥ (0 : Int)) = !(l.all cellOk) ∧ Evt fun k => slices_IndexFunc_int.f k l = some r := by
  unfold slices_IndexFunc_int.f
  refine evt_loop_ex l.length (fun k (_ : Unit) i => slices_IndexFunc_int.l0 k l (l.length : Int) i) _ (fun i _ => (l.drop i).all cellOk = l.all cellOk) ?_ ?_ () rfl
  · intro i s hi h
    rw [getD_drop l 0 i hi, List.all_cons] at h
    cases hp : cellOk (l.getD i 0) with
    | true =>
      refine .inl ⟨(), by rw [hp, Bool.true_and] at h; exact h, 1, Evt.all fun k => ?_⟩
      show slices_IndexFunc_int.l0 (k + 1) l (l.length : Int) (i : Int) = _
      simp only [slices_IndexFunc_int.l0, rd_nat, impl_IsValidField_1.f, isCell_ok, Option.bind_some, hp]
      rw [if_pos (by omega), if_pos (by omega), if_pos (by omega), if_neg (by simp), wrap_id (by omega) (by omega)]
    | false =>
      refine .inr ⟨(i : Int), by rw [← h, hp]; simp, Evt.succ (Evt.all fun k => ?_)⟩
      show slices_IndexFunc_int.l0 (k + 1) l (l.length : Int) (i : Int) = _
      simp only [slices_IndexFunc_int.l0, rd_nat, impl_IsValidField_1.f, isCell_ok, Option.bind_some, hp]
      rw [if_pos (by omega), if_pos (by omega), if_pos (by omega)]; simp
  · intro s h
    rw [List.drop_of_length_le (Nat.le_refl _)] at h
    refine ⟨-1, by rw [← h]; simp, Evt.succ (Evt.all fun k => ?_)⟩
    show slices_IndexFunc_int.l0 (k + 1) l (l.length : Int) (l.length : Int) = _
    simp only [slices_IndexFunc_int.l0]
    rw [if_neg (by omega)]
theorem IsValidField_ev (w h : Int) (l : List Int) (hl : l.length ≤ 1048576) : Evt fun k => impl_IsValidField.f k w h l = some (fieldB w h l) := by
  obtain ⟨r, hr, ev⟩ := IndexFuncI_ev l (by omega)
  refine ev.mono fun k hk => ?_
  simp only [impl_IsValidField.f, slices_ContainsFunc_int.f, hk, Option.bind_some, hr, Bool.not_not, within_ok]
  unfold fieldB
  by_cases hw : 1 ≤ w ∧ w ≤ 8
  · rw [decide_eq_true hw, if_pos rfl]
    by_cases hh : 1 ≤ h ∧ h ≤ 8
    · have := prod8 hw hh
      rw [decide_eq_true hh, if_pos rfl, wrap_id (by omega) (by omega)]
      by_cases hn : (l.length : Int) = w * h
      · rw [if_pos hn, decide_eq_true hn]; simp
      · rw [if_neg hn, decide_eq_false hn]; simp
    · rw [decide_eq_false hh]; simp
  · rw [decide_eq_false hw]; simp
theorem l2Good_ev (w h : Int) (l : List Int) (hl : l.length ≤ 1048576) : Evt fun k => spec_l2Good.f k w h l = some (fieldB w h l) := by
  have lo : Evt fun k => spec_l2Good.l0 k 0 w h l = some (l.all cellOk) := by
    refine evt_loop0 l.length (fun k (_ : Unit) i => spec_l2Good.l0 k i w h l) (l.all cellOk) (fun i _ => (l.drop i).all cellOk = l.all cellOk) ?_ ?_ () rfl
    · intro i s hi h
      rw [getD_drop l 0 i hi, List.all_cons] at h
      cases hp : cellOk (l.getD i 0) with
      | true =>
        refine .inl ⟨(), by rw [hp, Bool.true_and] at h; exact h, 1, Evt.all fun k => ?_⟩
        show spec_l2Good.l0 (k + 1) (i : Int) _ _ l = _
        simp only [spec_l2Good.l0, rd_nat, l2Value_ok, Option.bind_some, hp]
        rw [if_pos (by omega), if_pos (by omega), if_pos trivial, wrap_id (by omega) (by omega)]
      | false =>
        refine .inr (Evt.succ (Evt.all fun k => ?_))
        show spec_l2Good.l0 (k + 1) (i : Int) _ _ l = _
        simp only [spec_l2Good.l0, rd_nat, l2Value_ok, Option.bind_some, hp]
        rw [if_pos (by omega), if_pos (by omega), ← h, hp]; simp
    · intro s h
      rw [List.drop_of_length_le (Nat.le_refl _)] at h
      refine Evt.succ (Evt.all fun k => ?_)
      show spec_l2Good.l0 (k + 1) (l.length : Int) _ _ l = _
      simp only [spec_l2Good.l0]
      rw [if_neg (by omega), ← h]; rfl
  refine Evt.succ (lo.mono fun k hk => ?_)
  simp only [spec_l2Good.f, spec_l2Shape.f, l1In_ok, Option.bind_some, spec_l2Good.j0, hk]
  unfold fieldB
  by_cases hw : 1 ≤ w ∧ w ≤ 8
  · rw [decide_eq_true hw, if_pos rfl, Option.bind_some]
    by_cases hh : 1 ≤ h ∧ h ≤ 8
    · have := prod8 hw hh
      rw [decide_eq_true hh, if_pos rfl, wrap_id (by omega) (by omega)]
      by_cases hn : (l.length : Int) = w * h
      · rw [decide_eq_true hn, hn]; simp
      · rw [decide_eq_false hn, if_pos (by simpa using hn)]; simp
    · rw [decide_eq_false hh]; simp
  · rw [decide_eq_false hw]; simp
def sameB (w h : Int) (l : List Int) (w' h' : Int) (l' : List Int) : Bool := fieldB w h l && fieldB w' h' l' && decide (w = w') && decide (h = h')
theorem areAlike_ev (w h : Int) (l : List Int) (w' h' : Int) (l' : List Int) (hl : l.length ≤ 1048576) (hl' : l'.length ≤ 1048576) : Evt fun k => impl_areAlike.f k [⟨w, h, l⟩, ⟨w', h', l'⟩] = some (sameB w h l w' h' l') := by
  refine Evt.add 3 (((IsValidField_ev w h l hl).and (IsValidField_ev w' h' l' hl')).at.elim fun K hK => Evt.from K fun k hk => ?_)
  obtain ⟨j, rfl⟩ : ∃ j, k = K + j := ⟨k - K, by omega⟩
  have a1 := fun m => (hK m).1
  have a2 := fun m => (hK m).2
  have r0 : rd_T28 [(⟨w, h, l⟩ : S28), ⟨w', h', l'⟩] 0 = ⟨w, h, l⟩ := rfl
  have r1 : rd_T28 [(⟨w, h, l⟩ : S28), ⟨w', h', l'⟩] 1 = ⟨w', h', l'⟩ := rfl
  have w1 : wrap64 (0 + 1) = 1 := by unfold wrap64; omega
  have w2 : wrap64 (1 + 1) = 2 := by unfold wrap64; omega
  unfold impl_areAlike.f sameB
  show impl_areAlike.l0 ((K + (j + 2)) + 1) _ _ (2 : Int) 0 = _
  rw [impl_areAlike.l0]
  simp only [r0, a1, Option.bind_some, impl_sameShape.f, if_true, w1, beq_self_eq_true]
  cases fieldB w h l with
  | false => simp
  | true =>
    show _ = some (true && fieldB w' h' l' && decide (w = w') && decide (h = h'))
    rw [if_pos (by omega), if_pos (by omega), if_pos (by simp), if_pos rfl, if_pos (by simp)]
    show impl_areAlike.l0 ((K + (j + 1)) + 1) _ _ (2 : Int) 1 = _
    rw [impl_areAlike.l0]
    simp only [r1, r0, a2, Option.bind_some, impl_sameShape.f, if_true, w2]
    rw [if_pos (by omega), if_pos (by omega), if_pos (by simp)]
    cases fieldB w' h' l' with
    | false => simp
    | true =>
      rw [if_pos rfl, if_pos (by simp)]
      by_cases e : w = w'
      · subst e
        rw [if_pos rfl, Option.bind_some]
        by_cases e2 : h = h'
        · subst e2
          rw [beq_self_eq_true, if_pos rfl]
          show impl_areAlike.l0 ((K + j) + 1) _ _ (2 : Int) 2 = _
          rw [impl_areAlike.l0, if_neg (by omega)]; simp
        · rw [beq_eq_false_iff_ne.2 (Ne.symm e2)]; simp [e2]
      · rw [if_neg (Ne.symm e)]; simp [e]
theorem l2Same_ev (w h : Int) (l : List Int) (w' h' : Int) (l' : List Int) (hl : l.length ≤ 1048576) (hl' : l'.length ≤ 1048576) : Evt fun k => spec_l2Same.f k w h l w' h' l' = some (sameB w h l w' h' l') := by
  refine ((l2Good_ev w h l hl).and (l2Good_ev w' h' l' hl')).mono ?_
  rintro k ⟨h1, h2⟩
  simp only [spec_l2Same.f, h1, h2, Option.bind_some]
  unfold sameB
  cases fieldB w h l with
  | false => simp
  | true =>
    cases fieldB w' h' l' with
    | false => simp
    | true =>
      by_cases e : w = w'
      · by_cases e2 : h = h' <;> simp [e, e2]
      · simp [e]
def ctS (lim x y : Int) (s : Int × Int × Int × Int) : Int × Int × Int × Int :=
  if x = -9999 ∨ y = -9999 then s else if x > lim ∧ y > lim then (s.1 + 1, s.2.1, s.2.2.1, s.2.2.2) else if y > lim then (s.1, s.2.1 + 1, s.2.2.1, s.2.2.2) else if x > lim then (s.1, s.2.1, s.2.2.1 + 1, s.2.2.2) else (s.1, s.2.1, s.2.2.1, s.2.2.2 + 1)
def ctTo (a b : List Int) (lim : Int) : Nat → Int × Int × Int × Int
  | 0 => (0, 0, 0, 0)
  | n + 1 => ctS lim (a.getD n 0) (b.getD n 0) (ctTo a b lim n)
def ctI (n : Nat) (s : Int × Int × Int × Int) : Prop := (0 ≤ s.1 ∧ s.1 ≤ n) ∧ (0 ≤ s.2.1 ∧ s.2.1 ≤ n) ∧ (0 ≤ s.2.2.1 ∧ s.2.2.1 ≤ n) ∧ (0 ≤ s.2.2.2 ∧ s.2.2.2 ≤ n)
theorem ctTo_I (a b : List Int) (lim : Int) : ∀ n, ctI n (ctTo a b lim n)
  | 0 => by simp [ctI, ctTo]
  | n + 1 => by
    have h := ctTo_I a b lim n
    unfold ctI at h ⊢
    simp only [ctTo, ctS]
    split
    · omega
    · split
      · dsimp only; omega
      · split
        · dsimp only; omega
        · split <;> dsimp only <;> omega
theorem wr1 {s i : Int} (h : 0 ≤ s ∧ s ≤ i) (hi : i ≤ 64) : wrap64 (s + 1) = s + 1 := wrap_id (by omega) (by omega)
theorem countImpl_loop (a b : List Int) (lim w' h' : Int) (n : Nat) (hn : n ≤ 64) (ha : a.length = n) (hb : b.length = n) : Evt fun k => impl_countTable.l0 k lim lim a (a.length : Int) 0 w' h' b 0 0 0 0 = some (ctTo a b lim n) := by
  refine evt_loop0 n (fun k (s : Int × Int × Int × Int) i => impl_countTable.l0 k lim lim a (a.length : Int) i w' h' b s.1 s.2.1 s.2.2.1 s.2.2.2) (ctTo a b lim n) (fun i s => s = ctTo a b lim i) ?_ ?_ (0, 0, 0, 0) rfl
  · rintro i s hi rfl
    have i64 : (i : Int) ≤ 64 := by omega
    have wi : wrap64 ((i : Int) + 1) = (i : Int) + 1 := wrap_id (by omega) (by omega)
    have g1 : (i : Int) < (a.length : Int) := by omega
    have g2 : 0 ≤ (i : Int) := by omega
    have g3 : (i : Int) < (b.length : Int) := by omega
    have hI := ctTo_I a b lim i
    unfold ctI at hI
    obtain ⟨s, hs⟩ : ∃ s, s = ctTo a b lim i := ⟨_, rfl⟩
    rw [← hs] at hI
    obtain ⟨s1, s2, s3, s4⟩ := s
    dsimp only at hI
    obtain ⟨hI1, hI2, hI3, hI4⟩ := hI
    have HS_ := Aside0.mk hs
    clear hs
    obtain ⟨x, hx⟩ : ∃ x, x = a.getD i 0 := ⟨_, rfl⟩
    obtain ⟨y, hy⟩ : ∃ y, y = b.getD i 0 := ⟨_, rfl⟩
    have w1 : wrap64 (s1 + 1) = s1 + 1 := wr1 hI1 i64
    have w2 : wrap64 (s2 + 1) = s2 + 1 := wr1 hI2 i64
    have w3 : wrap64 (s3 + 1) = s3 + 1 := wr1 hI3 i64
    have w4 : wrap64 (s4 + 1) = s4 + 1 := wr1 hI4 i64
    have hs := HS_.out
    refine .inl ⟨ctTo a b lim (i + 1), rfl, if x = -9999 ∨ y = -9999 then 2 else 3, Evt.all fun k => ?_⟩
    simp only [ctTo, ← hs, ← hx, ← hy, ctS]
    by_cases c : x = -9999 ∨ y = -9999
    · rw [if_pos c, if_pos c]
      show impl_countTable.l0 (k + 1 + 1) _ _ _ _ _ _ _ _ _ _ _ _ = _
      rw [impl_countTable.l0]
      simp only [rd_nat, ← hx, ← hy, if_pos g1, if_pos g2, if_pos g3]
      by_cases c1 : x = -9999
      · rw [if_pos c1, impl_countTable.j1, if_pos rfl, wi]
      · have c2 : y = -9999 := c.resolve_left c1
        rw [if_neg c1, c2, beq_self_eq_true, impl_countTable.j1, if_pos rfl, wi]
    · rw [if_neg c, if_neg c]
      have c1 : ¬ x = -9999 := fun h => c (.inl h)
      have c2 : ¬ y = -9999 := fun h => c (.inr h)
      show impl_countTable.l0 (k + 2 + 1) _ _ _ _ _ _ _ _ _ _ _ _ = _
      rw [impl_countTable.l0]
      simp only [rd_nat, ← hx, ← hy, if_pos g1, if_pos g2, if_pos g3]
      rw [if_neg c1, beq_eq_false_iff_ne.2 c2]
      show impl_countTable.j1 (k + 1 + 1) _ _ _ _ _ _ _ _ _ _ _ _ _ _ _ = _
      rw [impl_countTable.j1, if_neg (by simp)]
      by_cases c3 : x > lim <;> by_cases c4 : y > lim <;> simp [c3, c4, impl_countTable.j2, wi, w1, w2, w3, w4]
  · rintro s rfl
    refine Evt.succ (Evt.all fun k => ?_)
    show impl_countTable.l0 (k + 1) _ _ _ _ (n : Int) _ _ _ _ _ _ _ = _
    rw [impl_countTable.l0, if_neg (by omega)]
theorem countSpec_loop (a b : List Int) (lim w h w' h' : Int) (n : Nat) (hn : n ≤ 64) (ha : a.length = n) (hb : b.length = n) : Evt fun k => spec_l20Count.l0 k lim lim 0 w h a w' h' b 0 0 0 0 = some (ctTo a b lim n) := by
  refine evt_loop0 n (fun k (s : Int × Int × Int × Int) i => spec_l20Count.l0 k lim lim i w h a w' h' b s.1 s.2.1 s.2.2.1 s.2.2.2) (ctTo a b lim n) (fun i s => s = ctTo a b lim i) ?_ ?_ (0, 0, 0, 0) rfl
  · rintro i s hi rfl
    have i64 : (i : Int) ≤ 64 := by omega
    have wi : wrap64 ((i : Int) + 1) = (i : Int) + 1 := wrap_id (by omega) (by omega)
    have g1 : (i : Int) < (a.length : Int) := by omega
    have g2 : 0 ≤ (i : Int) := by omega
    have g3 : (i : Int) < (b.length : Int) := by omega
    have hI := ctTo_I a b lim i
    unfold ctI at hI
    obtain ⟨s, hs⟩ : ∃ s, s = ctTo a b lim i := ⟨_, rfl⟩
    rw [← hs] at hI
    obtain ⟨s1, s2, s3, s4⟩ := s
    dsimp only at hI
    obtain ⟨hI1, hI2, hI3, hI4⟩ := hI
    have HS_ := Aside0.mk hs
    clear hs
    obtain ⟨x, hx⟩ : ∃ x, x = a.getD i 0 := ⟨_, rfl⟩
    obtain ⟨y, hy⟩ : ∃ y, y = b.getD i 0 := ⟨_, rfl⟩
    have w1 : wrap64 (s1 + 1) = s1 + 1 := wr1 hI1 i64
    have w2 : wrap64 (s2 + 1) = s2 + 1 := wr1 hI2 i64
    have w3 : wrap64 (s3 + 1) = s3 + 1 := wr1 hI3 i64
    have w4 : wrap64 (s4 + 1) = s4 + 1 := wr1 hI4 i64
    have hs := HS_.out
    refine .inl ⟨ctTo a b lim (i + 1), rfl, if x = -9999 ∨ y = -9999 then 2 else 3, Evt.all fun k => ?_⟩
    simp only [ctTo, ← hs, ← hx, ← hy, ctS]
    by_cases c : x = -9999 ∨ y = -9999
    · rw [if_pos c, if_pos c]
      show spec_l20Count.l0 (k + 1 + 1) _ _ _ _ _ _ _ _ _ _ _ _ _ = _
      rw [spec_l20Count.l0]
      simp only [rd_nat, ← hx, ← hy, if_pos g1, if_pos g2, if_pos g3]
      by_cases c1 : x = -9999
      · rw [if_pos c1, spec_l20Count.j1, if_pos rfl, wi]
      · have c2 : y = -9999 := c.resolve_left c1
        rw [if_neg c1, c2, beq_self_eq_true, spec_l20Count.j1, if_pos rfl, wi]
    · rw [if_neg c, if_neg c]
      have c1 : ¬ x = -9999 := fun h => c (.inl h)
      have c2 : ¬ y = -9999 := fun h => c (.inr h)
      show spec_l20Count.l0 (k + 2 + 1) _ _ _ _ _ _ _ _ _ _ _ _ _ = _
      rw [spec_l20Count.l0]
      simp only [rd_nat, ← hx, ← hy, if_pos g1, if_pos g2, if_pos g3]
      rw [if_neg c1, beq_eq_false_iff_ne.2 c2]
      show spec_l20Count.j1 (k + 1 + 1) _ _ _ _ _ _ _ _ _ _ _ _ _ _ _ _ = _
      rw [spec_l20Count.j1, if_neg (by simp)]
      by_cases c3 : x > lim <;> by_cases c4 : y > lim <;> simp [c3, c4, spec_l20Count.j2, wi, w1, w2, w3, w4]
  · rintro s rfl
    refine Evt.succ (Evt.all fun k => ?_)
    show spec_l20Count.l0 (k + 1) _ _ (n : Int) _ _ _ _ _ _ _ _ _ _ = _
    rw [spec_l20Count.l0, if_neg (by omega)]
theorem pair_CountTable (w h : Int) (l : List Int) (w' h' : Int) (l' : List Int) (lim : Int) (hl : l.length ≤ 1048576) (hl' : l'.length ≤ 1048576) :
    ∃ v : Int × Int × Int × Int × Bool, (Evt fun k => impl_CountTable.f k w h l w' h' l' lim = some v) ∧ (Evt fun k => spec_CountTable.f k w h l w' h' l' lim = some v) := by
  have s1 := areAlike_ev w h l w' h' l' hl hl'
  have s2 := l2Same_ev w h l w' h' l' hl hl'
  cases hb : sameB w h l w' h' l' with
  | false =>
    rw [hb] at s1 s2
    refine ⟨(0, 0, 0, 0, false), s1.mono fun k hk => ?_, s2.mono fun k hk => ?_⟩
    · simp [impl_CountTable.f, hk]
    · simp [spec_CountTable.f, hk]
  | true =>
    rw [hb] at s1 s2
    have hb' := hb
    unfold sameB at hb'
    simp only [Bool.and_eq_true, decide_eq_true_eq] at hb'
    obtain ⟨⟨⟨f1, f2⟩, e1⟩, e2⟩ := hb'
    obtain ⟨_, _, n1, m1, _⟩ := fieldB_len f1
    obtain ⟨_, _, n2, m2, _⟩ := fieldB_len f2
    have hn : l'.length = l.length := by rw [e1, e2] at n1; omega
    have i1 := countImpl_loop l l' lim w' h' l.length m1 rfl hn
    have i2 := countSpec_loop l l' lim w h w' h' l.length m1 rfl hn
    obtain ⟨t, ht⟩ : ∃ t, t = ctTo l l' lim l.length := ⟨_, rfl⟩
    rw [← ht] at i1 i2
    refine ⟨(t.1, t.2.1, t.2.2.1, t.2.2.2, true), (s1.and i1).mono ?_, (s2.and i2).mono ?_⟩
    · rintro k ⟨h1, h2⟩; simp only [impl_CountTable.f, impl_countTable.f, h1, h2, Option.bind_some, if_true]
    · rintro k ⟨h1, h2⟩; simp only [spec_CountTable.f, spec_l20Count.f, h1, h2, Option.bind_some, if_true]
theorem FnExactCountTable : FnExactCountTablePure := by
  intro w h l w' h' l' lim _ _ hm1 _ _ _ hm2 _ _
  have q1 := szField_ok w h l 1048576 (by omega) hm1
  by_cases c1 : (1048576 - (l.length : Int)) < 0
  · exact ⟨0, by unfold laws_FnExactCountTable.f; rw [q1, if_pos c1, Option.bind_some, if_pos (by omega)]⟩
  rw [if_neg c1] at q1
  have q2 := szField_ok w' h' l' (1048576 - (l.length : Int)) (by omega) hm2
  by_cases c2 : (1048576 - (l.length : Int)) - (l'.length : Int) < 0
  · exact ⟨0, by unfold laws_FnExactCountTable.f; rw [q1, Option.bind_some, if_neg c1, q2, if_pos c2, Option.bind_some, if_pos (by omega)]⟩
  rw [if_neg c2] at q2
  have hn1 : l.length ≤ 1048576 := by omega
  have hn2 : l'.length ≤ 1048576 := by omega
  obtain ⟨⟨g0, g1, g2, g3, g4⟩, hi, hs⟩ := pair_CountTable w h l w' h' l' lim hn1 hn2
  obtain ⟨K, hK⟩ := ((hi).and ((hs).and ((toField_ev w h l hn1).and ((toField_ev w' h' l' hn2).and ((eqField_ev w h l hn1).and (eqField_ev w' h' l' hn2)))))).at
  have e0 := fun j => (hK j).1
  have e1 := fun j => (hK j).2.1
  have e2 := fun j => (hK j).2.2.1
  have e3 := fun j => (hK j).2.2.2.1
  have e4 := fun j => (hK j).2.2.2.2.1
  have e5 := fun j => (hK j).2.2.2.2.2
  refine ⟨K + 6, ?_⟩
  simp only [laws_FnExactCountTable.f, q1, if_neg c1, q2, if_neg c2, Option.bind_some, e0, e1, e2, e3, if_true, laws_eqTable.f]
  simp [laws_FnExactCountTable.j0, e2, e3, e4, e5]
end Go.Proofs.Ytfdjjkkhkojfgaa.XFnExactCountTable.Pure
