/-
  The pure statement of the law FnExactBestTenths: what its printed function answers is 'true' for all numbers and lists of its kinds. Conditions: the kinds' own bounds, as the statement lays them.
-/
import Derived.Test.YtkiihcgngdepaaaStmFnExactBestTenths
import Derived.DataShut
namespace Go.Proofs.Ytkiihcgngdepaaa.XFnExactBestTenths.Pure
open Go.RowKit Go.Proofs.Ytkiihcgngdepaaa.XFnExactBestTenths Go.Proofs.YtkiihcgngdepaaaW.PrintWords Go.Proofs.YtkiihcgngdepaaaW.PrintLast Go.Proofs.YtkiihcgngdepaaaW.PrintMore
set_option linter.unusedVariables false
set_option linter.unusedSimpArgs false
theorem wrap_id {x : Int} (h0 : -9223372036854775808 ≤ x) (h1 : x ≤ 9223372036854775807) : wrap64 x = x := by unfold wrap64; omega
theorem wf64 {x : Int} (h : (Lit.int .i64 x).wf = true) : -9223372036854775808 ≤ x ∧ x ≤ 9223372036854775807 := by
  simpa [Lit.wf, IntKind.min, IntKind.max, IntKind.signed, IntKind.bits] using h
theorem rd_nat (xs : List Int) (i : Nat) : rd xs (i : Int) = xs.getD i 0 := by simp [rd]
theorem getD_drop {α : Type} (xs : List α) (z : α) (i : Nat) (h : i < xs.length) : xs.drop i = xs.getD i z :: xs.drop (i + 1) := by
  rw [List.drop_eq_getElem_cons h, List.getD_eq_getElem?_getD, List.getElem?_eq_getElem h]; rfl
def Evt (P : Nat → Prop) : Prop := ∃ K, ∀ k, K ≤ k → P k
theorem Evt.all {P : Nat → Prop} (h : ∀ k, P k) : Evt P := ⟨0, fun k _ => h k⟩
theorem Evt.and {P Q : Nat → Prop} (h : Evt P) (g : Evt Q) : Evt fun k => P k ∧ Q k := by
  obtain ⟨K, h⟩ := h
  obtain ⟨M, g⟩ := g
  exact ⟨K + M, fun k hk => ⟨h k (by omega), g k (by omega)⟩⟩
theorem Evt.mono {P Q : Nat → Prop} (h : Evt P) (g : ∀ k, P k → Q k) : Evt Q := by
  obtain ⟨K, h⟩ := h
  exact ⟨K, fun k hk => g k (h k hk)⟩
theorem Evt.succ {Q : Nat → Prop} (h : Evt fun k => Q (k + 1)) : Evt Q := by
  obtain ⟨K, h⟩ := h
  refine ⟨K + 1, fun k hk => ?_⟩
  obtain ⟨m, rfl⟩ : ∃ m, k = m + 1 := ⟨k - 1, by omega⟩
  exact h m (by omega)
theorem Evt.add {Q : Nat → Prop} (c : Nat) (h : Evt fun k => Q (k + c)) : Evt Q := by
  obtain ⟨K, h⟩ := h
  refine ⟨K + c, fun k hk => ?_⟩
  obtain ⟨m, rfl⟩ : ∃ m, k = m + c := ⟨k - c, by omega⟩
  exact h m (by omega)
theorem Evt.shift {Q : Nat → Prop} (h : Evt Q) : Evt fun k => Q (k + 1) := by
  obtain ⟨K, h⟩ := h
  exact ⟨K, fun k hk => h _ (by omega)⟩
theorem Evt.at {P : Nat → Prop} (h : Evt P) : ∃ K, ∀ j, P (K + j) := by
  obtain ⟨K, h⟩ := h
  exact ⟨K, fun j => h _ (by omega)⟩
theorem evt_loop {σ ρ : Type} (n : Nat) (L : Nat → σ → Int → Option ρ) (v : ρ) (Inv : Nat → σ → Prop)
    (step : ∀ i s, i < n → Inv i s → (∃ s', Inv (i + 1) s' ∧ ∃ c, Evt fun k => L (k + c) s (i : Int) = L k s' ((i : Int) + 1)) ∨ Evt fun k => L k s (i : Int) = some v)
    (fin : ∀ s, Inv n s → Evt fun k => L k s (n : Int) = some v) :
    ∀ i s, i ≤ n → Inv i s → Evt fun k => L k s (i : Int) = some v := by
  have key : ∀ d i s, i + d = n → Inv i s → Evt fun k => L k s (i : Int) = some v := by
    intro d
    induction d with
    | zero =>
      intro i s hi h
      obtain rfl : i = n := by omega
      exact fin s h
    | succ d ih =>
      intro i s hi h
      rcases step i s (by omega) h with ⟨s', h', c, e⟩ | e
      · have h2 := ih (i + 1) s' (by omega) h'
        rw [show ((i + 1 : Nat) : Int) = (i : Int) + 1 from by omega] at h2
        exact Evt.add c ((e.and h2).mono fun k hk => hk.1.trans hk.2)
      · exact e
  intro i s hi h
  exact key (n - i) i s (by omega) h
theorem evt_loop0 {σ ρ : Type} (n : Nat) (L : Nat → σ → Int → Option ρ) (v : ρ) (Inv : Nat → σ → Prop)
    (step : ∀ i s, i < n → Inv i s → (∃ s', Inv (i + 1) s' ∧ ∃ c, Evt fun k => L (k + c) s (i : Int) = L k s' ((i : Int) + 1)) ∨ Evt fun k => L k s (i : Int) = some v)
    (fin : ∀ s, Inv n s → Evt fun k => L k s (n : Int) = some v) (s : σ) (h0 : Inv 0 s) : Evt fun k => L k s 0 = some v :=
  evt_loop n L v Inv step fin 0 s (Nat.zero_le _) h0
theorem getD_lt {α : Type} (xs : List α) (z : α) (i : Nat) (h : i < xs.length) : xs.getD i z = xs[i] := by
  rw [List.getD_eq_getElem?_getD, List.getElem?_eq_getElem h]; rfl
theorem getD_set_self {α : Type} (xs : List α) (z v : α) (i : Nat) (h : i < xs.length) : (xs.set i v).getD i z = v := by
  rw [List.getD_eq_getElem?_getD, List.getElem?_set_self h]; rfl
theorem getD_set_ne {α : Type} (xs : List α) (z v : α) (i j : Nat) (h : i ≠ j) : (xs.set i v).getD j z = xs.getD j z := by
  rw [List.getD_eq_getElem?_getD, List.getElem?_set_ne h, List.getD_eq_getElem?_getD]
theorem getD_map {α β : Type} (f : α → β) (xs : List α) (z : α) (y : β) (i : Nat) (h : i < xs.length) : (xs.map f).getD i y = f (xs.getD i z) := by
  rw [getD_lt _ _ _ (by simpa using h), getD_lt _ _ _ h, List.getElem_map]
theorem list_ext_getD {α : Type} (xs ys : List α) (z : α) (h : xs.length = ys.length) (e : ∀ j, j < xs.length → xs.getD j z = ys.getD j z) : xs = ys := by
  apply List.ext_getElem h
  intro j h1 h2
  have := e j h1
  rwa [getD_lt _ _ _ h1, getD_lt _ _ _ h2] at this
def c_Chance (x : S63) : S61 := ⟨x.f0, x.f1⟩
theorem toChanceS_ev (l : List S63) (hl : l.length ≤ 1048576) : Evt fun k => laws_toChanceS.f k l = some (l.map c_Chance) := by
  unfold laws_toChanceS.f
  simp only [if_pos (show 0 ≤ (l.length : Int) by omega), if_pos (show ((l.length : Int) : Int).toNat ≤ 17592186044416 by omega)]
  refine evt_loop0 l.length (fun k s i => laws_toChanceS.l0 k l s i) (l.map c_Chance) (fun i s => s.length = l.length ∧ ∀ j, j < i → s.getD j z61 = (l.map c_Chance).getD j z61) ?_ ?_ _ ⟨by simp, fun j hj => by omega⟩
  · rintro i s hi ⟨h1, h2⟩
    refine .inl ⟨s.set i ((l.map c_Chance).getD i z61), ⟨by simpa using h1, fun j hj => ?_⟩, 1, Evt.all fun k => ?_⟩
    · by_cases e : j = i
      · subst e; rw [getD_set_self _ _ _ _ (by omega)]
      · rw [getD_set_ne _ _ _ _ _ (by omega)]; exact h2 j (by omega)
    · show laws_toChanceS.l0 (k + 1) l s (i : Int) = _
      simp only [laws_toChanceS.l0, laws_toChance.f, Option.bind_some]
      rw [if_pos (by omega), if_pos (by omega), if_pos (by omega), wrap_id (by omega) (by omega), Int.toNat_natCast, getD_map _ _ z63 _ _ hi]
      rfl
  · rintro s ⟨h1, h2⟩
    refine Evt.succ (Evt.all fun k => ?_)
    show laws_toChanceS.l0 (k + 1) l s (l.length : Int) = _
    simp only [laws_toChanceS.l0]
    rw [if_neg (by omega)]
    exact congrArg some (list_ext_getD _ _ z61 (by simpa using h1) (fun j hj => h2 j (by omega)))
theorem eqChanceS_self (l : List S61) (hl : l.length ≤ 4503599627370496) : Evt fun k => laws_eqChanceS.f k l l = some true := by
  unfold laws_eqChanceS.f
  simp only [if_true]
  refine evt_loop0 l.length (fun k (_ : Unit) i => laws_eqChanceS.l0 k l l i) true (fun _ _ => True) ?_ ?_ () trivial
  · intro i s hi _
    refine .inl ⟨(), trivial, 1, Evt.all fun k => ?_⟩
    show laws_eqChanceS.l0 (k + 1) l l (i : Int) = _
    simp only [laws_eqChanceS.l0, laws_eqChance.f]
    rw [if_pos (by omega), if_pos (by omega), if_pos (by omega), wrap_id (by omega) (by omega)]
    simp
  · intro s _
    refine Evt.succ (Evt.all fun k => ?_)
    show laws_eqChanceS.l0 (k + 1) l l (l.length : Int) = _
    simp only [laws_eqChanceS.l0]
    rw [if_neg (by omega)]
theorem szChanceS_ok (l : List S63) (a : Int) (ha : 0 ≤ a ∧ a ≤ 1048576) (hl : l.length ≤ maxLen) : laws_szChanceS.f l a = some (if a - (l.length : Int) < 0 then -1 else a - (l.length : Int)) := by
  unfold maxLen at hl
  unfold laws_szChanceS.f
  rw [wrap_id (by omega) (by omega)]
  split <;> rfl
theorem within_ok (a b c : Int) : impl_within.f a b c = some (decide (b ≤ a ∧ a ≤ c)) := by
  unfold impl_within.f
  split <;> simp <;> omega
theorem l1In_ok (a b c : Int) : spec_l1In.f a b c = some (decide (b ≤ a ∧ a ≤ c)) := by
  unfold spec_l1In.f
  split <;> simp <;> omega
theorem evt_loop_ex {σ ρ : Type} (n : Nat) (L : Nat → σ → Int → Option ρ) (R : ρ → Prop) (Inv : Nat → σ → Prop)
    (step : ∀ i s, i < n → Inv i s → (∃ s', Inv (i + 1) s' ∧ ∃ c, Evt fun k => L (k + c) s (i : Int) = L k s' ((i : Int) + 1)) ∨ ∃ v, R v ∧ Evt fun k => L k s (i : Int) = some v)
    (fin : ∀ s, Inv n s → ∃ v, R v ∧ Evt fun k => L k s (n : Int) = some v) (s : σ) (h0 : Inv 0 s) : ∃ v, R v ∧ Evt fun k => L k s 0 = some v := by
  have key : ∀ d i s, i + d = n → Inv i s → ∃ v, R v ∧ Evt fun k => L k s (i : Int) = some v := by
    intro d
    induction d with
    | zero =>
      intro i s hi h
      obtain rfl : i = n := by omega
      exact fin s h
    | succ d ih =>
      intro i s hi h
      rcases step i s (by omega) h with ⟨s', h', c, e⟩ | e
      · obtain ⟨v, hv, h2⟩ := ih (i + 1) s' (by omega) h'
        rw [show ((i + 1 : Nat) : Int) = (i : Int) + 1 from by omega] at h2
        exact ⟨v, hv, Evt.add c ((e.and h2).mono fun k hk => hk.1.trans hk.2)⟩
      · exact e
  exact key n 0 s (by omega) h0
theorem evt_fold {α σ ρ : Type} (xs : List α) (z : α) (g : σ → α → σ) (out : σ → ρ) (I : Nat → σ → Prop) (L : Nat → σ → Int → Option ρ)
    (step : ∀ k i s, i < xs.length → I i s → I (i + 1) (g s (xs.getD i z)) ∧ L (k + 1) s (i : Int) = L k (g s (xs.getD i z)) ((i : Int) + 1))
    (fin : ∀ k s, I xs.length s → L (k + 1) s (xs.length : Int) = some (out s)) (s : σ) (h0 : I 0 s) : (Evt fun k => L k s 0 = some (out (xs.foldl g s))) ∧ I xs.length (xs.foldl g s) := by
  have key : ∀ d i s, i + d = xs.length → I i s → (Evt fun k => L k s (i : Int) = some (out ((xs.drop i).foldl g s))) ∧ I xs.length ((xs.drop i).foldl g s) := by
    intro d
    induction d with
    | zero =>
      intro i s hi h
      obtain rfl : i = xs.length := by omega
      rw [List.drop_of_length_le (Nat.le_refl _)]
      exact ⟨Evt.succ (Evt.all fun k => fin k s h), h⟩
    | succ d ih =>
      intro i s hi h
      have hlt : i < xs.length := by omega
      rw [getD_drop xs z i hlt, List.foldl_cons]
      have h1 := fun k => step k i s hlt h
      obtain ⟨h2, h3⟩ := ih (i + 1) _ (by omega) (h1 0).1
      rw [show ((i + 1 : Nat) : Int) = (i : Int) + 1 from by omega] at h2
      exact ⟨Evt.succ (h2.mono fun k hk => (h1 k).2.trans hk), h3⟩
  exact key xs.length 0 s (by omega) h0
def chOk (c : S61) : Bool := decide (0 ≤ c.f0 ∧ c.f0 ≤ 10)
def chancesB (l : List S61) : Bool := l.all chOk && decide (l.length ≤ 40)
theorem chancesB_len {l : List S61} (h : chancesB l = true) : l.length ≤ 40 := by
  unfold chancesB at h
  simp only [Bool.and_eq_true, decide_eq_true_eq] at h
  exact h.2
theorem rd_ch (l : List S61) (i : Nat) : rd_T61 l (i : Int) = l.getD i z61 := by unfold rd_T61; rw [Int.toNat_natCast]
theorem IndexFunc_ev (l : List S61) (hl : l.length ≤ 4503599627370496) : ∃ r, decide (r ≥ (0 : Int)) = !(l.all chOk) ∧ Evt fun k => slices_IndexFunc_Chance.f k l = some r := by
  unfold slices_IndexFunc_Chance.f
  refine evt_loop_ex l.length (fun k (_ : Unit) i => slices_IndexFunc_Chance.l0 k l (l.length : Int) i) _ (fun i _ => (l.drop i).all chOk = l.all chOk) ?_ ?_ () rfl
  · intro i s hi h
    rw [getD_drop l z61 i hi, List.all_cons] at h
    by_cases hp : 0 ≤ (l.getD i z61).f0 ∧ (l.getD i z61).f0 ≤ 10
    · refine .inl ⟨(), by rw [← h, chOk, decide_eq_true hp, Bool.true_and], 1, Evt.all fun k => ?_⟩
      show slices_IndexFunc_Chance.l0 (k + 1) l (l.length : Int) (i : Int) = _
      simp only [slices_IndexFunc_Chance.l0, impl_IsValidChances_1.f, within_ok, Option.bind_some, rd_ch, decide_eq_true hp, Bool.not_true]
      rw [if_pos (by omega), if_pos (by omega), if_pos (by omega), if_neg (by simp), wrap_id (by omega) (by omega)]
    · refine .inr ⟨(i : Int), ?_, Evt.succ (Evt.all fun k => ?_)⟩
      · rw [← h, chOk, decide_eq_false hp, Bool.false_and]; simp
      · show slices_IndexFunc_Chance.l0 (k + 1) l (l.length : Int) (i : Int) = _
        simp only [slices_IndexFunc_Chance.l0, impl_IsValidChances_1.f, within_ok, Option.bind_some, rd_ch, decide_eq_false hp, Bool.not_false]
        rw [if_pos (by omega), if_pos (by omega), if_pos (by omega), if_pos trivial]
  · intro s h
    rw [List.drop_of_length_le (Nat.le_refl _)] at h
    refine ⟨-1, by rw [← h]; simp, Evt.succ (Evt.all fun k => ?_)⟩
    show slices_IndexFunc_Chance.l0 (k + 1) l (l.length : Int) (l.length : Int) = _
    simp only [slices_IndexFunc_Chance.l0]
    rw [if_neg (by omega)]
theorem IsValidChances_ev (l : List S61) (hl : l.length ≤ 4503599627370496) : Evt fun k => impl_IsValidChances.f k l = some (chancesB l) := by
  obtain ⟨r, hr, e⟩ := IndexFunc_ev l hl
  refine e.mono fun k hk => ?_
  simp only [impl_IsValidChances.f, slices_ContainsFunc_Chance.f, hk, Option.bind_some, hr, Bool.not_not, chancesB]
  by_cases h : l.length ≤ 40
  · rw [if_pos (by omega), decide_eq_true h, Bool.and_true]
  · rw [if_neg (by omega), decide_eq_false h, Bool.and_false]
theorem l21Good_ev (l : List S61) (hl : l.length ≤ 4503599627370496) : Evt fun k => spec_l21Good.f k l = some (chancesB l) := by
  unfold spec_l21Good.f
  refine evt_loop0 l.length (fun k (_ : Unit) i => spec_l21Good.l0 k l i) (chancesB l) (fun i _ => (l.drop i).all chOk = l.all chOk) ?_ ?_ () rfl
  · intro i s hi h
    rw [getD_drop l z61 i hi, List.all_cons] at h
    by_cases hp : 0 ≤ (l.getD i z61).f0 ∧ (l.getD i z61).f0 ≤ 10
    · refine .inl ⟨(), by rw [← h, chOk, decide_eq_true hp, Bool.true_and], 1, Evt.all fun k => ?_⟩
      show spec_l21Good.l0 (k + 1) l (i : Int) = _
      simp only [spec_l21Good.l0, l1In_ok, Option.bind_some, rd_ch, decide_eq_true hp, if_true]
      rw [if_pos (by omega), if_pos (by omega), wrap_id (by omega) (by omega)]
    · refine .inr (Evt.succ (Evt.all fun k => ?_))
      show spec_l21Good.l0 (k + 1) l (i : Int) = _
      simp only [spec_l21Good.l0, l1In_ok, Option.bind_some, rd_ch, decide_eq_false hp]
      rw [if_pos (by omega), if_pos (by omega), if_neg (by simp), chancesB, ← h, chOk, decide_eq_false hp, Bool.false_and, Bool.false_and]
  · intro s h
    rw [List.drop_of_length_le (Nat.le_refl _)] at h
    refine Evt.succ (Evt.all fun k => ?_)
    show spec_l21Good.l0 (k + 1) l (l.length : Int) = _
    simp only [spec_l21Good.l0]
    rw [if_neg (by omega), chancesB, ← h, List.all_nil, Bool.true_and]
    exact congrArg some (decide_eq_decide.2 (by omega))
def decJ (t : Int) (c : S61) : Nat := (if c.f1 = true then 0 else 2) + (if c.f0 < t then 1 else 0)
def stepD (t : Int) (acc : List Int) (c : S61) : List Int := acc.set (decJ t c) (acc.getD (decJ t c) 0 + 1)
def decideV (l : List S61) (t : Int) : List Int := l.foldl (stepD t) (List.replicate 4 0)
def decI (i : Nat) (s : List Int) : Prop := s.length = 4 ∧ ∀ j, 0 ≤ s.getD j 0 ∧ s.getD j 0 ≤ (i : Int)
theorem decI_step (t : Int) (c : S61) {i : Nat} {s : List Int} (h : decI i s) : decI (i + 1) (stepD t s c) := by
  refine ⟨by simp [stepD, h.1], fun j => ?_⟩
  unfold stepD
  have hj4 : decJ t c < 4 := by unfold decJ; split <;> split <;> omega
  by_cases e : decJ t c = j
  · have := h.2 j
    rw [e, getD_set_self _ _ _ _ (by rw [h.1]; omega)]; omega
  · have := h.2 j
    rw [getD_set_ne _ _ _ _ _ e]; omega
theorem decI_zero : decI 0 (List.replicate 4 0) := ⟨by simp, fun j => by rcases j with _ | _ | _ | _ | j <;> simp [List.replicate]⟩
theorem decideAt_ev (l : List S61) (t : Int) (hl : l.length ≤ 1000000000) : (Evt fun k => impl_decideAt.f k l t = some (decideV l t)) ∧ decI l.length (decideV l t) := by
  unfold impl_decideAt.f decideV
  simp only [if_pos (show (4 : Nat) ≤ 35184372088832 by omega)]
  refine evt_fold l z61 (stepD t) id decI (fun k s i => impl_decideAt.l0 k t s l (l.length : Int) i) ?_ ?_ _ decI_zero
  · rintro k i s hi h
    refine ⟨decI_step t _ h, ?_⟩
    have h4 := h.1
    have b0 := h.2 0
    have b1 := h.2 1
    have b2 := h.2 2
    have b3 := h.2 3
    simp only [impl_decideAt.l0, rd_ch]
    rw [if_pos (by omega), if_pos (by omega), if_pos (by omega), wrap_id (x := (i : Int) + 1) (by omega) (by omega)]
    have e0 : rd s 0 = s.getD 0 0 := rfl
    have e1 : rd s (0 + 1) = s.getD 1 0 := rfl
    have e2 : rd s 2 = s.getD 2 0 := rfl
    have e3 : rd s (2 + 1) = s.getD 3 0 := rfl
    rw [e0, e1, e2, e3, wrap_id (x := s.getD 0 0 + 1) (by omega) (by omega), wrap_id (x := s.getD 1 0 + 1) (by omega) (by omega), wrap_id (x := s.getD 2 0 + 1) (by omega) (by omega), wrap_id (x := s.getD 3 0 + 1) (by omega) (by omega)]
    unfold stepD decJ
    by_cases hf : (l.getD i z61).f1 = true
    · rw [if_pos hf, if_pos hf]
      by_cases ht : (l.getD i z61).f0 < t
      · rw [if_pos ht, if_pos ht, if_pos (by omega), if_pos (by omega)]; rfl
      · rw [if_neg ht, if_neg ht, if_pos (by omega)]; rfl
    · rw [if_neg hf, if_neg hf]
      by_cases ht : (l.getD i z61).f0 < t
      · rw [if_pos ht, if_pos ht, if_pos (by omega), if_pos (by omega)]; rfl
      · rw [if_neg ht, if_neg ht, if_pos (by omega)]; rfl
  · rintro k s h
    simp only [impl_decideAt.l0]
    rw [if_neg (by omega)]; rfl
theorem specDecide_loop (l : List S61) (t : Int) (hl : l.length ≤ 1000000000) : Evt fun k => spec_DecideAt.l0 k l t (List.replicate 4 0) 0 = some (decideV l t, true) := by
  refine evt_loop0 l.length (fun k s i => spec_DecideAt.l0 k l t s i) (decideV l t, true) (fun i s => decI i s ∧ (l.drop i).foldl (stepD t) s = decideV l t) ?_ ?_ _ ⟨decI_zero, rfl⟩
  · rintro i s hi ⟨h, h2⟩
    rw [getD_drop l z61 i hi, List.foldl_cons] at h2
    have h4 := h.1
    have b0 := h.2 0
    have b1 := h.2 1
    have b2 := h.2 2
    have b3 := h.2 3
    have g1 : (i : Int) < (l.length : Int) := by omega
    have g2 : 0 ≤ (i : Int) := by omega
    have e0 : rd s 0 = s.getD 0 0 := rfl
    have e1 : rd s 1 = s.getD 1 0 := rfl
    have e2 : rd s 2 = s.getD 2 0 := rfl
    have e3 : rd s 3 = s.getD 3 0 := rfl
    have w0 : wrap64 (s.getD 0 0 + 1) = s.getD 0 0 + 1 := wrap_id (by omega) (by omega)
    have w1 : wrap64 (s.getD 1 0 + 1) = s.getD 1 0 + 1 := wrap_id (by omega) (by omega)
    have w2 : wrap64 (s.getD 2 0 + 1) = s.getD 2 0 + 1 := wrap_id (by omega) (by omega)
    have w3 : wrap64 (s.getD 3 0 + 1) = s.getD 3 0 + 1 := wrap_id (by omega) (by omega)
    have wi : wrap64 ((i : Int) + 1) = (i : Int) + 1 := wrap_id (by omega) (by omega)
    have l0 : (0 : Int) < (s.length : Int) := by omega
    have l1 : (1 : Int) < (s.length : Int) := by omega
    have l2 : (2 : Int) < (s.length : Int) := by omega
    have l3 : (3 : Int) < (s.length : Int) := by omega
    by_cases hf : (l.getD i z61).f1 = true
    · by_cases ht : (l.getD i z61).f0 < t
      · refine .inl ⟨_, ⟨decI_step t _ h, h2⟩, 2, Evt.all fun k => ?_⟩
        show spec_DecideAt.l0 (k + 1 + 1) l t s (i : Int) = _
        rw [spec_DecideAt.l0]
        simp only [rd_ch, if_pos g1, if_pos g2, stepD, decJ, if_pos hf, decide_eq_true ht, if_pos ht]
        rw [spec_DecideAt.j2]
        simp only [if_true, if_pos l1, e1, w1, wi]
        rfl
      · refine .inl ⟨_, ⟨decI_step t _ h, h2⟩, 3, Evt.all fun k => ?_⟩
        show spec_DecideAt.l0 (k + 2 + 1) l t s (i : Int) = _
        rw [spec_DecideAt.l0]
        simp only [rd_ch, if_pos g1, if_pos g2, stepD, decJ, if_pos hf, decide_eq_false ht, if_neg ht]
        rw [spec_DecideAt.j2]
        simp only [rd_ch, if_pos g1, if_pos g2, if_pos hf]
        rw [if_neg (by simp), spec_DecideAt.j3]
        simp only [rd_ch, if_pos g1, if_pos g2, if_pos hf, if_pos l0, e0, w0, wi]
        rw [if_neg (by simp), if_pos (by omega)]
        rfl
    · refine .inl ⟨_, ⟨decI_step t _ h, h2⟩, 3, Evt.all fun k => ?_⟩
      show spec_DecideAt.l0 (k + 2 + 1) l t s (i : Int) = _
      rw [spec_DecideAt.l0]
      simp only [rd_ch, if_pos g1, if_pos g2, stepD, decJ, if_neg hf]
      rw [spec_DecideAt.j2]
      simp only [rd_ch, if_pos g1, if_pos g2, if_neg hf]
      rw [if_neg (by simp), spec_DecideAt.j3]
      by_cases ht : (l.getD i z61).f0 < t
      · simp only [rd_ch, if_pos g1, if_pos g2, if_neg hf, if_pos ht, if_pos l3, e3, w3, wi]
        rw [if_neg (by simpa using ht)]
        rfl
      · simp only [if_neg ht, if_pos l2, e2, w2, wi]
        rw [if_pos (decide_eq_true (by omega))]
        rfl
  · rintro s ⟨h, h2⟩
    rw [List.drop_of_length_le (Nat.le_refl _)] at h2
    refine Evt.succ (Evt.all fun k => ?_)
    show spec_DecideAt.l0 (k + 1) l t s (l.length : Int) = _
    simp only [spec_DecideAt.l0]
    rw [if_neg (by omega), ← h2]; rfl
theorem specDecideAt_ev (l : List S61) (t : Int) (hc : chancesB l = true) (ht : 0 ≤ t ∧ t ≤ 11) : Evt fun k => spec_DecideAt.f k l t = some (decideV l t, true) := by
  have hlen := chancesB_len hc
  refine Evt.succ (((Evt.shift (l21Good_ev l (by omega))).and (specDecide_loop l t (by omega))).mono ?_)
  rintro k ⟨h1, h2⟩
  simp only [spec_DecideAt.f, spec_DecideAt.j0, h1, hc, Option.bind_some, if_true, l1In_ok, decide_eq_true ht, Bool.not_true]
  rw [if_neg (by simp), if_pos (by omega)]
  exact h2
theorem isDecision_ok (c ls : Int) : impl_isDecision.f c ls = some (decide (1 ≤ c ∧ c < ls ∧ ls ≤ 10000)) := by
  unfold impl_isDecision.f
  split
  · split
    · exact congrArg some (decide_eq_decide.2 (by omega))
    · rw [decide_eq_false (by omega)]
  · rw [decide_eq_false (by omega)]
theorem l22Decision_ok (c ls : Int) : spec_l22Decision.f c ls = some (decide (1 ≤ c ∧ c < ls ∧ ls ≤ 10000)) := by
  unfold spec_l22Decision.f
  split
  · split
    · exact congrArg some (decide_eq_decide.2 (by omega))
    · rw [decide_eq_false (by omega)]
  · rw [decide_eq_false (by omega)]
def expV (c ls : Int) (l : List Int) : Int := wrap64 ((wrap64 ((wrap64 ((rd l 0) + (rd l 2))) * c)) + (wrap64 ((rd l 1) * ls)))
theorem expenseOf_ok (c ls : Int) (l : List Int) (h : l.length = 4) : impl_expenseOf.f c ls l = some (expV c ls l) := by
  unfold impl_expenseOf.f
  rw [if_pos (by omega), if_pos (by omega), if_pos (by omega)]; rfl
theorem l22Expense_ok (c ls : Int) (l : List Int) (h : l.length = 4) : spec_l22Expense.f c ls l = some (expV c ls l) := by
  unfold spec_l22Expense.f
  rw [if_pos (by omega), if_pos (by omega), if_pos (by omega)]; rfl
def expTo (l : List S61) (c ls : Int) : Nat → List Int
  | 0 => []
  | n + 1 => expTo l c ls n ++ [expV c ls (decideV l (n : Int))]
theorem expTo_len (l : List S61) (c ls : Int) : ∀ n, (expTo l c ls n).length = n
  | 0 => rfl
  | n + 1 => by simp only [expTo, List.length_append, List.length_singleton, expTo_len l c ls n]
theorem expImpl_loop (l : List S61) (c ls : Int) (hl : l.length ≤ 1000000000) (n : Nat) (hn : n = 12) : Evt fun k => impl_ExpenseTable.l0 k l [] 0 c ls = some (expTo l c ls n, true) := by
  refine evt_loop0 n (fun k s i => impl_ExpenseTable.l0 k l s i c ls) (expTo l c ls n, true) (fun i s => s = expTo l c ls i) ?_ ?_ [] rfl
  · rintro i s hi rfl
    obtain ⟨e1, e2⟩ := decideAt_ev l (i : Int) hl
    have hx := expTo_len l c ls i
    refine .inl ⟨_, rfl, 1, e1.mono fun k hk => ?_⟩
    show impl_ExpenseTable.l0 (k + 1) l (expTo l c ls i) (i : Int) c ls = _
    simp only [impl_ExpenseTable.l0, hk, Option.bind_some, expenseOf_ok c ls _ e2.1]
    rw [if_pos (by omega), if_pos (by omega), wrap_id (by omega) (by omega)]; rfl
  · rintro s rfl
    refine Evt.succ (Evt.all fun k => ?_)
    show impl_ExpenseTable.l0 (k + 1) l (expTo l c ls n) (n : Int) c ls = _
    simp only [impl_ExpenseTable.l0]
    rw [if_neg (by omega)]
theorem expSpec_loop (l : List S61) (c ls : Int) (hc : chancesB l = true) (n : Nat) (hn : n = 12) : Evt fun k => spec_l22Table.l0 k l [] 0 c ls = some (expTo l c ls n, true) := by
  have hlen := chancesB_len hc
  refine evt_loop0 n (fun k s i => spec_l22Table.l0 k l s i c ls) (expTo l c ls n, true) (fun i s => s = expTo l c ls i) ?_ ?_ [] rfl
  · rintro i s hi rfl
    obtain ⟨_, e2⟩ := decideAt_ev l (i : Int) (by omega)
    have e1 := specDecideAt_ev l (i : Int) hc (by omega)
    have hx := expTo_len l c ls i
    refine .inl ⟨_, rfl, 1, e1.mono fun k hk => ?_⟩
    show spec_l22Table.l0 (k + 1) l (expTo l c ls i) (i : Int) c ls = _
    simp only [spec_l22Table.l0, hk, Option.bind_some, l22Expense_ok c ls _ e2.1]
    rw [if_pos (by omega), if_pos (by omega), wrap_id (by omega) (by omega)]; rfl
  · rintro s rfl
    refine Evt.succ (Evt.all fun k => ?_)
    show spec_l22Table.l0 (k + 1) l (expTo l c ls n) (n : Int) c ls = _
    simp only [spec_l22Table.l0]
    rw [if_neg (by omega)]
def tableB (c ls : Int) (l : List S61) : Bool := decide (1 ≤ c ∧ c < ls ∧ ls ≤ 10000) && chancesB l && decide (l.length ≠ 0)
def tableV (c ls : Int) (l : List S61) (n : Nat) : List Int × Bool := if tableB c ls l = true then (expTo l c ls n, true) else ([], false)
theorem ExpenseTable_ev (c ls : Int) (l : List S61) (hl : l.length ≤ 1048576) (n : Nat) (hn : n = 12) : Evt fun k => impl_ExpenseTable.f k c ls l = some (tableV c ls l n) := by
  refine Evt.succ (((Evt.shift (IsValidChances_ev l (by omega))).and (expImpl_loop l c ls (by omega) n hn)).mono ?_)
  rintro k ⟨h1, h2⟩
  simp only [impl_ExpenseTable.f, impl_ExpenseTable.j0, isDecision_ok, Option.bind_some, h1, h2]
  unfold tableV tableB
  by_cases hD : 1 ≤ c ∧ c < ls ∧ ls ≤ 10000
  · simp only [decide_eq_true hD, if_true, Bool.true_and]
    cases hc : chancesB l with
    | false => simp
    | true =>
      simp only [if_true, Bool.true_and]
      by_cases h0 : l.length = 0
      · rw [if_pos (by rw [beq_iff_eq]; omega), if_neg (by simp [h0])]
      · rw [if_neg (by rw [beq_iff_eq]; omega), if_pos (by simpa using h0)]
  · simp only [decide_eq_false hD, if_true, Bool.false_and]
    simp
theorem l22Table_ev (c ls : Int) (l : List S61) (hl : l.length ≤ 1048576) (n : Nat) (hn : n = 12) : Evt fun k => spec_l22Table.f k c ls l = some (tableV c ls l n) := by
  cases hc : chancesB l with
  | false =>
    refine Evt.succ ((Evt.shift (l21Good_ev l (by omega))).mono fun k h1 => ?_)
    simp only [spec_l22Table.f, spec_l22Table.j0, l22Decision_ok, Option.bind_some, h1, hc]
    unfold tableV tableB
    rw [hc]
    simp
  | true =>
    refine Evt.succ (((Evt.shift (l21Good_ev l (by omega))).and (expSpec_loop l c ls hc n hn)).mono ?_)
    rintro k ⟨h1, h2⟩
    simp only [spec_l22Table.f, spec_l22Table.j0, l22Decision_ok, Option.bind_some, h1, h2, hc]
    unfold tableV tableB
    rw [hc]
    by_cases hD : 1 ≤ c ∧ c < ls ∧ ls ≤ 10000
    · simp only [decide_eq_true hD, if_true, Bool.true_and]
      by_cases h0 : l.length = 0
      · rw [if_pos (by rw [beq_iff_eq]; omega), if_neg (by simp [h0])]
      · rw [if_neg (by rw [beq_iff_eq]; omega), if_pos (by simpa using h0)]
    · simp only [decide_eq_false hD, if_true, Bool.false_and]
      simp
def bestTo (tb : List Int) : Nat → Nat
  | 0 => 0
  | n + 1 => if tb.getD (n + 1) 0 ≤ tb.getD (bestTo tb n) 0 then n + 1 else bestTo tb n
theorem bestTo_le (tb : List Int) : ∀ n, bestTo tb n ≤ n
  | 0 => Nat.le_refl _
  | n + 1 => by have := bestTo_le tb n; unfold bestTo; split <;> omega
def bestV (tb : List Int) (n : Nat) : Int × Int × Bool := ((bestTo tb (n - 1) : Int), tb.getD (bestTo tb (n - 1)) 0, true)
theorem bestImpl_loop (tb : List Int) (n : Nat) (hn : n = 12) (ht : tb.length = n) : Evt fun k => impl_BestTenths.l0 k tb 0 tb (tb.length : Int) 0 = some (bestV tb n) := by
  refine evt_loop0 n (fun k (s : Int) i => impl_BestTenths.l0 k tb s tb (tb.length : Int) i) (bestV tb n) (fun i s => s = (bestTo tb (i - 1) : Int)) ?_ ?_ 0 rfl
  · rintro i s hi rfl
    have hb := bestTo_le tb (i - 1)
    refine .inl ⟨_, rfl, 1, Evt.all fun k => ?_⟩
    show impl_BestTenths.l0 (k + 1) tb (bestTo tb (i - 1) : Int) tb (tb.length : Int) (i : Int) = _
    simp only [impl_BestTenths.l0, rd_nat]
    rw [if_pos (by omega), if_pos (by omega), if_pos (by omega), if_pos (by omega), if_pos (by omega), wrap_id (by omega) (by omega)]
    rcases i with _ | i
    · have e1 : bestTo tb (0 - 1) = 0 := rfl
      rw [e1, if_pos (Int.le_refl _)]
    · simp only [Nat.add_sub_cancel, bestTo]
      by_cases h : tb.getD (i + 1) 0 ≤ tb.getD (bestTo tb i) 0
      · rw [if_pos h, if_pos h]
      · rw [if_neg h, if_neg h]
  · rintro s rfl
    have hb := bestTo_le tb (n - 1)
    refine Evt.succ (Evt.all fun k => ?_)
    show impl_BestTenths.l0 (k + 1) tb (bestTo tb (n - 1) : Int) tb (tb.length : Int) (n : Int) = _
    simp only [impl_BestTenths.l0, rd_nat]
    rw [if_neg (by omega), if_pos (by omega), if_pos (by omega)]; rfl
theorem bestSpec_loop (tb : List Int) (n : Nat) (hn : n = 12) (ht : tb.length = n) : Evt fun k => spec_BestTenths.l0 k tb 0 1 = some (bestV tb n) := by
  refine evt_loop0 (n - 1) (fun k (s : Int) i => spec_BestTenths.l0 k tb s (i + 1)) (bestV tb n) (fun i s => s = (bestTo tb i : Int)) ?_ ?_ 0 rfl
  · rintro i s hi rfl
    have hb := bestTo_le tb i
    refine .inl ⟨_, rfl, 1, Evt.all fun k => ?_⟩
    show spec_BestTenths.l0 (k + 1) tb (bestTo tb i : Int) ((i : Int) + 1) = spec_BestTenths.l0 k tb (bestTo tb (i + 1) : Int) ((i : Int) + 1 + 1)
    have e1 : rd tb ((i : Int) + 1) = tb.getD (i + 1) 0 := rd_nat tb (i + 1)
    simp only [spec_BestTenths.l0, rd_nat, e1, bestTo]
    rw [if_pos (by omega), if_pos (by omega), if_pos (by omega), if_pos (by omega), if_pos (by omega), wrap_id (by omega) (by omega)]
    by_cases h : tb.getD (i + 1) 0 ≤ tb.getD (bestTo tb i) 0
    · rw [if_pos h, if_pos h]; rfl
    · rw [if_neg h, if_neg h]
  · rintro s rfl
    have hb := bestTo_le tb (n - 1)
    refine Evt.succ (Evt.all fun k => ?_)
    show spec_BestTenths.l0 (k + 1) tb (bestTo tb (n - 1) : Int) (((n - 1 : Nat) : Int) + 1) = _
    simp only [spec_BestTenths.l0, rd_nat]
    rw [if_neg (by omega), if_pos (by omega), if_pos (by omega)]; rfl
theorem pair_BestTenths (c ls : Int) (l : List S61) (_ : -9223372036854775808 ≤ c ∧ c ≤ 9223372036854775807) (_ : -9223372036854775808 ≤ ls ∧ ls ≤ 9223372036854775807) (hl : l.length ≤ 1048576) :
    ∃ v, (Evt fun k => impl_BestTenths.f k c ls l = some v) ∧ (Evt fun k => spec_BestTenths.f k c ls l = some v) := by
  obtain ⟨n, hn⟩ : ∃ n : Nat, n = 12 := ⟨_, rfl⟩
  have t1 := ExpenseTable_ev c ls l hl n hn
  have t2 := l22Table_ev c ls l hl n hn
  by_cases hB : tableB c ls l = true
  · have hv : tableV c ls l n = (expTo l c ls n, true) := by unfold tableV; rw [if_pos hB]
    rw [hv] at t1 t2
    refine ⟨bestV (expTo l c ls n) n, (t1.and (bestImpl_loop _ n hn (expTo_len l c ls n))).mono ?_, (t2.and (bestSpec_loop _ n hn (expTo_len l c ls n))).mono ?_⟩
    · rintro k ⟨h1, h2⟩
      simp only [impl_BestTenths.f, h1, Option.bind_some, if_true, h2]
    · rintro k ⟨h1, h2⟩
      simp only [spec_BestTenths.f, h1, Option.bind_some, if_true, h2]
  · have hv : tableV c ls l n = ([], false) := by unfold tableV; rw [if_neg hB]
    rw [hv] at t1 t2
    refine ⟨(0, 0, false), t1.mono fun k h1 => ?_, t2.mono fun k h1 => ?_⟩
    · simp [impl_BestTenths.f, h1]
    · simp [spec_BestTenths.f, h1]
theorem FnExactBestTenths : FnExactBestTenthsPure := by
  intro a0_0 a0_1 l1 w0_0 w0_1 hm1 hw1
  have q1 := szChanceS_ok l1 1048576 (by omega) hm1
  by_cases hl1 : (1048576 - (l1.length : Int)) < 0
  · exact ⟨0, by unfold laws_FnExactBestTenths.f; rw [q1, if_pos hl1, Option.bind_some, if_pos (by omega)]⟩
  rw [if_neg hl1] at q1
  have hn1 : l1.length ≤ 1048576 := by omega
  obtain ⟨⟨g0, g1, g2⟩, hi, hs⟩ := pair_BestTenths a0_0 a0_1 (l1.map c_Chance) (wf64 w0_0) (wf64 w0_1) (by rw [List.length_map]; exact hn1)
  obtain ⟨K, hK⟩ := ((hi).and ((hs).and ((toChanceS_ev l1 hn1).and (eqChanceS_self (l1.map c_Chance) (by rw [List.length_map]; omega))))).at
  have e0 := fun j => (hK j).1
  have e1 := fun j => (hK j).2.1
  have e2 := fun j => (hK j).2.2.1
  have e3 := fun j => (hK j).2.2.2
  refine ⟨K + 6, ?_⟩
  simp only [laws_FnExactBestTenths.f, q1, if_neg hl1, Option.bind_some, e0, e1, e2, e3, laws_toDecision.f, if_true]
  simp [laws_FnExactBestTenths.j0, e0, e1, e2, e3, laws_toDecision.f]
end Go.Proofs.Ytkiihcgngdepaaa.XFnExactBestTenths.Pure
