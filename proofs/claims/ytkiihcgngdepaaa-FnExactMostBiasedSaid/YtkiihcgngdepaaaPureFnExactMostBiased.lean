/-
  The pure statement of the law FnExactMostBiased: what its printed function answers is 'true' for all numbers and lists of its kinds. Conditions: the kinds' own bounds, as the statement lays them.
-/
import Derived.Test.YtkiihcgngdepaaaStmFnExactMostBiased
import Derived.DataShut
namespace Go.Proofs.Ytkiihcgngdepaaa.XFnExactMostBiased.Pure
open Go.RowKit Go.Proofs.Ytkiihcgngdepaaa.XFnExactMostBiased Go.Proofs.YtkiihcgngdepaaaW.PrintWords Go.Proofs.YtkiihcgngdepaaaW.PrintLast Go.Proofs.YtkiihcgngdepaaaW.PrintMore
set_option linter.unusedVariables false
set_option linter.unusedSimpArgs false
theorem wrap_id {x : Int} (h0 : -9223372036854775808 ≤ x) (h1 : x ≤ 9223372036854775807) : wrap64 x = x := by unfold wrap64; omega
theorem getD_drop {α : Type} (xs : List α) (z : α) (i : Nat) (h : i < xs.length) : xs.drop i = xs.getD i z :: xs.drop (i + 1) := by
  rw [List.drop_eq_getElem_cons h, List.getD_eq_getElem?_getD, List.getElem?_eq_getElem h]; rfl
def Evt (P : Nat → Prop) : Prop := ∃ K, ∀ k, K ≤ k → P k
theorem Evt.all {P : Nat → Prop} (h : ∀ k, P k) : Evt P := ⟨0, fun k _ => h k⟩
theorem Evt.and {P Q : Nat → Prop} (h : Evt P) (g : Evt Q) : Evt fun k => P k ∧ Q k := by
  obtain ⟨K, h⟩ := h
  obtain ⟨M, g⟩ := g
  exact ⟨K + M, fun k hk => ⟨h k (by omega), g k (by omega)⟩⟩
theorem Evt.mono {P Q : Nat → Prop} (h : Evt P) (g : ∀ k, P k → Q k) : Evt Q := by
  obtain ⟨K, h⟩ := h
  exact ⟨K, fun k hk => g k (h k hk)⟩
theorem Evt.succ {Q : Nat → Prop} (h : Evt fun k => Q (k + 1)) : Evt Q := by
  obtain ⟨K, h⟩ := h
  refine ⟨K + 1, fun k hk => ?_⟩
  obtain ⟨m, rfl⟩ : ∃ m, k = m + 1 := ⟨k - 1, by omega⟩
  exact h m (by omega)
theorem Evt.add {Q : Nat → Prop} (c : Nat) (h : Evt fun k => Q (k + c)) : Evt Q := by
  obtain ⟨K, h⟩ := h
  refine ⟨K + c, fun k hk => ?_⟩
  obtain ⟨m, rfl⟩ : ∃ m, k = m + c := ⟨k - c, by omega⟩
  exact h m (by omega)
theorem Evt.shift {Q : Nat → Prop} (h : Evt Q) : Evt fun k => Q (k + 1) := by
  obtain ⟨K, h⟩ := h
  exact ⟨K, fun k hk => h _ (by omega)⟩
theorem Evt.at {P : Nat → Prop} (h : Evt P) : ∃ K, ∀ j, P (K + j) := by
  obtain ⟨K, h⟩ := h
  exact ⟨K, fun j => h _ (by omega)⟩
theorem Evt.pos : Evt fun k => ∃ m, k = m + 1 := ⟨1, fun k hk => ⟨k - 1, by omega⟩⟩
theorem evt_loop {σ ρ : Type} (n : Nat) (L : Nat → σ → Int → Option ρ) (v : ρ) (Inv : Nat → σ → Prop)
    (step : ∀ i s, i < n → Inv i s → (∃ s', Inv (i + 1) s' ∧ ∃ c, Evt fun k => L (k + c) s (i : Int) = L k s' ((i : Int) + 1)) ∨ Evt fun k => L k s (i : Int) = some v)
    (fin : ∀ s, Inv n s → Evt fun k => L k s (n : Int) = some v) :
    ∀ i s, i ≤ n → Inv i s → Evt fun k => L k s (i : Int) = some v := by
  have key : ∀ d i s, i + d = n → Inv i s → Evt fun k => L k s (i : Int) = some v := by
    intro d
    induction d with
    | zero =>
      intro i s hi h
      obtain rfl : i = n := by omega
      exact fin s h
    | succ d ih =>
      intro i s hi h
      rcases step i s (by omega) h with ⟨s', h', c, e⟩ | e
      · have h2 := ih (i + 1) s' (by omega) h'
        rw [show ((i + 1 : Nat) : Int) = (i : Int) + 1 from by omega] at h2
        exact Evt.add c ((e.and h2).mono fun k hk => hk.1.trans hk.2)
      · exact e
  intro i s hi h
  exact key (n - i) i s (by omega) h
theorem evt_loop0 {σ ρ : Type} (n : Nat) (L : Nat → σ → Int → Option ρ) (v : ρ) (Inv : Nat → σ → Prop)
    (step : ∀ i s, i < n → Inv i s → (∃ s', Inv (i + 1) s' ∧ ∃ c, Evt fun k => L (k + c) s (i : Int) = L k s' ((i : Int) + 1)) ∨ Evt fun k => L k s (i : Int) = some v)
    (fin : ∀ s, Inv n s → Evt fun k => L k s (n : Int) = some v) (s : σ) (h0 : Inv 0 s) : Evt fun k => L k s 0 = some v :=
  evt_loop n L v Inv step fin 0 s (Nat.zero_le _) h0
theorem getD_lt {α : Type} (xs : List α) (z : α) (i : Nat) (h : i < xs.length) : xs.getD i z = xs[i] := by
  rw [List.getD_eq_getElem?_getD, List.getElem?_eq_getElem h]; rfl
theorem getD_set_self {α : Type} (xs : List α) (z v : α) (i : Nat) (h : i < xs.length) : (xs.set i v).getD i z = v := by
  rw [List.getD_eq_getElem?_getD, List.getElem?_set_self h]; rfl
theorem getD_set_ne {α : Type} (xs : List α) (z v : α) (i j : Nat) (h : i ≠ j) : (xs.set i v).getD j z = xs.getD j z := by
  rw [List.getD_eq_getElem?_getD, List.getElem?_set_ne h, List.getD_eq_getElem?_getD]
theorem getD_map {α β : Type} (f : α → β) (xs : List α) (z : α) (y : β) (i : Nat) (h : i < xs.length) : (xs.map f).getD i y = f (xs.getD i z) := by
  rw [getD_lt _ _ _ (by simpa using h), getD_lt _ _ _ h, List.getElem_map]
theorem list_ext_getD {α : Type} (xs ys : List α) (z : α) (h : xs.length = ys.length) (e : ∀ j, j < xs.length → xs.getD j z = ys.getD j z) : xs = ys := by
  apply List.ext_getElem h
  intro j h1 h2
  have := e j h1
  rwa [getD_lt _ _ _ h1, getD_lt _ _ _ h2] at this
def c_Chance (x : S63) : S61 := ⟨x.f0, x.f1⟩
theorem toChanceS_ev (l : List S63) (hl : l.length ≤ 1048576) : Evt fun k => laws_toChanceS.f k l = some (l.map c_Chance) := by
  unfold laws_toChanceS.f
  simp only [if_pos (show 0 ≤ (l.length : Int) by omega), if_pos (show ((l.length : Int) : Int).toNat ≤ 17592186044416 by omega)]
  refine evt_loop0 l.length (fun k s i => laws_toChanceS.l0 k l s i) (l.map c_Chance) (fun i s => s.length = l.length ∧ ∀ j, j < i → s.getD j z61 = (l.map c_Chance).getD j z61) ?_ ?_ _ ⟨by simp, fun j hj => by omega⟩
  · rintro i s hi ⟨h1, h2⟩
    refine .inl ⟨s.set i ((l.map c_Chance).getD i z61), ⟨by simpa using h1, fun j hj => ?_⟩, 1, Evt.all fun k => ?_⟩
    · by_cases e : j = i
      · subst e; rw [getD_set_self _ _ _ _ (by omega)]
      · rw [getD_set_ne _ _ _ _ _ (by omega)]; exact h2 j (by omega)
    · show laws_toChanceS.l0 (k + 1) l s (i : Int) = _
      simp only [laws_toChanceS.l0, laws_toChance.f, Option.bind_some]
      rw [if_pos (by omega), if_pos (by omega), if_pos (by omega), wrap_id (by omega) (by omega), Int.toNat_natCast, getD_map _ _ z63 _ _ hi]
      rfl
  · rintro s ⟨h1, h2⟩
    refine Evt.succ (Evt.all fun k => ?_)
    show laws_toChanceS.l0 (k + 1) l s (l.length : Int) = _
    simp only [laws_toChanceS.l0]
    rw [if_neg (by omega)]
    exact congrArg some (list_ext_getD _ _ z61 (by simpa using h1) (fun j hj => h2 j (by omega)))
theorem eqChanceS_self (l : List S61) (hl : l.length ≤ 4503599627370496) : Evt fun k => laws_eqChanceS.f k l l = some true := by
  unfold laws_eqChanceS.f
  simp only [if_true]
  refine evt_loop0 l.length (fun k (_ : Unit) i => laws_eqChanceS.l0 k l l i) true (fun _ _ => True) ?_ ?_ () trivial
  · intro i s hi _
    refine .inl ⟨(), trivial, 1, Evt.all fun k => ?_⟩
    show laws_eqChanceS.l0 (k + 1) l l (i : Int) = _
    simp only [laws_eqChanceS.l0, laws_eqChance.f]
    rw [if_pos (by omega), if_pos (by omega), if_pos (by omega), wrap_id (by omega) (by omega)]
    simp
  · intro s _
    refine Evt.succ (Evt.all fun k => ?_)
    show laws_eqChanceS.l0 (k + 1) l l (l.length : Int) = _
    simp only [laws_eqChanceS.l0]
    rw [if_neg (by omega)]
theorem szChanceS_ok (l : List S63) (a : Int) (ha : 0 ≤ a ∧ a ≤ 1048576) (hl : l.length ≤ maxLen) : laws_szChanceS.f l a = some (if a - (l.length : Int) < 0 then -1 else a - (l.length : Int)) := by
  unfold maxLen at hl
  unfold laws_szChanceS.f
  rw [wrap_id (by omega) (by omega)]
  split <;> rfl
theorem within_ok (a b c : Int) : impl_within.f a b c = some (decide (b ≤ a ∧ a ≤ c)) := by
  unfold impl_within.f
  split <;> simp <;> omega
theorem l1In_ok (a b c : Int) : spec_l1In.f a b c = some (decide (b ≤ a ∧ a ≤ c)) := by
  unfold spec_l1In.f
  split <;> simp <;> omega
theorem evt_loop_ex {σ ρ : Type} (n : Nat) (L : Nat → σ → Int → Option ρ) (R : ρ → Prop) (Inv : Nat → σ → Prop)
    (step : ∀ i s, i < n → Inv i s → (∃ s', Inv (i + 1) s' ∧ ∃ c, Evt fun k => L (k + c) s (i : Int) = L k s' ((i : Int) + 1)) ∨ ∃ v, R v ∧ Evt fun k => L k s (i : Int) = some v)
    (fin : ∀ s, Inv n s → ∃ v, R v ∧ Evt fun k => L k s (n : Int) = some v) (s : σ) (h0 : Inv 0 s) : ∃ v, R v ∧ Evt fun k => L k s 0 = some v := by
  have key : ∀ d i s, i + d = n → Inv i s → ∃ v, R v ∧ Evt fun k => L k s (i : Int) = some v := by
    intro d
    induction d with
    | zero =>
      intro i s hi h
      obtain rfl : i = n := by omega
      exact fin s h
    | succ d ih =>
      intro i s hi h
      rcases step i s (by omega) h with ⟨s', h', c, e⟩ | e
      · obtain ⟨v, hv, h2⟩ := ih (i + 1) s' (by omega) h'
        rw [show ((i + 1 : Nat) : Int) = (i : Int) + 1 from by omega] at h2
        exact ⟨v, hv, Evt.add c ((e.and h2).mono fun k hk => hk.1.trans hk.2)⟩
      · exact e
  exact key n 0 s (by omega) h0
theorem evt_fold {α σ ρ : Type} (xs : List α) (z : α) (g : σ → α → σ) (out : σ → ρ) (I : Nat → σ → Prop) (L : Nat → σ → Int → Option ρ)
    (step : ∀ k i s, i < xs.length → I i s → I (i + 1) (g s (xs.getD i z)) ∧ L (k + 1) s (i : Int) = L k (g s (xs.getD i z)) ((i : Int) + 1))
    (fin : ∀ k s, I xs.length s → L (k + 1) s (xs.length : Int) = some (out s)) (s : σ) (h0 : I 0 s) : (Evt fun k => L k s 0 = some (out (xs.foldl g s))) ∧ I xs.length (xs.foldl g s) := by
  have key : ∀ d i s, i + d = xs.length → I i s → (Evt fun k => L k s (i : Int) = some (out ((xs.drop i).foldl g s))) ∧ I xs.length ((xs.drop i).foldl g s) := by
    intro d
    induction d with
    | zero =>
      intro i s hi h
      obtain rfl : i = xs.length := by omega
      rw [List.drop_of_length_le (Nat.le_refl _)]
      exact ⟨Evt.succ (Evt.all fun k => fin k s h), h⟩
    | succ d ih =>
      intro i s hi h
      have hlt : i < xs.length := by omega
      rw [getD_drop xs z i hlt, List.foldl_cons]
      have h1 := fun k => step k i s hlt h
      obtain ⟨h2, h3⟩ := ih (i + 1) _ (by omega) (h1 0).1
      rw [show ((i + 1 : Nat) : Int) = (i : Int) + 1 from by omega] at h2
      exact ⟨Evt.succ (h2.mono fun k hk => (h1 k).2.trans hk), h3⟩
  exact key xs.length 0 s (by omega) h0
def chOk (c : S61) : Bool := decide (0 ≤ c.f0 ∧ c.f0 ≤ 10)
def chancesB (l : List S61) : Bool := l.all chOk && decide (l.length ≤ 40)
theorem chancesB_len {l : List S61} (h : chancesB l = true) : l.length ≤ 40 := by
  unfold chancesB at h
  simp only [Bool.and_eq_true, decide_eq_true_eq] at h
  exact h.2
theorem rd_ch (l : List S61) (i : Nat) : rd_T61 l (i : Int) = l.getD i z61 := by unfold rd_T61; rw [Int.toNat_natCast]
theorem IndexFunc_ev (l : List S61) (hl : l.length ≤ 4503599627370496) : ∃ r, decide (r ≥ (0 : Int)) = !(l.all chOk) ∧ Evt fun k => slices_IndexFunc_Chance.f k l = some r := by
  unfold slices_IndexFunc_Chance.f
  refine evt_loop_ex l.length (fun k (_ : Unit) i => slices_IndexFunc_Chance.l0 k l (l.length : Int) i) _ (fun i _ => (l.drop i).all chOk = l.all chOk) ?_ ?_ () rfl
  · intro i s hi h
    rw [getD_drop l z61 i hi, List.all_cons] at h
    by_cases hp : 0 ≤ (l.getD i z61).f0 ∧ (l.getD i z61).f0 ≤ 10
    · refine .inl ⟨(), by rw [← h, chOk, decide_eq_true hp, Bool.true_and], 1, Evt.all fun k => ?_⟩
      show slices_IndexFunc_Chance.l0 (k + 1) l (l.length : Int) (i : Int) = _
      simp only [slices_IndexFunc_Chance.l0, impl_IsValidChances_1.f, within_ok, Option.bind_some, rd_ch, decide_eq_true hp, Bool.not_true]
      rw [if_pos (by omega), if_pos (by omega), if_pos (by omega), if_neg (by simp), wrap_id (by omega) (by omega)]
    · refine .inr ⟨(i : Int), ?_, Evt.succ (Evt.all fun k => ?_)⟩
      · rw [← h, chOk, decide_eq_false hp, Bool.false_and]; simp
      · show slices_IndexFunc_Chance.l0 (k + 1) l (l.length : Int) (i : Int) = _
        simp only [slices_IndexFunc_Chance.l0, impl_IsValidChances_1.f, within_ok, Option.bind_some, rd_ch, decide_eq_false hp, Bool.not_false]
        rw [if_pos (by omega), if_pos (by omega), if_pos (by omega), if_pos trivial]
  · intro s h
    rw [List.drop_of_length_le (Nat.le_refl _)] at h
    refine ⟨-1, by rw [← h]; simp, Evt.succ (Evt.all fun k => ?_)⟩
    show slices_IndexFunc_Chance.l0 (k + 1) l (l.length : Int) (l.length : Int) = _
    simp only [slices_IndexFunc_Chance.l0]
    rw [if_neg (by omega)]
theorem IsValidChances_ev (l : List S61) (hl : l.length ≤ 4503599627370496) : Evt fun k => impl_IsValidChances.f k l = some (chancesB l) := by
  obtain ⟨r, hr, e⟩ := IndexFunc_ev l hl
  refine e.mono fun k hk => ?_
  simp only [impl_IsValidChances.f, slices_ContainsFunc_Chance.f, hk, Option.bind_some, hr, Bool.not_not, chancesB]
  by_cases h : l.length ≤ 40
  · rw [if_pos (by omega), decide_eq_true h, Bool.and_true]
  · rw [if_neg (by omega), decide_eq_false h, Bool.and_false]
theorem l21Good_ev (l : List S61) (hl : l.length ≤ 4503599627370496) : Evt fun k => spec_l21Good.f k l = some (chancesB l) := by
  unfold spec_l21Good.f
  refine evt_loop0 l.length (fun k (_ : Unit) i => spec_l21Good.l0 k l i) (chancesB l) (fun i _ => (l.drop i).all chOk = l.all chOk) ?_ ?_ () rfl
  · intro i s hi h
    rw [getD_drop l z61 i hi, List.all_cons] at h
    by_cases hp : 0 ≤ (l.getD i z61).f0 ∧ (l.getD i z61).f0 ≤ 10
    · refine .inl ⟨(), by rw [← h, chOk, decide_eq_true hp, Bool.true_and], 1, Evt.all fun k => ?_⟩
      show spec_l21Good.l0 (k + 1) l (i : Int) = _
      simp only [spec_l21Good.l0, l1In_ok, Option.bind_some, rd_ch, decide_eq_true hp, if_true]
      rw [if_pos (by omega), if_pos (by omega), wrap_id (by omega) (by omega)]
    · refine .inr (Evt.succ (Evt.all fun k => ?_))
      show spec_l21Good.l0 (k + 1) l (i : Int) = _
      simp only [spec_l21Good.l0, l1In_ok, Option.bind_some, rd_ch, decide_eq_false hp]
      rw [if_pos (by omega), if_pos (by omega), if_neg (by simp), chancesB, ← h, chOk, decide_eq_false hp, Bool.false_and, Bool.false_and]
  · intro s h
    rw [List.drop_of_length_le (Nat.le_refl _)] at h
    refine Evt.succ (Evt.all fun k => ?_)
    show spec_l21Good.l0 (k + 1) l (l.length : Int) = _
    simp only [spec_l21Good.l0]
    rw [if_neg (by omega), chancesB, ← h, List.all_nil, Bool.true_and]
    exact congrArg some (decide_eq_decide.2 (by omega))
theorem l1MostNeg_ok (a : Int) (h : -9223372036854775808 < a) (h2 : a ≤ 9223372036854775807) : spec_l1Most.f a (wrap64 (-a)) = some ((a.natAbs : Nat) : Int) := by
  unfold spec_l1Most.f
  rw [wrap_id (by omega) (by omega)]
  split <;> congr 1 <;> omega
theorem absOf_ok (a : Int) (h : -9223372036854775808 < a) (h2 : a ≤ 9223372036854775807) : impl_absOf.f a = some ((a.natAbs : Nat) : Int) := by
  unfold impl_absOf.f
  split
  · rw [wrap_id (by omega) (by omega)]; congr 1; omega
  · congr 1; omega
def stepR (t : Int) (s : Int × Int) (c : S61) : Int × Int := if c.f0 = t then (s.1 + 1, if c.f1 = true then s.2 + 1 else s.2) else s
def binV (l : List S61) (t : Int) : Int × Int := l.foldl (stepR t) (0, 0)
def binI (i : Nat) (s : Int × Int) : Prop := (0 ≤ s.1 ∧ s.1 ≤ (i : Int)) ∧ (0 ≤ s.2 ∧ s.2 ≤ (i : Int))
theorem binI_step (t : Int) (c : S61) {i : Nat} {s : Int × Int} (h : binI i s) : binI (i + 1) (stepR t s c) := by
  unfold stepR binI at *
  split
  · refine ⟨by simp only; omega, ?_⟩
    simp only
    split <;> omega
  · omega
theorem l21Bin_ev (l : List S61) (t : Int) (hl : l.length ≤ 1000000000) : (Evt fun k => spec_l21Bin.f k l t = some (binV l t)) ∧ binI l.length (binV l t) := by
  unfold spec_l21Bin.f binV
  refine evt_fold l z61 (stepR t) id binI (fun k s i => spec_l21Bin.l0 k l t s.1 s.2 i) ?_ ?_ (0, 0) ⟨by simp, by simp⟩
  · rintro k i ⟨s, u⟩ hi h
    refine ⟨binI_step t _ h, ?_⟩
    unfold binI at h
    simp only at h
    simp only [spec_l21Bin.l0, rd_ch]
    rw [if_pos (by omega), if_pos (by omega), wrap_id (x := (i : Int) + 1) (by omega) (by omega), wrap_id (x := s + 1) (by omega) (by omega), wrap_id (x := u + 1) (by omega) (by omega)]
    unfold stepR
    by_cases h1 : (l.getD i z61).f0 = t
    · rw [if_pos h1, if_pos h1]
      by_cases h2 : (l.getD i z61).f1 = true
      · simp only [if_pos h2]
      · simp only [if_neg h2]
    · rw [if_neg h1, if_neg h1]
  · rintro k s h
    simp only [spec_l21Bin.l0]
    rw [if_neg (by omega)]; rfl
def rowV (l : List S61) (t : Nat) : List Int := [(t : Int), (binV l t).1, (binV l t).2]
def relTo (l : List S61) : Nat → List (List Int)
  | 0 => []
  | m + 1 => relTo l m ++ if (binV l m).1 > 0 then [rowV l m] else []
theorem relTo_len (l : List S61) : ∀ m, (relTo l m).length ≤ m
  | 0 => Nat.le_refl _
  | m + 1 => by have := relTo_len l m; simp only [relTo, List.length_append]; split <;> simp <;> omega
theorem relTo_mem (l : List S61) : ∀ m, ∀ r ∈ relTo l m, ∃ t, t < m ∧ r = rowV l t
  | 0 => by simp [relTo]
  | m + 1 => by
    intro r hr
    simp only [relTo, List.mem_append] at hr
    rcases hr with hr | hr
    · obtain ⟨t, ht, e⟩ := relTo_mem l m r hr; exact ⟨t, by omega, e⟩
    · split at hr
      · exact ⟨m, by omega, by simpa using hr⟩
      · simp at hr
theorem relInner (l : List S61) (hl : l.length ≤ 1000000000) (tb : List (List Int)) (htb : tb.length ≤ 100) (t : Nat) (ht : t < 100) : ∀ (d i : Nat) (s : Int × Int) (k : Nat), i + d = l.length → binI i s →
    impl_reliabilityTable.l1 (k + (d + 1)) l tb (t : Int) [(t : Int), s.1, s.2] (t : Int) l (l.length : Int) (i : Int) = impl_reliabilityTable.l0 k l (tb ++ if ((l.drop i).foldl (stepR t) s).1 > 0 then [[(t : Int), ((l.drop i).foldl (stepR t) s).1, ((l.drop i).foldl (stepR t) s).2]] else []) ((t : Int) + 1) := by
  intro d
  induction d with
  | zero =>
    intro i s k hi h
    obtain rfl : i = l.length := by omega
    rw [List.drop_of_length_le (Nat.le_refl _), List.foldl_nil]
    show impl_reliabilityTable.l1 (k + 1) l tb (t : Int) [(t : Int), s.1, s.2] (t : Int) l (l.length : Int) (l.length : Int) = _
    rw [impl_reliabilityTable.l1]
    have e1 : rd [(t : Int), s.1, s.2] 1 = s.1 := rfl
    rw [if_neg (by omega), if_pos (by simp), e1, wrap_id (x := (t : Int) + 1) (by omega) (by omega)]
    by_cases h1 : s.1 > 0
    · rw [if_pos h1, if_pos h1, if_pos (by omega)]
    · rw [if_neg h1, if_neg h1, List.append_nil]
  | succ d ih =>
    intro i s k hi h
    have hlt : i < l.length := by omega
    rw [getD_drop l z61 i hlt, List.foldl_cons]
    have h2 := ih (i + 1) (stepR t s (l.getD i z61)) k (by omega) (binI_step _ _ h)
    rw [show ((i + 1 : Nat) : Int) = (i : Int) + 1 from by omega] at h2
    rw [← h2]
    show impl_reliabilityTable.l1 ((k + (d + 1)) + 1) l tb (t : Int) [(t : Int), s.1, s.2] (t : Int) l (l.length : Int) (i : Int) = _
    rw [impl_reliabilityTable.l1]
    unfold binI at h
    rw [if_pos (by omega), if_pos (by omega), if_pos (by omega), rd_ch, wrap_id (x := (i : Int) + 1) (by omega) (by omega)]
    unfold stepR
    by_cases h1 : (l.getD i z61).f0 = (t : Int)
    · rw [if_pos h1, if_pos h1, if_pos (by simp), Option.bind_some]
      have e1 : rd [(t : Int), s.1, s.2] 1 = s.1 := rfl
      rw [e1, wrap_id (x := s.1 + 1) (by omega) (by omega)]
      have e2 : ([(t : Int), s.1, s.2] : List Int).set (1 : Int).toNat (s.1 + 1) = [(t : Int), s.1 + 1, s.2] := rfl
      rw [e2]
      have e3 : rd [(t : Int), s.1 + 1, s.2] 2 = s.2 := rfl
      rw [e3, wrap_id (x := s.2 + 1) (by omega) (by omega)]
      by_cases h3 : (l.getD i z61).f1 = true
      · rw [if_pos h3, if_pos h3, if_pos (by simp)]; rfl
      · rw [if_neg h3, if_neg h3]
    · rw [if_neg h1, if_neg h1]
theorem reliabilityTable_ev (l : List S61) (hl : l.length ≤ 1000000000) (n : Nat) (hn : n = 11) : Evt fun k => impl_reliabilityTable.f k l = some (relTo l n) := by
  unfold impl_reliabilityTable.f
  refine evt_loop0 n (fun k s i => impl_reliabilityTable.l0 k l s i) (relTo l n) (fun i s => s = relTo l i) ?_ ?_ [] rfl
  · rintro i s hi rfl
    have hlen := relTo_len l i
    refine .inl ⟨_, rfl, l.length + 2, Evt.all fun k => ?_⟩
    show impl_reliabilityTable.l0 ((k + (l.length + 1)) + 1) l (relTo l i) (i : Int) = _
    rw [impl_reliabilityTable.l0, if_pos (by omega)]
    have := relInner l hl (relTo l i) (by omega) i (by omega) l.length 0 (0, 0) k (by omega) ⟨by simp, by simp⟩
    exact this
  · rintro s rfl
    refine Evt.succ (Evt.all fun k => ?_)
    show impl_reliabilityTable.l0 (k + 1) l (relTo l n) (n : Int) = _
    simp only [impl_reliabilityTable.l0]
    rw [if_neg (by omega)]
def biasR (r : List Int) : Int := r.getD 1 0 * r.getD 0 0 - 10 * r.getD 2 0
def stepB (s : Int × Int × Bool) (r : List Int) : Int × Int × Bool := if s.2.2 = true then (if (biasR r).natAbs > s.2.1.natAbs then (r.getD 0 0, biasR r, true) else s) else (r.getD 0 0, biasR r, true)
def smallR (r : List Int) : Prop := r.length = 3 ∧ (0 ≤ r.getD 0 0 ∧ r.getD 0 0 ≤ 10) ∧ (0 ≤ r.getD 1 0 ∧ r.getD 1 0 ≤ 40) ∧ (0 ≤ r.getD 2 0 ∧ r.getD 2 0 ≤ 40)
theorem biasR_le {r : List Int} (h : smallR r) : (0 ≤ r.getD 1 0 * r.getD 0 0 ∧ r.getD 1 0 * r.getD 0 0 ≤ 400) ∧ -400 ≤ biasR r ∧ biasR r ≤ 400 := by
  unfold smallR at h
  have h1 : 0 ≤ r.getD 1 0 * r.getD 0 0 := Int.mul_nonneg (by omega) (by omega)
  have h2 : r.getD 1 0 * r.getD 0 0 ≤ 40 * 10 := Int.mul_le_mul (by omega) (by omega) (by omega) (by omega)
  unfold biasR
  omega
theorem rowV_small (l : List S61) (hl : l.length ≤ 40) (t : Nat) (ht : t < 11) : smallR (rowV l t) := by
  obtain ⟨_, h⟩ := l21Bin_ev l (t : Int) (by omega)
  unfold binI at h
  unfold smallR rowV
  exact ⟨rfl, by simp; omega, by simp; omega, by simp; omega⟩
theorem biasImpl_loop (tb : List (List Int)) (htb : tb.length ≤ 100) (hs : ∀ r ∈ tb, smallR r) : Evt fun k => impl_MostBiased.l0 k 0 0 false tb (tb.length : Int) 0 = some ((tb.foldl stepB (0, 0, false)).1, (tb.foldl stepB (0, 0, false)).2.1, true) := by
  refine (evt_fold tb [] stepB (fun s => (s.1, s.2.1, true)) (fun _ s => -400 ≤ s.2.1 ∧ s.2.1 ≤ 400) (fun k s i => impl_MostBiased.l0 k s.1 s.2.1 s.2.2 tb (tb.length : Int) i) ?_ ?_ (0, 0, false) ⟨by simp, by simp⟩).1
  · rintro k i ⟨s, u, b⟩ hi h
    simp only at h
    have hr : smallR (tb.getD i []) := by rw [getD_lt _ _ _ hi]; exact hs _ (List.getElem_mem hi)
    have hb := biasR_le hr
    have er : rd_L4 tb (i : Int) = tb.getD i [] := by unfold rd_L4; rw [Int.toNat_natCast]
    refine ⟨by unfold stepB; split <;> (try split) <;> (try simp only) <;> omega, ?_⟩
    simp only [impl_MostBiased.l0, er]
    generalize tb.getD i [] = r at *
    have h3 := hr.1
    have e0 : rd r 0 = r.getD 0 0 := rfl
    have e1 : rd r 1 = r.getD 1 0 := rfl
    have e2 : rd r 2 = r.getD 2 0 := rfl
    unfold smallR at hr
    have w1 : wrap64 (wrap64 (r.getD 1 0 * r.getD 0 0) - wrap64 (10 * r.getD 2 0)) = biasR r := by
      rw [wrap_id (x := r.getD 1 0 * r.getD 0 0) (by omega) (by omega), wrap_id (x := 10 * r.getD 2 0) (by omega) (by omega)]
      exact wrap_id (x := biasR r) (by omega) (by omega)
    rw [if_pos (by omega), if_pos (by omega), if_pos (by omega), if_pos (by omega), if_pos (by omega), if_pos (by omega), e0, e1, e2, w1, absOf_ok _ (by omega) (by omega), absOf_ok _ (by omega) (by omega), wrap_id (x := (i : Int) + 1) (by omega) (by omega)]
    simp only [Option.bind_some]
    unfold stepB
    cases b
    · simp
    · by_cases hg : (biasR r).natAbs > u.natAbs
      · simp only [if_true]
        rw [if_pos (by omega), if_pos hg]
      · simp only [if_true]
        rw [if_neg (by omega), if_neg hg]
  · rintro k ⟨s, u, b⟩ h
    simp only [impl_MostBiased.l0]
    rw [if_neg (by omega)]
theorem biasSpec_loop (l : List S61) (hl : l.length ≤ 40) (n : Nat) (hn : n = 11) : Evt fun k => spec_MostBiased.l0 k l 0 0 false 0 = some (((relTo l n).foldl stepB (0, 0, false)).1, ((relTo l n).foldl stepB (0, 0, false)).2.1, true) := by
  refine evt_loop0 n (fun k (s : Int × Int × Bool) i => spec_MostBiased.l0 k l s.1 s.2.1 s.2.2 i) _ (fun i s => s = (relTo l i).foldl stepB (0, 0, false) ∧ -400 ≤ s.2.1 ∧ s.2.1 ≤ 400) ?_ ?_ (0, 0, false) ⟨rfl, by simp, by simp⟩
  · rintro i s hi ⟨hs, h⟩
    have hr := rowV_small l hl i (by omega)
    have hb := biasR_le hr
    obtain ⟨e1, e2⟩ := l21Bin_ev l (i : Int) (by omega)
    unfold binI at e2
    have w1 : wrap64 (wrap64 ((binV l i).1 * (i : Int)) - wrap64 (10 * (binV l i).2)) = biasR (rowV l i) := by
      have x1 : (binV l i).1 * (i : Int) = (rowV l i).getD 1 0 * (rowV l i).getD 0 0 := rfl
      rw [wrap_id (x := (binV l i).1 * (i : Int)) (by omega) (by omega), wrap_id (x := 10 * (binV l i).2) (by omega) (by omega)]
      exact wrap_id (x := biasR (rowV l i)) (by omega) (by omega)
    refine .inl ⟨(relTo l (i + 1)).foldl stepB (0, 0, false), ⟨rfl, ?_⟩, 1, e1.mono fun k hk => ?_⟩
    · simp only [relTo, List.foldl_append, ← hs]
      split
      · simp only [List.foldl_cons, List.foldl_nil]
        unfold stepB; split <;> (try split) <;> (try simp only) <;> omega
      · exact h
    · obtain ⟨s, u, b⟩ := s
      simp only at h
      show spec_MostBiased.l0 (k + 1) l s u b (i : Int) = _
      simp only [spec_MostBiased.l0, hk, Option.bind_some, w1, relTo, List.foldl_append, ← hs]
      rw [if_pos (by omega), wrap_id (x := (i : Int) + 1) (by omega) (by omega), l1MostNeg_ok _ (by omega) (by omega), l1MostNeg_ok _ (by omega) (by omega)]
      by_cases h0 : (binV l i).1 > 0
      · rw [if_pos h0, if_pos h0]
        simp only [Option.bind_some, List.foldl_cons, List.foldl_nil]
        unfold stepB
        cases b
        · simp [rowV]
        · by_cases hg : (biasR (rowV l i)).natAbs > u.natAbs
          · simp only [if_true]
            rw [if_pos (by omega), if_pos hg]; rfl
          · simp only [if_true]
            rw [if_neg (by omega), if_neg hg]
      · rw [if_neg h0, if_neg h0]; rfl
  · rintro s ⟨hs, h⟩
    refine Evt.succ (Evt.all fun k => ?_)
    show spec_MostBiased.l0 (k + 1) l s.1 s.2.1 s.2.2 (n : Int) = _
    simp only [spec_MostBiased.l0]
    rw [if_neg (by omega), hs]
theorem pair_MostBiased (l : List S61) (hl : l.length ≤ 1048576) : ∃ v, (Evt fun k => impl_MostBiased.f k l = some v) ∧ (Evt fun k => spec_MostBiased.f k l = some v) := by
  have c1 := IsValidChances_ev l (by omega)
  have c2 := l21Good_ev l (by omega)
  cases hc : chancesB l with
  | false =>
    refine ⟨(0, 0, false), (Evt.pos.and c1).mono ?_, (Evt.pos.and c2).mono ?_⟩
    · rintro k ⟨⟨m, rfl⟩, hk⟩; simp [impl_MostBiased.f, impl_MostBiased.j0, hk, hc]
    · rintro k ⟨⟨m, rfl⟩, hk⟩; simp [spec_MostBiased.f, spec_MostBiased.j0, hk, hc]
  | true =>
    have hlen := chancesB_len hc
    by_cases h0 : l.length = 0
    · refine ⟨(0, 0, false), (Evt.pos.and c1).mono ?_, (Evt.pos.and c2).mono ?_⟩
      · rintro k ⟨⟨m, rfl⟩, hk⟩; simp [impl_MostBiased.f, impl_MostBiased.j0, hk, hc, h0]
      · rintro k ⟨⟨m, rfl⟩, hk⟩; simp [spec_MostBiased.f, spec_MostBiased.j0, hk, hc, h0]
    · obtain ⟨n, hn⟩ : ∃ n : Nat, n = 11 := ⟨_, rfl⟩
      have ht := relTo_len l n
      have f1 := biasImpl_loop (relTo l n) (by omega) (fun r hr => by obtain ⟨t, ht, rfl⟩ := relTo_mem l n r hr; exact rowV_small l hlen t (by omega))
      have f2 := biasSpec_loop l hlen n hn
      have f3 := reliabilityTable_ev l (by omega) n hn
      refine ⟨(((relTo l n).foldl stepB (0, 0, false)).1, ((relTo l n).foldl stepB (0, 0, false)).2.1, true), Evt.succ (((Evt.shift c1).and (f3.and f1)).mono ?_), Evt.succ (((Evt.shift c2).and f2).mono ?_)⟩
      · rintro k ⟨h1, h2, h3⟩
        simp only [impl_MostBiased.f, impl_MostBiased.j0, h1, hc, Option.bind_some, if_true, h2]
        rw [if_neg (by rw [beq_iff_eq]; omega), h3]
      · rintro k ⟨h1, h2⟩
        simp only [spec_MostBiased.f, spec_MostBiased.j0, h1, hc, Option.bind_some, if_true]
        rw [if_neg (by rw [beq_iff_eq]; omega), h2]
theorem FnExactMostBiased : FnExactMostBiasedPure := by
  intro l0 hm0 hw0
  have q0 := szChanceS_ok l0 1048576 (by omega) hm0
  by_cases hl0 : (1048576 - (l0.length : Int)) < 0
  · exact ⟨0, by unfold laws_FnExactMostBiased.f; rw [q0, if_pos hl0, Option.bind_some, if_pos (by omega)]⟩
  rw [if_neg hl0] at q0
  have hn0 : l0.length ≤ 1048576 := by omega
  obtain ⟨⟨g0, g1, g2⟩, hi, hs⟩ := pair_MostBiased (l0.map c_Chance) (by rw [List.length_map]; exact hn0)
  obtain ⟨K, hK⟩ := ((hi).and ((hs).and ((toChanceS_ev l0 hn0).and (eqChanceS_self (l0.map c_Chance) (by rw [List.length_map]; omega))))).at
  have e0 := fun j => (hK j).1
  have e1 := fun j => (hK j).2.1
  have e2 := fun j => (hK j).2.2.1
  have e3 := fun j => (hK j).2.2.2
  refine ⟨K + 6, ?_⟩
  simp only [laws_FnExactMostBiased.f, q0, if_neg hl0, Option.bind_some, e0, e1, e2, e3, if_true]
  simp [laws_FnExactMostBiased.j0, e0, e1, e2, e3]
end Go.Proofs.Ytkiihcgngdepaaa.XFnExactMostBiased.Pure
