/-
  The pure statement of the law FnExactSkillScore: what its printed function answers is 'true' for all numbers and lists of its kinds. Conditions: the kinds' own bounds, as the statement lays them.
-/
import Derived.Test.YtkiihcgngdepaaaStmFnExactSkillScore
import Derived.DataShut
namespace Go.Proofs.Ytkiihcgngdepaaa.XFnExactSkillScore.Pure
open Go.RowKit Go.Proofs.Ytkiihcgngdepaaa.XFnExactSkillScore Go.Proofs.YtkiihcgngdepaaaW.PrintWords Go.Proofs.YtkiihcgngdepaaaW.PrintLast Go.Proofs.YtkiihcgngdepaaaW.PrintMore
set_option linter.unusedVariables false
set_option linter.unusedSimpArgs false
theorem wrap_id {x : Int} (h0 : -9223372036854775808 ≤ x) (h1 : x ≤ 9223372036854775807) : wrap64 x = x := by unfold wrap64; omega
theorem getD_drop {α : Type} (xs : List α) (z : α) (i : Nat) (h : i < xs.length) : xs.drop i = xs.getD i z :: xs.drop (i + 1) := by
  rw [List.drop_eq_getElem_cons h, List.getD_eq_getElem?_getD, List.getElem?_eq_getElem h]; rfl
def Evt (P : Nat → Prop) : Prop := ∃ K, ∀ k, K ≤ k → P k
theorem Evt.all {P : Nat → Prop} (h : ∀ k, P k) : Evt P := ⟨0, fun k _ => h k⟩
theorem Evt.above {P : Nat → Prop} (K : Nat) (h : ∀ k, K < k → P k) : Evt P := ⟨K + 1, fun k hk => h k hk⟩
theorem Evt.and {P Q : Nat → Prop} (h : Evt P) (g : Evt Q) : Evt fun k => P k ∧ Q k := by
  obtain ⟨K, h⟩ := h
  obtain ⟨M, g⟩ := g
  exact ⟨K + M, fun k hk => ⟨h k (by omega), g k (by omega)⟩⟩
theorem Evt.mono {P Q : Nat → Prop} (h : Evt P) (g : ∀ k, P k → Q k) : Evt Q := by
  obtain ⟨K, h⟩ := h
  exact ⟨K, fun k hk => g k (h k hk)⟩
theorem Evt.succ {Q : Nat → Prop} (h : Evt fun k => Q (k + 1)) : Evt Q := by
  obtain ⟨K, h⟩ := h
  refine ⟨K + 1, fun k hk => ?_⟩
  obtain ⟨m, rfl⟩ : ∃ m, k = m + 1 := ⟨k - 1, by omega⟩
  exact h m (by omega)
theorem Evt.add {Q : Nat → Prop} (c : Nat) (h : Evt fun k => Q (k + c)) : Evt Q := by
  obtain ⟨K, h⟩ := h
  refine ⟨K + c, fun k hk => ?_⟩
  obtain ⟨m, rfl⟩ : ∃ m, k = m + c := ⟨k - c, by omega⟩
  exact h m (by omega)
theorem Evt.shift {Q : Nat → Prop} (h : Evt Q) : Evt fun k => Q (k + 1) := by
  obtain ⟨K, h⟩ := h
  exact ⟨K, fun k hk => h _ (by omega)⟩
theorem Evt.at {P : Nat → Prop} (h : Evt P) : ∃ K, ∀ j, P (K + j) := by
  obtain ⟨K, h⟩ := h
  exact ⟨K, fun j => h _ (by omega)⟩
theorem Evt.pos : Evt fun k => ∃ m, k = m + 1 := ⟨1, fun k hk => ⟨k - 1, by omega⟩⟩
theorem evt_loop {σ ρ : Type} (n : Nat) (L : Nat → σ → Int → Option ρ) (v : ρ) (Inv : Nat → σ → Prop)
    (step : ∀ i s, i < n → Inv i s → (∃ s', Inv (i + 1) s' ∧ ∃ c, Evt fun k => L (k + c) s (i : Int) = L k s' ((i : Int) + 1)) ∨ Evt fun k => L k s (i : Int) = some v)
    (fin : ∀ s, Inv n s → Evt fun k => L k s (n : Int) = some v) :
    ∀ i s, i ≤ n → Inv i s → Evt fun k => L k s (i : Int) = some v := by
  have key : ∀ d i s, i + d = n → Inv i s → Evt fun k => L k s (i : Int) = some v := by
    intro d
    induction d with
    | zero =>
      intro i s hi h
      obtain rfl : i = n := by omega
      exact fin s h
    | succ d ih =>
      intro i s hi h
      rcases step i s (by omega) h with ⟨s', h', c, e⟩ | e
      · have h2 := ih (i + 1) s' (by omega) h'
        rw [show ((i + 1 : Nat) : Int) = (i : Int) + 1 from by omega] at h2
        exact Evt.add c ((e.and h2).mono fun k hk => hk.1.trans hk.2)
      · exact e
  intro i s hi h
  exact key (n - i) i s (by omega) h
theorem evt_loop0 {σ ρ : Type} (n : Nat) (L : Nat → σ → Int → Option ρ) (v : ρ) (Inv : Nat → σ → Prop)
    (step : ∀ i s, i < n → Inv i s → (∃ s', Inv (i + 1) s' ∧ ∃ c, Evt fun k => L (k + c) s (i : Int) = L k s' ((i : Int) + 1)) ∨ Evt fun k => L k s (i : Int) = some v)
    (fin : ∀ s, Inv n s → Evt fun k => L k s (n : Int) = some v) (s : σ) (h0 : Inv 0 s) : Evt fun k => L k s 0 = some v :=
  evt_loop n L v Inv step fin 0 s (Nat.zero_le _) h0
theorem getD_lt {α : Type} (xs : List α) (z : α) (i : Nat) (h : i < xs.length) : xs.getD i z = xs[i] := by
  rw [List.getD_eq_getElem?_getD, List.getElem?_eq_getElem h]; rfl
theorem getD_set_self {α : Type} (xs : List α) (z v : α) (i : Nat) (h : i < xs.length) : (xs.set i v).getD i z = v := by
  rw [List.getD_eq_getElem?_getD, List.getElem?_set_self h]; rfl
theorem getD_set_ne {α : Type} (xs : List α) (z v : α) (i j : Nat) (h : i ≠ j) : (xs.set i v).getD j z = xs.getD j z := by
  rw [List.getD_eq_getElem?_getD, List.getElem?_set_ne h, List.getD_eq_getElem?_getD]
theorem getD_map {α β : Type} (f : α → β) (xs : List α) (z : α) (y : β) (i : Nat) (h : i < xs.length) : (xs.map f).getD i y = f (xs.getD i z) := by
  rw [getD_lt _ _ _ (by simpa using h), getD_lt _ _ _ h, List.getElem_map]
theorem list_ext_getD {α : Type} (xs ys : List α) (z : α) (h : xs.length = ys.length) (e : ∀ j, j < xs.length → xs.getD j z = ys.getD j z) : xs = ys := by
  apply List.ext_getElem h
  intro j h1 h2
  have := e j h1
  rwa [getD_lt _ _ _ h1, getD_lt _ _ _ h2] at this
def c_Chance (x : S63) : S61 := ⟨x.f0, x.f1⟩
theorem toChanceS_ev (l : List S63) (hl : l.length ≤ 1048576) : Evt fun k => laws_toChanceS.f k l = some (l.map c_Chance) := by
  unfold laws_toChanceS.f
  simp only [if_pos (show 0 ≤ (l.length : Int) by omega), if_pos (show ((l.length : Int) : Int).toNat ≤ 17592186044416 by omega)]
  refine evt_loop0 l.length (fun k s i => laws_toChanceS.l0 k l s i) (l.map c_Chance) (fun i s => s.length = l.length ∧ ∀ j, j < i → s.getD j z61 = (l.map c_Chance).getD j z61) ?_ ?_ _ ⟨by simp, fun j hj => by omega⟩
  · rintro i s hi ⟨h1, h2⟩
    refine .inl ⟨s.set i ((l.map c_Chance).getD i z61), ⟨by simpa using h1, fun j hj => ?_⟩, 1, Evt.all fun k => ?_⟩
    · by_cases e : j = i
      · subst e; rw [getD_set_self _ _ _ _ (by omega)]
      · rw [getD_set_ne _ _ _ _ _ (by omega)]; exact h2 j (by omega)
    · show laws_toChanceS.l0 (k + 1) l s (i : Int) = _
      simp only [laws_toChanceS.l0, laws_toChance.f, Option.bind_some]
      rw [if_pos (by omega), if_pos (by omega), if_pos (by omega), wrap_id (by omega) (by omega), Int.toNat_natCast, getD_map _ _ z63 _ _ hi]
      rfl
  · rintro s ⟨h1, h2⟩
    refine Evt.succ (Evt.all fun k => ?_)
    show laws_toChanceS.l0 (k + 1) l s (l.length : Int) = _
    simp only [laws_toChanceS.l0]
    rw [if_neg (by omega)]
    exact congrArg some (list_ext_getD _ _ z61 (by simpa using h1) (fun j hj => h2 j (by omega)))
theorem eqChanceS_self (l : List S61) (hl : l.length ≤ 4503599627370496) : Evt fun k => laws_eqChanceS.f k l l = some true := by
  unfold laws_eqChanceS.f
  simp only [if_true]
  refine evt_loop0 l.length (fun k (_ : Unit) i => laws_eqChanceS.l0 k l l i) true (fun _ _ => True) ?_ ?_ () trivial
  · intro i s hi _
    refine .inl ⟨(), trivial, 1, Evt.all fun k => ?_⟩
    show laws_eqChanceS.l0 (k + 1) l l (i : Int) = _
    simp only [laws_eqChanceS.l0, laws_eqChance.f]
    rw [if_pos (by omega), if_pos (by omega), if_pos (by omega), wrap_id (by omega) (by omega)]
    simp
  · intro s _
    refine Evt.succ (Evt.all fun k => ?_)
    show laws_eqChanceS.l0 (k + 1) l l (l.length : Int) = _
    simp only [laws_eqChanceS.l0]
    rw [if_neg (by omega)]
theorem szChanceS_ok (l : List S63) (a : Int) (ha : 0 ≤ a ∧ a ≤ 1048576) (hl : l.length ≤ maxLen) : laws_szChanceS.f l a = some (if a - (l.length : Int) < 0 then -1 else a - (l.length : Int)) := by
  unfold maxLen at hl
  unfold laws_szChanceS.f
  rw [wrap_id (by omega) (by omega)]
  split <;> rfl
theorem within_ok (a b c : Int) : impl_within.f a b c = some (decide (b ≤ a ∧ a ≤ c)) := by
  unfold impl_within.f
  split <;> simp <;> omega
theorem l1In_ok (a b c : Int) : spec_l1In.f a b c = some (decide (b ≤ a ∧ a ≤ c)) := by
  unfold spec_l1In.f
  split <;> simp <;> omega
theorem evt_loop_ex {σ ρ : Type} (n : Nat) (L : Nat → σ → Int → Option ρ) (R : ρ → Prop) (Inv : Nat → σ → Prop)
    (step : ∀ i s, i < n → Inv i s → (∃ s', Inv (i + 1) s' ∧ ∃ c, Evt fun k => L (k + c) s (i : Int) = L k s' ((i : Int) + 1)) ∨ ∃ v, R v ∧ Evt fun k => L k s (i : Int) = some v)
    (fin : ∀ s, Inv n s → ∃ v, R v ∧ Evt fun k => L k s (n : Int) = some v) (s : σ) (h0 : Inv 0 s) : ∃ v, R v ∧ Evt fun k => L k s 0 = some v := by
  have key : ∀ d i s, i + d = n → Inv i s → ∃ v, R v ∧ Evt fun k => L k s (i : Int) = some v := by
    intro d
    induction d with
    | zero =>
      intro i s hi h
      obtain rfl : i = n := by omega
      exact fin s h
    | succ d ih =>
      intro i s hi h
      rcases step i s (by omega) h with ⟨s', h', c, e⟩ | e
      · obtain ⟨v, hv, h2⟩ := ih (i + 1) s' (by omega) h'
        rw [show ((i + 1 : Nat) : Int) = (i : Int) + 1 from by omega] at h2
        exact ⟨v, hv, Evt.add c ((e.and h2).mono fun k hk => hk.1.trans hk.2)⟩
      · exact e
  exact key n 0 s (by omega) h0
theorem evt_fold {α σ ρ : Type} (xs : List α) (z : α) (g : σ → α → σ) (out : σ → ρ) (I : Nat → σ → Prop) (L : Nat → σ → Int → Option ρ)
    (step : ∀ k i s, i < xs.length → I i s → I (i + 1) (g s (xs.getD i z)) ∧ L (k + 1) s (i : Int) = L k (g s (xs.getD i z)) ((i : Int) + 1))
    (fin : ∀ k s, I xs.length s → L (k + 1) s (xs.length : Int) = some (out s)) (s : σ) (h0 : I 0 s) : (Evt fun k => L k s 0 = some (out (xs.foldl g s))) ∧ I xs.length (xs.foldl g s) := by
  have key : ∀ d i s, i + d = xs.length → I i s → (Evt fun k => L k s (i : Int) = some (out ((xs.drop i).foldl g s))) ∧ I xs.length ((xs.drop i).foldl g s) := by
    intro d
    induction d with
    | zero =>
      intro i s hi h
      obtain rfl : i = xs.length := by omega
      rw [List.drop_of_length_le (Nat.le_refl _)]
      exact ⟨Evt.succ (Evt.all fun k => fin k s h), h⟩
    | succ d ih =>
      intro i s hi h
      have hlt : i < xs.length := by omega
      rw [getD_drop xs z i hlt, List.foldl_cons]
      have h1 := fun k => step k i s hlt h
      obtain ⟨h2, h3⟩ := ih (i + 1) _ (by omega) (h1 0).1
      rw [show ((i + 1 : Nat) : Int) = (i : Int) + 1 from by omega] at h2
      exact ⟨Evt.succ (h2.mono fun k hk => (h1 k).2.trans hk), h3⟩
  exact key xs.length 0 s (by omega) h0
def chOk (c : S61) : Bool := decide (0 ≤ c.f0 ∧ c.f0 ≤ 10)
def chancesB (l : List S61) : Bool := l.all chOk && decide (l.length ≤ 40)
theorem chancesB_len {l : List S61} (h : chancesB l = true) : l.length ≤ 40 := by
  unfold chancesB at h
  simp only [Bool.and_eq_true, decide_eq_true_eq] at h
  exact h.2
theorem chancesB_at {l : List S61} (h : chancesB l = true) (i : Nat) (hi : i < l.length) : 0 ≤ (l.getD i z61).f0 ∧ (l.getD i z61).f0 ≤ 10 := by
  unfold chancesB at h
  simp only [Bool.and_eq_true, decide_eq_true_eq] at h
  rw [getD_lt _ _ _ hi]
  have := List.all_eq_true.1 h.1 _ (List.getElem_mem hi)
  unfold chOk at this
  exact of_decide_eq_true this
theorem rd_ch (l : List S61) (i : Nat) : rd_T61 l (i : Int) = l.getD i z61 := by unfold rd_T61; rw [Int.toNat_natCast]
theorem IndexFunc_ev (l : List S61) (hl : l.length ≤ 4503599627370496) : ∃ r, decide (r ≥ (0 : Int)) = !(l.all chOk) ∧ Evt fun k => slices_IndexFunc_Chance.f k l = some r := by
  unfold slices_IndexFunc_Chance.f
  refine evt_loop_ex l.length (fun k (_ : Unit) i => slices_IndexFunc_Chance.l0 k l (l.length : Int) i) _ (fun i _ => (l.drop i).all chOk = l.all chOk) ?_ ?_ () rfl
  · intro i s hi h
    rw [getD_drop l z61 i hi, List.all_cons] at h
    by_cases hp : 0 ≤ (l.getD i z61).f0 ∧ (l.getD i z61).f0 ≤ 10
    · refine .inl ⟨(), by rw [← h, chOk, decide_eq_true hp, Bool.true_and], 1, Evt.all fun k => ?_⟩
      show slices_IndexFunc_Chance.l0 (k + 1) l (l.length : Int) (i : Int) = _
      simp only [slices_IndexFunc_Chance.l0, impl_IsValidChances_1.f, within_ok, Option.bind_some, rd_ch, decide_eq_true hp, Bool.not_true]
      rw [if_pos (by omega), if_pos (by omega), if_pos (by omega), if_neg (by simp), wrap_id (by omega) (by omega)]
    · refine .inr ⟨(i : Int), ?_, Evt.succ (Evt.all fun k => ?_)⟩
      · rw [← h, chOk, decide_eq_false hp, Bool.false_and]; simp
      · show slices_IndexFunc_Chance.l0 (k + 1) l (l.length : Int) (i : Int) = _
        simp only [slices_IndexFunc_Chance.l0, impl_IsValidChances_1.f, within_ok, Option.bind_some, rd_ch, decide_eq_false hp, Bool.not_false]
        rw [if_pos (by omega), if_pos (by omega), if_pos (by omega), if_pos trivial]
  · intro s h
    rw [List.drop_of_length_le (Nat.le_refl _)] at h
    refine ⟨-1, by rw [← h]; simp, Evt.succ (Evt.all fun k => ?_)⟩
    show slices_IndexFunc_Chance.l0 (k + 1) l (l.length : Int) (l.length : Int) = _
    simp only [slices_IndexFunc_Chance.l0]
    rw [if_neg (by omega)]
theorem IsValidChances_ev (l : List S61) (hl : l.length ≤ 4503599627370496) : Evt fun k => impl_IsValidChances.f k l = some (chancesB l) := by
  obtain ⟨r, hr, e⟩ := IndexFunc_ev l hl
  refine e.mono fun k hk => ?_
  simp only [impl_IsValidChances.f, slices_ContainsFunc_Chance.f, hk, Option.bind_some, hr, Bool.not_not, chancesB]
  by_cases h : l.length ≤ 40
  · rw [if_pos (by omega), decide_eq_true h, Bool.and_true]
  · rw [if_neg (by omega), decide_eq_false h, Bool.and_false]
theorem l21Good_ev (l : List S61) (hl : l.length ≤ 4503599627370496) : Evt fun k => spec_l21Good.f k l = some (chancesB l) := by
  unfold spec_l21Good.f
  refine evt_loop0 l.length (fun k (_ : Unit) i => spec_l21Good.l0 k l i) (chancesB l) (fun i _ => (l.drop i).all chOk = l.all chOk) ?_ ?_ () rfl
  · intro i s hi h
    rw [getD_drop l z61 i hi, List.all_cons] at h
    by_cases hp : 0 ≤ (l.getD i z61).f0 ∧ (l.getD i z61).f0 ≤ 10
    · refine .inl ⟨(), by rw [← h, chOk, decide_eq_true hp, Bool.true_and], 1, Evt.all fun k => ?_⟩
      show spec_l21Good.l0 (k + 1) l (i : Int) = _
      simp only [spec_l21Good.l0, l1In_ok, Option.bind_some, rd_ch, decide_eq_true hp, if_true]
      rw [if_pos (by omega), if_pos (by omega), wrap_id (by omega) (by omega)]
    · refine .inr (Evt.succ (Evt.all fun k => ?_))
      show spec_l21Good.l0 (k + 1) l (i : Int) = _
      simp only [spec_l21Good.l0, l1In_ok, Option.bind_some, rd_ch, decide_eq_false hp]
      rw [if_pos (by omega), if_pos (by omega), if_neg (by simp), chancesB, ← h, chOk, decide_eq_false hp, Bool.false_and, Bool.false_and]
  · intro s h
    rw [List.drop_of_length_le (Nat.le_refl _)] at h
    refine Evt.succ (Evt.all fun k => ?_)
    show spec_l21Good.l0 (k + 1) l (l.length : Int) = _
    simp only [spec_l21Good.l0]
    rw [if_neg (by omega), chancesB, ← h, List.all_nil, Bool.true_and]
    exact congrArg some (decide_eq_decide.2 (by omega))
theorem divisorOf_ok : ∀ (n m k : Nat), n < k → impl_divisorOf.f k (m : Int) (n : Int) = some ((Nat.gcd m n : Nat) : Int) := by
  have key : ∀ (d n m k : Nat), n ≤ d → n < k → impl_divisorOf.l0 k (m : Int) (n : Int) = some ((Nat.gcd m n : Nat) : Int) := by
    intro d
    induction d with
    | zero =>
      intro n m k hn hk
      obtain ⟨k, rfl⟩ : ∃ j, k = j + 1 := ⟨k - 1, by omega⟩
      obtain rfl : n = 0 := by omega
      simp only [impl_divisorOf.l0]
      rw [if_neg (by omega), Nat.gcd_zero_right]
    | succ d ih =>
      intro n m k hn hk
      obtain ⟨k, rfl⟩ : ∃ j, k = j + 1 := ⟨k - 1, by omega⟩
      simp only [impl_divisorOf.l0]
      by_cases h0 : n = 0
      · subst h0
        rw [if_neg (by omega), Nat.gcd_zero_right]
      · have hlt := Nat.mod_lt m (Nat.pos_of_ne_zero h0)
        rw [if_pos (by omega), if_neg (by omega), ← Int.ofNat_tmod, ih (m % n) n k (by omega) (by omega), Nat.gcd_comm n (m % n), ← Nat.gcd_rec n m, Nat.gcd_comm]
  intro n m k hk
  exact key n n m k (Nat.le_refl _) hk
theorem absOf_ok (a : Int) (h : -9223372036854775808 < a) (h2 : a ≤ 9223372036854775807) : impl_absOf.f a = some ((a.natAbs : Nat) : Int) := by
  unfold impl_absOf.f
  split
  · rw [wrap_id (by omega) (by omega)]; congr 1; omega
  · congr 1; omega
def ratioV (num den : Int) : Int × Int × Bool := if den = 0 then (0, 0, false) else (wrap64 (Int.tdiv num (Nat.gcd num.natAbs den.natAbs : Nat)), wrap64 (Int.tdiv den (Nat.gcd num.natAbs den.natAbs : Nat)), true)
theorem ratioOf_ok (num den : Int) (h : -9223372036854775808 < num) (h2 : num ≤ 9223372036854775807) (hd : 0 ≤ den) : ∀ k, num.natAbs < k → impl_ratioOf.f k num den = some (ratioV num den) := by
  intro k hk
  unfold impl_ratioOf.f ratioV
  by_cases h0 : den = 0
  · rw [if_pos h0, if_pos h0]
  · have hg := Nat.gcd_pos_of_pos_right num.natAbs (n := den.natAbs) (by omega)
    have hc := divisorOf_ok num.natAbs den.natAbs k hk
    rw [show ((den.natAbs : Nat) : Int) = den from by omega, Nat.gcd_comm] at hc
    rw [if_neg h0, if_neg h0, if_neg (by omega), absOf_ok num h h2, Option.bind_some, hc, Option.bind_some, if_neg (by omega)]
theorem l1MostNeg_ok (a : Int) (h : -9223372036854775808 < a) (h2 : a ≤ 9223372036854775807) : spec_l1Most.f a (wrap64 (-a)) = some ((a.natAbs : Nat) : Int) := by
  unfold spec_l1Most.f
  rw [wrap_id (by omega) (by omega)]
  split <;> congr 1 <;> omega
theorem l21Common0_ok : ∀ (d n m k : Nat), n ≤ d → n < k → spec_l21Common.l0 k (m : Int) (n : Int) = some ((Nat.gcd m n : Nat) : Int) := by
  intro d
  induction d with
  | zero =>
    intro n m k hn hk
    obtain ⟨k, rfl⟩ : ∃ j, k = j + 1 := ⟨k - 1, by omega⟩
    obtain rfl : n = 0 := by omega
    simp only [spec_l21Common.l0]
    rw [if_pos (by omega), Nat.gcd_zero_right]
  | succ d ih =>
    intro n m k hn hk
    obtain ⟨k, rfl⟩ : ∃ j, k = j + 1 := ⟨k - 1, by omega⟩
    simp only [spec_l21Common.l0]
    by_cases h0 : n = 0
    · subst h0
      rw [if_pos (by omega), Nat.gcd_zero_right]
    · have hlt := Nat.mod_lt m (Nat.pos_of_ne_zero h0)
      rw [if_neg (by omega), ← Int.ofNat_tmod, ih (m % n) n k (by omega) (by omega), Nat.gcd_comm n (m % n), ← Nat.gcd_rec n m, Nat.gcd_comm]
theorem l21Reduce_ok (num den : Int) (h : -9223372036854775808 < num) (h2 : num ≤ 9223372036854775807) (g : -9223372036854775808 < den) (g2 : den ≤ 9223372036854775807) (h0 : den ≠ 0) :
    ∀ k, den.natAbs < k → spec_l21Reduce.f k num den = some (wrap64 (Int.tdiv num (Nat.gcd num.natAbs den.natAbs : Nat)), wrap64 (Int.tdiv den (Nat.gcd num.natAbs den.natAbs : Nat))) := by
  intro k hk
  have hg := Nat.gcd_pos_of_pos_right num.natAbs (n := den.natAbs) (by omega)
  unfold spec_l21Reduce.f spec_l21Common.f
  rw [l1MostNeg_ok num h h2, Option.bind_some, l1MostNeg_ok den g g2, Option.bind_some, l21Common0_ok _ _ _ k (Nat.le_refl _) hk, Option.bind_some, if_neg (by omega)]
def stepH (s : Int) (c : S61) : Int := if c.f1 = true then s + 1 else s
def hapV (l : List S61) : Int := l.foldl stepH 0
theorem happened_ev (l : List S61) (hl : l.length ≤ 1000000000) : (Evt fun k => impl_happened.f k l = some (hapV l)) ∧ (0 ≤ hapV l ∧ hapV l ≤ (l.length : Int)) := by
  unfold impl_happened.f hapV
  refine evt_fold l z61 stepH id (fun i s => 0 ≤ s ∧ s ≤ (i : Int)) (fun k s i => impl_happened.l0 k s l (l.length : Int) i) ?_ ?_ 0 ⟨by omega, by omega⟩
  · rintro k i s hi ⟨h0, h1⟩
    refine ⟨by unfold stepH; split <;> omega, ?_⟩
    simp only [impl_happened.l0, rd_ch]
    rw [if_pos (by omega), if_pos (by omega), if_pos (by omega), wrap_id (x := (i : Int) + 1) (by omega) (by omega), wrap_id (x := s + 1) (by omega) (by omega)]
    unfold stepH
    split <;> rfl
  · rintro k s ⟨h0, h1⟩
    simp only [impl_happened.l0]
    rw [if_neg (by omega)]; rfl
theorem l21Happened_ev (l : List S61) (hl : l.length ≤ 1000000000) : Evt fun k => spec_l21Happened.f k l = some (hapV l) := by
  unfold spec_l21Happened.f hapV
  refine (evt_fold l z61 stepH id (fun i s => 0 ≤ s ∧ s ≤ (i : Int)) (fun k s i => spec_l21Happened.l0 k l s i) ?_ ?_ 0 ⟨by omega, by omega⟩).1
  · rintro k i s hi ⟨h0, h1⟩
    refine ⟨by unfold stepH; split <;> omega, ?_⟩
    simp only [spec_l21Happened.l0, rd_ch]
    rw [if_pos (by omega), if_pos (by omega), wrap_id (x := (i : Int) + 1) (by omega) (by omega), wrap_id (x := s + 1) (by omega) (by omega)]
    unfold stepH
    split <;> rfl
  · rintro k s ⟨h0, h1⟩
    simp only [spec_l21Happened.l0]
    rw [if_neg (by omega)]; rfl
def sqC (c : S61) : Int := if c.f1 = true then (c.f0 - 10) * (c.f0 - 10) else c.f0 * c.f0
def sqV (l : List S61) : Int := l.foldl (fun s c => s + sqC c) 0
theorem mul_self_le {x B : Int} (h0 : -B ≤ x) (h1 : x ≤ B) : 0 ≤ x * x ∧ x * x ≤ B * B := by
  rcases Int.le_total 0 x with h | h
  · exact ⟨Int.mul_nonneg h h, Int.mul_le_mul h1 h1 h (Int.le_trans h h1)⟩
  · have e : x * x = (-x) * (-x) := by rw [Int.neg_mul_neg]
    rw [e]
    exact ⟨Int.mul_nonneg (by omega) (by omega), Int.mul_le_mul (by omega) (by omega) (by omega) (by omega)⟩
theorem sqC_le (c : S61) (h : 0 ≤ c.f0 ∧ c.f0 ≤ 10) : 0 ≤ sqC c ∧ sqC c ≤ 100 := by
  unfold sqC
  split
  · have := mul_self_le (x := c.f0 - 10) (B := 10) (by omega) (by omega); omega
  · have := mul_self_le (x := c.f0) (B := 10) (by omega) (by omega); omega
theorem squareSum_ev (l : List S61) (hc : chancesB l = true) : (Evt fun k => impl_squareSum.f k l = some (sqV l)) ∧ (0 ≤ sqV l ∧ sqV l ≤ 100 * (l.length : Int)) := by
  have hat := chancesB_at hc
  have hlen := chancesB_len hc
  unfold impl_squareSum.f sqV
  refine evt_fold l z61 (fun s c => s + sqC c) id (fun i s => 0 ≤ s ∧ s ≤ 100 * (i : Int)) (fun k s i => impl_squareSum.l0 k s l (l.length : Int) i) ?_ ?_ 0 ⟨by omega, by omega⟩
  · rintro k i s hi ⟨h0, h1⟩
    have hb := hat i hi
    have hs := sqC_le _ hb
    refine ⟨by omega, ?_⟩
    simp only [impl_squareSum.l0, rd_ch]
    rw [if_pos (by omega), if_pos (by omega), if_pos (by omega), wrap_id (x := (i : Int) + 1) (by omega) (by omega), wrap_id (x := (l.getD i z61).f0 - 10) (by omega) (by omega)]
    unfold sqC at hs ⊢
    split
    · rename_i hf
      rw [if_pos hf] at hs
      rw [wrap_id (x := ((l.getD i z61).f0 - 10) * ((l.getD i z61).f0 - 10)) (by omega) (by omega), wrap_id (by omega) (by omega)]
    · rename_i hf
      rw [if_neg hf] at hs
      rw [wrap_id (x := (l.getD i z61).f0 * (l.getD i z61).f0) (by omega) (by omega), wrap_id (by omega) (by omega)]
  · rintro k s ⟨h0, h1⟩
    simp only [impl_squareSum.l0]
    rw [if_neg (by omega)]; rfl
theorem l21Square_ev (l : List S61) (hc : chancesB l = true) : Evt fun k => spec_l21Square.f k l = some (sqV l) := by
  have hat := chancesB_at hc
  have hlen := chancesB_len hc
  unfold spec_l21Square.f sqV
  refine (evt_fold l z61 (fun s c => s + sqC c) id (fun i s => 0 ≤ s ∧ s ≤ 100 * (i : Int)) (fun k s i => spec_l21Square.l0 k l s i) ?_ ?_ 0 ⟨by omega, by omega⟩).1
  · rintro k i s hi ⟨h0, h1⟩
    have hb := hat i hi
    have hs := sqC_le _ hb
    refine ⟨by omega, ?_⟩
    simp only [spec_l21Square.l0, rd_ch]
    rw [if_pos (by omega), if_pos (by omega), wrap_id (x := (i : Int) + 1) (by omega) (by omega), wrap_id (x := (l.getD i z61).f0 - 10) (by omega) (by omega)]
    unfold sqC at hs ⊢
    split
    · rename_i hf
      rw [if_pos hf] at hs
      rw [wrap_id (x := ((l.getD i z61).f0 - 10) * ((l.getD i z61).f0 - 10)) (by omega) (by omega), wrap_id (by omega) (by omega)]
    · rename_i hf
      rw [if_neg hf] at hs
      rw [wrap_id (x := (l.getD i z61).f0 * (l.getD i z61).f0) (by omega) (by omega), wrap_id (by omega) (by omega)]
  · rintro k s ⟨h0, h1⟩
    simp only [spec_l21Square.l0]
    rw [if_neg (by omega)]; rfl
theorem fraction_ev (num den : Int) (h : -9223372036854775808 < num) (h2 : num ≤ 9223372036854775807) (hd : 0 ≤ den) : Evt fun k => impl_fraction.f k num den = some (ratioV num den) := by
  refine (Evt.above _ (ratioOf_ok num den h h2 hd)).mono fun k hk => ?_
  simp only [impl_fraction.f, hk, Option.bind_some]
theorem l21Reduce_ev (num den : Int) (h : -9223372036854775808 < num) (h2 : num ≤ 9223372036854775807) (g : 0 < den) (g2 : den ≤ 9223372036854775807) :
    Evt fun k => spec_l21Reduce.f k num den = some ((ratioV num den).1, (ratioV num den).2.1) := by
  refine (Evt.above _ (l21Reduce_ok num den h h2 (by omega) g2 (by omega))).mono fun k hk => ?_
  rw [hk, ratioV, if_neg (by omega)]
theorem ratioV_pos {num den : Int} (h : 0 < den) : (ratioV num den).2.2 = true := by rw [ratioV, if_neg (by omega)]
theorem mul_le_big {x y A B : Int} (h0 : 0 ≤ x) (h1 : x ≤ A) (g0 : 0 ≤ y) (g1 : y ≤ B) : 0 ≤ x * y ∧ x * y ≤ A * B :=
  ⟨Int.mul_nonneg h0 g0, Int.mul_le_mul h1 g1 g0 (Int.le_trans h0 h1)⟩
theorem pair_SkillScore (l : List S61) (hl : l.length ≤ 1048576) : ∃ v, (Evt fun k => impl_SkillScore.f k l = some v) ∧ (Evt fun k => spec_SkillScore.f k l = some v) := by
  have c1 := IsValidChances_ev l (by omega)
  have c2 := l21Good_ev l (by omega)
  obtain ⟨f1, hb⟩ := happened_ev l (by omega)
  have f2 := l21Happened_ev l (by omega)
  cases hc : chancesB l with
  | false =>
    refine ⟨(0, 0, false), (Evt.pos.and c1).mono ?_, (Evt.pos.and (c2.and f2)).mono ?_⟩
    · rintro k ⟨⟨m, rfl⟩, hk⟩; simp [impl_SkillScore.f, hk, hc]
    · rintro k ⟨⟨m, rfl⟩, hk, h2⟩; simp [spec_SkillScore.f, spec_SkillScore.j0, hk, hc, h2]
  | true =>
    have hlen := chancesB_len hc
    obtain ⟨q1, qb⟩ := squareSum_ev l hc
    have q2 := l21Square_ev l hc
    obtain ⟨H, hH⟩ : ∃ H, H = hapV l := ⟨_, rfl⟩
    obtain ⟨n, hn⟩ : ∃ n : Int, n = (l.length : Int) := ⟨_, rfl⟩
    obtain ⟨Q, hQ⟩ : ∃ Q, Q = sqV l := ⟨_, rfl⟩
    rw [← hH] at f1 f2
    rw [← hQ] at q1 q2
    have b1 := mul_le_big (x := 100 * H) (y := n - H) (A := 4000) (B := 40) (by omega) (by omega) (by omega) (by omega)
    have b2 := mul_le_big (x := Q) (y := n) (A := 4000) (B := 40) (by omega) (by omega) (by omega) (by omega)
    have w1 : wrap64 (100 * H) = 100 * H := wrap_id (by omega) (by omega)
    have w2 : wrap64 (n - H) = n - H := wrap_id (by omega) (by omega)
    have w3 : wrap64 (100 * H * (n - H)) = 100 * H * (n - H) := wrap_id (by omega) (by omega)
    have w4 : wrap64 (Q * n) = Q * n := wrap_id (by omega) (by omega)
    obtain ⟨E, hE⟩ : ∃ E, E = 100 * H * (n - H) := ⟨_, rfl⟩
    obtain ⟨F, hF⟩ : ∃ F, F = Q * n := ⟨_, rfl⟩
    rw [← hE] at b1 w3
    rw [← hF] at b2 w4
    have w5 : wrap64 (E - F) = E - F := wrap_id (by omega) (by omega)
    have g1 := fraction_ev (E - F) E (by omega) (by omega) (by omega)
    refine ⟨ratioV (E - F) E, (c1.and (f1.and (q1.and g1))).mono ?_, Evt.succ ?_⟩
    · rintro k ⟨h1, h2, h3, h4⟩
      simp only [impl_SkillScore.f, h1, hc, Option.bind_some, if_true, h2, h3, ← hn, w1, w2, ← hE, ← hF, w3, w4, w5, h4]
    · by_cases h0 : H = 0 ∨ H = n
      · have hE0 : E = 0 := by
          rw [hE]
          rcases h0 with h | h
          · rw [h]; simp
          · rw [h]; simp
        refine ((Evt.shift c2).and (Evt.shift f2)).mono ?_
        rintro k ⟨h1, h2⟩
        rw [ratioV, if_pos hE0]
        by_cases h3 : H = 0
        · simp only [spec_SkillScore.f, spec_SkillScore.j0, h1, h2, hc, Option.bind_some, if_true, if_pos h3]
        · have h4 : H = n := h0.resolve_left h3
          simp only [spec_SkillScore.f, spec_SkillScore.j0, h1, h2, hc, Option.bind_some, if_true, if_neg h3, ← hn]
          rw [if_pos (by simpa using h4)]
      · have hEp : 0 < E := by
          rw [hE]
          exact Int.mul_pos (by omega) (by omega)
        have g2 := l21Reduce_ev (E - F) E (by omega) (by omega) hEp (by omega)
        refine ((Evt.shift c2).and ((Evt.shift f2).and (q2.and g2))).mono ?_
        rintro k ⟨h1, h2, h3, h4⟩
        simp only [spec_SkillScore.f, spec_SkillScore.j0, h1, h2, hc, Option.bind_some, if_true, if_neg (show ¬ H = 0 by omega), ← hn, h3, w1, w2, ← hE, ← hF, w3, w4, w5, h4]
        rw [if_neg (by simp; omega), ← ratioV_pos (num := E - F) hEp]
theorem FnExactSkillScore : FnExactSkillScorePure := by
  intro l0 hm0 hw0
  have q0 := szChanceS_ok l0 1048576 (by omega) hm0
  by_cases hl0 : (1048576 - (l0.length : Int)) < 0
  · exact ⟨0, by unfold laws_FnExactSkillScore.f; rw [q0, if_pos hl0, Option.bind_some, if_pos (by omega)]⟩
  rw [if_neg hl0] at q0
  have hn0 : l0.length ≤ 1048576 := by omega
  obtain ⟨⟨g0, g1, g2⟩, hi, hs⟩ := pair_SkillScore (l0.map c_Chance) (by rw [List.length_map]; exact hn0)
  obtain ⟨K, hK⟩ := ((hi).and ((hs).and ((toChanceS_ev l0 hn0).and (eqChanceS_self (l0.map c_Chance) (by rw [List.length_map]; omega))))).at
  have e0 := fun j => (hK j).1
  have e1 := fun j => (hK j).2.1
  have e2 := fun j => (hK j).2.2.1
  have e3 := fun j => (hK j).2.2.2
  refine ⟨K + 6, ?_⟩
  simp only [laws_FnExactSkillScore.f, q0, if_neg hl0, Option.bind_some, e0, e1, e2, e3, if_true]
  simp [laws_FnExactSkillScore.j0, e0, e1, e2, e3]
end Go.Proofs.Ytkiihcgngdepaaa.XFnExactSkillScore.Pure
