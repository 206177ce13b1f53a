/-
  The pure statement of the law FnExactGapsOf: what its printed function answers is 'true' for all numbers and lists of its kinds. Conditions: the kinds' own bounds, as the statement lays them.
-/
import Derived.Test.YtppjagpjlcbhpaaStmFnExactGapsOf
import Derived.DataShut
namespace Go.Proofs.Ytppjagpjlcbhpaa.XFnExactGapsOf.Pure
open Go.RowKit Go.Proofs.Ytppjagpjlcbhpaa.XFnExactGapsOf Go.Proofs.YtppjagpjlcbhpaaW.PrintWords Go.Proofs.YtppjagpjlcbhpaaW.PrintLast Go.Proofs.YtppjagpjlcbhpaaW.PrintMore
set_option linter.unusedVariables false
set_option linter.unusedSimpArgs false
theorem wrap_id {x : Int} (h0 : -9223372036854775808 ≤ x) (h1 : x ≤ 9223372036854775807) : wrap64 x = x := by unfold wrap64; omega
theorem rd_nat (xs : List Int) (i : Nat) : rd xs (i : Int) = xs.getD i 0 := by simp [rd]
theorem for_loop {σ ρ : Type} (K n : Nat) (L : Nat → σ → Int → Option ρ) (v : ρ) (Inv : Nat → σ → Prop)
    (step : ∀ k i s, K ≤ k → i < n → Inv i s → (∃ s', Inv (i + 1) s' ∧ L (k + 1) s (i : Int) = L k s' ((i : Int) + 1)) ∨ L (k + 1) s (i : Int) = some v)
    (fin : ∀ k s, K ≤ k → Inv n s → L (k + 1) s (n : Int) = some v) :
    ∀ k s, Inv 0 s → n + K < k → L k s 0 = some v := by
  have key : ∀ d k i s, i + d = n → Inv i s → d + K < k → L k s (i : Int) = some v := by
    intro d
    induction d with
    | zero =>
      intro k i s hi h hk
      obtain ⟨k, rfl⟩ : ∃ m, k = m + 1 := ⟨k - 1, by omega⟩
      obtain rfl : i = n := by omega
      exact fin k s (by omega) h
    | succ d ih =>
      intro k i s hi h hk
      obtain ⟨k, rfl⟩ : ∃ m, k = m + 1 := ⟨k - 1, by omega⟩
      rcases step k i s (by omega) (by omega) h with ⟨s', h', e⟩ | e
      · rw [e]
        have := ih k (i + 1) s' (by omega) h' (by omega)
        rw [show ((i + 1 : Nat) : Int) = (i : Int) + 1 from by omega] at this
        exact this
      · exact e
  intro k s h hk
  exact key n k 0 s (by omega) h hk
def Evt (P : Nat → Prop) : Prop := ∃ K, ∀ k, K ≤ k → P k
theorem Evt.all {P : Nat → Prop} (h : ∀ k, P k) : Evt P := ⟨0, fun k _ => h k⟩
theorem Evt.above {P : Nat → Prop} (K : Nat) (h : ∀ k, K < k → P k) : Evt P := ⟨K + 1, fun k hk => h k hk⟩
theorem Evt.and {P Q : Nat → Prop} (h : Evt P) (g : Evt Q) : Evt fun k => P k ∧ Q k := by
  obtain ⟨K, h⟩ := h
  obtain ⟨M, g⟩ := g
  exact ⟨K + M, fun k hk => ⟨h k (by omega), g k (by omega)⟩⟩
theorem Evt.mono {P Q : Nat → Prop} (h : Evt P) (g : ∀ k, P k → Q k) : Evt Q := by
  obtain ⟨K, h⟩ := h
  exact ⟨K, fun k hk => g k (h k hk)⟩
theorem Evt.succ {Q : Nat → Prop} (h : Evt fun k => Q (k + 1)) : Evt Q := by
  obtain ⟨K, h⟩ := h
  refine ⟨K + 1, fun k hk => ?_⟩
  obtain ⟨m, rfl⟩ : ∃ m, k = m + 1 := ⟨k - 1, by omega⟩
  exact h m (by omega)
theorem Evt.add {Q : Nat → Prop} (c : Nat) (h : Evt fun k => Q (k + c)) : Evt Q := by
  obtain ⟨K, h⟩ := h
  refine ⟨K + c, fun k hk => ?_⟩
  obtain ⟨m, rfl⟩ : ∃ m, k = m + c := ⟨k - c, by omega⟩
  exact h m (by omega)
theorem Evt.at {P : Nat → Prop} (h : Evt P) : ∃ K, ∀ j, P (K + j) := by
  obtain ⟨K, h⟩ := h
  exact ⟨K, fun j => h _ (by omega)⟩
theorem evt_loop {σ ρ : Type} (n : Nat) (L : Nat → σ → Int → Option ρ) (v : ρ) (Inv : Nat → σ → Prop)
    (step : ∀ i s, i < n → Inv i s → (∃ s', Inv (i + 1) s' ∧ ∃ c, Evt fun k => L (k + c) s (i : Int) = L k s' ((i : Int) + 1)) ∨ Evt fun k => L k s (i : Int) = some v)
    (fin : ∀ s, Inv n s → Evt fun k => L k s (n : Int) = some v) :
    ∀ i s, i ≤ n → Inv i s → Evt fun k => L k s (i : Int) = some v := by
  have key : ∀ d i s, i + d = n → Inv i s → Evt fun k => L k s (i : Int) = some v := by
    intro d
    induction d with
    | zero =>
      intro i s hi h
      obtain rfl : i = n := by omega
      exact fin s h
    | succ d ih =>
      intro i s hi h
      rcases step i s (by omega) h with ⟨s', h', c, e⟩ | e
      · have h2 := ih (i + 1) s' (by omega) h'
        rw [show ((i + 1 : Nat) : Int) = (i : Int) + 1 from by omega] at h2
        exact Evt.add c ((e.and h2).mono fun k hk => hk.1.trans hk.2)
      · exact e
  intro i s hi h
  exact key (n - i) i s (by omega) h
theorem evt_loop0 {σ ρ : Type} (n : Nat) (L : Nat → σ → Int → Option ρ) (v : ρ) (Inv : Nat → σ → Prop)
    (step : ∀ i s, i < n → Inv i s → (∃ s', Inv (i + 1) s' ∧ ∃ c, Evt fun k => L (k + c) s (i : Int) = L k s' ((i : Int) + 1)) ∨ Evt fun k => L k s (i : Int) = some v)
    (fin : ∀ s, Inv n s → Evt fun k => L k s (n : Int) = some v) (s : σ) (h0 : Inv 0 s) : Evt fun k => L k s 0 = some v :=
  evt_loop n L v Inv step fin 0 s (Nat.zero_le _) h0
theorem getD_lt {α : Type} (xs : List α) (z : α) (i : Nat) (h : i < xs.length) : xs.getD i z = xs[i] := by
  rw [List.getD_eq_getElem?_getD, List.getElem?_eq_getElem h]; rfl
theorem getD_set_self {α : Type} (xs : List α) (z v : α) (i : Nat) (h : i < xs.length) : (xs.set i v).getD i z = v := by
  rw [List.getD_eq_getElem?_getD, List.getElem?_set_self h]; rfl
theorem getD_set_ne {α : Type} (xs : List α) (z v : α) (i j : Nat) (h : i ≠ j) : (xs.set i v).getD j z = xs.getD j z := by
  rw [List.getD_eq_getElem?_getD, List.getElem?_set_ne h, List.getD_eq_getElem?_getD]
theorem getD_map {α β : Type} (f : α → β) (xs : List α) (z : α) (y : β) (i : Nat) (h : i < xs.length) : (xs.map f).getD i y = f (xs.getD i z) := by
  rw [getD_lt _ _ _ (by simpa using h), getD_lt _ _ _ h, List.getElem_map]
theorem list_ext_getD {α : Type} (xs ys : List α) (z : α) (h : xs.length = ys.length) (e : ∀ j, j < xs.length → xs.getD j z = ys.getD j z) : xs = ys := by
  apply List.ext_getElem h
  intro j h1 h2
  have := e j h1
  rwa [getD_lt _ _ _ h1, getD_lt _ _ _ h2] at this
def c_Segment (x : S68) : S66 := ⟨x.f0, x.f1, x.f2⟩
theorem toSegmentS_ev (l : List S68) (hl : l.length ≤ 1048576) : Evt fun k => laws_toSegmentS.f k l = some (l.map c_Segment) := by
  unfold laws_toSegmentS.f
  simp only [if_pos (show 0 ≤ (l.length : Int) by omega), if_pos (show ((l.length : Int) : Int).toNat ≤ 11728124029610 by omega)]
  refine evt_loop0 l.length (fun k s i => laws_toSegmentS.l0 k l s i) (l.map c_Segment) (fun i s => s.length = l.length ∧ ∀ j, j < i → s.getD j z66 = (l.map c_Segment).getD j z66) ?_ ?_ _ ⟨by simp, fun j hj => by omega⟩
  · rintro i s hi ⟨h1, h2⟩
    refine .inl ⟨s.set i ((l.map c_Segment).getD i z66), ⟨by simpa using h1, fun j hj => ?_⟩, 1, Evt.all fun k => ?_⟩
    · by_cases e : j = i
      · subst e; rw [getD_set_self _ _ _ _ (by omega)]
      · rw [getD_set_ne _ _ _ _ _ (by omega)]; exact h2 j (by omega)
    · show laws_toSegmentS.l0 (k + 1) l s (i : Int) = _
      simp only [laws_toSegmentS.l0, laws_toSegment.f, Option.bind_some]
      rw [if_pos (by omega), if_pos (by omega), if_pos (by omega), wrap_id (by omega) (by omega), Int.toNat_natCast, getD_map _ _ z68 _ _ hi]
      rfl
  · rintro s ⟨h1, h2⟩
    refine Evt.succ (Evt.all fun k => ?_)
    show laws_toSegmentS.l0 (k + 1) l s (l.length : Int) = _
    simp only [laws_toSegmentS.l0]
    rw [if_neg (by omega)]
    exact congrArg some (list_ext_getD _ _ z66 (by simpa using h1) (fun j hj => h2 j (by omega)))
theorem eqSegmentS_self (l : List S66) (hl : l.length ≤ 4503599627370496) : Evt fun k => laws_eqSegmentS.f k l l = some true := by
  unfold laws_eqSegmentS.f
  simp only [if_true]
  refine evt_loop0 l.length (fun k (_ : Unit) i => laws_eqSegmentS.l0 k l l i) true (fun _ _ => True) ?_ ?_ () trivial
  · intro i s hi _
    refine .inl ⟨(), trivial, 1, Evt.all fun k => ?_⟩
    show laws_eqSegmentS.l0 (k + 1) l l (i : Int) = _
    simp only [laws_eqSegmentS.l0, laws_eqSegment.f]
    rw [if_pos (by omega), if_pos (by omega), if_pos (by omega), wrap_id (by omega) (by omega)]
    simp
  · intro s _
    refine Evt.succ (Evt.all fun k => ?_)
    show laws_eqSegmentS.l0 (k + 1) l l (l.length : Int) = _
    simp only [laws_eqSegmentS.l0]
    rw [if_neg (by omega)]
theorem szSegmentS_ok (l : List S68) (a : Int) (ha : 0 ≤ a ∧ a ≤ 1048576) (hl : l.length ≤ maxLen) : laws_szSegmentS.f l a = some (if a - (l.length : Int) < 0 then -1 else a - (l.length : Int)) := by
  unfold maxLen at hl
  unfold laws_szSegmentS.f
  rw [wrap_id (by omega) (by omega)]
  split <;> rfl
def mk_Segment (a : Int) (j : Nat) : S66 := ⟨a + 3 * (j : Int), a + 3 * (j : Int) + 1, a + 3 * (j : Int) + 1 + 1⟩
def marked_Segment (a : Int) (n : Nat) : List S66 := (List.range n).map (mk_Segment a)
theorem marked_Segment_len (a : Int) (n : Nat) : (marked_Segment a n).length = n := by simp [marked_Segment]
theorem marked_Segment_get (a : Int) (n j : Nat) (h : j < n) : (marked_Segment a n).getD j z66 = mk_Segment a j := by
  rw [getD_lt _ _ _ (by simpa [marked_Segment] using h)]; simp [marked_Segment]
theorem markSegmentS_ev (l : List S66) (a : Int) (ha : 0 ≤ a ∧ a ≤ 1000000000000) (hl : l.length ≤ 1000000000000) : Evt fun k => laws_markSegmentS.f k l a = some (a + 3 * l.length, marked_Segment a l.length) := by
  unfold laws_markSegmentS.f
  refine evt_loop0 l.length (fun k (s : List S66 × Int) i => laws_markSegmentS.l0 k s.1 s.2 i) _ (fun i s => s.1.length = l.length ∧ s.2 = a + 3 * i ∧ ∀ j, j < i → s.1.getD j z66 = mk_Segment a j) ?_ ?_ (l, a) ⟨rfl, by simp, fun j hj => by omega⟩
  · rintro i ⟨s, x⟩ hi ⟨h1, h2, h3⟩
    simp only at h1 h2 h3
    refine .inl ⟨(s.set i (mk_Segment a i), x + 1 + 1 + 1), ⟨by simpa using h1, by simp only; omega, fun j hj => ?_⟩, 1, Evt.all fun k => ?_⟩
    · simp only
      by_cases e : j = i
      · subst e; rw [getD_set_self _ _ _ _ (by omega)]
      · rw [getD_set_ne _ _ _ _ _ (by omega)]; exact h3 j (by omega)
    · show laws_markSegmentS.l0 (k + 1) s x (i : Int) = laws_markSegmentS.l0 k (s.set i (mk_Segment a i)) (x + 1 + 1 + 1) ((i : Int) + 1)
      have w1 : wrap64 (x + 1) = x + 1 := wrap_id (by omega) (by omega)
      have w2 : wrap64 (x + 1 + 1) = x + 1 + 1 := wrap_id (by omega) (by omega)
      have w3 : wrap64 (x + 1 + 1 + 1) = x + 1 + 1 + 1 := wrap_id (by omega) (by omega)
      simp only [laws_markSegmentS.l0, Option.bind_some]
      rw [if_pos (by omega), if_pos (by omega), wrap_id (x := (i : Int) + 1) (by omega) (by omega)]
      simp only [w1, w2, w3, rd_T66, Int.toNat_natCast, getD_set_self _ _ _ _ (show i < s.length by omega), List.set_set]
      subst h2
      rfl
  · rintro ⟨s, x⟩ ⟨h1, h2, h3⟩
    simp only at h1 h2 h3
    refine Evt.succ (Evt.all fun k => ?_)
    show laws_markSegmentS.l0 (k + 1) s x (l.length : Int) = _
    simp only [laws_markSegmentS.l0]
    rw [if_neg (by omega), h2]
    refine congrArg some (Prod.ext rfl (list_ext_getD _ _ z66 (by rw [marked_Segment_len]; exact h1) (fun j hj => ?_)))
    have hj' : j < l.length := by simp only at hj; omega
    rw [marked_Segment_get _ _ _ hj']; exact h3 j hj'
theorem within_ok (a b c : Int) : impl_within.f a b c = some (decide (b ≤ a ∧ a ≤ c)) := by
  unfold impl_within.f
  split <;> simp <;> omega
theorem l1In_ok (a b c : Int) : spec_l1In.f a b c = some (decide (b ≤ a ∧ a ≤ c)) := by
  unfold spec_l1In.f
  split <;> simp <;> omega
theorem segHours_ok (a b c : Int) : impl_areSegmentHours.f a b c = some (decide (0 ≤ a ∧ a < b ∧ b ≤ 240)) := by
  unfold impl_areSegmentHours.f
  split
  · split
    · exact congrArg some (decide_eq_decide.2 (by omega))
    · rw [decide_eq_false (by omega)]
  · rw [decide_eq_false (by omega)]
theorem l18Hours_ok (a b c : Int) : spec_l18Hours.f a b c = some (decide (0 ≤ a ∧ a < b ∧ b ≤ 240)) := by
  unfold spec_l18Hours.f
  split
  · split
    · exact congrArg some (decide_eq_decide.2 (by omega))
    · rw [decide_eq_false (by omega)]
  · rw [decide_eq_false (by omega)]
def segB (s : S66) : Bool := decide (0 ≤ s.f0 ∧ s.f0 < s.f1 ∧ s.f1 ≤ 240) && decide (1 ≤ s.f2 ∧ s.f2 ≤ 3)
def pairB (p s : S66) : Bool := decide (¬ (p.f1 > s.f0) ∧ ¬ (p.f1 = s.f0 ∧ p.f2 = s.f2))
def atB (l : List S66) (i : Nat) : Bool := segB (l.getD i z66) && (decide (i = 0) || pairB (l.getD (i - 1) z66) (l.getD i z66))
def courseB (l : List S66) : Bool := decide (∀ i, i < l.length → atB l i = true) && decide (l.length ≤ 12)
theorem rd_seg (l : List S66) (i : Nat) : rd_T66 l (i : Int) = l.getD i z66 := by unfold rd_T66; rw [Int.toNat_natCast]
theorem rd_seg_pred (l : List S66) (i : Nat) : rd_T66 l ((i : Int) - 1) = l.getD (i - 1) z66 := by unfold rd_T66; congr 1; omega
theorem validCourse_step (l : List S66) (hl : l.length ≤ 4503599627370496) (k i : Nat) (hi : i < l.length) :
    impl_IsValidCourse.l0 (k + 2) l l (l.length : Int) (i : Int) = if atB l i = true then impl_IsValidCourse.l0 k l l (l.length : Int) ((i : Int) + 1) else some false := by
  obtain ⟨s, hs⟩ : ∃ s, l.getD i z66 = s := ⟨_, rfl⟩
  obtain ⟨p, hp⟩ : ∃ p, l.getD (i - 1) z66 = p := ⟨_, rfl⟩
  have w1 : wrap64 ((i : Int) + 1) = (i : Int) + 1 := wrap_id (by omega) (by omega)
  have w2 : wrap64 ((i : Int) - 1) = (i : Int) - 1 := wrap_id (by omega) (by omega)
  simp only [impl_IsValidCourse.l0]
  rw [if_pos (by omega), if_pos (by omega), if_pos (by omega)]
  simp only [impl_IsValidCourse.j1, segHours_ok, within_ok, Option.bind_some, rd_seg, w1, w2, rd_seg_pred, atB, segB, pairB, hs, hp]
  by_cases h1 : 0 ≤ s.f0 ∧ s.f0 < s.f1 ∧ s.f1 ≤ 240
  · by_cases h2 : 1 ≤ s.f2 ∧ s.f2 ≤ 3
    · by_cases h3 : i = 0
      · subst h3; simp [h1, h2]
      · have h4 : (i : Int) > 0 := by omega
        have h5 : 0 ≤ (i : Int) - 1 := by omega
        have h6 : (i : Int) - 1 < (l.length : Int) := by omega
        simp only [decide_eq_true h1, decide_eq_true h2, if_pos h4, if_pos h5, if_pos h6, if_true, Bool.not_true, Bool.true_and, decide_eq_false h3, Bool.false_or]
        by_cases h7 : p.f1 > s.f0
        · simp [h7]
        · by_cases h8 : p.f1 = s.f0
          · by_cases h9 : p.f2 = s.f2 <;> simp [h8, h9]
          · simp [h7, h8]
    · simp [h1, h2]
  · simp [h1]
theorem IsValidCourse_ev (l : List S66) (hl : l.length ≤ 4503599627370496) : Evt fun k => impl_IsValidCourse.f k l = some (courseB l) := by
  unfold impl_IsValidCourse.f
  refine evt_loop0 l.length (fun k (_ : Unit) i => impl_IsValidCourse.l0 k l l (l.length : Int) i) (courseB l) (fun i _ => ∀ j, j < i → atB l j = true) ?_ ?_ () (fun j hj => by omega)
  · intro i s hi h
    by_cases hb : atB l i = true
    · refine .inl ⟨(), fun j hj => ?_, 2, Evt.all fun k => ?_⟩
      · by_cases e : j = i
        · subst e; exact hb
        · exact h j (by omega)
      · show impl_IsValidCourse.l0 (k + 2) l l (l.length : Int) (i : Int) = _
        rw [validCourse_step l hl k i hi, if_pos hb]
    · refine .inr (Evt.add 2 (Evt.all fun k => ?_))
      show impl_IsValidCourse.l0 (k + 2) l l (l.length : Int) (i : Int) = _
      rw [validCourse_step l hl k i hi, if_neg hb]
      unfold courseB
      rw [decide_eq_false (fun hA => hb (hA i hi)), Bool.false_and]
  · intro s h
    refine Evt.succ (Evt.all fun k => ?_)
    show impl_IsValidCourse.l0 (k + 1) l l (l.length : Int) (l.length : Int) = _
    simp only [impl_IsValidCourse.l0]
    rw [if_neg (by omega)]
    unfold courseB
    rw [decide_eq_true h, Bool.true_and]
    exact congrArg some (decide_eq_decide.2 (by omega))
theorem l18Good_step (l : List S66) (hl : l.length ≤ 4503599627370496) (k i : Nat) (hi : i < l.length) :
    spec_l18Good.l0 (k + 2) l (i : Int) = if atB l i = true then spec_l18Good.l0 k l ((i : Int) + 1) else some false := by
  obtain ⟨s, hs⟩ : ∃ s, l.getD i z66 = s := ⟨_, rfl⟩
  obtain ⟨p, hp⟩ : ∃ p, l.getD (i - 1) z66 = p := ⟨_, rfl⟩
  have w1 : wrap64 ((i : Int) + 1) = (i : Int) + 1 := wrap_id (by omega) (by omega)
  have w2 : wrap64 ((i : Int) - 1) = (i : Int) - 1 := wrap_id (by omega) (by omega)
  have g1 : 0 ≤ (i : Int) := by omega
  have g2 : (i : Int) < (l.length : Int) := by omega
  simp only [spec_l18Good.l0]
  rw [if_pos (by omega), if_pos (by omega)]
  simp only [spec_l18Good.j1, l18Hours_ok, l1In_ok, Option.bind_some, rd_seg, w1, w2, rd_seg_pred, atB, segB, pairB, hs, hp, if_pos g1, if_pos g2]
  by_cases h1 : 0 ≤ s.f0 ∧ s.f0 < s.f1 ∧ s.f1 ≤ 240
  · by_cases h2 : 1 ≤ s.f2 ∧ s.f2 ≤ 3
    · by_cases h3 : i = 0
      · subst h3; simp [h1, h2]
      · have h4 : (i : Int) > 0 := by omega
        have h5 : 0 ≤ (i : Int) - 1 := by omega
        have h6 : (i : Int) - 1 < (l.length : Int) := by omega
        simp only [decide_eq_true h1, decide_eq_true h2, if_pos h4, if_pos h5, if_pos h6, if_true, Bool.not_true, Bool.true_and, decide_eq_false h3, Bool.false_or]
        by_cases h7 : p.f1 > s.f0
        · simp [h7]
        · by_cases h8 : p.f1 = s.f0
          · by_cases h9 : p.f2 = s.f2 <;> simp [h8, h9]
          · simp [h7, h8]
    · simp [h1, h2]
  · simp [h1]
theorem l18Good_ev (l : List S66) (hl : l.length ≤ 4503599627370496) : Evt fun k => spec_l18Good.f k l = some (courseB l) := by
  unfold spec_l18Good.f
  refine evt_loop0 l.length (fun k (_ : Unit) i => spec_l18Good.l0 k l i) (courseB l) (fun i _ => ∀ j, j < i → atB l j = true) ?_ ?_ () (fun j hj => by omega)
  · intro i s hi h
    by_cases hb : atB l i = true
    · refine .inl ⟨(), fun j hj => ?_, 2, Evt.all fun k => ?_⟩
      · by_cases e : j = i
        · subst e; exact hb
        · exact h j (by omega)
      · show spec_l18Good.l0 (k + 2) l (i : Int) = _
        rw [l18Good_step l hl k i hi, if_pos hb]
    · refine .inr (Evt.add 2 (Evt.all fun k => ?_))
      show spec_l18Good.l0 (k + 2) l (i : Int) = _
      rw [l18Good_step l hl k i hi, if_neg hb]
      unfold courseB
      rw [decide_eq_false (fun hA => hb (hA i hi)), Bool.false_and]
  · intro s h
    refine Evt.succ (Evt.all fun k => ?_)
    show spec_l18Good.l0 (k + 1) l (l.length : Int) = _
    simp only [spec_l18Good.l0]
    rw [if_neg (by omega)]
    unfold courseB
    rw [decide_eq_true h, Bool.true_and]
    exact congrArg some (decide_eq_decide.2 (by omega))
def endN (l : List S66) : Nat → Int
  | 0 => 0
  | n + 1 => (l.getD n z66).f1
def gapsN (l : List S66) : Nat → List (List Int)
  | 0 => []
  | n + 1 => if (l.getD n z66).f0 > endN l n then gapsN l n ++ [[endN l n, (l.getD n z66).f0]] else gapsN l n
def gapsV (l : List S66) : List (List Int) := if endN l l.length < 240 then gapsN l l.length ++ [[endN l l.length, 240]] else gapsN l l.length
theorem gapsN_len (l : List S66) : ∀ n, (gapsN l n).length ≤ n
  | 0 => Nat.le_refl _
  | n + 1 => by
    have := gapsN_len l n
    simp only [gapsN]
    split
    · rw [List.length_append, List.length_singleton]; omega
    · omega
def gapsR (l : List S66) : List (List Int) × Bool := if courseB l = true then (gapsV l, true) else ([], false)
theorem gapsImpl_loop (l : List S66) (hl : l.length ≤ 4000000) : Evt fun k => impl_GapsOf.l0 k [] 0 l (l.length : Int) 0 = some (gapsV l, true) := by
  refine evt_loop0 l.length (fun k (s : List (List Int) × Int) i => impl_GapsOf.l0 k s.1 s.2 l (l.length : Int) i) (gapsV l, true) (fun i s => s = (gapsN l i, endN l i)) ?_ ?_ ([], 0) rfl
  · rintro i s hi rfl
    have hg := gapsN_len l i
    refine .inl ⟨_, rfl, 1, Evt.all fun k => ?_⟩
    show impl_GapsOf.l0 (k + 1) (gapsN l i) (endN l i) l (l.length : Int) (i : Int) = impl_GapsOf.l0 k (gapsN l (i + 1)) (endN l (i + 1)) l (l.length : Int) ((i : Int) + 1)
    rw [show endN l (i + 1) = (l.getD i z66).f1 from rfl]
    simp only [impl_GapsOf.l0, rd_seg, gapsN]
    rw [if_pos (by omega), if_pos (by omega), if_pos (by omega), wrap_id (by omega) (by omega)]
    by_cases c : (l.getD i z66).f0 > endN l i
    · rw [if_pos c, if_pos c, if_pos (by omega)]
    · rw [if_neg c, if_neg c]
  · rintro s rfl
    have hg := gapsN_len l l.length
    refine Evt.succ (Evt.all fun k => ?_)
    show impl_GapsOf.l0 (k + 1) (gapsN l l.length) (endN l l.length) l (l.length : Int) (l.length : Int) = _
    simp only [impl_GapsOf.l0]
    unfold gapsV
    rw [if_neg (by omega)]
    by_cases c : endN l l.length < 240
    · rw [if_pos c, if_pos c, if_pos (by omega)]
    · rw [if_neg c, if_neg c]
theorem gapsSpec_loop (l : List S66) (hl : l.length ≤ 4000000) : Evt fun k => spec_GapsOf.l0 k l [] 0 0 = some (gapsV l, true) := by
  refine evt_loop0 l.length (fun k (s : List (List Int) × Int) i => spec_GapsOf.l0 k l s.1 s.2 i) (gapsV l, true) (fun i s => s = (gapsN l i, endN l i)) ?_ ?_ ([], 0) rfl
  · rintro i s hi rfl
    have hg := gapsN_len l i
    refine .inl ⟨_, rfl, 2, Evt.all fun k => ?_⟩
    show spec_GapsOf.l0 (k + 1 + 1) l (gapsN l i) (endN l i) (i : Int) = spec_GapsOf.l0 k l (gapsN l (i + 1)) (endN l (i + 1)) ((i : Int) + 1)
    have w : wrap64 ((i : Int) + 1) = (i : Int) + 1 := wrap_id (by omega) (by omega)
    have g1 : (i : Int) < (l.length : Int) := by omega
    have g2 : 0 ≤ (i : Int) := by omega
    rw [show endN l (i + 1) = (l.getD i z66).f1 from rfl]
    simp only [spec_GapsOf.l0, spec_GapsOf.j1, rd_seg, gapsN, w, if_pos g1, if_pos g2, Option.bind_some]
    rw [if_pos (by omega)]
    by_cases c : (l.getD i z66).f0 > endN l i
    · rw [if_pos (by omega), if_pos c, if_pos (by omega)]
    · rw [if_neg (by omega), if_neg c]
  · rintro s rfl
    have hg := gapsN_len l l.length
    have w : wrap64 ((l.length : Int) + 1) = (l.length : Int) + 1 := wrap_id (by omega) (by omega)
    have g1 : ¬ (l.length : Int) < (l.length : Int) := by omega
    have g2 : ¬ (l.length : Int) + 1 ≤ (l.length : Int) := by omega
    refine Evt.add 3 (Evt.all fun k => ?_)
    show spec_GapsOf.l0 (k + 1 + 1 + 1) l (gapsN l l.length) (endN l l.length) (l.length : Int) = _
    unfold gapsV
    simp only [spec_GapsOf.l0, spec_GapsOf.j1, if_neg g1, if_neg g2, w, Option.bind_some]
    rw [if_pos (by omega)]
    by_cases c : endN l l.length < 240
    · rw [if_pos c, if_pos c, if_pos (by omega)]
    · rw [if_neg c, if_neg c]
theorem GapsOf_ok (l : List S66) (hl : l.length ≤ 4000000) : (Evt fun k => impl_GapsOf.f k l = some (gapsR l)) ∧ (Evt fun k => spec_GapsOf.f k l = some (gapsR l)) := by
  refine ⟨((IsValidCourse_ev l (by omega)).and (gapsImpl_loop l hl)).mono ?_, ((l18Good_ev l (by omega)).and (gapsSpec_loop l hl)).mono ?_⟩
  · rintro k ⟨h1, h2⟩
    simp only [impl_GapsOf.f, h1, h2, Option.bind_some, gapsR]
    cases courseB l <;> simp
  · rintro k ⟨h1, h2⟩
    simp only [spec_GapsOf.f, h1, h2, Option.bind_some, gapsR]
    cases courseB l <;> simp
def markedI (a : Int) (n : Nat) : List Int := (List.range n).map (fun j : Nat => a + (j : Int))
theorem markedI_len (a : Int) (n : Nat) : (markedI a n).length = n := by simp [markedI]
theorem markedI_get (a : Int) (n j : Nat) (h : j < n) : (markedI a n).getD j 0 = a + (j : Int) := by
  rw [getD_lt _ _ _ (by simpa [markedI] using h)]; simp [markedI]
theorem markIntS_ev (l : List Int) (a : Int) (ha : 0 ≤ a ∧ a ≤ 1000000000000) (hl : l.length ≤ 1000000000000) : Evt fun k => laws_markIntS.f k l a = some (a + l.length, markedI a l.length) := by
  unfold laws_markIntS.f
  refine evt_loop0 l.length (fun k (s : List Int × Int) i => laws_markIntS.l0 k s.1 s.2 i) _ (fun i s => s.1.length = l.length ∧ s.2 = a + i ∧ ∀ j, j < i → s.1.getD j 0 = a + (j : Int)) ?_ ?_ (l, a) ⟨rfl, by simp, fun j hj => by omega⟩
  · rintro i ⟨s, x⟩ hi ⟨h1, h2, h3⟩
    simp only at h1 h2 h3
    refine .inl ⟨(s.set i x, x + 1), ⟨by simpa using h1, by simp only; omega, fun j hj => ?_⟩, 1, Evt.all fun k => ?_⟩
    · simp only
      by_cases e : j = i
      · subst e; rw [getD_set_self _ _ _ _ (by omega)]; exact h2
      · rw [getD_set_ne _ _ _ _ _ (by omega)]; exact h3 j (by omega)
    · show laws_markIntS.l0 (k + 1) s x (i : Int) = laws_markIntS.l0 k (s.set i x) (x + 1) ((i : Int) + 1)
      simp only [laws_markIntS.l0]
      rw [if_pos (by omega), if_pos (by omega), wrap_id (x := (i : Int) + 1) (by omega) (by omega), wrap_id (x := x + 1) (by omega) (by omega), Int.toNat_natCast]
  · rintro ⟨s, x⟩ ⟨h1, h2, h3⟩
    simp only at h1 h2 h3
    refine Evt.succ (Evt.all fun k => ?_)
    show laws_markIntS.l0 (k + 1) s x (l.length : Int) = _
    simp only [laws_markIntS.l0]
    rw [if_neg (by omega), h2]
    refine congrArg some (Prod.ext rfl (list_ext_getD _ _ 0 (by rw [markedI_len]; exact h1) (fun j hj => ?_)))
    have hj' : j < l.length := by simp only at hj; omega
    rw [markedI_get _ _ _ hj']; exact h3 j hj'
theorem heldIntS_ev (n : Nat) (a : Int) (ha : 0 ≤ a ∧ a ≤ 1000000000000) (hl : n ≤ 1000000000000) : Evt fun k => laws_heldIntS.f k (markedI a n) a = some (a + n) := by
  unfold laws_heldIntS.f
  refine evt_loop0 n (fun k (x : Int) i => laws_heldIntS.l0 k (markedI a n) x i) _ (fun i x => x = a + i) ?_ ?_ a (by simp)
  · rintro i x hi h2
    refine .inl ⟨x + 1, by omega, 1, Evt.all fun k => ?_⟩
    show laws_heldIntS.l0 (k + 1) (markedI a n) x (i : Int) = _
    simp only [laws_heldIntS.l0]
    rw [markedI_len, if_pos (by omega), if_pos (by omega), rd_nat, markedI_get _ _ _ hi, if_pos h2.symm, wrap_id (x := (i : Int) + 1) (by omega) (by omega), wrap_id (x := x + 1) (by omega) (by omega)]
  · rintro x h2
    refine Evt.succ (Evt.all fun k => ?_)
    show laws_heldIntS.l0 (k + 1) (markedI a n) x (n : Int) = _
    simp only [laws_heldIntS.l0]
    rw [markedI_len, if_neg (by omega), h2]
theorem eqIntS_self (l : List Int) (hl : l.length ≤ 4503599627370496) : ∀ k, l.length < k → laws_eqIntS.f k l l = some true := by
  intro k hk
  unfold laws_eqIntS.f
  rw [if_pos rfl]
  refine for_loop 0 l.length (fun k (_ : Unit) i => laws_eqIntS.l0 k l l i) true (fun _ _ => True) ?_ ?_ k () trivial (by omega)
  · intro k i s _ hi _
    refine .inl ⟨(), trivial, ?_⟩
    show laws_eqIntS.l0 (k + 1) l l (i : Int) = _
    simp only [laws_eqIntS.l0]
    rw [if_pos (by omega), if_pos (by omega), if_pos (by omega), wrap_id (by omega) (by omega)]
    simp
  · intro k s _ _
    show laws_eqIntS.l0 (k + 1) l l (l.length : Int) = _
    simp only [laws_eqIntS.l0]
    rw [if_neg (by omega)]
theorem eqIntS_ev (l : List Int) (hl : l.length ≤ 4503599627370496) : Evt fun k => laws_eqIntS.f k l l = some true := Evt.above _ (eqIntS_self l hl)
def psum (l : List (List Int)) : Nat → Nat
  | 0 => 0
  | i + 1 => psum l i + (l.getD i []).length
def mSS (l : List (List Int)) (a : Int) : List (List Int) := (List.range l.length).map (fun j : Nat => markedI (a + (psum l j : Nat)) (l.getD j []).length)
theorem mSS_len (l : List (List Int)) (a : Int) : (mSS l a).length = l.length := by simp [mSS]
theorem mSS_get (l : List (List Int)) (a : Int) (j : Nat) (h : j < l.length) : (mSS l a).getD j [] = markedI (a + (psum l j : Nat)) (l.getD j []).length := by
  rw [getD_lt _ _ _ (by rw [mSS_len]; exact h)]; simp [mSS]
theorem psum_le (l : List (List Int)) (hin : ∀ j, j < l.length → (l.getD j []).length ≤ 100) : ∀ i, i ≤ l.length → psum l i ≤ 100 * i
  | 0, _ => Nat.le_refl _
  | i + 1, h => by
    have h1 := psum_le l hin i (by omega)
    have h2 := hin i (by omega)
    simp only [psum]
    omega
theorem rdL_nat (xs : List (List Int)) (i : Nat) : rd_L3 xs (i : Int) = xs.getD i [] := by unfold rd_L3; rw [Int.toNat_natCast]
theorem markIntSS_ev (l : List (List Int)) (a : Int) (ha : 0 ≤ a ∧ a ≤ 1000000) (hl : l.length ≤ 10000000) (hin : ∀ j, j < l.length → (l.getD j []).length ≤ 100) : Evt fun k => laws_markIntSS.f k l a = some (a + (psum l l.length : Nat), mSS l a) := by
  unfold laws_markIntSS.f
  refine evt_loop0 l.length (fun k (s : List (List Int) × Int) i => laws_markIntSS.l0 k s.1 s.2 i) _ (fun i s => s.1.length = l.length ∧ s.2 = a + (psum l i : Nat) ∧ (∀ j, j < i → s.1.getD j [] = markedI (a + (psum l j : Nat)) (l.getD j []).length) ∧ ∀ j, i ≤ j → s.1.getD j [] = l.getD j []) ?_ ?_ (l, a) ⟨rfl, by simp [psum], fun j hj => by omega, fun j _ => rfl⟩
  · rintro i ⟨s, x⟩ hi ⟨h1, h2, h3, h4⟩
    simp only at h1 h2 h3 h4
    have b1 := psum_le l hin i (by omega)
    have b2 := hin i hi
    refine .inl ⟨(s.set i (markedI x (l.getD i []).length), x + ((l.getD i []).length : Nat)), ⟨by simpa using h1, by simp only [psum]; omega, fun j hj => ?_, fun j hj => ?_⟩, 1, ?_⟩
    · simp only
      by_cases e : j = i
      · subst e; rw [getD_set_self _ _ _ _ (by omega), h2]
      · rw [getD_set_ne _ _ _ _ _ (by omega)]; exact h3 j (by omega)
    · simp only
      rw [getD_set_ne _ _ _ _ _ (by omega)]; exact h4 j (by omega)
    · refine (markIntS_ev (s.getD i []) x (by omega) (by rw [h4 i (Nat.le_refl _)]; omega)).mono fun k hk => ?_
      show laws_markIntSS.l0 (k + 1) s x (i : Int) = laws_markIntSS.l0 k (s.set i (markedI x (l.getD i []).length)) (x + ((l.getD i []).length : Nat)) ((i : Int) + 1)
      rw [h4 i (Nat.le_refl _)] at hk
      simp only [laws_markIntSS.l0]
      rw [if_pos (by omega), if_pos (by omega), rdL_nat, h4 i (Nat.le_refl _), hk, Option.bind_some, wrap_id (x := (i : Int) + 1) (by omega) (by omega), Int.toNat_natCast]
  · rintro ⟨s, x⟩ ⟨h1, h2, h3, h4⟩
    simp only at h1 h2 h3 h4
    refine Evt.succ (Evt.all fun k => ?_)
    show laws_markIntSS.l0 (k + 1) s x (l.length : Int) = _
    simp only [laws_markIntSS.l0]
    rw [if_neg (by omega), h2]
    refine congrArg some (Prod.ext rfl (list_ext_getD _ _ [] (by rw [mSS_len]; exact h1) (fun j hj => ?_)))
    have hj' : j < l.length := by simp only at hj; omega
    rw [mSS_get _ _ _ hj']; exact h3 j hj'
theorem heldIntSS_ev (l : List (List Int)) (a : Int) (ha : 0 ≤ a ∧ a ≤ 1000000) (hl : l.length ≤ 10000000) (hin : ∀ j, j < l.length → (l.getD j []).length ≤ 100) : Evt fun k => laws_heldIntSS.f k (mSS l a) a = some (a + (psum l l.length : Nat)) := by
  unfold laws_heldIntSS.f
  refine evt_loop0 l.length (fun k (x : Int) i => laws_heldIntSS.l0 k (mSS l a) x i) _ (fun i x => x = a + (psum l i : Nat)) ?_ ?_ a (by simp [psum])
  · rintro i x hi h2
    have b1 := psum_le l hin i (by omega)
    have b2 := hin i hi
    refine .inl ⟨x + ((l.getD i []).length : Nat), by simp only [psum]; omega, 1, (heldIntS_ev (l.getD i []).length x (by omega) (by omega)).mono fun k hk => ?_⟩
    show laws_heldIntSS.l0 (k + 1) (mSS l a) x (i : Int) = _
    simp only [laws_heldIntSS.l0]
    rw [mSS_len, if_pos (by omega), if_pos (by omega), rdL_nat, mSS_get _ _ _ hi, ← h2, hk, Option.bind_some, if_neg (by omega), wrap_id (x := (i : Int) + 1) (by omega) (by omega)]
  · rintro x h2
    refine Evt.succ (Evt.all fun k => ?_)
    show laws_heldIntSS.l0 (k + 1) (mSS l a) x (l.length : Int) = _
    simp only [laws_heldIntSS.l0]
    rw [mSS_len, if_neg (by omega), h2]
theorem eqIntSS_ev (l : List (List Int)) (hl : l.length ≤ 10000000) (hin : ∀ j, j < l.length → (l.getD j []).length ≤ 100) : Evt fun k => laws_eqIntSS.f k l l = some true := by
  have h : Evt fun k => laws_eqIntSS.l0 k l l 0 = some true := by
    refine evt_loop0 l.length (fun k (_ : Unit) i => laws_eqIntSS.l0 k l l i) _ (fun _ _ => True) ?_ ?_ () trivial
    · rintro i x hi _
      have b2 := hin i hi
      refine .inl ⟨(), trivial, 1, (eqIntS_ev (l.getD i []) (by omega)).mono fun k hk => ?_⟩
      show laws_eqIntSS.l0 (k + 1) l l (i : Int) = laws_eqIntSS.l0 k l l ((i : Int) + 1)
      simp only [laws_eqIntSS.l0]
      rw [if_pos (by omega), if_pos (by omega), if_pos (by omega), rdL_nat, hk, Option.bind_some, if_pos rfl, wrap_id (x := (i : Int) + 1) (by omega) (by omega)]
    · rintro x _
      refine Evt.succ (Evt.all fun k => ?_)
      show laws_eqIntSS.l0 (k + 1) l l (l.length : Int) = _
      simp only [laws_eqIntSS.l0]
      rw [if_neg (by omega)]
  refine h.mono fun k hk => ?_
  unfold laws_eqIntSS.f
  rw [if_pos rfl]
  exact hk
theorem gapsN_in (l : List S66) : ∀ n, ∀ r ∈ gapsN l n, r.length ≤ 100
  | 0 => by simp [gapsN]
  | n + 1 => by
    have ih := gapsN_in l n
    intro r hr
    simp only [gapsN] at hr
    split at hr
    · rcases List.mem_append.1 hr with h | h
      · exact ih r h
      · rw [List.mem_singleton] at h; subst h; simp
    · exact ih r hr
theorem gapsV_in (l : List S66) : ∀ r ∈ gapsV l, r.length ≤ 100 := by
  intro r hr
  unfold gapsV at hr
  split at hr
  · rcases List.mem_append.1 hr with h | h
    · exact gapsN_in l _ r h
    · rw [List.mem_singleton] at h; subst h; simp
  · exact gapsN_in l _ r hr
theorem getD_of_all (l : List (List Int)) (h : ∀ r ∈ l, r.length ≤ 100) : ∀ j, j < l.length → (l.getD j []).length ≤ 100 := by
  intro j hj
  rw [getD_lt _ _ _ hj]
  exact h _ (List.getElem_mem hj)
theorem gapsR_len (l : List S66) : (gapsR l).1.length ≤ l.length + 1 := by
  have := gapsN_len l l.length
  unfold gapsR
  split
  · simp only
    unfold gapsV
    split
    · rw [List.length_append, List.length_singleton]; omega
    · omega
  · simp
theorem gapsR_in (l : List S66) : ∀ r ∈ (gapsR l).1, r.length ≤ 100 := by
  unfold gapsR
  split
  · exact gapsV_in l
  · simp
theorem FnExactGapsOf : FnExactGapsOfPure := by
  intro l0 hm0 hw0
  have q0 := szSegmentS_ok l0 1048576 (by omega) hm0
  by_cases hl0 : (1048576 - (l0.length : Int)) < 0
  · exact ⟨0, by unfold laws_FnExactGapsOf.f; rw [q0, if_pos hl0, Option.bind_some, if_pos (by omega)]⟩
  rw [if_neg hl0] at q0
  have hn0 : l0.length ≤ 1048576 := by omega
  obtain ⟨hi, hs⟩ := GapsOf_ok (l0.map c_Segment) (by rw [List.length_map]; omega)
  have hgl := gapsR_len (l0.map c_Segment)
  have hgi := getD_of_all _ (gapsR_in (l0.map c_Segment))
  rw [List.length_map] at hgl
  obtain ⟨⟨g0, g1⟩, hg⟩ : ∃ p, p = gapsR (l0.map c_Segment) := ⟨_, rfl⟩
  rw [← hg] at hi hs hgl hgi
  simp only at hgl hgi
  have n0 : ¬ (1 + 3 * (l0.length : Int) < 0) := by omega
  have n1 : ¬ (1 + ((psum g0 g0.length : Nat) : Int) < 0) := by omega
  obtain ⟨K, hK⟩ := ((hi).and ((hs).and ((toSegmentS_ev l0 hn0).and ((eqSegmentS_self (l0.map c_Segment) (by rw [List.length_map]; omega)).and ((markSegmentS_ev (l0.map c_Segment) 1 (by omega) (by rw [List.length_map]; omega)).and ((eqIntSS_ev g0 (by omega) hgi).and ((markIntSS_ev g0 1 (by omega) (by omega) hgi).and (heldIntSS_ev g0 1 (by omega) (by omega) hgi)))))))).at
  have e0 := fun j => (hK j).1
  have e1 := fun j => (hK j).2.1
  have e2 := fun j => (hK j).2.2.1
  have e3 := fun j => (hK j).2.2.2.1
  have e4 := fun j => (hK j).2.2.2.2.1
  have e5 := fun j => (hK j).2.2.2.2.2.1
  have e6 := fun j => (hK j).2.2.2.2.2.2.1
  have e7 := fun j => (hK j).2.2.2.2.2.2.2
  refine ⟨K + 6, ?_⟩
  simp only [laws_FnExactGapsOf.f, q0, if_neg hl0, Option.bind_some, e0, e1, e2, e3, e4, e5, e6, e7, if_true]
  simp [laws_FnExactGapsOf.j0, laws_FnExactGapsOf.j1, laws_FnExactGapsOf.j2, e0, e1, e2, e3, e4, e5, e6, e7, n0, n1]
end Go.Proofs.Ytppjagpjlcbhpaa.XFnExactGapsOf.Pure
