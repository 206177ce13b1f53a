/-
  The pure statement of the law FnExactCommonCourse: what its printed function answers is 'true' for all numbers and lists of its kinds. Conditions: the kinds' own bounds, as the statement lays them.
-/
import Derived.Test.YtlhajgbhplnieaaStmFnExactCommonCourse
import Derived.DataShut
namespace Go.Proofs.Ytlhajgbhplnieaa.XFnExactCommonCourse.Pure
open Go.RowKit Go.Proofs.Ytlhajgbhplnieaa.XFnExactCommonCourse Go.Proofs.YtlhajgbhplnieaaW.PrintWords Go.Proofs.YtlhajgbhplnieaaW.PrintLast Go.Proofs.YtlhajgbhplnieaaW.PrintMore
set_option linter.unusedVariables false
set_option linter.unusedSimpArgs false
theorem wrap_id {x : Int} (h0 : -9223372036854775808 ≤ x) (h1 : x ≤ 9223372036854775807) : wrap64 x = x := by unfold wrap64; omega
theorem rd_nat (xs : List Int) (i : Nat) : rd xs (i : Int) = xs.getD i 0 := by simp [rd]
theorem getD_drop {α : Type} (xs : List α) (z : α) (i : Nat) (h : i < xs.length) : xs.drop i = xs.getD i z :: xs.drop (i + 1) := by
  rw [List.drop_eq_getElem_cons h, List.getD_eq_getElem?_getD, List.getElem?_eq_getElem h]; rfl
def Evt (P : Nat → Prop) : Prop := ∃ K, ∀ k, K ≤ k → P k
theorem Evt.all {P : Nat → Prop} (h : ∀ k, P k) : Evt P := ⟨0, fun k _ => h k⟩
theorem Evt.and {P Q : Nat → Prop} (h : Evt P) (g : Evt Q) : Evt fun k => P k ∧ Q k := by
  obtain ⟨K, h⟩ := h
  obtain ⟨M, g⟩ := g
  exact ⟨K + M, fun k hk => ⟨h k (by omega), g k (by omega)⟩⟩
theorem Evt.mono {P Q : Nat → Prop} (h : Evt P) (g : ∀ k, P k → Q k) : Evt Q := by
  obtain ⟨K, h⟩ := h
  exact ⟨K, fun k hk => g k (h k hk)⟩
theorem Evt.succ {Q : Nat → Prop} (h : Evt fun k => Q (k + 1)) : Evt Q := by
  obtain ⟨K, h⟩ := h
  refine ⟨K + 1, fun k hk => ?_⟩
  obtain ⟨m, rfl⟩ : ∃ m, k = m + 1 := ⟨k - 1, by omega⟩
  exact h m (by omega)
theorem Evt.add {Q : Nat → Prop} (c : Nat) (h : Evt fun k => Q (k + c)) : Evt Q := by
  obtain ⟨K, h⟩ := h
  refine ⟨K + c, fun k hk => ?_⟩
  obtain ⟨m, rfl⟩ : ∃ m, k = m + c := ⟨k - c, by omega⟩
  exact h m (by omega)
theorem Evt.shift {Q : Nat → Prop} (h : Evt Q) : Evt fun k => Q (k + 1) := by
  obtain ⟨K, h⟩ := h
  exact ⟨K, fun k hk => h _ (by omega)⟩
theorem Evt.at {P : Nat → Prop} (h : Evt P) : ∃ K, ∀ j, P (K + j) := by
  obtain ⟨K, h⟩ := h
  exact ⟨K, fun j => h _ (by omega)⟩
theorem Evt.pos : Evt fun k => ∃ m, k = m + 1 := ⟨1, fun k hk => ⟨k - 1, by omega⟩⟩
theorem evt_loop {σ ρ : Type} (n : Nat) (L : Nat → σ → Int → Option ρ) (v : ρ) (Inv : Nat → σ → Prop)
    (step : ∀ i s, i < n → Inv i s → (∃ s', Inv (i + 1) s' ∧ ∃ c, Evt fun k => L (k + c) s (i : Int) = L k s' ((i : Int) + 1)) ∨ Evt fun k => L k s (i : Int) = some v)
    (fin : ∀ s, Inv n s → Evt fun k => L k s (n : Int) = some v) :
    ∀ i s, i ≤ n → Inv i s → Evt fun k => L k s (i : Int) = some v := by
  have key : ∀ d i s, i + d = n → Inv i s → Evt fun k => L k s (i : Int) = some v := by
    intro d
    induction d with
    | zero =>
      intro i s hi h
      obtain rfl : i = n := by omega
      exact fin s h
    | succ d ih =>
      intro i s hi h
      rcases step i s (by omega) h with ⟨s', h', c, e⟩ | e
      · have h2 := ih (i + 1) s' (by omega) h'
        rw [show ((i + 1 : Nat) : Int) = (i : Int) + 1 from by omega] at h2
        exact Evt.add c ((e.and h2).mono fun k hk => hk.1.trans hk.2)
      · exact e
  intro i s hi h
  exact key (n - i) i s (by omega) h
theorem evt_loop0 {σ ρ : Type} (n : Nat) (L : Nat → σ → Int → Option ρ) (v : ρ) (Inv : Nat → σ → Prop)
    (step : ∀ i s, i < n → Inv i s → (∃ s', Inv (i + 1) s' ∧ ∃ c, Evt fun k => L (k + c) s (i : Int) = L k s' ((i : Int) + 1)) ∨ Evt fun k => L k s (i : Int) = some v)
    (fin : ∀ s, Inv n s → Evt fun k => L k s (n : Int) = some v) (s : σ) (h0 : Inv 0 s) : Evt fun k => L k s 0 = some v :=
  evt_loop n L v Inv step fin 0 s (Nat.zero_le _) h0
theorem getD_lt {α : Type} (xs : List α) (z : α) (i : Nat) (h : i < xs.length) : xs.getD i z = xs[i] := by
  rw [List.getD_eq_getElem?_getD, List.getElem?_eq_getElem h]; rfl
theorem getD_set_self {α : Type} (xs : List α) (z v : α) (i : Nat) (h : i < xs.length) : (xs.set i v).getD i z = v := by
  rw [List.getD_eq_getElem?_getD, List.getElem?_set_self h]; rfl
theorem getD_set_ne {α : Type} (xs : List α) (z v : α) (i j : Nat) (h : i ≠ j) : (xs.set i v).getD j z = xs.getD j z := by
  rw [List.getD_eq_getElem?_getD, List.getElem?_set_ne h, List.getD_eq_getElem?_getD]
theorem getD_map {α β : Type} (f : α → β) (xs : List α) (z : α) (y : β) (i : Nat) (h : i < xs.length) : (xs.map f).getD i y = f (xs.getD i z) := by
  rw [getD_lt _ _ _ (by simpa using h), getD_lt _ _ _ h, List.getElem_map]
theorem list_ext_getD {α : Type} (xs ys : List α) (z : α) (h : xs.length = ys.length) (e : ∀ j, j < xs.length → xs.getD j z = ys.getD j z) : xs = ys := by
  apply List.ext_getElem h
  intro j h1 h2
  have := e j h1
  rwa [getD_lt _ _ _ h1, getD_lt _ _ _ h2] at this
def c_Segment (x : S44) : S46 := ⟨x.f0, x.f1, x.f2⟩
theorem toSegmentS_ev (l : List S44) (hl : l.length ≤ 1048576) : Evt fun k => laws_toSegmentS.f k l = some (l.map c_Segment) := by
  unfold laws_toSegmentS.f
  simp only [if_pos (show 0 ≤ (l.length : Int) by omega), if_pos (show ((l.length : Int) : Int).toNat ≤ 11728124029610 by omega)]
  refine evt_loop0 l.length (fun k s i => laws_toSegmentS.l0 k l s i) (l.map c_Segment) (fun i s => s.length = l.length ∧ ∀ j, j < i → s.getD j z46 = (l.map c_Segment).getD j z46) ?_ ?_ _ ⟨by simp, fun j hj => by omega⟩
  · rintro i s hi ⟨h1, h2⟩
    refine .inl ⟨s.set i ((l.map c_Segment).getD i z46), ⟨by simpa using h1, fun j hj => ?_⟩, 1, Evt.all fun k => ?_⟩
    · by_cases e : j = i
      · subst e; rw [getD_set_self _ _ _ _ (by omega)]
      · rw [getD_set_ne _ _ _ _ _ (by omega)]; exact h2 j (by omega)
    · show laws_toSegmentS.l0 (k + 1) l s (i : Int) = _
      simp only [laws_toSegmentS.l0, laws_toSegment.f, Option.bind_some]
      rw [if_pos (by omega), if_pos (by omega), if_pos (by omega), wrap_id (by omega) (by omega), Int.toNat_natCast, getD_map _ _ z44 _ _ hi]
      rfl
  · rintro s ⟨h1, h2⟩
    refine Evt.succ (Evt.all fun k => ?_)
    show laws_toSegmentS.l0 (k + 1) l s (l.length : Int) = _
    simp only [laws_toSegmentS.l0]
    rw [if_neg (by omega)]
    exact congrArg some (list_ext_getD _ _ z46 (by simpa using h1) (fun j hj => h2 j (by omega)))
theorem eqSegmentS_self (l : List S46) (hl : l.length ≤ 4503599627370496) : Evt fun k => laws_eqSegmentS.f k l l = some true := by
  unfold laws_eqSegmentS.f
  simp only [if_true]
  refine evt_loop0 l.length (fun k (_ : Unit) i => laws_eqSegmentS.l0 k l l i) true (fun _ _ => True) ?_ ?_ () trivial
  · intro i s hi _
    refine .inl ⟨(), trivial, 1, Evt.all fun k => ?_⟩
    show laws_eqSegmentS.l0 (k + 1) l l (i : Int) = _
    simp only [laws_eqSegmentS.l0, laws_eqSegment.f]
    rw [if_pos (by omega), if_pos (by omega), if_pos (by omega), wrap_id (by omega) (by omega)]
    simp
  · intro s _
    refine Evt.succ (Evt.all fun k => ?_)
    show laws_eqSegmentS.l0 (k + 1) l l (l.length : Int) = _
    simp only [laws_eqSegmentS.l0]
    rw [if_neg (by omega)]
theorem szSegmentS_ok (l : List S44) (a : Int) (ha : 0 ≤ a ∧ a ≤ 1048576) (hl : l.length ≤ maxLen) : laws_szSegmentS.f l a = some (if a - (l.length : Int) < 0 then -1 else a - (l.length : Int)) := by
  unfold maxLen at hl
  unfold laws_szSegmentS.f
  rw [wrap_id (by omega) (by omega)]
  split <;> rfl
def mk_Segment (a : Int) (j : Nat) : S46 := ⟨a + 3 * (j : Int), a + 3 * (j : Int) + 1, a + 3 * (j : Int) + 1 + 1⟩
def marked_Segment (a : Int) (n : Nat) : List S46 := (List.range n).map (mk_Segment a)
theorem marked_Segment_len (a : Int) (n : Nat) : (marked_Segment a n).length = n := by simp [marked_Segment]
theorem marked_Segment_get (a : Int) (n j : Nat) (h : j < n) : (marked_Segment a n).getD j z46 = mk_Segment a j := by
  rw [getD_lt _ _ _ (by simpa [marked_Segment] using h)]; simp [marked_Segment]
theorem markSegmentS_ev (l : List S46) (a : Int) (ha : 0 ≤ a ∧ a ≤ 1000000000000) (hl : l.length ≤ 1000000000000) : Evt fun k => laws_markSegmentS.f k l a = some (a + 3 * l.length, marked_Segment a l.length) := by
  unfold laws_markSegmentS.f
  refine evt_loop0 l.length (fun k (s : List S46 × Int) i => laws_markSegmentS.l0 k s.1 s.2 i) _ (fun i s => s.1.length = l.length ∧ s.2 = a + 3 * i ∧ ∀ j, j < i → s.1.getD j z46 = mk_Segment a j) ?_ ?_ (l, a) ⟨rfl, by simp, fun j hj => by omega⟩
  · rintro i ⟨s, x⟩ hi ⟨h1, h2, h3⟩
    simp only at h1 h2 h3
    refine .inl ⟨(s.set i (mk_Segment a i), x + 1 + 1 + 1), ⟨by simpa using h1, by simp only; omega, fun j hj => ?_⟩, 1, Evt.all fun k => ?_⟩
    · simp only
      by_cases e : j = i
      · subst e; rw [getD_set_self _ _ _ _ (by omega)]
      · rw [getD_set_ne _ _ _ _ _ (by omega)]; exact h3 j (by omega)
    · show laws_markSegmentS.l0 (k + 1) s x (i : Int) = laws_markSegmentS.l0 k (s.set i (mk_Segment a i)) (x + 1 + 1 + 1) ((i : Int) + 1)
      have w1 : wrap64 (x + 1) = x + 1 := wrap_id (by omega) (by omega)
      have w2 : wrap64 (x + 1 + 1) = x + 1 + 1 := wrap_id (by omega) (by omega)
      have w3 : wrap64 (x + 1 + 1 + 1) = x + 1 + 1 + 1 := wrap_id (by omega) (by omega)
      simp only [laws_markSegmentS.l0, Option.bind_some]
      rw [if_pos (by omega), if_pos (by omega), wrap_id (x := (i : Int) + 1) (by omega) (by omega)]
      simp only [w1, w2, w3, rd_T46, Int.toNat_natCast, getD_set_self _ _ _ _ (show i < s.length by omega), List.set_set]
      subst h2
      rfl
  · rintro ⟨s, x⟩ ⟨h1, h2, h3⟩
    simp only at h1 h2 h3
    refine Evt.succ (Evt.all fun k => ?_)
    show laws_markSegmentS.l0 (k + 1) s x (l.length : Int) = _
    simp only [laws_markSegmentS.l0]
    rw [if_neg (by omega), h2]
    refine congrArg some (Prod.ext rfl (list_ext_getD _ _ z46 (by rw [marked_Segment_len]; exact h1) (fun j hj => ?_)))
    have hj' : j < l.length := by simp only at hj; omega
    rw [marked_Segment_get _ _ _ hj']; exact h3 j hj'
theorem heldSegmentS_ev (n : Nat) (a : Int) (ha : 0 ≤ a ∧ a ≤ 1000000000000) (hl : n ≤ 1000000000000) : Evt fun k => laws_heldSegmentS.f k (marked_Segment a n) a = some (a + 3 * n) := by
  unfold laws_heldSegmentS.f
  refine evt_loop0 n (fun k (x : Int) i => laws_heldSegmentS.l0 k (marked_Segment a n) x i) _ (fun i x => x = a + 3 * i) ?_ ?_ a (by simp)
  · rintro i x hi h2
    refine .inl ⟨x + 1 + 1 + 1, by omega, 1, Evt.all fun k => ?_⟩
    show laws_heldSegmentS.l0 (k + 1) (marked_Segment a n) x (i : Int) = _
    have w1 : wrap64 (x + 1) = x + 1 := wrap_id (by omega) (by omega)
    have w2 : wrap64 (x + 1 + 1) = x + 1 + 1 := wrap_id (by omega) (by omega)
    have w3 : wrap64 (x + 1 + 1 + 1) = x + 1 + 1 + 1 := wrap_id (by omega) (by omega)
    simp only [laws_heldSegmentS.l0]
    rw [marked_Segment_len, if_pos (by omega), if_pos (by omega), wrap_id (x := (i : Int) + 1) (by omega) (by omega)]
    simp only [w1, w2, w3, rd_T46, Int.toNat_natCast, marked_Segment_get _ _ _ hi]
    subst h2
    simp [mk_Segment]
  · rintro x h2
    refine Evt.succ (Evt.all fun k => ?_)
    show laws_heldSegmentS.l0 (k + 1) (marked_Segment a n) x (n : Int) = _
    simp only [laws_heldSegmentS.l0]
    rw [marked_Segment_len, if_neg (by omega), h2]
theorem within_ok (a b c : Int) : impl_within.f a b c = some (decide (b ≤ a ∧ a ≤ c)) := by
  unfold impl_within.f
  split <;> simp <;> omega
theorem l1In_ok (a b c : Int) : spec_l1In.f a b c = some (decide (b ≤ a ∧ a ≤ c)) := by
  unfold spec_l1In.f
  split <;> simp <;> omega
theorem segHours_ok (a b c : Int) : impl_areSegmentHours.f a b c = some (decide (0 ≤ a ∧ a < b ∧ b ≤ 240)) := by
  unfold impl_areSegmentHours.f
  split
  · split
    · exact congrArg some (decide_eq_decide.2 (by omega))
    · rw [decide_eq_false (by omega)]
  · rw [decide_eq_false (by omega)]
theorem l18Hours_ok (a b c : Int) : spec_l18Hours.f a b c = some (decide (0 ≤ a ∧ a < b ∧ b ≤ 240)) := by
  unfold spec_l18Hours.f
  split
  · split
    · exact congrArg some (decide_eq_decide.2 (by omega))
    · rw [decide_eq_false (by omega)]
  · rw [decide_eq_false (by omega)]
def segB (s : S46) : Bool := decide (0 ≤ s.f0 ∧ s.f0 < s.f1 ∧ s.f1 ≤ 240) && decide (1 ≤ s.f2 ∧ s.f2 ≤ 3)
def pairB (p s : S46) : Bool := decide (¬ (p.f1 > s.f0) ∧ ¬ (p.f1 = s.f0 ∧ p.f2 = s.f2))
def atB (l : List S46) (i : Nat) : Bool := segB (l.getD i z46) && (decide (i = 0) || pairB (l.getD (i - 1) z46) (l.getD i z46))
def courseB (l : List S46) : Bool := decide (∀ i, i < l.length → atB l i = true) && decide (l.length ≤ 12)
theorem courseB_seg {l : List S46} (h : courseB l = true) : ∀ s ∈ l, segB s = true := by
  intro s hs
  unfold courseB at h
  simp only [Bool.and_eq_true, decide_eq_true_eq] at h
  obtain ⟨i, hi, rfl⟩ := List.mem_iff_getElem.1 hs
  have := h.1 i hi
  unfold atB at this
  simp only [Bool.and_eq_true] at this
  rw [getD_lt _ _ _ hi] at this
  exact this.1
theorem rd_seg (l : List S46) (i : Nat) : rd_T46 l (i : Int) = l.getD i z46 := by unfold rd_T46; rw [Int.toNat_natCast]
theorem rd_seg_pred (l : List S46) (i : Nat) : rd_T46 l ((i : Int) - 1) = l.getD (i - 1) z46 := by unfold rd_T46; congr 1; omega
theorem validCourse_step (l : List S46) (hl : l.length ≤ 4503599627370496) (k i : Nat) (hi : i < l.length) :
    impl_IsValidCourse.l0 (k + 2) l l (l.length : Int) (i : Int) = if atB l i = true then impl_IsValidCourse.l0 k l l (l.length : Int) ((i : Int) + 1) else some false := by
  obtain ⟨s, hs⟩ : ∃ s, l.getD i z46 = s := ⟨_, rfl⟩
  obtain ⟨p, hp⟩ : ∃ p, l.getD (i - 1) z46 = p := ⟨_, rfl⟩
  have w1 : wrap64 ((i : Int) + 1) = (i : Int) + 1 := wrap_id (by omega) (by omega)
  have w2 : wrap64 ((i : Int) - 1) = (i : Int) - 1 := wrap_id (by omega) (by omega)
  simp only [impl_IsValidCourse.l0]
  rw [if_pos (by omega), if_pos (by omega), if_pos (by omega)]
  simp only [impl_IsValidCourse.j1, segHours_ok, within_ok, Option.bind_some, rd_seg, w1, w2, rd_seg_pred, atB, segB, pairB, hs, hp]
  by_cases h1 : 0 ≤ s.f0 ∧ s.f0 < s.f1 ∧ s.f1 ≤ 240
  · by_cases h2 : 1 ≤ s.f2 ∧ s.f2 ≤ 3
    · by_cases h3 : i = 0
      · subst h3; simp [h1, h2]
      · have h4 : (i : Int) > 0 := by omega
        have h5 : 0 ≤ (i : Int) - 1 := by omega
        have h6 : (i : Int) - 1 < (l.length : Int) := by omega
        simp only [decide_eq_true h1, decide_eq_true h2, if_pos h4, if_pos h5, if_pos h6, if_true, Bool.not_true, Bool.true_and, decide_eq_false h3, Bool.false_or]
        by_cases h7 : p.f1 > s.f0
        · simp [h7]
        · by_cases h8 : p.f1 = s.f0
          · by_cases h9 : p.f2 = s.f2 <;> simp [h8, h9]
          · simp [h7, h8]
    · simp [h1, h2]
  · simp [h1]
theorem IsValidCourse_ev (l : List S46) (hl : l.length ≤ 4503599627370496) : Evt fun k => impl_IsValidCourse.f k l = some (courseB l) := by
  unfold impl_IsValidCourse.f
  refine evt_loop0 l.length (fun k (_ : Unit) i => impl_IsValidCourse.l0 k l l (l.length : Int) i) (courseB l) (fun i _ => ∀ j, j < i → atB l j = true) ?_ ?_ () (fun j hj => by omega)
  · intro i s hi h
    by_cases hb : atB l i = true
    · refine .inl ⟨(), fun j hj => ?_, 2, Evt.all fun k => ?_⟩
      · by_cases e : j = i
        · subst e; exact hb
        · exact h j (by omega)
      · show impl_IsValidCourse.l0 (k + 2) l l (l.length : Int) (i : Int) = _
        rw [validCourse_step l hl k i hi, if_pos hb]
    · refine .inr (Evt.add 2 (Evt.all fun k => ?_))
      show impl_IsValidCourse.l0 (k + 2) l l (l.length : Int) (i : Int) = _
      rw [validCourse_step l hl k i hi, if_neg hb]
      unfold courseB
      rw [decide_eq_false (fun hA => hb (hA i hi)), Bool.false_and]
  · intro s h
    refine Evt.succ (Evt.all fun k => ?_)
    show impl_IsValidCourse.l0 (k + 1) l l (l.length : Int) (l.length : Int) = _
    simp only [impl_IsValidCourse.l0]
    rw [if_neg (by omega)]
    unfold courseB
    rw [decide_eq_true h, Bool.true_and]
    exact congrArg some (decide_eq_decide.2 (by omega))
theorem l18Good_step (l : List S46) (hl : l.length ≤ 4503599627370496) (k i : Nat) (hi : i < l.length) :
    spec_l18Good.l0 (k + 2) l (i : Int) = if atB l i = true then spec_l18Good.l0 k l ((i : Int) + 1) else some false := by
  obtain ⟨s, hs⟩ : ∃ s, l.getD i z46 = s := ⟨_, rfl⟩
  obtain ⟨p, hp⟩ : ∃ p, l.getD (i - 1) z46 = p := ⟨_, rfl⟩
  have w1 : wrap64 ((i : Int) + 1) = (i : Int) + 1 := wrap_id (by omega) (by omega)
  have w2 : wrap64 ((i : Int) - 1) = (i : Int) - 1 := wrap_id (by omega) (by omega)
  have g1 : 0 ≤ (i : Int) := by omega
  have g2 : (i : Int) < (l.length : Int) := by omega
  simp only [spec_l18Good.l0]
  rw [if_pos (by omega), if_pos (by omega)]
  simp only [spec_l18Good.j1, l18Hours_ok, l1In_ok, Option.bind_some, rd_seg, w1, w2, rd_seg_pred, atB, segB, pairB, hs, hp, if_pos g1, if_pos g2]
  by_cases h1 : 0 ≤ s.f0 ∧ s.f0 < s.f1 ∧ s.f1 ≤ 240
  · by_cases h2 : 1 ≤ s.f2 ∧ s.f2 ≤ 3
    · by_cases h3 : i = 0
      · subst h3; simp [h1, h2]
      · have h4 : (i : Int) > 0 := by omega
        have h5 : 0 ≤ (i : Int) - 1 := by omega
        have h6 : (i : Int) - 1 < (l.length : Int) := by omega
        simp only [decide_eq_true h1, decide_eq_true h2, if_pos h4, if_pos h5, if_pos h6, if_true, Bool.not_true, Bool.true_and, decide_eq_false h3, Bool.false_or]
        by_cases h7 : p.f1 > s.f0
        · simp [h7]
        · by_cases h8 : p.f1 = s.f0
          · by_cases h9 : p.f2 = s.f2 <;> simp [h8, h9]
          · simp [h7, h8]
    · simp [h1, h2]
  · simp [h1]
theorem l18Good_ev (l : List S46) (hl : l.length ≤ 4503599627370496) : Evt fun k => spec_l18Good.f k l = some (courseB l) := by
  unfold spec_l18Good.f
  refine evt_loop0 l.length (fun k (_ : Unit) i => spec_l18Good.l0 k l i) (courseB l) (fun i _ => ∀ j, j < i → atB l j = true) ?_ ?_ () (fun j hj => by omega)
  · intro i s hi h
    by_cases hb : atB l i = true
    · refine .inl ⟨(), fun j hj => ?_, 2, Evt.all fun k => ?_⟩
      · by_cases e : j = i
        · subst e; exact hb
        · exact h j (by omega)
      · show spec_l18Good.l0 (k + 2) l (i : Int) = _
        rw [l18Good_step l hl k i hi, if_pos hb]
    · refine .inr (Evt.add 2 (Evt.all fun k => ?_))
      show spec_l18Good.l0 (k + 2) l (i : Int) = _
      rw [l18Good_step l hl k i hi, if_neg hb]
      unfold courseB
      rw [decide_eq_false (fun hA => hb (hA i hi)), Bool.false_and]
  · intro s h
    refine Evt.succ (Evt.all fun k => ?_)
    show spec_l18Good.l0 (k + 1) l (l.length : Int) = _
    simp only [spec_l18Good.l0]
    rw [if_neg (by omega)]
    unfold courseB
    rw [decide_eq_true h, Bool.true_and]
    exact congrArg some (decide_eq_decide.2 (by omega))
def setR (acc : List Int) (a b v : Int) : List Int := acc.mapIdx fun i x => if a ≤ (i : Int) ∧ (i : Int) < b then v else x
theorem setR_len (acc : List Int) (a b v : Int) : (setR acc a b v).length = acc.length := by simp [setR]
theorem setR_get (acc : List Int) (a b v : Int) (j : Nat) (h : j < acc.length) : (setR acc a b v).getD j 0 = if a ≤ (j : Int) ∧ (j : Int) < b then v else acc.getD j 0 := by
  rw [getD_lt _ _ _ (by rw [setR_len]; exact h), getD_lt _ _ _ h]
  simp [setR]
theorem setR_none (acc : List Int) (a b v : Int) (h : b ≤ a) : setR acc a b v = acc := by
  refine list_ext_getD _ _ 0 (setR_len _ _ _ _) (fun j hj => ?_)
  rw [setR_get _ _ _ _ _ (by rwa [setR_len] at hj), if_neg (by omega)]
theorem setR_set (acc : List Int) (a b v : Int) (h0 : 0 ≤ a) (h : a < b) (hb : b ≤ acc.length) : setR (acc.set a.toNat v) (a + 1) b v = setR acc a b v := by
  refine list_ext_getD _ _ 0 (by rw [setR_len, setR_len, List.length_set]) (fun j hj => ?_)
  rw [setR_len, List.length_set] at hj
  rw [setR_get _ _ _ _ _ (by rw [List.length_set]; exact hj), setR_get _ _ _ _ _ hj]
  by_cases e : j = a.toNat
  · subst e
    rw [if_neg (by omega), if_pos (by omega), getD_set_self _ _ _ _ hj]
  · rw [getD_set_ne _ _ _ _ _ (by omega)]
    by_cases g : a + 1 ≤ (j : Int) ∧ (j : Int) < b
    · rw [if_pos g, if_pos (by omega)]
    · rw [if_neg g, if_neg (by omega)]
def levelsV (l : List S46) : List Int := l.foldl (fun acc s => setR acc s.f0 s.f1 s.f2) (List.replicate 240 0)
theorem levels_fold_len (l : List S46) : ∀ acc : List Int, (l.foldl (fun acc s => setR acc s.f0 s.f1 s.f2) acc).length = acc.length := by
  induction l with
  | nil => intro acc; rfl
  | cons s l ih => intro acc; rw [List.foldl_cons, ih, setR_len]
theorem levelsV_len (l : List S46) : (levelsV l).length = 240 := by
  unfold levelsV; rw [levels_fold_len, List.length_replicate]
theorem levels_fold_le (l : List S46) (hv : ∀ s ∈ l, segB s = true) : ∀ acc : List Int, (∀ x ∈ acc, 0 ≤ x ∧ x ≤ 3) → ∀ x ∈ l.foldl (fun acc s => setR acc s.f0 s.f1 s.f2) acc, 0 ≤ x ∧ x ≤ 3 := by
  induction l with
  | nil => intro acc h; exact h
  | cons s l ih =>
    intro acc h
    rw [List.foldl_cons]
    refine ih (fun t ht => hv t (List.mem_cons_of_mem _ ht)) _ (fun x hx => ?_)
    have hs := hv s List.mem_cons_self
    unfold segB at hs
    simp only [Bool.and_eq_true, decide_eq_true_eq] at hs
    obtain ⟨i, hi, rfl⟩ := List.mem_iff_getElem.1 hx
    rw [setR_len] at hi
    have := setR_get acc s.f0 s.f1 s.f2 i hi
    rw [getD_lt _ _ _ (by rw [setR_len]; exact hi)] at this
    rw [this]
    split
    · omega
    · rw [getD_lt _ _ _ hi]; exact h _ (List.getElem_mem _)
theorem levelsV_le {l : List S46} (hv : ∀ s ∈ l, segB s = true) : ∀ x ∈ levelsV l, 0 ≤ x ∧ x ≤ 3 :=
  levels_fold_le l hv _ (fun x hx => by rw [List.eq_of_mem_replicate hx]; omega)
theorem levelsOf_inner (l : List S46) (n i a b v : Int) : ∀ (d : Nat) (h : Int) (acc : List Int) (k : Nat), h + d = b → 0 ≤ h → b ≤ acc.length → acc.length ≤ 4503599627370496 →
    impl_levelsOf.l1 (k + (d + 1)) acc h l n i a b v = impl_levelsOf.l0 k (setR acc h b v) l n (wrap64 (i + 1)) := by
  intro d
  induction d with
  | zero =>
    intro h acc k e h0 hb hl
    show impl_levelsOf.l1 (k + 1) acc h l n i a b v = _
    simp only [impl_levelsOf.l1]
    rw [if_neg (by omega), setR_none _ _ _ _ (by omega)]
  | succ d ih =>
    intro h acc k e h0 hb hl
    show impl_levelsOf.l1 ((k + (d + 1)) + 1) acc h l n i a b v = _
    rw [impl_levelsOf.l1]
    rw [if_pos (by omega), if_pos (by omega), if_pos (by omega), wrap_id (x := h + 1) (by omega) (by omega), ih (h + 1) _ k (by omega) (by omega) (by rw [List.length_set]; exact hb) (by rw [List.length_set]; exact hl), setR_set _ _ _ _ h0 (by omega) hb]
theorem levelsOf_ev (l : List S46) (hl : l.length ≤ 4503599627370496) (hv : ∀ s ∈ l, segB s = true) : Evt fun k => impl_levelsOf.f k l = some (levelsV l) := by
  unfold impl_levelsOf.f
  simp only [if_pos (show (240 : Nat) ≤ 35184372088832 by omega)]
  refine evt_loop0 l.length (fun k s i => impl_levelsOf.l0 k s l (l.length : Int) i) (levelsV l) (fun i s => s.length = 240 ∧ (l.drop i).foldl (fun acc s => setR acc s.f0 s.f1 s.f2) s = levelsV l) ?_ ?_ _ ⟨List.length_replicate, rfl⟩
  · rintro i s hi ⟨h1, h2⟩
    have hs := hv (l.getD i z46) (by rw [getD_lt _ _ _ hi]; exact List.getElem_mem _)
    unfold segB at hs
    simp only [Bool.and_eq_true, decide_eq_true_eq] at hs
    rw [getD_drop l z46 i hi, List.foldl_cons] at h2
    refine .inl ⟨_, ⟨by rw [setR_len]; exact h1, h2⟩, ((l.getD i z46).f1 - (l.getD i z46).f0).toNat + 1 + 1, Evt.all fun k => ?_⟩
    show impl_levelsOf.l0 ((k + (((l.getD i z46).f1 - (l.getD i z46).f0).toNat + 1)) + 1) s l (l.length : Int) (i : Int) = _
    simp only [impl_levelsOf.l0, rd_seg]
    rw [if_pos (by omega), if_pos (by omega), if_pos (by omega), levelsOf_inner _ _ _ _ _ _ _ _ _ _ (by omega) (by omega) (by omega) (by omega), wrap_id (by omega) (by omega)]
  · rintro s ⟨h1, h2⟩
    rw [List.drop_of_length_le (Nat.le_refl _)] at h2
    refine Evt.succ (Evt.all fun k => ?_)
    show impl_levelsOf.l0 (k + 1) s l (l.length : Int) (l.length : Int) = _
    simp only [impl_levelsOf.l0]
    rw [if_neg (by omega), ← h2]; rfl
theorem l18Levels_inner (l : List S46) (hl : l.length ≤ 4503599627370496) (i : Nat) (hi : i < l.length) (b v : Int) (hb0 : (l.getD i z46).f1 = b) (hv0 : (l.getD i z46).f2 = v) : ∀ (d : Nat) (h : Int) (acc : List Int) (k : Nat), h + d = b → 0 ≤ h → b ≤ acc.length → acc.length ≤ 4503599627370496 →
    spec_l18Levels.l1 (k + (d + 1)) l acc (i : Int) h = spec_l18Levels.l0 k l (setR acc h b v) ((i : Int) + 1) := by
  intro d
  induction d with
  | zero =>
    intro h acc k e h0 hb hl'
    show spec_l18Levels.l1 (k + 1) l acc (i : Int) h = _
    simp only [spec_l18Levels.l1, rd_seg, hb0, hv0]
    rw [if_pos (by omega), if_pos (by omega), if_neg (by omega), setR_none _ _ _ _ (by omega), wrap_id (by omega) (by omega)]
  | succ d ih =>
    intro h acc k e h0 hb hl'
    show spec_l18Levels.l1 ((k + (d + 1)) + 1) l acc (i : Int) h = _
    rw [spec_l18Levels.l1]
    simp only [rd_seg, hb0, hv0]
    rw [if_pos (by omega), if_pos (by omega), if_pos (by omega), if_pos (by omega), if_pos (by omega), wrap_id (x := h + 1) (by omega) (by omega), ih (h + 1) _ k (by omega) (by omega) (by rw [List.length_set]; exact hb) (by rw [List.length_set]; exact hl'), setR_set _ _ _ _ h0 (by omega) hb]
theorem l18Levels_ev (l : List S46) (hl : l.length ≤ 4503599627370496) (hv : ∀ s ∈ l, segB s = true) : Evt fun k => spec_l18Levels.f k l = some (levelsV l) := by
  unfold spec_l18Levels.f
  simp only [if_pos (show (240 : Nat) ≤ 35184372088832 by omega)]
  refine evt_loop0 l.length (fun k s i => spec_l18Levels.l0 k l s i) (levelsV l) (fun i s => s.length = 240 ∧ (l.drop i).foldl (fun acc s => setR acc s.f0 s.f1 s.f2) s = levelsV l) ?_ ?_ _ ⟨List.length_replicate, rfl⟩
  · rintro i s hi ⟨h1, h2⟩
    have hs := hv (l.getD i z46) (by rw [getD_lt _ _ _ hi]; exact List.getElem_mem _)
    unfold segB at hs
    simp only [Bool.and_eq_true, decide_eq_true_eq] at hs
    rw [getD_drop l z46 i hi, List.foldl_cons] at h2
    refine .inl ⟨_, ⟨by rw [setR_len]; exact h1, h2⟩, ((l.getD i z46).f1 - (l.getD i z46).f0).toNat + 1 + 1, Evt.all fun k => ?_⟩
    show spec_l18Levels.l0 ((k + (((l.getD i z46).f1 - (l.getD i z46).f0).toNat + 1)) + 1) l s (i : Int) = _
    simp only [spec_l18Levels.l0, rd_seg]
    rw [if_pos (by omega), if_pos (by omega), l18Levels_inner l hl i hi _ _ rfl rfl _ _ _ _ (by omega) (by omega) (by omega) (by omega)]
  · rintro s ⟨h1, h2⟩
    rw [List.drop_of_length_le (Nat.le_refl _)] at h2
    refine Evt.succ (Evt.all fun k => ?_)
    show spec_l18Levels.l0 (k + 1) l s (l.length : Int) = _
    simp only [spec_l18Levels.l0]
    rw [if_neg (by omega), ← h2]; rfl
theorem evt_meas {σ ρ : Type} (L : Nat → σ → Option ρ) (v : ρ) (Inv : σ → Prop) (m : σ → Nat)
    (step : ∀ s, Inv s → (∃ s', Inv s' ∧ m s' < m s ∧ ∃ c, Evt fun k => L (k + c) s = L k s') ∨ Evt fun k => L k s = some v) :
    ∀ s, Inv s → Evt fun k => L k s = some v := by
  have key : ∀ (n : Nat) (s : σ), m s < n → Inv s → Evt fun k => L k s = some v := by
    intro n
    induction n with
    | zero => intro s hs; omega
    | succ n ih =>
      intro s hs hi
      rcases step s hi with ⟨s', hi', hm, c, e⟩ | e
      · exact Evt.add c ((e.and (ih s' (by omega) hi')).mono fun k hk => hk.1.trans hk.2)
      · exact e
  intro s hi
  exact key (m s + 1) s (by omega) hi
def lastS (acc : List S46) : S46 := acc.getD (acc.length - 1) z46
def stepC (lv : List Int) (acc : List S46) (i : Nat) : List S46 :=
  if lv.getD i 0 = 0 then acc
  else if 0 < acc.length ∧ (lastS acc).f1 = (i : Int) ∧ (lastS acc).f2 = lv.getD i 0 then acc.set (acc.length - 1) ⟨(lastS acc).f0, (lastS acc).f1 + 1, (lastS acc).f2⟩
  else acc ++ [⟨(i : Int), (i : Int) + 1, lv.getD i 0⟩]
def runC (lv : List Int) : Nat → List S46
  | 0 => []
  | n + 1 => stepC lv (runC lv n) n
def courseV (lv : List Int) : List S46 × Bool := if 12 < (runC lv lv.length).length then ([], false) else (runC lv lv.length, true)
theorem lastS_append (acc : List S46) (s : S46) : lastS (acc ++ [s]) = s := by
  unfold lastS
  rw [List.getD_eq_getElem?_getD]
  simp
theorem lastS_set (acc : List S46) (s : S46) (h : 0 < acc.length) : lastS (acc.set (acc.length - 1) s) = s := by
  unfold lastS
  rw [List.length_set, getD_set_self _ _ _ _ (by omega)]
theorem runC_len (lv : List Int) : ∀ i, (runC lv i).length ≤ i := by
  intro i
  induction i with
  | zero => simp [runC]
  | succ i ih =>
    simp only [runC, stepC]
    split
    · omega
    · split
      · rw [List.length_set]; omega
      · rw [List.length_append, List.length_singleton]; omega
theorem runC_last (lv : List Int) : ∀ i, 0 < (runC lv i).length → (lastS (runC lv i)).f1 ≤ (i : Int) ∧ ((lastS (runC lv i)).f1 = (i : Int) → 0 < i ∧ (lastS (runC lv i)).f2 = lv.getD (i - 1) 0) := by
  intro i
  induction i with
  | zero => intro h; simp [runC] at h
  | succ i ih =>
    intro h
    simp only [runC, stepC] at h ⊢
    split at h
    · rename_i h0
      rw [if_pos h0]
      have := (ih h).1
      exact ⟨by omega, fun e => by omega⟩
    · rename_i h0
      rw [if_neg h0]
      split at h
      · rename_i h1
        rw [if_pos h1, lastS_set _ _ h1.1]
        refine ⟨by simp only; omega, fun _ => ⟨by omega, ?_⟩⟩
        simp only [Nat.add_sub_cancel]
        exact h1.2.2
      · rename_i h1
        rw [if_neg h1, lastS_append]
        refine ⟨by simp only; omega, fun _ => ⟨by omega, ?_⟩⟩
        simp only [Nat.add_sub_cancel]
theorem courseOf_ev (lv : List Int) (hl : lv.length ≤ 1000000000) : Evt fun k => impl_courseOf.f k lv = some (courseV lv) := by
  unfold impl_courseOf.f
  refine evt_loop0 lv.length (fun k s i => impl_courseOf.l0 k s lv (lv.length : Int) i) (courseV lv) (fun i s => s = runC lv i) ?_ ?_ _ rfl
  · rintro i s hi rfl
    refine .inl ⟨_, rfl, 1, Evt.all fun k => ?_⟩
    show impl_courseOf.l0 (k + 1) (runC lv i) lv (lv.length : Int) (i : Int) = impl_courseOf.l0 k (stepC lv (runC lv i) i) lv (lv.length : Int) ((i : Int) + 1)
    have hlen := runC_len lv i
    have hlast := runC_last lv i
    have w1 : wrap64 ((i : Int) + 1) = (i : Int) + 1 := wrap_id (by omega) (by omega)
    simp only [impl_courseOf.l0, rd_nat, w1]
    rw [if_pos (by omega), if_pos (by omega), if_pos (by omega)]
    unfold stepC
    by_cases h0 : lv.getD i 0 = 0
    · rw [if_pos h0, if_pos h0]
    · rw [if_neg h0, if_neg h0, if_pos (show (runC lv i).length < 5864062014805 by omega)]
      by_cases h1 : 0 < (runC lv i).length
      · have w2 : wrap64 (((runC lv i).length : Int) - 1) = ((runC lv i).length : Int) - 1 := wrap_id (by omega) (by omega)
        have e1 : rd_T46 (runC lv i) (((runC lv i).length : Int) - 1) = lastS (runC lv i) := by unfold rd_T46 lastS; congr 1; omega
        have e2 : (((runC lv i).length : Int) - 1).toNat = (runC lv i).length - 1 := by omega
        rw [if_pos (by omega), w2, if_pos (by omega), if_pos (by omega), e1, e2]
        by_cases h2 : (lastS (runC lv i)).f1 = (i : Int)
        · by_cases h3 : (lastS (runC lv i)).f2 = lv.getD i 0
          · rw [if_pos h2, if_pos h3, if_pos ⟨h1, h2, h3⟩, wrap_id (by omega) (by omega)]
          · rw [if_pos h2, if_neg h3, if_neg (fun h => h3 h.2.2)]
        · rw [if_neg h2, if_neg (fun h => h2 h.2.1)]
      · rw [if_neg (by omega), if_neg (fun h => h1 h.1)]
  · rintro s rfl
    refine Evt.succ (Evt.all fun k => ?_)
    show impl_courseOf.l0 (k + 1) (runC lv lv.length) lv (lv.length : Int) (lv.length : Int) = _
    simp only [impl_courseOf.l0]
    rw [if_neg (by omega)]
    unfold courseV
    by_cases h : 12 < (runC lv lv.length).length
    · rw [if_pos (by omega), if_pos h]
    · rw [if_neg (by omega), if_neg h]
theorem runC_run (lv : List Int) (i : Nat) (hb : i = 0 ∨ lv.getD (i - 1) 0 ≠ lv.getD i 0) : ∀ m, (∀ q, i ≤ q → q < i + (m + 1) → lv.getD q 0 = lv.getD i 0) →
    runC lv (i + (m + 1)) = if lv.getD i 0 = 0 then runC lv i else runC lv i ++ [⟨(i : Int), ((i + (m + 1) : Nat) : Int), lv.getD i 0⟩] := by
  intro m
  induction m with
  | zero =>
    intro _
    show stepC lv (runC lv i) i = _
    unfold stepC
    by_cases h0 : lv.getD i 0 = 0
    · rw [if_pos h0, if_pos h0]
    · rw [if_neg h0, if_neg h0, if_neg]
      · simp
      · rintro ⟨h1, h2, h3⟩
        have := (runC_last lv i h1).2 h2
        rcases hb with hb | hb
        · omega
        · exact hb (this.2.symm.trans h3)
  | succ m ih =>
    intro hq
    show stepC lv (runC lv (i + (m + 1))) (i + (m + 1)) = _
    rw [ih (fun q h1 h2 => hq q h1 (by omega))]
    unfold stepC
    rw [hq (i + (m + 1)) (by omega) (by omega)]
    by_cases h0 : lv.getD i 0 = 0
    · rw [if_pos h0, if_pos h0, if_pos h0]
    · rw [if_neg h0, if_neg h0, if_neg h0, if_pos ⟨by simp, by rw [lastS_append], by rw [lastS_append]⟩]
      rw [lastS_append]
      simp only [List.length_append, List.length_singleton, Nat.add_sub_cancel]
      rw [List.set_append_right _ _ (Nat.le_refl _)]
      simp
      omega
theorem l18Course_ev (lv : List Int) (hl : lv.length ≤ 1000000000) (h0 : ∀ x ∈ lv, 0 ≤ x) : Evt fun k => spec_l18Course.f k lv = some (courseV lv) := by
  unfold spec_l18Course.f
  have hge : ∀ i, i < lv.length → 0 ≤ lv.getD i 0 := fun i hi => by rw [getD_lt _ _ _ hi]; exact h0 _ (List.getElem_mem _)
  have fin : ∀ k, spec_l18Course.l0 (k + 1) lv (runC lv lv.length) (lv.length : Int) = some (courseV lv) := by
    intro k
    simp only [spec_l18Course.l0]
    rw [if_neg (by omega)]
    unfold courseV
    by_cases h : 12 < (runC lv lv.length).length
    · rw [if_pos (by omega), if_pos h]
    · rw [if_neg (by omega), if_neg h]
  have main := evt_meas (fun k (s : Nat × Nat) => spec_l18Course.l1 k lv (runC lv s.1) (s.1 : Int) (s.2 : Int)) (courseV lv)
    (fun s => s.1 < lv.length ∧ s.1 ≤ s.2 ∧ s.2 ≤ lv.length ∧ (s.1 = 0 ∨ lv.getD (s.1 - 1) 0 ≠ lv.getD s.1 0) ∧ ∀ q, s.1 ≤ q → q < s.2 → lv.getD q 0 = lv.getD s.1 0)
    (fun s => 2 * (lv.length - s.2) + if s.1 < s.2 then 1 else 0) ?_
  · refine Evt.succ ?_
    by_cases hn : 0 < lv.length
    · have := main (0, 0) ⟨hn, Nat.le_refl _, Nat.zero_le _, .inl rfl, fun q h1 h2 => by simp only at h2; omega⟩
      refine this.mono fun k hk => ?_
      simp only [spec_l18Course.l0]
      rw [if_pos (by omega)]
      exact hk
    · refine Evt.all fun k => ?_
      have := fin k
      obtain rfl : lv = [] := List.eq_nil_of_length_eq_zero (by omega)
      exact this
  · rintro ⟨i, p⟩ ⟨h1, h2, h3, hb, hq⟩
    simp only at h1 h2 h3 hb hq ⊢
    have hlen := runC_len lv i
    have run_end : i < p → runC lv p = if lv.getD i 0 = 0 then runC lv i else runC lv i ++ [⟨(i : Int), (p : Int), lv.getD i 0⟩] := by
      intro hip
      have := runC_run lv i hb (p - i - 1) (fun q a b => hq q a (by omega))
      rw [show i + (p - i - 1 + 1) = p from by omega] at this
      exact this
    by_cases hp : p < lv.length
    · by_cases he : lv.getD p 0 = lv.getD i 0
      · refine .inl ⟨(i, p + 1), ⟨h1, by simp only; omega, by simp only; omega, hb, fun q a b => ?_⟩, ?_, 1, Evt.all fun k => ?_⟩
        · simp only at a b ⊢
          by_cases hqp : q = p
          · subst hqp; exact he
          · exact hq q a (by omega)
        · simp only
          rw [if_pos (by omega)]
          split <;> omega
        · simp only [spec_l18Course.l1, rd_nat]
          rw [if_pos (by omega), if_pos (by omega), if_pos (by omega), if_pos (by omega), if_pos he, wrap_id (by omega) (by omega)]
          rfl
      · have hip : i < p := by
          rcases Nat.lt_or_ge i p with h | h
          · exact h
          · exact absurd (by rw [show p = i from by omega]) he
        have hr := run_end hip
        refine .inl ⟨(p, p), ⟨hp, Nat.le_refl _, h3, .inr ?_, fun q a b => by simp only at a b; omega⟩, ?_, 2, Evt.all fun k => ?_⟩
        · simp only
          rw [hq (p - 1) (by omega) (by omega)]
          exact fun h => he h.symm
        · simp only
          rw [if_pos hip, if_neg (by omega)]
          omega
        · simp only [spec_l18Course.l1, rd_nat]
          rw [if_pos (by omega), if_pos (by omega), if_pos (by omega), if_pos (by omega), if_neg he]
          rw [hr]
          have := hge i h1
          by_cases hz : lv.getD i 0 = 0
          · rw [if_neg (by omega), if_pos hz]
            simp only [spec_l18Course.l0]
            rw [if_pos (by omega)]
          · rw [if_pos (by omega), if_neg hz, if_pos (by omega)]
            simp only [spec_l18Course.l0]
            rw [if_pos (by omega)]
    · obtain rfl : p = lv.length := by omega
      have hr := run_end h1
      refine .inr (Evt.add 2 (Evt.all fun k => ?_))
      simp only [spec_l18Course.l1, rd_nat]
      rw [if_neg (by omega), if_pos (by omega), if_pos (by omega)]
      have := hge i h1
      have hf := fin k
      rw [hr] at hf
      by_cases hz : lv.getD i 0 = 0
      · rw [if_neg (by omega)]
        rw [if_pos hz] at hf
        exact hf
      · rw [if_pos (by omega), if_pos (by omega)]
        rw [if_neg hz] at hf
        exact hf
def zipF (f : Int → Int → Int) (x y : List Int) : List Int := List.zipWith f x y
theorem zipF_len (f : Int → Int → Int) (x y : List Int) (h : x.length = y.length) : (zipF f x y).length = x.length := by simp [zipF, h]
theorem zipF_get (f : Int → Int → Int) (x y : List Int) (j : Nat) (h : j < x.length) (h2 : j < y.length) : (zipF f x y).getD j 0 = f (x.getD j 0) (y.getD j 0) := by
  rw [getD_lt _ _ _ (by simp [zipF]; omega), getD_lt _ _ _ h, getD_lt _ _ _ h2]; simp [zipF]
theorem zipF_nonneg (f : Int → Int → Int) (x y : List Int) (hx : ∀ a ∈ x, 0 ≤ a ∧ a ≤ 3) (hy : ∀ a ∈ y, 0 ≤ a ∧ a ≤ 3) (hf : ∀ a b, 0 ≤ a → 0 ≤ b → 0 ≤ f a b) (h : x.length = y.length) : ∀ a ∈ zipF f x y, 0 ≤ a := by
  intro a ha
  obtain ⟨i, hi, rfl⟩ := List.mem_iff_getElem.1 ha
  rw [zipF_len _ _ _ h] at hi
  have := zipF_get f x y i hi (by omega)
  rw [getD_lt _ _ _ (by rw [zipF_len _ _ _ h]; exact hi), getD_lt _ _ _ hi, getD_lt _ _ _ (show i < y.length by omega)] at this
  rw [this]
  exact hf _ _ (hx _ (List.getElem_mem _)).1 (hy _ (List.getElem_mem _)).1
theorem courseV_len (lv : List Int) : (courseV lv).1.length ≤ lv.length := by
  unfold courseV
  split
  · simp
  · exact runC_len lv _
def joinF (a b : Int) : Int := if a = b then a else 0
theorem joinImpl_loop (x y : List Int) (hx : x.length = 240) (hy : y.length = 240) : Evt fun k => impl_joinedCourse.l0 k x y (y.length : Int) 0 = some (courseV (zipF joinF x y)) := by
  refine evt_loop0 y.length (fun k s i => impl_joinedCourse.l0 k s y (y.length : Int) i) _ (fun i s => s.length = x.length ∧ (∀ j, j < i → s.getD j 0 = (zipF joinF x y).getD j 0) ∧ ∀ j, i ≤ j → s.getD j 0 = x.getD j 0) ?_ ?_ x ⟨rfl, fun j hj => by omega, fun j _ => rfl⟩
  · rintro i s hi ⟨h1, h2, h3⟩
    refine .inl ⟨s.set i (joinF (x.getD i 0) (y.getD i 0)), ⟨by simpa using h1, fun j hj => ?_, fun j hj => ?_⟩, 1, Evt.all fun k => ?_⟩
    · by_cases e : j = i
      · subst e; rw [getD_set_self _ _ _ _ (by omega), zipF_get _ _ _ _ (by omega) hi]
      · rw [getD_set_ne _ _ _ _ _ (by omega)]; exact h2 j (by omega)
    · rw [getD_set_ne _ _ _ _ _ (by omega)]; exact h3 j (by omega)
    · show impl_joinedCourse.l0 (k + 1) s y (y.length : Int) (i : Int) = _
      simp only [impl_joinedCourse.l0, rd_nat, Int.toNat_natCast]
      rw [if_pos (by omega), if_pos (by omega), if_pos (by omega), if_pos (by omega), h3 i (Nat.le_refl _), wrap_id (x := (i : Int) + 1) (by omega) (by omega)]
      unfold impl_CommonCourse_1.f joinF
      split <;> rfl
  · rintro s ⟨h1, h2, h3⟩
    obtain rfl : s = zipF joinF x y := list_ext_getD _ _ 0 (by rw [zipF_len _ _ _ (by omega)]; exact h1) (fun j hj => h2 j (by omega))
    refine Evt.succ ((courseOf_ev (zipF joinF x y) (by omega)).mono fun k hk => ?_)
    show impl_joinedCourse.l0 (k + 1) (zipF joinF x y) y (y.length : Int) (y.length : Int) = _
    simp only [impl_joinedCourse.l0]
    rw [if_neg (by omega), hk, Option.bind_some]
theorem joinSpec_loop (x y : List Int) (hx : x.length = 240) (hy : y.length = 240) (h0 : ∀ a ∈ zipF joinF x y, 0 ≤ a) (n : Nat) (hn : n = 240) : Evt fun k => spec_CommonCourse.l0 k x y 0 = some (courseV (zipF joinF x y)) := by
  refine evt_loop0 n (fun k s i => spec_CommonCourse.l0 k s y i) _ (fun i s => s.length = x.length ∧ (∀ j, j < i → s.getD j 0 = (zipF joinF x y).getD j 0) ∧ ∀ j, i ≤ j → s.getD j 0 = x.getD j 0) ?_ ?_ x ⟨rfl, fun j hj => by omega, fun j _ => rfl⟩
  · rintro i s hi ⟨h1, h2, h3⟩
    refine .inl ⟨s.set i (joinF (x.getD i 0) (y.getD i 0)), ⟨by simpa using h1, fun j hj => ?_, fun j hj => ?_⟩, 1, Evt.all fun k => ?_⟩
    · by_cases e : j = i
      · subst e; rw [getD_set_self _ _ _ _ (by omega), zipF_get _ _ _ _ (by omega) (by omega)]
      · rw [getD_set_ne _ _ _ _ _ (by omega)]; exact h2 j (by omega)
    · rw [getD_set_ne _ _ _ _ _ (by omega)]; exact h3 j (by omega)
    · show spec_CommonCourse.l0 (k + 1) s y (i : Int) = _
      have h3' := h3 i (Nat.le_refl _)
      simp only [spec_CommonCourse.l0, rd_nat, Int.toNat_natCast]
      rw [if_pos (by omega), if_pos (by omega), if_pos (by omega), if_pos (by omega), wrap_id (x := (i : Int) + 1) (by omega) (by omega)]
      unfold joinF
      rw [h3']
      by_cases h : x.getD i 0 = y.getD i 0
      · rw [if_pos h, if_pos h, ← h3']
        congr 1
        refine list_ext_getD _ _ 0 (by rw [List.length_set]) (fun j hj => ?_)
        by_cases e : j = i
        · subst e; rw [getD_set_self _ _ _ _ (by omega)]
        · rw [getD_set_ne _ _ _ _ _ (by omega)]
      · rw [if_neg h, if_neg h]
  · rintro s ⟨h1, h2, h3⟩
    obtain rfl : s = zipF joinF x y := list_ext_getD _ _ 0 (by rw [zipF_len _ _ _ (by omega)]; exact h1) (fun j hj => h2 j (by omega))
    refine Evt.succ ((l18Course_ev (zipF joinF x y) (by omega) h0).mono fun k hk => ?_)
    show spec_CommonCourse.l0 (k + 1) (zipF joinF x y) y (n : Int) = _
    simp only [spec_CommonCourse.l0]
    rw [if_neg (by omega), hk, Option.bind_some]
theorem pair_CommonCourse (l l2 : List S46) (hl : l.length ≤ 1048576) (hl2 : l2.length ≤ 1048576) : ∃ v, (Evt fun k => impl_CommonCourse.f k l l2 = some v) ∧ (Evt fun k => spec_CommonCourse.f k l l2 = some v) ∧ v.1.length ≤ 1048576 := by
  have c1 := IsValidCourse_ev l (by omega)
  have c2 := l18Good_ev l (by omega)
  have d1 := IsValidCourse_ev l2 (by omega)
  have d2 := l18Good_ev l2 (by omega)
  by_cases hc : courseB l = true ∧ courseB l2 = true
  · obtain ⟨hc, hd⟩ := hc
    have hx := levelsV_len l
    have hy := levelsV_len l2
    have f1 := joinImpl_loop (levelsV l) (levelsV l2) hx hy
    have f2 := joinSpec_loop (levelsV l) (levelsV l2) hx hy (zipF_nonneg _ _ _ (levelsV_le (courseB_seg hc)) (levelsV_le (courseB_seg hd)) (by intro a b ha hb; unfold joinF; split <;> omega) (by omega)) _ rfl
    have hv := courseV_len (zipF joinF (levelsV l) (levelsV l2))
    rw [zipF_len _ _ _ (by omega)] at hv
    refine ⟨courseV (zipF joinF (levelsV l) (levelsV l2)), Evt.succ (((Evt.shift c1).and ((Evt.shift d1).and ((levelsOf_ev l (by omega) (courseB_seg hc)).and ((levelsOf_ev l2 (by omega) (courseB_seg hd)).and f1)))).mono ?_), Evt.succ (((Evt.shift c2).and ((Evt.shift d2).and ((l18Levels_ev l (by omega) (courseB_seg hc)).and ((l18Levels_ev l2 (by omega) (courseB_seg hd)).and f2)))).mono ?_), by omega⟩
    · rintro k ⟨h1, h2, h3, h4, h5⟩
      simp only [impl_CommonCourse.f, impl_joinedCourse.f, impl_joinedCourse.j0, h1, h2, hc, hd, Option.bind_some, if_true, Bool.not_true, h3, h4]
      rw [if_neg (by simp), h5, Option.bind_some]
    · rintro k ⟨h1, h2, h3, h4, h5⟩
      simp only [spec_CommonCourse.f, spec_CommonCourse.j0, h1, h2, hc, hd, Option.bind_some, if_true, Bool.not_true, h3, h4]
      rw [if_neg (by simp), h5]
  · refine ⟨([], false), (Evt.pos.and (c1.and d1)).mono ?_, (Evt.pos.and (c2.and d2)).mono ?_, by simp⟩
    · rintro k ⟨⟨m, rfl⟩, h1, h2⟩
      cases hc1 : courseB l <;> cases hc2 : courseB l2 <;> simp_all [impl_CommonCourse.f, impl_joinedCourse.f, impl_joinedCourse.j0]
    · rintro k ⟨⟨m, rfl⟩, h1, h2⟩
      cases hc1 : courseB l <;> cases hc2 : courseB l2 <;> simp_all [spec_CommonCourse.f, spec_CommonCourse.j0]
theorem FnExactCommonCourse : FnExactCommonCoursePure := by
  intro l0 l1 hm0 hw0 hm1 hw1
  have q0 := szSegmentS_ok l0 1048576 (by omega) hm0
  by_cases hl0 : (1048576 - (l0.length : Int)) < 0
  · exact ⟨0, by unfold laws_FnExactCommonCourse.f; rw [q0, if_pos hl0, Option.bind_some, if_pos (by omega)]⟩
  rw [if_neg hl0] at q0
  have hn0 : l0.length ≤ 1048576 := by omega
  have q1 := szSegmentS_ok l1 ((1048576 - (l0.length : Int))) (by omega) hm1
  by_cases hl1 : ((1048576 - (l0.length : Int)) - (l1.length : Int)) < 0
  · exact ⟨0, by unfold laws_FnExactCommonCourse.f; rw [q0, Option.bind_some, if_neg hl0, q1, if_pos hl1, Option.bind_some, if_pos (by omega)]⟩
  rw [if_neg hl1] at q1
  have hn1 : l1.length ≤ 1048576 := by omega
  obtain ⟨⟨g0, g1⟩, hi, hs, hb⟩ := pair_CommonCourse (l0.map c_Segment) (l1.map c_Segment) (by rw [List.length_map]; exact hn0) (by rw [List.length_map]; exact hn1)
  simp only at hb
  have n0 : ¬ (1 + 3 * (l0.length : Int) + 3 * (l1.length : Int) < 0) := by omega
  have n1 : ¬ (1 + 3 * (g0.length : Int) < 0) := by omega
  obtain ⟨K, hK⟩ := ((hi).and ((hs).and ((toSegmentS_ev l0 hn0).and ((eqSegmentS_self (l0.map c_Segment) (by rw [List.length_map]; omega)).and ((toSegmentS_ev l1 hn1).and ((eqSegmentS_self (l1.map c_Segment) (by rw [List.length_map]; omega)).and ((markSegmentS_ev (l0.map c_Segment) 1 (by omega) (by rw [List.length_map]; omega)).and ((markSegmentS_ev (l1.map c_Segment) (1 + 3 * (l0.length : Int)) (by omega) (by rw [List.length_map]; omega)).and ((eqSegmentS_self g0 (by omega)).and ((markSegmentS_ev g0 1 (by omega) (by omega)).and (heldSegmentS_ev g0.length 1 (by omega) (by omega)))))))))))).at
  have e0 := fun j => (hK j).1
  have e1 := fun j => (hK j).2.1
  have e2 := fun j => (hK j).2.2.1
  have e3 := fun j => (hK j).2.2.2.1
  have e4 := fun j => (hK j).2.2.2.2.1
  have e5 := fun j => (hK j).2.2.2.2.2.1
  have e6 := fun j => (hK j).2.2.2.2.2.2.1
  have e7 := fun j => (hK j).2.2.2.2.2.2.2.1
  have e8 := fun j => (hK j).2.2.2.2.2.2.2.2.1
  have e9 := fun j => (hK j).2.2.2.2.2.2.2.2.2.1
  have e10 := fun j => (hK j).2.2.2.2.2.2.2.2.2.2
  refine ⟨K + 6, ?_⟩
  simp only [laws_FnExactCommonCourse.f, q0, if_neg hl0, q1, if_neg hl1, Option.bind_some, e0, e1, e2, e3, e4, e5, e6, e7, e8, e9, e10, if_true]
  simp [laws_FnExactCommonCourse.j0, laws_FnExactCommonCourse.j1, laws_FnExactCommonCourse.j2, e0, e1, e2, e3, e4, e5, e6, e7, e8, e9, e10, n0, n1]
end Go.Proofs.Ytlhajgbhplnieaa.XFnExactCommonCourse.Pure
