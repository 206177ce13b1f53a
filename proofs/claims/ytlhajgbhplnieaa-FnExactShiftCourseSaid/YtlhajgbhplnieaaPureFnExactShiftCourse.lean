/-
  The pure statement of the law FnExactShiftCourse: what its printed function answers is 'true' for all numbers and lists of its kinds. Conditions: the kinds' own bounds, as the statement lays them.
-/
import Derived.Test.YtlhajgbhplnieaaStmFnExactShiftCourse
import Derived.DataShut
namespace Go.Proofs.Ytlhajgbhplnieaa.XFnExactShiftCourse.Pure
open Go.RowKit Go.Proofs.Ytlhajgbhplnieaa.XFnExactShiftCourse Go.Proofs.YtlhajgbhplnieaaW.PrintWords Go.Proofs.YtlhajgbhplnieaaW.PrintLast Go.Proofs.YtlhajgbhplnieaaW.PrintMore
set_option linter.unusedVariables false
set_option linter.unusedSimpArgs false
theorem wrap_id {x : Int} (h0 : -9223372036854775808 ≤ x) (h1 : x ≤ 9223372036854775807) : wrap64 x = x := by unfold wrap64; omega
theorem wf64 {x : Int} (h : (Lit.int .i64 x).wf = true) : -9223372036854775808 ≤ x ∧ x ≤ 9223372036854775807 := by
  simpa [Lit.wf, IntKind.min, IntKind.max, IntKind.signed, IntKind.bits] using h
def Evt (P : Nat → Prop) : Prop := ∃ K, ∀ k, K ≤ k → P k
theorem Evt.all {P : Nat → Prop} (h : ∀ k, P k) : Evt P := ⟨0, fun k _ => h k⟩
theorem Evt.and {P Q : Nat → Prop} (h : Evt P) (g : Evt Q) : Evt fun k => P k ∧ Q k := by
  obtain ⟨K, h⟩ := h
  obtain ⟨M, g⟩ := g
  exact ⟨K + M, fun k hk => ⟨h k (by omega), g k (by omega)⟩⟩
theorem Evt.mono {P Q : Nat → Prop} (h : Evt P) (g : ∀ k, P k → Q k) : Evt Q := by
  obtain ⟨K, h⟩ := h
  exact ⟨K, fun k hk => g k (h k hk)⟩
theorem Evt.succ {Q : Nat → Prop} (h : Evt fun k => Q (k + 1)) : Evt Q := by
  obtain ⟨K, h⟩ := h
  refine ⟨K + 1, fun k hk => ?_⟩
  obtain ⟨m, rfl⟩ : ∃ m, k = m + 1 := ⟨k - 1, by omega⟩
  exact h m (by omega)
theorem Evt.add {Q : Nat → Prop} (c : Nat) (h : Evt fun k => Q (k + c)) : Evt Q := by
  obtain ⟨K, h⟩ := h
  refine ⟨K + c, fun k hk => ?_⟩
  obtain ⟨m, rfl⟩ : ∃ m, k = m + c := ⟨k - c, by omega⟩
  exact h m (by omega)
theorem Evt.shift {Q : Nat → Prop} (h : Evt Q) : Evt fun k => Q (k + 1) := by
  obtain ⟨K, h⟩ := h
  exact ⟨K, fun k hk => h _ (by omega)⟩
theorem Evt.at {P : Nat → Prop} (h : Evt P) : ∃ K, ∀ j, P (K + j) := by
  obtain ⟨K, h⟩ := h
  exact ⟨K, fun j => h _ (by omega)⟩
theorem Evt.pos : Evt fun k => ∃ m, k = m + 1 := ⟨1, fun k hk => ⟨k - 1, by omega⟩⟩
theorem evt_loop {σ ρ : Type} (n : Nat) (L : Nat → σ → Int → Option ρ) (v : ρ) (Inv : Nat → σ → Prop)
    (step : ∀ i s, i < n → Inv i s → (∃ s', Inv (i + 1) s' ∧ ∃ c, Evt fun k => L (k + c) s (i : Int) = L k s' ((i : Int) + 1)) ∨ Evt fun k => L k s (i : Int) = some v)
    (fin : ∀ s, Inv n s → Evt fun k => L k s (n : Int) = some v) :
    ∀ i s, i ≤ n → Inv i s → Evt fun k => L k s (i : Int) = some v := by
  have key : ∀ d i s, i + d = n → Inv i s → Evt fun k => L k s (i : Int) = some v := by
    intro d
    induction d with
    | zero =>
      intro i s hi h
      obtain rfl : i = n := by omega
      exact fin s h
    | succ d ih =>
      intro i s hi h
      rcases step i s (by omega) h with ⟨s', h', c, e⟩ | e
      · have h2 := ih (i + 1) s' (by omega) h'
        rw [show ((i + 1 : Nat) : Int) = (i : Int) + 1 from by omega] at h2
        exact Evt.add c ((e.and h2).mono fun k hk => hk.1.trans hk.2)
      · exact e
  intro i s hi h
  exact key (n - i) i s (by omega) h
theorem evt_loop0 {σ ρ : Type} (n : Nat) (L : Nat → σ → Int → Option ρ) (v : ρ) (Inv : Nat → σ → Prop)
    (step : ∀ i s, i < n → Inv i s → (∃ s', Inv (i + 1) s' ∧ ∃ c, Evt fun k => L (k + c) s (i : Int) = L k s' ((i : Int) + 1)) ∨ Evt fun k => L k s (i : Int) = some v)
    (fin : ∀ s, Inv n s → Evt fun k => L k s (n : Int) = some v) (s : σ) (h0 : Inv 0 s) : Evt fun k => L k s 0 = some v :=
  evt_loop n L v Inv step fin 0 s (Nat.zero_le _) h0
theorem getD_lt {α : Type} (xs : List α) (z : α) (i : Nat) (h : i < xs.length) : xs.getD i z = xs[i] := by
  rw [List.getD_eq_getElem?_getD, List.getElem?_eq_getElem h]; rfl
theorem getD_set_self {α : Type} (xs : List α) (z v : α) (i : Nat) (h : i < xs.length) : (xs.set i v).getD i z = v := by
  rw [List.getD_eq_getElem?_getD, List.getElem?_set_self h]; rfl
theorem getD_set_ne {α : Type} (xs : List α) (z v : α) (i j : Nat) (h : i ≠ j) : (xs.set i v).getD j z = xs.getD j z := by
  rw [List.getD_eq_getElem?_getD, List.getElem?_set_ne h, List.getD_eq_getElem?_getD]
theorem getD_map {α β : Type} (f : α → β) (xs : List α) (z : α) (y : β) (i : Nat) (h : i < xs.length) : (xs.map f).getD i y = f (xs.getD i z) := by
  rw [getD_lt _ _ _ (by simpa using h), getD_lt _ _ _ h, List.getElem_map]
theorem list_ext_getD {α : Type} (xs ys : List α) (z : α) (h : xs.length = ys.length) (e : ∀ j, j < xs.length → xs.getD j z = ys.getD j z) : xs = ys := by
  apply List.ext_getElem h
  intro j h1 h2
  have := e j h1
  rwa [getD_lt _ _ _ h1, getD_lt _ _ _ h2] at this
def c_Segment (x : S44) : S46 := ⟨x.f0, x.f1, x.f2⟩
theorem toSegmentS_ev (l : List S44) (hl : l.length ≤ 1048576) : Evt fun k => laws_toSegmentS.f k l = some (l.map c_Segment) := by
  unfold laws_toSegmentS.f
  simp only [if_pos (show 0 ≤ (l.length : Int) by omega), if_pos (show ((l.length : Int) : Int).toNat ≤ 11728124029610 by omega)]
  refine evt_loop0 l.length (fun k s i => laws_toSegmentS.l0 k l s i) (l.map c_Segment) (fun i s => s.length = l.length ∧ ∀ j, j < i → s.getD j z46 = (l.map c_Segment).getD j z46) ?_ ?_ _ ⟨by simp, fun j hj => by omega⟩
  · rintro i s hi ⟨h1, h2⟩
    refine .inl ⟨s.set i ((l.map c_Segment).getD i z46), ⟨by simpa using h1, fun j hj => ?_⟩, 1, Evt.all fun k => ?_⟩
    · by_cases e : j = i
      · subst e; rw [getD_set_self _ _ _ _ (by omega)]
      · rw [getD_set_ne _ _ _ _ _ (by omega)]; exact h2 j (by omega)
    · show laws_toSegmentS.l0 (k + 1) l s (i : Int) = _
      simp only [laws_toSegmentS.l0, laws_toSegment.f, Option.bind_some]
      rw [if_pos (by omega), if_pos (by omega), if_pos (by omega), wrap_id (by omega) (by omega), Int.toNat_natCast, getD_map _ _ z44 _ _ hi]
      rfl
  · rintro s ⟨h1, h2⟩
    refine Evt.succ (Evt.all fun k => ?_)
    show laws_toSegmentS.l0 (k + 1) l s (l.length : Int) = _
    simp only [laws_toSegmentS.l0]
    rw [if_neg (by omega)]
    exact congrArg some (list_ext_getD _ _ z46 (by simpa using h1) (fun j hj => h2 j (by omega)))
theorem eqSegmentS_self (l : List S46) (hl : l.length ≤ 4503599627370496) : Evt fun k => laws_eqSegmentS.f k l l = some true := by
  unfold laws_eqSegmentS.f
  simp only [if_true]
  refine evt_loop0 l.length (fun k (_ : Unit) i => laws_eqSegmentS.l0 k l l i) true (fun _ _ => True) ?_ ?_ () trivial
  · intro i s hi _
    refine .inl ⟨(), trivial, 1, Evt.all fun k => ?_⟩
    show laws_eqSegmentS.l0 (k + 1) l l (i : Int) = _
    simp only [laws_eqSegmentS.l0, laws_eqSegment.f]
    rw [if_pos (by omega), if_pos (by omega), if_pos (by omega), wrap_id (by omega) (by omega)]
    simp
  · intro s _
    refine Evt.succ (Evt.all fun k => ?_)
    show laws_eqSegmentS.l0 (k + 1) l l (l.length : Int) = _
    simp only [laws_eqSegmentS.l0]
    rw [if_neg (by omega)]
theorem szSegmentS_ok (l : List S44) (a : Int) (ha : 0 ≤ a ∧ a ≤ 1048576) (hl : l.length ≤ maxLen) : laws_szSegmentS.f l a = some (if a - (l.length : Int) < 0 then -1 else a - (l.length : Int)) := by
  unfold maxLen at hl
  unfold laws_szSegmentS.f
  rw [wrap_id (by omega) (by omega)]
  split <;> rfl
def mk_Segment (a : Int) (j : Nat) : S46 := ⟨a + 3 * (j : Int), a + 3 * (j : Int) + 1, a + 3 * (j : Int) + 1 + 1⟩
def marked_Segment (a : Int) (n : Nat) : List S46 := (List.range n).map (mk_Segment a)
theorem marked_Segment_len (a : Int) (n : Nat) : (marked_Segment a n).length = n := by simp [marked_Segment]
theorem marked_Segment_get (a : Int) (n j : Nat) (h : j < n) : (marked_Segment a n).getD j z46 = mk_Segment a j := by
  rw [getD_lt _ _ _ (by simpa [marked_Segment] using h)]; simp [marked_Segment]
theorem markSegmentS_ev (l : List S46) (a : Int) (ha : 0 ≤ a ∧ a ≤ 1000000000000) (hl : l.length ≤ 1000000000000) : Evt fun k => laws_markSegmentS.f k l a = some (a + 3 * l.length, marked_Segment a l.length) := by
  unfold laws_markSegmentS.f
  refine evt_loop0 l.length (fun k (s : List S46 × Int) i => laws_markSegmentS.l0 k s.1 s.2 i) _ (fun i s => s.1.length = l.length ∧ s.2 = a + 3 * i ∧ ∀ j, j < i → s.1.getD j z46 = mk_Segment a j) ?_ ?_ (l, a) ⟨rfl, by simp, fun j hj => by omega⟩
  · rintro i ⟨s, x⟩ hi ⟨h1, h2, h3⟩
    simp only at h1 h2 h3
    refine .inl ⟨(s.set i (mk_Segment a i), x + 1 + 1 + 1), ⟨by simpa using h1, by simp only; omega, fun j hj => ?_⟩, 1, Evt.all fun k => ?_⟩
    · simp only
      by_cases e : j = i
      · subst e; rw [getD_set_self _ _ _ _ (by omega)]
      · rw [getD_set_ne _ _ _ _ _ (by omega)]; exact h3 j (by omega)
    · show laws_markSegmentS.l0 (k + 1) s x (i : Int) = laws_markSegmentS.l0 k (s.set i (mk_Segment a i)) (x + 1 + 1 + 1) ((i : Int) + 1)
      have w1 : wrap64 (x + 1) = x + 1 := wrap_id (by omega) (by omega)
      have w2 : wrap64 (x + 1 + 1) = x + 1 + 1 := wrap_id (by omega) (by omega)
      have w3 : wrap64 (x + 1 + 1 + 1) = x + 1 + 1 + 1 := wrap_id (by omega) (by omega)
      simp only [laws_markSegmentS.l0, Option.bind_some]
      rw [if_pos (by omega), if_pos (by omega), wrap_id (x := (i : Int) + 1) (by omega) (by omega)]
      simp only [w1, w2, w3, rd_T46, Int.toNat_natCast, getD_set_self _ _ _ _ (show i < s.length by omega), List.set_set]
      subst h2
      rfl
  · rintro ⟨s, x⟩ ⟨h1, h2, h3⟩
    simp only at h1 h2 h3
    refine Evt.succ (Evt.all fun k => ?_)
    show laws_markSegmentS.l0 (k + 1) s x (l.length : Int) = _
    simp only [laws_markSegmentS.l0]
    rw [if_neg (by omega), h2]
    refine congrArg some (Prod.ext rfl (list_ext_getD _ _ z46 (by rw [marked_Segment_len]; exact h1) (fun j hj => ?_)))
    have hj' : j < l.length := by simp only at hj; omega
    rw [marked_Segment_get _ _ _ hj']; exact h3 j hj'
theorem heldSegmentS_ev (n : Nat) (a : Int) (ha : 0 ≤ a ∧ a ≤ 1000000000000) (hl : n ≤ 1000000000000) : Evt fun k => laws_heldSegmentS.f k (marked_Segment a n) a = some (a + 3 * n) := by
  unfold laws_heldSegmentS.f
  refine evt_loop0 n (fun k (x : Int) i => laws_heldSegmentS.l0 k (marked_Segment a n) x i) _ (fun i x => x = a + 3 * i) ?_ ?_ a (by simp)
  · rintro i x hi h2
    refine .inl ⟨x + 1 + 1 + 1, by omega, 1, Evt.all fun k => ?_⟩
    show laws_heldSegmentS.l0 (k + 1) (marked_Segment a n) x (i : Int) = _
    have w1 : wrap64 (x + 1) = x + 1 := wrap_id (by omega) (by omega)
    have w2 : wrap64 (x + 1 + 1) = x + 1 + 1 := wrap_id (by omega) (by omega)
    have w3 : wrap64 (x + 1 + 1 + 1) = x + 1 + 1 + 1 := wrap_id (by omega) (by omega)
    simp only [laws_heldSegmentS.l0]
    rw [marked_Segment_len, if_pos (by omega), if_pos (by omega), wrap_id (x := (i : Int) + 1) (by omega) (by omega)]
    simp only [w1, w2, w3, rd_T46, Int.toNat_natCast, marked_Segment_get _ _ _ hi]
    subst h2
    simp [mk_Segment]
  · rintro x h2
    refine Evt.succ (Evt.all fun k => ?_)
    show laws_heldSegmentS.l0 (k + 1) (marked_Segment a n) x (n : Int) = _
    simp only [laws_heldSegmentS.l0]
    rw [marked_Segment_len, if_neg (by omega), h2]
theorem within_ok (a b c : Int) : impl_within.f a b c = some (decide (b ≤ a ∧ a ≤ c)) := by
  unfold impl_within.f
  split <;> simp <;> omega
theorem l1In_ok (a b c : Int) : spec_l1In.f a b c = some (decide (b ≤ a ∧ a ≤ c)) := by
  unfold spec_l1In.f
  split <;> simp <;> omega
theorem segHours_ok (a b c : Int) : impl_areSegmentHours.f a b c = some (decide (0 ≤ a ∧ a < b ∧ b ≤ 240)) := by
  unfold impl_areSegmentHours.f
  split
  · split
    · exact congrArg some (decide_eq_decide.2 (by omega))
    · rw [decide_eq_false (by omega)]
  · rw [decide_eq_false (by omega)]
theorem l18Hours_ok (a b c : Int) : spec_l18Hours.f a b c = some (decide (0 ≤ a ∧ a < b ∧ b ≤ 240)) := by
  unfold spec_l18Hours.f
  split
  · split
    · exact congrArg some (decide_eq_decide.2 (by omega))
    · rw [decide_eq_false (by omega)]
  · rw [decide_eq_false (by omega)]
def segB (s : S46) : Bool := decide (0 ≤ s.f0 ∧ s.f0 < s.f1 ∧ s.f1 ≤ 240) && decide (1 ≤ s.f2 ∧ s.f2 ≤ 3)
def pairB (p s : S46) : Bool := decide (¬ (p.f1 > s.f0) ∧ ¬ (p.f1 = s.f0 ∧ p.f2 = s.f2))
def atB (l : List S46) (i : Nat) : Bool := segB (l.getD i z46) && (decide (i = 0) || pairB (l.getD (i - 1) z46) (l.getD i z46))
def courseB (l : List S46) : Bool := decide (∀ i, i < l.length → atB l i = true) && decide (l.length ≤ 12)
theorem courseB_seg {l : List S46} (h : courseB l = true) : ∀ s ∈ l, segB s = true := by
  intro s hs
  unfold courseB at h
  simp only [Bool.and_eq_true, decide_eq_true_eq] at h
  obtain ⟨i, hi, rfl⟩ := List.mem_iff_getElem.1 hs
  have := h.1 i hi
  unfold atB at this
  simp only [Bool.and_eq_true] at this
  rw [getD_lt _ _ _ hi] at this
  exact this.1
theorem courseB_len {l : List S46} (h : courseB l = true) : l.length ≤ 12 := by
  unfold courseB at h
  simp only [Bool.and_eq_true, decide_eq_true_eq] at h
  exact h.2
theorem rd_seg (l : List S46) (i : Nat) : rd_T46 l (i : Int) = l.getD i z46 := by unfold rd_T46; rw [Int.toNat_natCast]
theorem rd_seg_pred (l : List S46) (i : Nat) : rd_T46 l ((i : Int) - 1) = l.getD (i - 1) z46 := by unfold rd_T46; congr 1; omega
theorem validCourse_step (l : List S46) (hl : l.length ≤ 4503599627370496) (k i : Nat) (hi : i < l.length) :
    impl_IsValidCourse.l0 (k + 2) l l (l.length : Int) (i : Int) = if atB l i = true then impl_IsValidCourse.l0 k l l (l.length : Int) ((i : Int) + 1) else some false := by
  obtain ⟨s, hs⟩ : ∃ s, l.getD i z46 = s := ⟨_, rfl⟩
  obtain ⟨p, hp⟩ : ∃ p, l.getD (i - 1) z46 = p := ⟨_, rfl⟩
  have w1 : wrap64 ((i : Int) + 1) = (i : Int) + 1 := wrap_id (by omega) (by omega)
  have w2 : wrap64 ((i : Int) - 1) = (i : Int) - 1 := wrap_id (by omega) (by omega)
  simp only [impl_IsValidCourse.l0]
  rw [if_pos (by omega), if_pos (by omega), if_pos (by omega)]
  simp only [impl_IsValidCourse.j1, segHours_ok, within_ok, Option.bind_some, rd_seg, w1, w2, rd_seg_pred, atB, segB, pairB, hs, hp]
  by_cases h1 : 0 ≤ s.f0 ∧ s.f0 < s.f1 ∧ s.f1 ≤ 240
  · by_cases h2 : 1 ≤ s.f2 ∧ s.f2 ≤ 3
    · by_cases h3 : i = 0
      · subst h3; simp [h1, h2]
      · have h4 : (i : Int) > 0 := by omega
        have h5 : 0 ≤ (i : Int) - 1 := by omega
        have h6 : (i : Int) - 1 < (l.length : Int) := by omega
        simp only [decide_eq_true h1, decide_eq_true h2, if_pos h4, if_pos h5, if_pos h6, if_true, Bool.not_true, Bool.true_and, decide_eq_false h3, Bool.false_or]
        by_cases h7 : p.f1 > s.f0
        · simp [h7]
        · by_cases h8 : p.f1 = s.f0
          · by_cases h9 : p.f2 = s.f2 <;> simp [h8, h9]
          · simp [h7, h8]
    · simp [h1, h2]
  · simp [h1]
theorem IsValidCourse_ev (l : List S46) (hl : l.length ≤ 4503599627370496) : Evt fun k => impl_IsValidCourse.f k l = some (courseB l) := by
  unfold impl_IsValidCourse.f
  refine evt_loop0 l.length (fun k (_ : Unit) i => impl_IsValidCourse.l0 k l l (l.length : Int) i) (courseB l) (fun i _ => ∀ j, j < i → atB l j = true) ?_ ?_ () (fun j hj => by omega)
  · intro i s hi h
    by_cases hb : atB l i = true
    · refine .inl ⟨(), fun j hj => ?_, 2, Evt.all fun k => ?_⟩
      · by_cases e : j = i
        · subst e; exact hb
        · exact h j (by omega)
      · show impl_IsValidCourse.l0 (k + 2) l l (l.length : Int) (i : Int) = _
        rw [validCourse_step l hl k i hi, if_pos hb]
    · refine .inr (Evt.add 2 (Evt.all fun k => ?_))
      show impl_IsValidCourse.l0 (k + 2) l l (l.length : Int) (i : Int) = _
      rw [validCourse_step l hl k i hi, if_neg hb]
      unfold courseB
      rw [decide_eq_false (fun hA => hb (hA i hi)), Bool.false_and]
  · intro s h
    refine Evt.succ (Evt.all fun k => ?_)
    show impl_IsValidCourse.l0 (k + 1) l l (l.length : Int) (l.length : Int) = _
    simp only [impl_IsValidCourse.l0]
    rw [if_neg (by omega)]
    unfold courseB
    rw [decide_eq_true h, Bool.true_and]
    exact congrArg some (decide_eq_decide.2 (by omega))
theorem l18Good_step (l : List S46) (hl : l.length ≤ 4503599627370496) (k i : Nat) (hi : i < l.length) :
    spec_l18Good.l0 (k + 2) l (i : Int) = if atB l i = true then spec_l18Good.l0 k l ((i : Int) + 1) else some false := by
  obtain ⟨s, hs⟩ : ∃ s, l.getD i z46 = s := ⟨_, rfl⟩
  obtain ⟨p, hp⟩ : ∃ p, l.getD (i - 1) z46 = p := ⟨_, rfl⟩
  have w1 : wrap64 ((i : Int) + 1) = (i : Int) + 1 := wrap_id (by omega) (by omega)
  have w2 : wrap64 ((i : Int) - 1) = (i : Int) - 1 := wrap_id (by omega) (by omega)
  have g1 : 0 ≤ (i : Int) := by omega
  have g2 : (i : Int) < (l.length : Int) := by omega
  simp only [spec_l18Good.l0]
  rw [if_pos (by omega), if_pos (by omega)]
  simp only [spec_l18Good.j1, l18Hours_ok, l1In_ok, Option.bind_some, rd_seg, w1, w2, rd_seg_pred, atB, segB, pairB, hs, hp, if_pos g1, if_pos g2]
  by_cases h1 : 0 ≤ s.f0 ∧ s.f0 < s.f1 ∧ s.f1 ≤ 240
  · by_cases h2 : 1 ≤ s.f2 ∧ s.f2 ≤ 3
    · by_cases h3 : i = 0
      · subst h3; simp [h1, h2]
      · have h4 : (i : Int) > 0 := by omega
        have h5 : 0 ≤ (i : Int) - 1 := by omega
        have h6 : (i : Int) - 1 < (l.length : Int) := by omega
        simp only [decide_eq_true h1, decide_eq_true h2, if_pos h4, if_pos h5, if_pos h6, if_true, Bool.not_true, Bool.true_and, decide_eq_false h3, Bool.false_or]
        by_cases h7 : p.f1 > s.f0
        · simp [h7]
        · by_cases h8 : p.f1 = s.f0
          · by_cases h9 : p.f2 = s.f2 <;> simp [h8, h9]
          · simp [h7, h8]
    · simp [h1, h2]
  · simp [h1]
theorem l18Good_ev (l : List S46) (hl : l.length ≤ 4503599627370496) : Evt fun k => spec_l18Good.f k l = some (courseB l) := by
  unfold spec_l18Good.f
  refine evt_loop0 l.length (fun k (_ : Unit) i => spec_l18Good.l0 k l i) (courseB l) (fun i _ => ∀ j, j < i → atB l j = true) ?_ ?_ () (fun j hj => by omega)
  · intro i s hi h
    by_cases hb : atB l i = true
    · refine .inl ⟨(), fun j hj => ?_, 2, Evt.all fun k => ?_⟩
      · by_cases e : j = i
        · subst e; exact hb
        · exact h j (by omega)
      · show spec_l18Good.l0 (k + 2) l (i : Int) = _
        rw [l18Good_step l hl k i hi, if_pos hb]
    · refine .inr (Evt.add 2 (Evt.all fun k => ?_))
      show spec_l18Good.l0 (k + 2) l (i : Int) = _
      rw [l18Good_step l hl k i hi, if_neg hb]
      unfold courseB
      rw [decide_eq_false (fun hA => hb (hA i hi)), Bool.false_and]
  · intro s h
    refine Evt.succ (Evt.all fun k => ?_)
    show spec_l18Good.l0 (k + 1) l (l.length : Int) = _
    simp only [spec_l18Good.l0]
    rw [if_neg (by omega)]
    unfold courseB
    rw [decide_eq_true h, Bool.true_and]
    exact congrArg some (decide_eq_decide.2 (by omega))
def movS (h : Int) (s : S46) : S46 := ⟨s.f0 + h, s.f1 + h, s.f2⟩
def shiftV (l : List S46) (h : Int) : List S46 × Bool := if courseB (l.map (movS h)) = true then (l.map (movS h), true) else ([], false)
theorem shiftImpl_loop (l : List S46) (h : Int) (hl : l.length ≤ 1000000) (hv : ∀ s ∈ l, segB s = true) (hh : -240 ≤ h ∧ h ≤ 240) : Evt fun k => impl_ShiftCourse.l0 k h l (l.length : Int) 0 = some (shiftV l h) := by
  refine evt_loop0 l.length (fun k s i => impl_ShiftCourse.l0 k h s (l.length : Int) i) (shiftV l h) (fun i s => s.length = l.length ∧ (∀ j, j < i → s.getD j z46 = (l.map (movS h)).getD j z46) ∧ ∀ j, i ≤ j → s.getD j z46 = l.getD j z46) ?_ ?_ l ⟨rfl, fun j hj => by omega, fun j _ => rfl⟩
  · rintro i s hi ⟨h1, h2, h3⟩
    have hs := hv (l.getD i z46) (by rw [getD_lt _ _ _ hi]; exact List.getElem_mem _)
    unfold segB at hs
    simp only [Bool.and_eq_true, decide_eq_true_eq] at hs
    refine .inl ⟨s.set i (movS h (l.getD i z46)), ⟨by simpa using h1, fun j hj => ?_, fun j hj => ?_⟩, 1, Evt.all fun k => ?_⟩
    · by_cases e : j = i
      · subst e; rw [getD_set_self _ _ _ _ (by omega), getD_map _ _ z46 _ _ hi]
      · rw [getD_set_ne _ _ _ _ _ (by omega)]; exact h2 j (by omega)
    · rw [getD_set_ne _ _ _ _ _ (by omega)]; exact h3 j (by omega)
    · show impl_ShiftCourse.l0 (k + 1) h s (l.length : Int) (i : Int) = _
      simp only [impl_ShiftCourse.l0, rd_seg, Option.bind_some, Int.toNat_natCast, getD_set_self _ _ _ _ (show i < s.length by omega), List.set_set]
      rw [if_pos (by omega), if_pos (by omega), if_pos (by omega), h3 i (Nat.le_refl _), wrap_id (x := (i : Int) + 1) (by omega) (by omega), wrap_id (x := (l.getD i z46).f0 + h) (by omega) (by omega), wrap_id (x := (l.getD i z46).f1 + h) (by omega) (by omega)]
      rfl
  · rintro s ⟨h1, h2, h3⟩
    obtain rfl : s = l.map (movS h) := list_ext_getD _ _ z46 (by simpa using h1) (fun j hj => h2 j (by omega))
    refine Evt.succ ((IsValidCourse_ev (l.map (movS h)) (by rw [List.length_map]; omega)).mono fun k hk => ?_)
    show impl_ShiftCourse.l0 (k + 1) h (l.map (movS h)) (l.length : Int) (l.length : Int) = _
    simp only [impl_ShiftCourse.l0]
    rw [if_neg (by omega), hk, Option.bind_some]
    unfold shiftV
    split <;> rfl
theorem shiftSpec_loop (l : List S46) (h : Int) (hl : l.length ≤ 1000000) (hv : ∀ s ∈ l, segB s = true) (hh : -240 ≤ h ∧ h ≤ 240) : Evt fun k => spec_ShiftCourse.l0 k l h [] 0 = some (shiftV l h) := by
  refine evt_loop0 l.length (fun k s i => spec_ShiftCourse.l0 k l h s i) (shiftV l h) (fun i s => s = (l.take i).map (movS h)) ?_ ?_ [] (by simp)
  · rintro i s hi rfl
    have hs := hv (l.getD i z46) (by rw [getD_lt _ _ _ hi]; exact List.getElem_mem _)
    unfold segB at hs
    simp only [Bool.and_eq_true, decide_eq_true_eq] at hs
    have hlt : ((l.take i).map (movS h)).length ≤ i := by simp; omega
    refine .inl ⟨_, rfl, 1, Evt.all fun k => ?_⟩
    show spec_ShiftCourse.l0 (k + 1) l h ((l.take i).map (movS h)) (i : Int) = _
    simp only [spec_ShiftCourse.l0, rd_seg]
    rw [if_pos (by omega), if_pos (by omega), if_pos (by omega), wrap_id (x := (i : Int) + 1) (by omega) (by omega), wrap_id (x := (l.getD i z46).f0 + h) (by omega) (by omega), wrap_id (x := (l.getD i z46).f1 + h) (by omega) (by omega)]
    congr 1
    rw [List.take_succ_eq_append_getElem hi, List.map_append, getD_lt _ _ _ hi]
    rfl
  · rintro s rfl
    refine Evt.succ ((l18Good_ev (l.map (movS h)) (by rw [List.length_map]; omega)).mono fun k hk => ?_)
    show spec_ShiftCourse.l0 (k + 1) l h ((l.take l.length).map (movS h)) (l.length : Int) = _
    simp only [spec_ShiftCourse.l0, List.take_length]
    rw [if_neg (by omega), hk, Option.bind_some]
    unfold shiftV
    split <;> rfl
theorem pair_ShiftCourse (l : List S46) (a : Int) (hl : l.length ≤ 1048576) (_ : -9223372036854775808 ≤ a ∧ a ≤ 9223372036854775807) : ∃ v, (Evt fun k => impl_ShiftCourse.f k l a = some v) ∧ (Evt fun k => spec_ShiftCourse.f k l a = some v) ∧ v.1.length ≤ 1048576 := by
  have c1 := IsValidCourse_ev l (by omega)
  have c2 := l18Good_ev l (by omega)
  cases hc : courseB l with
  | false =>
    refine ⟨([], false), (Evt.pos.and c1).mono ?_, (Evt.pos.and c2).mono ?_, by simp⟩
    · rintro k ⟨⟨m, rfl⟩, hk⟩; simp [impl_ShiftCourse.f, impl_ShiftCourse.j0, hk, hc]
    · rintro k ⟨⟨m, rfl⟩, hk⟩; simp [spec_ShiftCourse.f, spec_ShiftCourse.j0, hk, hc]
  | true =>
    have hlen := courseB_len hc
    have hs := courseB_seg hc
    by_cases ha : -240 ≤ a ∧ a ≤ 240
    · have f1 := shiftImpl_loop l a (by omega) hs ha
      have f2 := shiftSpec_loop l a (by omega) hs ha
      have hclone : slices_Clone_Segment.f l = some l := by
        unfold slices_Clone_Segment.f
        rw [Option.bind_some, if_pos (by simp; omega), List.nil_append]
      refine ⟨shiftV l a, Evt.succ (((Evt.shift c1).and f1).mono ?_), Evt.succ (((Evt.shift c2).and f2).mono ?_), ?_⟩
      · rintro k ⟨h1, h2⟩
        simp only [impl_ShiftCourse.f, impl_ShiftCourse.j0, h1, hc, Option.bind_some, if_true, within_ok, decide_eq_true ha, Bool.not_true, hclone]
        rw [if_neg (by simp), h2]
      · rintro k ⟨h1, h2⟩
        simp only [spec_ShiftCourse.f, spec_ShiftCourse.j0, h1, hc, Option.bind_some, if_true, l1In_ok, decide_eq_true ha, Bool.not_true]
        rw [if_neg (by simp), h2]
      · unfold shiftV
        split
        · simp; omega
        · simp
    · refine ⟨([], false), (Evt.pos.and c1).mono ?_, (Evt.pos.and c2).mono ?_, by simp⟩
      · rintro k ⟨⟨m, rfl⟩, hk⟩
        simp only [impl_ShiftCourse.f, impl_ShiftCourse.j0, hk, hc, Option.bind_some, if_true, within_ok, decide_eq_false ha, Bool.not_false]
      · rintro k ⟨⟨m, rfl⟩, hk⟩
        simp only [spec_ShiftCourse.f, spec_ShiftCourse.j0, hk, hc, Option.bind_some, if_true, l1In_ok, decide_eq_false ha, Bool.not_false]
theorem FnExactShiftCourse : FnExactShiftCoursePure := by
  intro l0 a1 hm0 hw0 w1
  have q0 := szSegmentS_ok l0 1048576 (by omega) hm0
  by_cases hl0 : (1048576 - (l0.length : Int)) < 0
  · exact ⟨0, by unfold laws_FnExactShiftCourse.f; rw [q0, if_pos hl0, Option.bind_some, if_pos (by omega)]⟩
  rw [if_neg hl0] at q0
  have hn0 : l0.length ≤ 1048576 := by omega
  obtain ⟨⟨g0, g1⟩, hi, hs, hb⟩ := pair_ShiftCourse (l0.map c_Segment) a1 (by rw [List.length_map]; exact hn0) (wf64 w1)
  simp only at hb
  have n0 : ¬ (1 + 3 * (l0.length : Int) < 0) := by omega
  have n1 : ¬ (1 + 3 * (g0.length : Int) < 0) := by omega
  obtain ⟨K, hK⟩ := ((hi).and ((hs).and ((toSegmentS_ev l0 hn0).and ((eqSegmentS_self (l0.map c_Segment) (by rw [List.length_map]; omega)).and ((markSegmentS_ev (l0.map c_Segment) 1 (by omega) (by rw [List.length_map]; omega)).and ((eqSegmentS_self g0 (by omega)).and ((markSegmentS_ev g0 1 (by omega) (by omega)).and (heldSegmentS_ev g0.length 1 (by omega) (by omega))))))))).at
  have e0 := fun j => (hK j).1
  have e1 := fun j => (hK j).2.1
  have e2 := fun j => (hK j).2.2.1
  have e3 := fun j => (hK j).2.2.2.1
  have e4 := fun j => (hK j).2.2.2.2.1
  have e5 := fun j => (hK j).2.2.2.2.2.1
  have e6 := fun j => (hK j).2.2.2.2.2.2.1
  have e7 := fun j => (hK j).2.2.2.2.2.2.2
  refine ⟨K + 6, ?_⟩
  simp only [laws_FnExactShiftCourse.f, q0, if_neg hl0, Option.bind_some, e0, e1, e2, e3, e4, e5, e6, e7, if_true]
  simp [laws_FnExactShiftCourse.j0, laws_FnExactShiftCourse.j1, laws_FnExactShiftCourse.j2, e0, e1, e2, e3, e4, e5, e6, e7, n0, n1]
end Go.Proofs.Ytlhajgbhplnieaa.XFnExactShiftCourse.Pure
