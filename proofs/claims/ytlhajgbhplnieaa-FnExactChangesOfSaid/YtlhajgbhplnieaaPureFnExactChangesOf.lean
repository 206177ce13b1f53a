/-
  The pure statement of the law FnExactChangesOf: what its printed function answers is 'true' for all numbers and lists of its kinds. Conditions: the kinds' own bounds, as the statement lays them.
-/
import Derived.Test.YtlhajgbhplnieaaStmFnExactChangesOf
import Derived.DataShut
namespace Go.Proofs.Ytlhajgbhplnieaa.PFnExactChangesOf.Pure
open Go.RowKit Go.Proofs.Ytlhajgbhplnieaa.PFnExactChangesOf Go.Proofs.YtlhajgbhplnieaaW.PrintWords Go.Proofs.YtlhajgbhplnieaaW.PrintLast Go.Proofs.YtlhajgbhplnieaaW.PrintMore
set_option linter.unusedVariables false
set_option linter.unusedSimpArgs false
theorem wrap_id {x : Int} (h0 : -9223372036854775808 ≤ x) (h1 : x ≤ 9223372036854775807) : wrap64 x = x := by unfold wrap64; omega
theorem rd_nat (xs : List Int) (i : Nat) : rd xs (i : Int) = xs.getD i 0 := by simp [rd]
theorem for_loop {σ ρ : Type} (K n : Nat) (L : Nat → σ → Int → Option ρ) (v : ρ) (Inv : Nat → σ → Prop)
    (step : ∀ k i s, K ≤ k → i < n → Inv i s → (∃ s', Inv (i + 1) s' ∧ L (k + 1) s (i : Int) = L k s' ((i : Int) + 1)) ∨ L (k + 1) s (i : Int) = some v)
    (fin : ∀ k s, K ≤ k → Inv n s → L (k + 1) s (n : Int) = some v) :
    ∀ k s, Inv 0 s → n + K < k → L k s 0 = some v := by
  have key : ∀ d k i s, i + d = n → Inv i s → d + K < k → L k s (i : Int) = some v := by
    intro d
    induction d with
    | zero =>
      intro k i s hi h hk
      obtain ⟨k, rfl⟩ : ∃ m, k = m + 1 := ⟨k - 1, by omega⟩
      obtain rfl : i = n := by omega
      exact fin k s (by omega) h
    | succ d ih =>
      intro k i s hi h hk
      obtain ⟨k, rfl⟩ : ∃ m, k = m + 1 := ⟨k - 1, by omega⟩
      rcases step k i s (by omega) (by omega) h with ⟨s', h', e⟩ | e
      · rw [e]
        have := ih k (i + 1) s' (by omega) h' (by omega)
        rw [show ((i + 1 : Nat) : Int) = (i : Int) + 1 from by omega] at this
        exact this
      · exact e
  intro k s h hk
  exact key n k 0 s (by omega) h hk
theorem getD_drop {α : Type} (xs : List α) (z : α) (i : Nat) (h : i < xs.length) : xs.drop i = xs.getD i z :: xs.drop (i + 1) := by
  rw [List.drop_eq_getElem_cons h, List.getD_eq_getElem?_getD, List.getElem?_eq_getElem h]; rfl
def Evt (P : Nat → Prop) : Prop := ∃ K, ∀ k, K ≤ k → P k
theorem Evt.all {P : Nat → Prop} (h : ∀ k, P k) : Evt P := ⟨0, fun k _ => h k⟩
theorem Evt.above {P : Nat → Prop} (K : Nat) (h : ∀ k, K < k → P k) : Evt P := ⟨K + 1, fun k hk => h k hk⟩
theorem Evt.and {P Q : Nat → Prop} (h : Evt P) (g : Evt Q) : Evt fun k => P k ∧ Q k := by
  obtain ⟨K, h⟩ := h
  obtain ⟨M, g⟩ := g
  exact ⟨K + M, fun k hk => ⟨h k (by omega), g k (by omega)⟩⟩
theorem Evt.mono {P Q : Nat → Prop} (h : Evt P) (g : ∀ k, P k → Q k) : Evt Q := by
  obtain ⟨K, h⟩ := h
  exact ⟨K, fun k hk => g k (h k hk)⟩
theorem Evt.succ {Q : Nat → Prop} (h : Evt fun k => Q (k + 1)) : Evt Q := by
  obtain ⟨K, h⟩ := h
  refine ⟨K + 1, fun k hk => ?_⟩
  obtain ⟨m, rfl⟩ : ∃ m, k = m + 1 := ⟨k - 1, by omega⟩
  exact h m (by omega)
theorem Evt.add {Q : Nat → Prop} (c : Nat) (h : Evt fun k => Q (k + c)) : Evt Q := by
  obtain ⟨K, h⟩ := h
  refine ⟨K + c, fun k hk => ?_⟩
  obtain ⟨m, rfl⟩ : ∃ m, k = m + c := ⟨k - c, by omega⟩
  exact h m (by omega)
theorem Evt.at {P : Nat → Prop} (h : Evt P) : ∃ K, ∀ j, P (K + j) := by
  obtain ⟨K, h⟩ := h
  exact ⟨K, fun j => h _ (by omega)⟩
theorem evt_loop {σ ρ : Type} (n : Nat) (L : Nat → σ → Int → Option ρ) (v : ρ) (Inv : Nat → σ → Prop)
    (step : ∀ i s, i < n → Inv i s → (∃ s', Inv (i + 1) s' ∧ ∃ c, Evt fun k => L (k + c) s (i : Int) = L k s' ((i : Int) + 1)) ∨ Evt fun k => L k s (i : Int) = some v)
    (fin : ∀ s, Inv n s → Evt fun k => L k s (n : Int) = some v) :
    ∀ i s, i ≤ n → Inv i s → Evt fun k => L k s (i : Int) = some v := by
  have key : ∀ d i s, i + d = n → Inv i s → Evt fun k => L k s (i : Int) = some v := by
    intro d
    induction d with
    | zero =>
      intro i s hi h
      obtain rfl : i = n := by omega
      exact fin s h
    | succ d ih =>
      intro i s hi h
      rcases step i s (by omega) h with ⟨s', h', c, e⟩ | e
      · have h2 := ih (i + 1) s' (by omega) h'
        rw [show ((i + 1 : Nat) : Int) = (i : Int) + 1 from by omega] at h2
        exact Evt.add c ((e.and h2).mono fun k hk => hk.1.trans hk.2)
      · exact e
  intro i s hi h
  exact key (n - i) i s (by omega) h
theorem evt_loop0 {σ ρ : Type} (n : Nat) (L : Nat → σ → Int → Option ρ) (v : ρ) (Inv : Nat → σ → Prop)
    (step : ∀ i s, i < n → Inv i s → (∃ s', Inv (i + 1) s' ∧ ∃ c, Evt fun k => L (k + c) s (i : Int) = L k s' ((i : Int) + 1)) ∨ Evt fun k => L k s (i : Int) = some v)
    (fin : ∀ s, Inv n s → Evt fun k => L k s (n : Int) = some v) (s : σ) (h0 : Inv 0 s) : Evt fun k => L k s 0 = some v :=
  evt_loop n L v Inv step fin 0 s (Nat.zero_le _) h0
theorem getD_lt {α : Type} (xs : List α) (z : α) (i : Nat) (h : i < xs.length) : xs.getD i z = xs[i] := by
  rw [List.getD_eq_getElem?_getD, List.getElem?_eq_getElem h]; rfl
theorem getD_set_self {α : Type} (xs : List α) (z v : α) (i : Nat) (h : i < xs.length) : (xs.set i v).getD i z = v := by
  rw [List.getD_eq_getElem?_getD, List.getElem?_set_self h]; rfl
theorem getD_set_ne {α : Type} (xs : List α) (z v : α) (i j : Nat) (h : i ≠ j) : (xs.set i v).getD j z = xs.getD j z := by
  rw [List.getD_eq_getElem?_getD, List.getElem?_set_ne h, List.getD_eq_getElem?_getD]
theorem getD_map {α β : Type} (f : α → β) (xs : List α) (z : α) (y : β) (i : Nat) (h : i < xs.length) : (xs.map f).getD i y = f (xs.getD i z) := by
  rw [getD_lt _ _ _ (by simpa using h), getD_lt _ _ _ h, List.getElem_map]
theorem list_ext_getD {α : Type} (xs ys : List α) (z : α) (h : xs.length = ys.length) (e : ∀ j, j < xs.length → xs.getD j z = ys.getD j z) : xs = ys := by
  apply List.ext_getElem h
  intro j h1 h2
  have := e j h1
  rwa [getD_lt _ _ _ h1, getD_lt _ _ _ h2] at this
def c_Segment (x : S44) : S46 := ⟨x.f0, x.f1, x.f2⟩
theorem toSegmentS_ev (l : List S44) (hl : l.length ≤ 1048576) : Evt fun k => laws_toSegmentS.f k l = some (l.map c_Segment) := by
  unfold laws_toSegmentS.f
  simp only [if_pos (show 0 ≤ (l.length : Int) by omega), if_pos (show ((l.length : Int) : Int).toNat ≤ 11728124029610 by omega)]
  refine evt_loop0 l.length (fun k s i => laws_toSegmentS.l0 k l s i) (l.map c_Segment) (fun i s => s.length = l.length ∧ ∀ j, j < i → s.getD j z46 = (l.map c_Segment).getD j z46) ?_ ?_ _ ⟨by simp, fun j hj => by omega⟩
  · rintro i s hi ⟨h1, h2⟩
    refine .inl ⟨s.set i ((l.map c_Segment).getD i z46), ⟨by simpa using h1, fun j hj => ?_⟩, 1, Evt.all fun k => ?_⟩
    · by_cases e : j = i
      · subst e; rw [getD_set_self _ _ _ _ (by omega)]
      · rw [getD_set_ne _ _ _ _ _ (by omega)]; exact h2 j (by omega)
    · show laws_toSegmentS.l0 (k + 1) l s (i : Int) = _
      simp only [laws_toSegmentS.l0, laws_toSegment.f, Option.bind_some]
      rw [if_pos (by omega), if_pos (by omega), if_pos (by omega), wrap_id (by omega) (by omega), Int.toNat_natCast, getD_map _ _ z44 _ _ hi]
      rfl
  · rintro s ⟨h1, h2⟩
    refine Evt.succ (Evt.all fun k => ?_)
    show laws_toSegmentS.l0 (k + 1) l s (l.length : Int) = _
    simp only [laws_toSegmentS.l0]
    rw [if_neg (by omega)]
    exact congrArg some (list_ext_getD _ _ z46 (by simpa using h1) (fun j hj => h2 j (by omega)))
theorem eqSegmentS_self (l : List S46) (hl : l.length ≤ 4503599627370496) : Evt fun k => laws_eqSegmentS.f k l l = some true := by
  unfold laws_eqSegmentS.f
  simp only [if_true]
  refine evt_loop0 l.length (fun k (_ : Unit) i => laws_eqSegmentS.l0 k l l i) true (fun _ _ => True) ?_ ?_ () trivial
  · intro i s hi _
    refine .inl ⟨(), trivial, 1, Evt.all fun k => ?_⟩
    show laws_eqSegmentS.l0 (k + 1) l l (i : Int) = _
    simp only [laws_eqSegmentS.l0, laws_eqSegment.f]
    rw [if_pos (by omega), if_pos (by omega), if_pos (by omega), wrap_id (by omega) (by omega)]
    simp
  · intro s _
    refine Evt.succ (Evt.all fun k => ?_)
    show laws_eqSegmentS.l0 (k + 1) l l (l.length : Int) = _
    simp only [laws_eqSegmentS.l0]
    rw [if_neg (by omega)]
theorem szSegmentS_ok (l : List S44) (a : Int) (ha : 0 ≤ a ∧ a ≤ 1048576) (hl : l.length ≤ maxLen) : laws_szSegmentS.f l a = some (if a - (l.length : Int) < 0 then -1 else a - (l.length : Int)) := by
  unfold maxLen at hl
  unfold laws_szSegmentS.f
  rw [wrap_id (by omega) (by omega)]
  split <;> rfl
def mk_Segment (a : Int) (j : Nat) : S46 := ⟨a + 3 * (j : Int), a + 3 * (j : Int) + 1, a + 3 * (j : Int) + 1 + 1⟩
def marked_Segment (a : Int) (n : Nat) : List S46 := (List.range n).map (mk_Segment a)
theorem marked_Segment_len (a : Int) (n : Nat) : (marked_Segment a n).length = n := by simp [marked_Segment]
theorem marked_Segment_get (a : Int) (n j : Nat) (h : j < n) : (marked_Segment a n).getD j z46 = mk_Segment a j := by
  rw [getD_lt _ _ _ (by simpa [marked_Segment] using h)]; simp [marked_Segment]
theorem markSegmentS_ev (l : List S46) (a : Int) (ha : 0 ≤ a ∧ a ≤ 1000000000000) (hl : l.length ≤ 1000000000000) : Evt fun k => laws_markSegmentS.f k l a = some (a + 3 * l.length, marked_Segment a l.length) := by
  unfold laws_markSegmentS.f
  refine evt_loop0 l.length (fun k (s : List S46 × Int) i => laws_markSegmentS.l0 k s.1 s.2 i) _ (fun i s => s.1.length = l.length ∧ s.2 = a + 3 * i ∧ ∀ j, j < i → s.1.getD j z46 = mk_Segment a j) ?_ ?_ (l, a) ⟨rfl, by simp, fun j hj => by omega⟩
  · rintro i ⟨s, x⟩ hi ⟨h1, h2, h3⟩
    simp only at h1 h2 h3
    refine .inl ⟨(s.set i (mk_Segment a i), x + 1 + 1 + 1), ⟨by simpa using h1, by simp only; omega, fun j hj => ?_⟩, 1, Evt.all fun k => ?_⟩
    · simp only
      by_cases e : j = i
      · subst e; rw [getD_set_self _ _ _ _ (by omega)]
      · rw [getD_set_ne _ _ _ _ _ (by omega)]; exact h3 j (by omega)
    · show laws_markSegmentS.l0 (k + 1) s x (i : Int) = laws_markSegmentS.l0 k (s.set i (mk_Segment a i)) (x + 1 + 1 + 1) ((i : Int) + 1)
      have w1 : wrap64 (x + 1) = x + 1 := wrap_id (by omega) (by omega)
      have w2 : wrap64 (x + 1 + 1) = x + 1 + 1 := wrap_id (by omega) (by omega)
      have w3 : wrap64 (x + 1 + 1 + 1) = x + 1 + 1 + 1 := wrap_id (by omega) (by omega)
      simp only [laws_markSegmentS.l0, Option.bind_some]
      rw [if_pos (by omega), if_pos (by omega), wrap_id (x := (i : Int) + 1) (by omega) (by omega)]
      simp only [w1, w2, w3, rd_T46, Int.toNat_natCast, getD_set_self _ _ _ _ (show i < s.length by omega), List.set_set]
      subst h2
      rfl
  · rintro ⟨s, x⟩ ⟨h1, h2, h3⟩
    simp only at h1 h2 h3
    refine Evt.succ (Evt.all fun k => ?_)
    show laws_markSegmentS.l0 (k + 1) s x (l.length : Int) = _
    simp only [laws_markSegmentS.l0]
    rw [if_neg (by omega), h2]
    refine congrArg some (Prod.ext rfl (list_ext_getD _ _ z46 (by rw [marked_Segment_len]; exact h1) (fun j hj => ?_)))
    have hj' : j < l.length := by simp only at hj; omega
    rw [marked_Segment_get _ _ _ hj']; exact h3 j hj'
def markedI (a : Int) (n : Nat) : List Int := (List.range n).map (fun j : Nat => a + (j : Int))
theorem markedI_len (a : Int) (n : Nat) : (markedI a n).length = n := by simp [markedI]
theorem markedI_get (a : Int) (n j : Nat) (h : j < n) : (markedI a n).getD j 0 = a + (j : Int) := by
  rw [getD_lt _ _ _ (by simpa [markedI] using h)]; simp [markedI]
theorem markIntS_ev (l : List Int) (a : Int) (ha : 0 ≤ a ∧ a ≤ 1000000000000) (hl : l.length ≤ 1000000000000) : Evt fun k => laws_markIntS.f k l a = some (a + l.length, markedI a l.length) := by
  unfold laws_markIntS.f
  refine evt_loop0 l.length (fun k (s : List Int × Int) i => laws_markIntS.l0 k s.1 s.2 i) _ (fun i s => s.1.length = l.length ∧ s.2 = a + i ∧ ∀ j, j < i → s.1.getD j 0 = a + (j : Int)) ?_ ?_ (l, a) ⟨rfl, by simp, fun j hj => by omega⟩
  · rintro i ⟨s, x⟩ hi ⟨h1, h2, h3⟩
    simp only at h1 h2 h3
    refine .inl ⟨(s.set i x, x + 1), ⟨by simpa using h1, by simp only; omega, fun j hj => ?_⟩, 1, Evt.all fun k => ?_⟩
    · simp only
      by_cases e : j = i
      · subst e; rw [getD_set_self _ _ _ _ (by omega)]; exact h2
      · rw [getD_set_ne _ _ _ _ _ (by omega)]; exact h3 j (by omega)
    · show laws_markIntS.l0 (k + 1) s x (i : Int) = laws_markIntS.l0 k (s.set i x) (x + 1) ((i : Int) + 1)
      simp only [laws_markIntS.l0]
      rw [if_pos (by omega), if_pos (by omega), wrap_id (x := (i : Int) + 1) (by omega) (by omega), wrap_id (x := x + 1) (by omega) (by omega), Int.toNat_natCast]
  · rintro ⟨s, x⟩ ⟨h1, h2, h3⟩
    simp only at h1 h2 h3
    refine Evt.succ (Evt.all fun k => ?_)
    show laws_markIntS.l0 (k + 1) s x (l.length : Int) = _
    simp only [laws_markIntS.l0]
    rw [if_neg (by omega), h2]
    refine congrArg some (Prod.ext rfl (list_ext_getD _ _ 0 (by rw [markedI_len]; exact h1) (fun j hj => ?_)))
    have hj' : j < l.length := by simp only at hj; omega
    rw [markedI_get _ _ _ hj']; exact h3 j hj'
theorem heldIntS_ev (n : Nat) (a : Int) (ha : 0 ≤ a ∧ a ≤ 1000000000000) (hl : n ≤ 1000000000000) : Evt fun k => laws_heldIntS.f k (markedI a n) a = some (a + n) := by
  unfold laws_heldIntS.f
  refine evt_loop0 n (fun k (x : Int) i => laws_heldIntS.l0 k (markedI a n) x i) _ (fun i x => x = a + i) ?_ ?_ a (by simp)
  · rintro i x hi h2
    refine .inl ⟨x + 1, by omega, 1, Evt.all fun k => ?_⟩
    show laws_heldIntS.l0 (k + 1) (markedI a n) x (i : Int) = _
    simp only [laws_heldIntS.l0]
    rw [markedI_len, if_pos (by omega), if_pos (by omega), rd_nat, markedI_get _ _ _ hi, if_pos h2.symm, wrap_id (x := (i : Int) + 1) (by omega) (by omega), wrap_id (x := x + 1) (by omega) (by omega)]
  · rintro x h2
    refine Evt.succ (Evt.all fun k => ?_)
    show laws_heldIntS.l0 (k + 1) (markedI a n) x (n : Int) = _
    simp only [laws_heldIntS.l0]
    rw [markedI_len, if_neg (by omega), h2]
theorem eqIntS_self (l : List Int) (hl : l.length ≤ 4503599627370496) : ∀ k, l.length < k → laws_eqIntS.f k l l = some true := by
  intro k hk
  unfold laws_eqIntS.f
  rw [if_pos rfl]
  refine for_loop 0 l.length (fun k (_ : Unit) i => laws_eqIntS.l0 k l l i) true (fun _ _ => True) ?_ ?_ k () trivial (by omega)
  · intro k i s _ hi _
    refine .inl ⟨(), trivial, ?_⟩
    show laws_eqIntS.l0 (k + 1) l l (i : Int) = _
    simp only [laws_eqIntS.l0]
    rw [if_pos (by omega), if_pos (by omega), if_pos (by omega), wrap_id (by omega) (by omega)]
    simp
  · intro k s _ _
    show laws_eqIntS.l0 (k + 1) l l (l.length : Int) = _
    simp only [laws_eqIntS.l0]
    rw [if_neg (by omega)]
theorem eqIntS_ev (l : List Int) (hl : l.length ≤ 4503599627370496) : Evt fun k => laws_eqIntS.f k l l = some true := Evt.above _ (eqIntS_self l hl)
theorem within_ok (a b c : Int) : impl_within.f a b c = some (decide (b ≤ a ∧ a ≤ c)) := by
  unfold impl_within.f
  split <;> simp <;> omega
theorem l1In_ok (a b c : Int) : spec_l1In.f a b c = some (decide (b ≤ a ∧ a ≤ c)) := by
  unfold spec_l1In.f
  split <;> simp <;> omega
theorem segHours_ok (a b c : Int) : impl_areSegmentHours.f a b c = some (decide (0 ≤ a ∧ a < b ∧ b ≤ 240)) := by
  unfold impl_areSegmentHours.f
  split
  · split
    · exact congrArg some (decide_eq_decide.2 (by omega))
    · rw [decide_eq_false (by omega)]
  · rw [decide_eq_false (by omega)]
theorem l18Hours_ok (a b c : Int) : spec_l18Hours.f a b c = some (decide (0 ≤ a ∧ a < b ∧ b ≤ 240)) := by
  unfold spec_l18Hours.f
  split
  · split
    · exact congrArg some (decide_eq_decide.2 (by omega))
    · rw [decide_eq_false (by omega)]
  · rw [decide_eq_false (by omega)]
def segB (s : S46) : Bool := decide (0 ≤ s.f0 ∧ s.f0 < s.f1 ∧ s.f1 ≤ 240) && decide (1 ≤ s.f2 ∧ s.f2 ≤ 3)
def pairB (p s : S46) : Bool := decide (¬ (p.f1 > s.f0) ∧ ¬ (p.f1 = s.f0 ∧ p.f2 = s.f2))
def atB (l : List S46) (i : Nat) : Bool := segB (l.getD i z46) && (decide (i = 0) || pairB (l.getD (i - 1) z46) (l.getD i z46))
def courseB (l : List S46) : Bool := decide (∀ i, i < l.length → atB l i = true) && decide (l.length ≤ 12)
theorem courseB_seg {l : List S46} (h : courseB l = true) : ∀ s ∈ l, segB s = true := by
  intro s hs
  unfold courseB at h
  simp only [Bool.and_eq_true, decide_eq_true_eq] at h
  obtain ⟨i, hi, rfl⟩ := List.mem_iff_getElem.1 hs
  have := h.1 i hi
  unfold atB at this
  simp only [Bool.and_eq_true] at this
  rw [getD_lt _ _ _ hi] at this
  exact this.1
theorem rd_seg (l : List S46) (i : Nat) : rd_T46 l (i : Int) = l.getD i z46 := by unfold rd_T46; rw [Int.toNat_natCast]
theorem rd_seg_pred (l : List S46) (i : Nat) : rd_T46 l ((i : Int) - 1) = l.getD (i - 1) z46 := by unfold rd_T46; congr 1; omega
theorem validCourse_step (l : List S46) (hl : l.length ≤ 4503599627370496) (k i : Nat) (hi : i < l.length) :
    impl_IsValidCourse.l0 (k + 2) l l (l.length : Int) (i : Int) = if atB l i = true then impl_IsValidCourse.l0 k l l (l.length : Int) ((i : Int) + 1) else some false := by
  obtain ⟨s, hs⟩ : ∃ s, l.getD i z46 = s := ⟨_, rfl⟩
  obtain ⟨p, hp⟩ : ∃ p, l.getD (i - 1) z46 = p := ⟨_, rfl⟩
  have w1 : wrap64 ((i : Int) + 1) = (i : Int) + 1 := wrap_id (by omega) (by omega)
  have w2 : wrap64 ((i : Int) - 1) = (i : Int) - 1 := wrap_id (by omega) (by omega)
  simp only [impl_IsValidCourse.l0]
  rw [if_pos (by omega), if_pos (by omega), if_pos (by omega)]
  simp only [impl_IsValidCourse.j1, segHours_ok, within_ok, Option.bind_some, rd_seg, w1, w2, rd_seg_pred, atB, segB, pairB, hs, hp]
  by_cases h1 : 0 ≤ s.f0 ∧ s.f0 < s.f1 ∧ s.f1 ≤ 240
  · by_cases h2 : 1 ≤ s.f2 ∧ s.f2 ≤ 3
    · by_cases h3 : i = 0
      · subst h3; simp [h1, h2]
      · have h4 : (i : Int) > 0 := by omega
        have h5 : 0 ≤ (i : Int) - 1 := by omega
        have h6 : (i : Int) - 1 < (l.length : Int) := by omega
        simp only [decide_eq_true h1, decide_eq_true h2, if_pos h4, if_pos h5, if_pos h6, if_true, Bool.not_true, Bool.true_and, decide_eq_false h3, Bool.false_or]
        by_cases h7 : p.f1 > s.f0
        · simp [h7]
        · by_cases h8 : p.f1 = s.f0
          · by_cases h9 : p.f2 = s.f2 <;> simp [h8, h9]
          · simp [h7, h8]
    · simp [h1, h2]
  · simp [h1]
theorem IsValidCourse_ev (l : List S46) (hl : l.length ≤ 4503599627370496) : Evt fun k => impl_IsValidCourse.f k l = some (courseB l) := by
  unfold impl_IsValidCourse.f
  refine evt_loop0 l.length (fun k (_ : Unit) i => impl_IsValidCourse.l0 k l l (l.length : Int) i) (courseB l) (fun i _ => ∀ j, j < i → atB l j = true) ?_ ?_ () (fun j hj => by omega)
  · intro i s hi h
    by_cases hb : atB l i = true
    · refine .inl ⟨(), fun j hj => ?_, 2, Evt.all fun k => ?_⟩
      · by_cases e : j = i
        · subst e; exact hb
        · exact h j (by omega)
      · show impl_IsValidCourse.l0 (k + 2) l l (l.length : Int) (i : Int) = _
        rw [validCourse_step l hl k i hi, if_pos hb]
    · refine .inr (Evt.add 2 (Evt.all fun k => ?_))
      show impl_IsValidCourse.l0 (k + 2) l l (l.length : Int) (i : Int) = _
      rw [validCourse_step l hl k i hi, if_neg hb]
      unfold courseB
      rw [decide_eq_false (fun hA => hb (hA i hi)), Bool.false_and]
  · intro s h
    refine Evt.succ (Evt.all fun k => ?_)
    show impl_IsValidCourse.l0 (k + 1) l l (l.length : Int) (l.length : Int) = _
    simp only [impl_IsValidCourse.l0]
    rw [if_neg (by omega)]
    unfold courseB
    rw [decide_eq_true h, Bool.true_and]
    exact congrArg some (decide_eq_decide.2 (by omega))
theorem l18Good_step (l : List S46) (hl : l.length ≤ 4503599627370496) (k i : Nat) (hi : i < l.length) :
    spec_l18Good.l0 (k + 2) l (i : Int) = if atB l i = true then spec_l18Good.l0 k l ((i : Int) + 1) else some false := by
  obtain ⟨s, hs⟩ : ∃ s, l.getD i z46 = s := ⟨_, rfl⟩
  obtain ⟨p, hp⟩ : ∃ p, l.getD (i - 1) z46 = p := ⟨_, rfl⟩
  have w1 : wrap64 ((i : Int) + 1) = (i : Int) + 1 := wrap_id (by omega) (by omega)
  have w2 : wrap64 ((i : Int) - 1) = (i : Int) - 1 := wrap_id (by omega) (by omega)
  have g1 : 0 ≤ (i : Int) := by omega
  have g2 : (i : Int) < (l.length : Int) := by omega
  simp only [spec_l18Good.l0]
  rw [if_pos (by omega), if_pos (by omega)]
  simp only [spec_l18Good.j1, l18Hours_ok, l1In_ok, Option.bind_some, rd_seg, w1, w2, rd_seg_pred, atB, segB, pairB, hs, hp, if_pos g1, if_pos g2]
  by_cases h1 : 0 ≤ s.f0 ∧ s.f0 < s.f1 ∧ s.f1 ≤ 240
  · by_cases h2 : 1 ≤ s.f2 ∧ s.f2 ≤ 3
    · by_cases h3 : i = 0
      · subst h3; simp [h1, h2]
      · have h4 : (i : Int) > 0 := by omega
        have h5 : 0 ≤ (i : Int) - 1 := by omega
        have h6 : (i : Int) - 1 < (l.length : Int) := by omega
        simp only [decide_eq_true h1, decide_eq_true h2, if_pos h4, if_pos h5, if_pos h6, if_true, Bool.not_true, Bool.true_and, decide_eq_false h3, Bool.false_or]
        by_cases h7 : p.f1 > s.f0
        · simp [h7]
        · by_cases h8 : p.f1 = s.f0
          · by_cases h9 : p.f2 = s.f2 <;> simp [h8, h9]
          · simp [h7, h8]
    · simp [h1, h2]
  · simp [h1]
theorem l18Good_ev (l : List S46) (hl : l.length ≤ 4503599627370496) : Evt fun k => spec_l18Good.f k l = some (courseB l) := by
  unfold spec_l18Good.f
  refine evt_loop0 l.length (fun k (_ : Unit) i => spec_l18Good.l0 k l i) (courseB l) (fun i _ => ∀ j, j < i → atB l j = true) ?_ ?_ () (fun j hj => by omega)
  · intro i s hi h
    by_cases hb : atB l i = true
    · refine .inl ⟨(), fun j hj => ?_, 2, Evt.all fun k => ?_⟩
      · by_cases e : j = i
        · subst e; exact hb
        · exact h j (by omega)
      · show spec_l18Good.l0 (k + 2) l (i : Int) = _
        rw [l18Good_step l hl k i hi, if_pos hb]
    · refine .inr (Evt.add 2 (Evt.all fun k => ?_))
      show spec_l18Good.l0 (k + 2) l (i : Int) = _
      rw [l18Good_step l hl k i hi, if_neg hb]
      unfold courseB
      rw [decide_eq_false (fun hA => hb (hA i hi)), Bool.false_and]
  · intro s h
    refine Evt.succ (Evt.all fun k => ?_)
    show spec_l18Good.l0 (k + 1) l (l.length : Int) = _
    simp only [spec_l18Good.l0]
    rw [if_neg (by omega)]
    unfold courseB
    rw [decide_eq_true h, Bool.true_and]
    exact congrArg some (decide_eq_decide.2 (by omega))
def setR (acc : List Int) (a b v : Int) : List Int := acc.mapIdx fun i x => if a ≤ (i : Int) ∧ (i : Int) < b then v else x
theorem setR_len (acc : List Int) (a b v : Int) : (setR acc a b v).length = acc.length := by simp [setR]
theorem setR_get (acc : List Int) (a b v : Int) (j : Nat) (h : j < acc.length) : (setR acc a b v).getD j 0 = if a ≤ (j : Int) ∧ (j : Int) < b then v else acc.getD j 0 := by
  rw [getD_lt _ _ _ (by rw [setR_len]; exact h), getD_lt _ _ _ h]
  simp [setR]
theorem setR_none (acc : List Int) (a b v : Int) (h : b ≤ a) : setR acc a b v = acc := by
  refine list_ext_getD _ _ 0 (setR_len _ _ _ _) (fun j hj => ?_)
  rw [setR_get _ _ _ _ _ (by rwa [setR_len] at hj), if_neg (by omega)]
theorem setR_set (acc : List Int) (a b v : Int) (h0 : 0 ≤ a) (h : a < b) (hb : b ≤ acc.length) : setR (acc.set a.toNat v) (a + 1) b v = setR acc a b v := by
  refine list_ext_getD _ _ 0 (by rw [setR_len, setR_len, List.length_set]) (fun j hj => ?_)
  rw [setR_len, List.length_set] at hj
  rw [setR_get _ _ _ _ _ (by rw [List.length_set]; exact hj), setR_get _ _ _ _ _ hj]
  by_cases e : j = a.toNat
  · subst e
    rw [if_neg (by omega), if_pos (by omega), getD_set_self _ _ _ _ hj]
  · rw [getD_set_ne _ _ _ _ _ (by omega)]
    by_cases g : a + 1 ≤ (j : Int) ∧ (j : Int) < b
    · rw [if_pos g, if_pos (by omega)]
    · rw [if_neg g, if_neg (by omega)]
def levelsV (l : List S46) : List Int := l.foldl (fun acc s => setR acc s.f0 s.f1 s.f2) (List.replicate 240 0)
theorem levels_fold_len (l : List S46) : ∀ acc : List Int, (l.foldl (fun acc s => setR acc s.f0 s.f1 s.f2) acc).length = acc.length := by
  induction l with
  | nil => intro acc; rfl
  | cons s l ih => intro acc; rw [List.foldl_cons, ih, setR_len]
theorem levelsV_len (l : List S46) : (levelsV l).length = 240 := by
  unfold levelsV; rw [levels_fold_len, List.length_replicate]
theorem levelsOf_inner (l : List S46) (n i a b v : Int) : ∀ (d : Nat) (h : Int) (acc : List Int) (k : Nat), h + d = b → 0 ≤ h → b ≤ acc.length → acc.length ≤ 4503599627370496 →
    impl_levelsOf.l1 (k + (d + 1)) acc h l n i a b v = impl_levelsOf.l0 k (setR acc h b v) l n (wrap64 (i + 1)) := by
  intro d
  induction d with
  | zero =>
    intro h acc k e h0 hb hl
    show impl_levelsOf.l1 (k + 1) acc h l n i a b v = _
    simp only [impl_levelsOf.l1]
    rw [if_neg (by omega), setR_none _ _ _ _ (by omega)]
  | succ d ih =>
    intro h acc k e h0 hb hl
    show impl_levelsOf.l1 ((k + (d + 1)) + 1) acc h l n i a b v = _
    rw [impl_levelsOf.l1]
    rw [if_pos (by omega), if_pos (by omega), if_pos (by omega), wrap_id (x := h + 1) (by omega) (by omega), ih (h + 1) _ k (by omega) (by omega) (by rw [List.length_set]; exact hb) (by rw [List.length_set]; exact hl), setR_set _ _ _ _ h0 (by omega) hb]
theorem levelsOf_ev (l : List S46) (hl : l.length ≤ 4503599627370496) (hv : ∀ s ∈ l, segB s = true) : Evt fun k => impl_levelsOf.f k l = some (levelsV l) := by
  unfold impl_levelsOf.f
  simp only [if_pos (show (240 : Nat) ≤ 35184372088832 by omega)]
  refine evt_loop0 l.length (fun k s i => impl_levelsOf.l0 k s l (l.length : Int) i) (levelsV l) (fun i s => s.length = 240 ∧ (l.drop i).foldl (fun acc s => setR acc s.f0 s.f1 s.f2) s = levelsV l) ?_ ?_ _ ⟨List.length_replicate, rfl⟩
  · rintro i s hi ⟨h1, h2⟩
    have hs := hv (l.getD i z46) (by rw [getD_lt _ _ _ hi]; exact List.getElem_mem _)
    unfold segB at hs
    simp only [Bool.and_eq_true, decide_eq_true_eq] at hs
    rw [getD_drop l z46 i hi, List.foldl_cons] at h2
    refine .inl ⟨_, ⟨by rw [setR_len]; exact h1, h2⟩, ((l.getD i z46).f1 - (l.getD i z46).f0).toNat + 1 + 1, Evt.all fun k => ?_⟩
    show impl_levelsOf.l0 ((k + (((l.getD i z46).f1 - (l.getD i z46).f0).toNat + 1)) + 1) s l (l.length : Int) (i : Int) = _
    simp only [impl_levelsOf.l0, rd_seg]
    rw [if_pos (by omega), if_pos (by omega), if_pos (by omega), levelsOf_inner _ _ _ _ _ _ _ _ _ _ (by omega) (by omega) (by omega) (by omega), wrap_id (by omega) (by omega)]
  · rintro s ⟨h1, h2⟩
    rw [List.drop_of_length_le (Nat.le_refl _)] at h2
    refine Evt.succ (Evt.all fun k => ?_)
    show impl_levelsOf.l0 (k + 1) s l (l.length : Int) (l.length : Int) = _
    simp only [impl_levelsOf.l0]
    rw [if_neg (by omega), ← h2]; rfl
theorem l18Levels_inner (l : List S46) (hl : l.length ≤ 4503599627370496) (i : Nat) (hi : i < l.length) (b v : Int) (hb0 : (l.getD i z46).f1 = b) (hv0 : (l.getD i z46).f2 = v) : ∀ (d : Nat) (h : Int) (acc : List Int) (k : Nat), h + d = b → 0 ≤ h → b ≤ acc.length → acc.length ≤ 4503599627370496 →
    spec_l18Levels.l1 (k + (d + 1)) l acc (i : Int) h = spec_l18Levels.l0 k l (setR acc h b v) ((i : Int) + 1) := by
  intro d
  induction d with
  | zero =>
    intro h acc k e h0 hb hl'
    show spec_l18Levels.l1 (k + 1) l acc (i : Int) h = _
    simp only [spec_l18Levels.l1, rd_seg, hb0, hv0]
    rw [if_pos (by omega), if_pos (by omega), if_neg (by omega), setR_none _ _ _ _ (by omega), wrap_id (by omega) (by omega)]
  | succ d ih =>
    intro h acc k e h0 hb hl'
    show spec_l18Levels.l1 ((k + (d + 1)) + 1) l acc (i : Int) h = _
    rw [spec_l18Levels.l1]
    simp only [rd_seg, hb0, hv0]
    rw [if_pos (by omega), if_pos (by omega), if_pos (by omega), if_pos (by omega), if_pos (by omega), wrap_id (x := h + 1) (by omega) (by omega), ih (h + 1) _ k (by omega) (by omega) (by rw [List.length_set]; exact hb) (by rw [List.length_set]; exact hl'), setR_set _ _ _ _ h0 (by omega) hb]
theorem l18Levels_ev (l : List S46) (hl : l.length ≤ 4503599627370496) (hv : ∀ s ∈ l, segB s = true) : Evt fun k => spec_l18Levels.f k l = some (levelsV l) := by
  unfold spec_l18Levels.f
  simp only [if_pos (show (240 : Nat) ≤ 35184372088832 by omega)]
  refine evt_loop0 l.length (fun k s i => spec_l18Levels.l0 k l s i) (levelsV l) (fun i s => s.length = 240 ∧ (l.drop i).foldl (fun acc s => setR acc s.f0 s.f1 s.f2) s = levelsV l) ?_ ?_ _ ⟨List.length_replicate, rfl⟩
  · rintro i s hi ⟨h1, h2⟩
    have hs := hv (l.getD i z46) (by rw [getD_lt _ _ _ hi]; exact List.getElem_mem _)
    unfold segB at hs
    simp only [Bool.and_eq_true, decide_eq_true_eq] at hs
    rw [getD_drop l z46 i hi, List.foldl_cons] at h2
    refine .inl ⟨_, ⟨by rw [setR_len]; exact h1, h2⟩, ((l.getD i z46).f1 - (l.getD i z46).f0).toNat + 1 + 1, Evt.all fun k => ?_⟩
    show spec_l18Levels.l0 ((k + (((l.getD i z46).f1 - (l.getD i z46).f0).toNat + 1)) + 1) l s (i : Int) = _
    simp only [spec_l18Levels.l0, rd_seg]
    rw [if_pos (by omega), if_pos (by omega), l18Levels_inner l hl i hi _ _ rfl rfl _ _ _ _ (by omega) (by omega) (by omega) (by omega)]
  · rintro s ⟨h1, h2⟩
    rw [List.drop_of_length_le (Nat.le_refl _)] at h2
    refine Evt.succ (Evt.all fun k => ?_)
    show spec_l18Levels.l0 (k + 1) l s (l.length : Int) = _
    simp only [spec_l18Levels.l0]
    rw [if_neg (by omega), ← h2]; rfl
def changesTo (lv : List Int) : Nat → List Int
  | 0 => []
  | n + 1 => changesTo lv n ++ if lv.getD (n + 1) 0 = lv.getD n 0 then [] else [((n + 1 : Nat) : Int)]
theorem changesTo_len (lv : List Int) : ∀ n, (changesTo lv n).length ≤ n
  | 0 => by simp [changesTo]
  | n + 1 => by have := changesTo_len lv n; simp only [changesTo, List.length_append]; split <;> simp <;> omega
theorem changesImpl_loop (lv : List Int) (hl : lv.length = 240) (n : Nat) (hn : n = 239) : Evt fun k => impl_ChangesOf.l0 k [] lv 1 = some (changesTo lv n, true) := by
  refine evt_loop0 n (fun k s i => impl_ChangesOf.l0 k s lv (i + 1)) (changesTo lv n, true) (fun i s => s = changesTo lv i) ?_ ?_ [] rfl
  · rintro i s hi rfl
    have hlen := changesTo_len lv i
    refine .inl ⟨_, rfl, 1, Evt.all fun k => ?_⟩
    show impl_ChangesOf.l0 (k + 1) (changesTo lv i) lv ((i : Int) + 1) = impl_ChangesOf.l0 k (changesTo lv (i + 1)) lv ((i : Int) + 1 + 1)
    have e1 : rd lv ((i : Int) + 1) = lv.getD (i + 1) 0 := rd_nat lv (i + 1)
    have w1 : wrap64 ((i : Int) + 1 - 1) = (i : Int) := by rw [wrap_id (by omega) (by omega)]; omega
    simp only [impl_ChangesOf.l0, w1, rd_nat, e1, changesTo]
    rw [if_pos (by omega), if_pos (by omega), if_pos (by omega), if_pos (by omega), if_pos (by omega), wrap_id (by omega) (by omega)]
    by_cases e : lv.getD (i + 1) 0 = lv.getD i 0
    · rw [if_pos e, if_pos e, List.append_nil]
    · rw [if_neg e, if_neg e, if_pos (by omega)]; rfl
  · rintro s rfl
    refine Evt.succ (Evt.all fun k => ?_)
    show impl_ChangesOf.l0 (k + 1) (changesTo lv n) lv ((n : Int) + 1) = _
    simp only [impl_ChangesOf.l0]
    rw [if_neg (by omega)]
theorem changesSpec_loop (lv : List Int) (hl : lv.length = 240) (n : Nat) (hn : n = 239) : Evt fun k => spec_ChangesOf.l0 k [] lv 1 = some (changesTo lv n, true) := by
  refine evt_loop0 n (fun k s i => spec_ChangesOf.l0 k s lv (i + 1)) (changesTo lv n, true) (fun i s => s = changesTo lv i) ?_ ?_ [] rfl
  · rintro i s hi rfl
    have hlen := changesTo_len lv i
    refine .inl ⟨_, rfl, 1, Evt.all fun k => ?_⟩
    show spec_ChangesOf.l0 (k + 1) (changesTo lv i) lv ((i : Int) + 1) = spec_ChangesOf.l0 k (changesTo lv (i + 1)) lv ((i : Int) + 1 + 1)
    have e1 : rd lv ((i : Int) + 1) = lv.getD (i + 1) 0 := rd_nat lv (i + 1)
    have w1 : wrap64 ((i : Int) + 1 - 1) = (i : Int) := by rw [wrap_id (by omega) (by omega)]; omega
    simp only [spec_ChangesOf.l0, w1, rd_nat, e1, changesTo]
    rw [if_pos (by omega), if_pos (by omega), if_pos (by omega), if_pos (by omega), if_pos (by omega), wrap_id (by omega) (by omega)]
    by_cases e : lv.getD (i + 1) 0 = lv.getD i 0
    · rw [if_pos e, if_pos e, List.append_nil]
    · rw [if_neg e, if_neg e, if_pos (by omega)]; rfl
  · rintro s rfl
    refine Evt.succ (Evt.all fun k => ?_)
    show spec_ChangesOf.l0 (k + 1) (changesTo lv n) lv ((n : Int) + 1) = _
    simp only [spec_ChangesOf.l0]
    rw [if_neg (by omega)]
theorem pair_ChangesOf (l : List S46) (hl : l.length ≤ 1048576) : ∃ v, (Evt fun k => impl_ChangesOf.f k l = some v) ∧ (Evt fun k => spec_ChangesOf.f k l = some v) ∧ v.1.length ≤ 1048576 := by
  have c1 := IsValidCourse_ev l (by omega)
  have c2 := l18Good_ev l (by omega)
  cases hc : courseB l with
  | false =>
    refine ⟨([], false), c1.mono fun k hk => ?_, c2.mono fun k hk => ?_, by simp⟩
    · simp [impl_ChangesOf.f, hk, hc]
    · simp [spec_ChangesOf.f, hk, hc]
  | true =>
    have hlen := levelsV_len l
    have hch := changesTo_len (levelsV l) 239
    refine ⟨(changesTo (levelsV l) 239, true), (c1.and ((changesImpl_loop (levelsV l) hlen _ rfl).and (levelsOf_ev l (by omega) (courseB_seg hc)))).mono ?_, (c2.and ((changesSpec_loop (levelsV l) hlen _ rfl).and (l18Levels_ev l (by omega) (courseB_seg hc)))).mono ?_, by simp only; omega⟩
    · rintro k ⟨h1, h2, h3⟩
      simp only [impl_ChangesOf.f, h1, h2, h3, hc, Option.bind_some, if_true]
    · rintro k ⟨h1, h2, h3⟩
      simp only [spec_ChangesOf.f, h1, h2, h3, hc, Option.bind_some, if_true]
theorem FnExactChangesOf : FnExactChangesOfPure := by
  intro l0 hm0 hw0
  have q0 := szSegmentS_ok l0 1048576 (by omega) hm0
  by_cases hl0 : (1048576 - (l0.length : Int)) < 0
  · exact ⟨0, by unfold laws_FnExactChangesOf.f; rw [q0, if_pos hl0, Option.bind_some, if_pos (by omega)]⟩
  rw [if_neg hl0] at q0
  have hn0 : l0.length ≤ 1048576 := by omega
  obtain ⟨⟨g0, g1⟩, hi, hs, hb⟩ := pair_ChangesOf (l0.map c_Segment) (by rw [List.length_map]; exact hn0)
  simp only at hb
  have n0 : ¬ (1 + 3 * (l0.length : Int) < 0) := by omega
  have n1 : ¬ (1 + (g0.length : Int) < 0) := by omega
  obtain ⟨K, hK⟩ := ((hi).and ((hs).and ((toSegmentS_ev l0 hn0).and ((eqSegmentS_self (l0.map c_Segment) (by rw [List.length_map]; omega)).and ((markSegmentS_ev (l0.map c_Segment) 1 (by omega) (by rw [List.length_map]; omega)).and ((eqIntS_ev g0 (by omega)).and ((markIntS_ev g0 1 (by omega) (by omega)).and (heldIntS_ev g0.length 1 (by omega) (by omega))))))))).at
  have e0 := fun j => (hK j).1
  have e1 := fun j => (hK j).2.1
  have e2 := fun j => (hK j).2.2.1
  have e3 := fun j => (hK j).2.2.2.1
  have e4 := fun j => (hK j).2.2.2.2.1
  have e5 := fun j => (hK j).2.2.2.2.2.1
  have e6 := fun j => (hK j).2.2.2.2.2.2.1
  have e7 := fun j => (hK j).2.2.2.2.2.2.2
  refine ⟨K + 6, ?_⟩
  simp only [laws_FnExactChangesOf.f, q0, if_neg hl0, Option.bind_some, e0, e1, e2, e3, e4, e5, e6, e7, if_true]
  simp [laws_FnExactChangesOf.j0, laws_FnExactChangesOf.j1, laws_FnExactChangesOf.j2, e0, e1, e2, e3, e4, e5, e6, e7, n0, n1]
end Go.Proofs.Ytlhajgbhplnieaa.PFnExactChangesOf.Pure
