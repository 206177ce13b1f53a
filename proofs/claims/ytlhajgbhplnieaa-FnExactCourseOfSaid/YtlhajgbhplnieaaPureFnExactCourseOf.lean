/-
  The pure statement of the law FnExactCourseOf: what its printed function answers is 'true' for all numbers and lists of its kinds. Conditions: the kinds' own bounds, as the statement lays them.
-/
import Derived.Test.YtlhajgbhplnieaaStmFnExactCourseOf
import Derived.DataShut
namespace Go.Proofs.Ytlhajgbhplnieaa.PFnExactCourseOf.Pure
open Go.RowKit Go.Proofs.Ytlhajgbhplnieaa.PFnExactCourseOf Go.Proofs.YtlhajgbhplnieaaW.PrintWords Go.Proofs.YtlhajgbhplnieaaW.PrintLast Go.Proofs.YtlhajgbhplnieaaW.PrintMore
set_option linter.unusedVariables false
set_option linter.unusedSimpArgs false
theorem wrap_id {x : Int} (h0 : -9223372036854775808 ≤ x) (h1 : x ≤ 9223372036854775807) : wrap64 x = x := by unfold wrap64; omega
theorem rd_nat (xs : List Int) (i : Nat) : rd xs (i : Int) = xs.getD i 0 := by simp [rd]
theorem for_loop {σ ρ : Type} (K n : Nat) (L : Nat → σ → Int → Option ρ) (v : ρ) (Inv : Nat → σ → Prop)
    (step : ∀ k i s, K ≤ k → i < n → Inv i s → (∃ s', Inv (i + 1) s' ∧ L (k + 1) s (i : Int) = L k s' ((i : Int) + 1)) ∨ L (k + 1) s (i : Int) = some v)
    (fin : ∀ k s, K ≤ k → Inv n s → L (k + 1) s (n : Int) = some v) :
    ∀ k s, Inv 0 s → n + K < k → L k s 0 = some v := by
  have key : ∀ d k i s, i + d = n → Inv i s → d + K < k → L k s (i : Int) = some v := by
    intro d
    induction d with
    | zero =>
      intro k i s hi h hk
      obtain ⟨k, rfl⟩ : ∃ m, k = m + 1 := ⟨k - 1, by omega⟩
      obtain rfl : i = n := by omega
      exact fin k s (by omega) h
    | succ d ih =>
      intro k i s hi h hk
      obtain ⟨k, rfl⟩ : ∃ m, k = m + 1 := ⟨k - 1, by omega⟩
      rcases step k i s (by omega) (by omega) h with ⟨s', h', e⟩ | e
      · rw [e]
        have := ih k (i + 1) s' (by omega) h' (by omega)
        rw [show ((i + 1 : Nat) : Int) = (i : Int) + 1 from by omega] at this
        exact this
      · exact e
  intro k s h hk
  exact key n k 0 s (by omega) h hk
theorem getD_drop {α : Type} (xs : List α) (z : α) (i : Nat) (h : i < xs.length) : xs.drop i = xs.getD i z :: xs.drop (i + 1) := by
  rw [List.drop_eq_getElem_cons h, List.getD_eq_getElem?_getD, List.getElem?_eq_getElem h]; rfl
theorem all_loop {α : Type} (K : Nat) (xs : List α) (z : α) (p : α → Bool) (L : Nat → Int → Option Bool)
    (step : ∀ k i, K ≤ k → i < xs.length → L (k + 1) (i : Int) = if p (xs.getD i z) = true then L k ((i : Int) + 1) else some false)
    (fin : ∀ k, K ≤ k → L (k + 1) (xs.length : Int) = some true) : ∀ k, xs.length + K < k → L k 0 = some (xs.all p) := by
  intro k hk
  refine for_loop K xs.length (fun k (_ : Unit) i => L k i) (xs.all p) (fun i _ => (xs.drop i).all p = xs.all p) ?_ ?_ k () (by simp) hk
  · intro k i s hK hi h
    rw [getD_drop xs z i hi, List.all_cons] at h
    by_cases hp : p (xs.getD i z) = true
    · refine .inl ⟨(), by rw [hp, Bool.true_and] at h; exact h, ?_⟩
      show L (k + 1) (i : Int) = _
      rw [step k i hK hi, if_pos hp]
    · refine .inr ?_
      show L (k + 1) (i : Int) = _
      rw [step k i hK hi, if_neg hp, ← h, (Bool.eq_false_iff.2 hp : p (xs.getD i z) = false), Bool.false_and]
  · intro k s hK h
    rw [List.drop_of_length_le (Nat.le_refl _)] at h
    show L (k + 1) (xs.length : Int) = _
    rw [fin k hK, ← h]; rfl
def Evt (P : Nat → Prop) : Prop := ∃ K, ∀ k, K ≤ k → P k
theorem Evt.all {P : Nat → Prop} (h : ∀ k, P k) : Evt P := ⟨0, fun k _ => h k⟩
theorem Evt.above {P : Nat → Prop} (K : Nat) (h : ∀ k, K < k → P k) : Evt P := ⟨K + 1, fun k hk => h k hk⟩
theorem Evt.and {P Q : Nat → Prop} (h : Evt P) (g : Evt Q) : Evt fun k => P k ∧ Q k := by
  obtain ⟨K, h⟩ := h
  obtain ⟨M, g⟩ := g
  exact ⟨K + M, fun k hk => ⟨h k (by omega), g k (by omega)⟩⟩
theorem Evt.mono {P Q : Nat → Prop} (h : Evt P) (g : ∀ k, P k → Q k) : Evt Q := by
  obtain ⟨K, h⟩ := h
  exact ⟨K, fun k hk => g k (h k hk)⟩
theorem Evt.succ {Q : Nat → Prop} (h : Evt fun k => Q (k + 1)) : Evt Q := by
  obtain ⟨K, h⟩ := h
  refine ⟨K + 1, fun k hk => ?_⟩
  obtain ⟨m, rfl⟩ : ∃ m, k = m + 1 := ⟨k - 1, by omega⟩
  exact h m (by omega)
theorem Evt.add {Q : Nat → Prop} (c : Nat) (h : Evt fun k => Q (k + c)) : Evt Q := by
  obtain ⟨K, h⟩ := h
  refine ⟨K + c, fun k hk => ?_⟩
  obtain ⟨m, rfl⟩ : ∃ m, k = m + c := ⟨k - c, by omega⟩
  exact h m (by omega)
theorem Evt.at {P : Nat → Prop} (h : Evt P) : ∃ K, ∀ j, P (K + j) := by
  obtain ⟨K, h⟩ := h
  exact ⟨K, fun j => h _ (by omega)⟩
theorem evt_loop {σ ρ : Type} (n : Nat) (L : Nat → σ → Int → Option ρ) (v : ρ) (Inv : Nat → σ → Prop)
    (step : ∀ i s, i < n → Inv i s → (∃ s', Inv (i + 1) s' ∧ ∃ c, Evt fun k => L (k + c) s (i : Int) = L k s' ((i : Int) + 1)) ∨ Evt fun k => L k s (i : Int) = some v)
    (fin : ∀ s, Inv n s → Evt fun k => L k s (n : Int) = some v) :
    ∀ i s, i ≤ n → Inv i s → Evt fun k => L k s (i : Int) = some v := by
  have key : ∀ d i s, i + d = n → Inv i s → Evt fun k => L k s (i : Int) = some v := by
    intro d
    induction d with
    | zero =>
      intro i s hi h
      obtain rfl : i = n := by omega
      exact fin s h
    | succ d ih =>
      intro i s hi h
      rcases step i s (by omega) h with ⟨s', h', c, e⟩ | e
      · have h2 := ih (i + 1) s' (by omega) h'
        rw [show ((i + 1 : Nat) : Int) = (i : Int) + 1 from by omega] at h2
        exact Evt.add c ((e.and h2).mono fun k hk => hk.1.trans hk.2)
      · exact e
  intro i s hi h
  exact key (n - i) i s (by omega) h
theorem evt_loop0 {σ ρ : Type} (n : Nat) (L : Nat → σ → Int → Option ρ) (v : ρ) (Inv : Nat → σ → Prop)
    (step : ∀ i s, i < n → Inv i s → (∃ s', Inv (i + 1) s' ∧ ∃ c, Evt fun k => L (k + c) s (i : Int) = L k s' ((i : Int) + 1)) ∨ Evt fun k => L k s (i : Int) = some v)
    (fin : ∀ s, Inv n s → Evt fun k => L k s (n : Int) = some v) (s : σ) (h0 : Inv 0 s) : Evt fun k => L k s 0 = some v :=
  evt_loop n L v Inv step fin 0 s (Nat.zero_le _) h0
theorem getD_lt {α : Type} (xs : List α) (z : α) (i : Nat) (h : i < xs.length) : xs.getD i z = xs[i] := by
  rw [List.getD_eq_getElem?_getD, List.getElem?_eq_getElem h]; rfl
theorem getD_set_self {α : Type} (xs : List α) (z v : α) (i : Nat) (h : i < xs.length) : (xs.set i v).getD i z = v := by
  rw [List.getD_eq_getElem?_getD, List.getElem?_set_self h]; rfl
theorem getD_set_ne {α : Type} (xs : List α) (z v : α) (i j : Nat) (h : i ≠ j) : (xs.set i v).getD j z = xs.getD j z := by
  rw [List.getD_eq_getElem?_getD, List.getElem?_set_ne h, List.getD_eq_getElem?_getD]
theorem list_ext_getD {α : Type} (xs ys : List α) (z : α) (h : xs.length = ys.length) (e : ∀ j, j < xs.length → xs.getD j z = ys.getD j z) : xs = ys := by
  apply List.ext_getElem h
  intro j h1 h2
  have := e j h1
  rwa [getD_lt _ _ _ h1, getD_lt _ _ _ h2] at this
theorem toIntS_ok (l : List Int) (hl : l.length ≤ 1048576) : ∀ k, l.length < k → laws_toIntS.f k l = some l := by
  intro k hk
  unfold laws_toIntS.f
  rw [if_pos (by omega), if_pos (by omega)]
  refine for_loop 0 l.length (fun k s i => laws_toIntS.l0 k l s i) l (fun i s => s.length = l.length ∧ ∀ j, j < i → s[j]? = l[j]?) ?_ ?_ k _ ⟨by simp, fun j hj => by omega⟩ (by omega)
  · rintro k i s _ hi ⟨h1, h2⟩
    refine .inl ⟨s.set i (l.getD i 0), ⟨by simpa using h1, fun j hj => ?_⟩, ?_⟩
    · by_cases e : j = i
      · subst e
        rw [List.getElem?_set_self (by omega), List.getD_eq_getElem?_getD, List.getElem?_eq_getElem hi]; rfl
      · rw [List.getElem?_set_ne (by omega)]; exact h2 j (by omega)
    · show laws_toIntS.l0 (k + 1) l s (i : Int) = _
      simp only [laws_toIntS.l0]
      rw [if_pos (by omega), if_pos (by omega), if_pos (by omega), wrap_id (by omega) (by omega), rd_nat, Int.toNat_natCast]
  · rintro k s _ ⟨h1, h2⟩
    show laws_toIntS.l0 (k + 1) l s (l.length : Int) = _
    simp only [laws_toIntS.l0]
    rw [if_neg (by omega)]
    congr 1
    apply List.ext_getElem?
    intro j
    by_cases hj : j < l.length
    · exact h2 j hj
    · rw [List.getElem?_eq_none (by omega), List.getElem?_eq_none (by omega)]
theorem eqIntS_self (l : List Int) (hl : l.length ≤ 4503599627370496) : ∀ k, l.length < k → laws_eqIntS.f k l l = some true := by
  intro k hk
  unfold laws_eqIntS.f
  rw [if_pos rfl]
  refine for_loop 0 l.length (fun k (_ : Unit) i => laws_eqIntS.l0 k l l i) true (fun _ _ => True) ?_ ?_ k () trivial (by omega)
  · intro k i s _ hi _
    refine .inl ⟨(), trivial, ?_⟩
    show laws_eqIntS.l0 (k + 1) l l (i : Int) = _
    simp only [laws_eqIntS.l0]
    rw [if_pos (by omega), if_pos (by omega), if_pos (by omega), wrap_id (by omega) (by omega)]
    simp
  · intro k s _ _
    show laws_eqIntS.l0 (k + 1) l l (l.length : Int) = _
    simp only [laws_eqIntS.l0]
    rw [if_neg (by omega)]
theorem toIntS_ev (l : List Int) (hl : l.length ≤ 1048576) : Evt fun k => laws_toIntS.f k l = some l := Evt.above _ (toIntS_ok l hl)
theorem eqIntS_ev (l : List Int) (hl : l.length ≤ 4503599627370496) : Evt fun k => laws_eqIntS.f k l l = some true := Evt.above _ (eqIntS_self l hl)
def markedI (a : Int) (n : Nat) : List Int := (List.range n).map (fun j : Nat => a + (j : Int))
theorem markedI_len (a : Int) (n : Nat) : (markedI a n).length = n := by simp [markedI]
theorem markedI_get (a : Int) (n j : Nat) (h : j < n) : (markedI a n).getD j 0 = a + (j : Int) := by
  rw [getD_lt _ _ _ (by simpa [markedI] using h)]; simp [markedI]
theorem markIntS_ev (l : List Int) (a : Int) (ha : 0 ≤ a ∧ a ≤ 1000000000000) (hl : l.length ≤ 1000000000000) : Evt fun k => laws_markIntS.f k l a = some (a + l.length, markedI a l.length) := by
  unfold laws_markIntS.f
  refine evt_loop0 l.length (fun k (s : List Int × Int) i => laws_markIntS.l0 k s.1 s.2 i) _ (fun i s => s.1.length = l.length ∧ s.2 = a + i ∧ ∀ j, j < i → s.1.getD j 0 = a + (j : Int)) ?_ ?_ (l, a) ⟨rfl, by simp, fun j hj => by omega⟩
  · rintro i ⟨s, x⟩ hi ⟨h1, h2, h3⟩
    simp only at h1 h2 h3
    refine .inl ⟨(s.set i x, x + 1), ⟨by simpa using h1, by simp only; omega, fun j hj => ?_⟩, 1, Evt.all fun k => ?_⟩
    · simp only
      by_cases e : j = i
      · subst e; rw [getD_set_self _ _ _ _ (by omega)]; exact h2
      · rw [getD_set_ne _ _ _ _ _ (by omega)]; exact h3 j (by omega)
    · show laws_markIntS.l0 (k + 1) s x (i : Int) = laws_markIntS.l0 k (s.set i x) (x + 1) ((i : Int) + 1)
      simp only [laws_markIntS.l0]
      rw [if_pos (by omega), if_pos (by omega), wrap_id (x := (i : Int) + 1) (by omega) (by omega), wrap_id (x := x + 1) (by omega) (by omega), Int.toNat_natCast]
  · rintro ⟨s, x⟩ ⟨h1, h2, h3⟩
    simp only at h1 h2 h3
    refine Evt.succ (Evt.all fun k => ?_)
    show laws_markIntS.l0 (k + 1) s x (l.length : Int) = _
    simp only [laws_markIntS.l0]
    rw [if_neg (by omega), h2]
    refine congrArg some (Prod.ext rfl (list_ext_getD _ _ 0 (by rw [markedI_len]; exact h1) (fun j hj => ?_)))
    have hj' : j < l.length := by simp only at hj; omega
    rw [markedI_get _ _ _ hj']; exact h3 j hj'
def mk_Segment (a : Int) (j : Nat) : S46 := ⟨a + 3 * (j : Int), a + 3 * (j : Int) + 1, a + 3 * (j : Int) + 1 + 1⟩
def marked_Segment (a : Int) (n : Nat) : List S46 := (List.range n).map (mk_Segment a)
theorem marked_Segment_len (a : Int) (n : Nat) : (marked_Segment a n).length = n := by simp [marked_Segment]
theorem marked_Segment_get (a : Int) (n j : Nat) (h : j < n) : (marked_Segment a n).getD j z46 = mk_Segment a j := by
  rw [getD_lt _ _ _ (by simpa [marked_Segment] using h)]; simp [marked_Segment]
theorem markSegmentS_ev (l : List S46) (a : Int) (ha : 0 ≤ a ∧ a ≤ 1000000000000) (hl : l.length ≤ 1000000000000) : Evt fun k => laws_markSegmentS.f k l a = some (a + 3 * l.length, marked_Segment a l.length) := by
  unfold laws_markSegmentS.f
  refine evt_loop0 l.length (fun k (s : List S46 × Int) i => laws_markSegmentS.l0 k s.1 s.2 i) _ (fun i s => s.1.length = l.length ∧ s.2 = a + 3 * i ∧ ∀ j, j < i → s.1.getD j z46 = mk_Segment a j) ?_ ?_ (l, a) ⟨rfl, by simp, fun j hj => by omega⟩
  · rintro i ⟨s, x⟩ hi ⟨h1, h2, h3⟩
    simp only at h1 h2 h3
    refine .inl ⟨(s.set i (mk_Segment a i), x + 1 + 1 + 1), ⟨by simpa using h1, by simp only; omega, fun j hj => ?_⟩, 1, Evt.all fun k => ?_⟩
    · simp only
      by_cases e : j = i
      · subst e; rw [getD_set_self _ _ _ _ (by omega)]
      · rw [getD_set_ne _ _ _ _ _ (by omega)]; exact h3 j (by omega)
    · show laws_markSegmentS.l0 (k + 1) s x (i : Int) = laws_markSegmentS.l0 k (s.set i (mk_Segment a i)) (x + 1 + 1 + 1) ((i : Int) + 1)
      have w1 : wrap64 (x + 1) = x + 1 := wrap_id (by omega) (by omega)
      have w2 : wrap64 (x + 1 + 1) = x + 1 + 1 := wrap_id (by omega) (by omega)
      have w3 : wrap64 (x + 1 + 1 + 1) = x + 1 + 1 + 1 := wrap_id (by omega) (by omega)
      simp only [laws_markSegmentS.l0, Option.bind_some]
      rw [if_pos (by omega), if_pos (by omega), wrap_id (x := (i : Int) + 1) (by omega) (by omega)]
      simp only [w1, w2, w3, rd_T46, Int.toNat_natCast, getD_set_self _ _ _ _ (show i < s.length by omega), List.set_set]
      subst h2
      rfl
  · rintro ⟨s, x⟩ ⟨h1, h2, h3⟩
    simp only at h1 h2 h3
    refine Evt.succ (Evt.all fun k => ?_)
    show laws_markSegmentS.l0 (k + 1) s x (l.length : Int) = _
    simp only [laws_markSegmentS.l0]
    rw [if_neg (by omega), h2]
    refine congrArg some (Prod.ext rfl (list_ext_getD _ _ z46 (by rw [marked_Segment_len]; exact h1) (fun j hj => ?_)))
    have hj' : j < l.length := by simp only at hj; omega
    rw [marked_Segment_get _ _ _ hj']; exact h3 j hj'
theorem heldSegmentS_ev (n : Nat) (a : Int) (ha : 0 ≤ a ∧ a ≤ 1000000000000) (hl : n ≤ 1000000000000) : Evt fun k => laws_heldSegmentS.f k (marked_Segment a n) a = some (a + 3 * n) := by
  unfold laws_heldSegmentS.f
  refine evt_loop0 n (fun k (x : Int) i => laws_heldSegmentS.l0 k (marked_Segment a n) x i) _ (fun i x => x = a + 3 * i) ?_ ?_ a (by simp)
  · rintro i x hi h2
    refine .inl ⟨x + 1 + 1 + 1, by omega, 1, Evt.all fun k => ?_⟩
    show laws_heldSegmentS.l0 (k + 1) (marked_Segment a n) x (i : Int) = _
    have w1 : wrap64 (x + 1) = x + 1 := wrap_id (by omega) (by omega)
    have w2 : wrap64 (x + 1 + 1) = x + 1 + 1 := wrap_id (by omega) (by omega)
    have w3 : wrap64 (x + 1 + 1 + 1) = x + 1 + 1 + 1 := wrap_id (by omega) (by omega)
    simp only [laws_heldSegmentS.l0]
    rw [marked_Segment_len, if_pos (by omega), if_pos (by omega), wrap_id (x := (i : Int) + 1) (by omega) (by omega)]
    simp only [w1, w2, w3, rd_T46, Int.toNat_natCast, marked_Segment_get _ _ _ hi]
    subst h2
    simp [mk_Segment]
  · rintro x h2
    refine Evt.succ (Evt.all fun k => ?_)
    show laws_heldSegmentS.l0 (k + 1) (marked_Segment a n) x (n : Int) = _
    simp only [laws_heldSegmentS.l0]
    rw [marked_Segment_len, if_neg (by omega), h2]
theorem eqSegmentS_self (l : List S46) (hl : l.length ≤ 4503599627370496) : Evt fun k => laws_eqSegmentS.f k l l = some true := by
  unfold laws_eqSegmentS.f
  simp only [if_true]
  refine evt_loop0 l.length (fun k (_ : Unit) i => laws_eqSegmentS.l0 k l l i) true (fun _ _ => True) ?_ ?_ () trivial
  · intro i s hi _
    refine .inl ⟨(), trivial, 1, Evt.all fun k => ?_⟩
    show laws_eqSegmentS.l0 (k + 1) l l (i : Int) = _
    simp only [laws_eqSegmentS.l0, laws_eqSegment.f]
    rw [if_pos (by omega), if_pos (by omega), if_pos (by omega), wrap_id (by omega) (by omega)]
    simp
  · intro s _
    refine Evt.succ (Evt.all fun k => ?_)
    show laws_eqSegmentS.l0 (k + 1) l l (l.length : Int) = _
    simp only [laws_eqSegmentS.l0]
    rw [if_neg (by omega)]
theorem within_ok (a b c : Int) : impl_within.f a b c = some (decide (b ≤ a ∧ a ≤ c)) := by
  unfold impl_within.f
  split <;> simp <;> omega
theorem l1In_ok (a b c : Int) : spec_l1In.f a b c = some (decide (b ≤ a ∧ a ≤ c)) := by
  unfold spec_l1In.f
  split <;> simp <;> omega
theorem evt_meas {σ ρ : Type} (L : Nat → σ → Option ρ) (v : ρ) (Inv : σ → Prop) (m : σ → Nat)
    (step : ∀ s, Inv s → (∃ s', Inv s' ∧ m s' < m s ∧ ∃ c, Evt fun k => L (k + c) s = L k s') ∨ Evt fun k => L k s = some v) :
    ∀ s, Inv s → Evt fun k => L k s = some v := by
  have key : ∀ (n : Nat) (s : σ), m s < n → Inv s → Evt fun k => L k s = some v := by
    intro n
    induction n with
    | zero => intro s hs; omega
    | succ n ih =>
      intro s hs hi
      rcases step s hi with ⟨s', hi', hm, c, e⟩ | e
      · exact Evt.add c ((e.and (ih s' (by omega) hi')).mono fun k hk => hk.1.trans hk.2)
      · exact e
  intro s hi
  exact key (m s + 1) s (by omega) hi
def lastS (acc : List S46) : S46 := acc.getD (acc.length - 1) z46
def stepC (lv : List Int) (acc : List S46) (i : Nat) : List S46 :=
  if lv.getD i 0 = 0 then acc
  else if 0 < acc.length ∧ (lastS acc).f1 = (i : Int) ∧ (lastS acc).f2 = lv.getD i 0 then acc.set (acc.length - 1) ⟨(lastS acc).f0, (lastS acc).f1 + 1, (lastS acc).f2⟩
  else acc ++ [⟨(i : Int), (i : Int) + 1, lv.getD i 0⟩]
def runC (lv : List Int) : Nat → List S46
  | 0 => []
  | n + 1 => stepC lv (runC lv n) n
def courseV (lv : List Int) : List S46 × Bool := if 12 < (runC lv lv.length).length then ([], false) else (runC lv lv.length, true)
theorem lastS_append (acc : List S46) (s : S46) : lastS (acc ++ [s]) = s := by
  unfold lastS
  rw [List.getD_eq_getElem?_getD]
  simp
theorem lastS_set (acc : List S46) (s : S46) (h : 0 < acc.length) : lastS (acc.set (acc.length - 1) s) = s := by
  unfold lastS
  rw [List.length_set, getD_set_self _ _ _ _ (by omega)]
theorem runC_len (lv : List Int) : ∀ i, (runC lv i).length ≤ i := by
  intro i
  induction i with
  | zero => simp [runC]
  | succ i ih =>
    simp only [runC, stepC]
    split
    · omega
    · split
      · rw [List.length_set]; omega
      · rw [List.length_append, List.length_singleton]; omega
theorem runC_last (lv : List Int) : ∀ i, 0 < (runC lv i).length → (lastS (runC lv i)).f1 ≤ (i : Int) ∧ ((lastS (runC lv i)).f1 = (i : Int) → 0 < i ∧ (lastS (runC lv i)).f2 = lv.getD (i - 1) 0) := by
  intro i
  induction i with
  | zero => intro h; simp [runC] at h
  | succ i ih =>
    intro h
    simp only [runC, stepC] at h ⊢
    split at h
    · rename_i h0
      rw [if_pos h0]
      have := (ih h).1
      exact ⟨by omega, fun e => by omega⟩
    · rename_i h0
      rw [if_neg h0]
      split at h
      · rename_i h1
        rw [if_pos h1, lastS_set _ _ h1.1]
        refine ⟨by simp only; omega, fun _ => ⟨by omega, ?_⟩⟩
        simp only [Nat.add_sub_cancel]
        exact h1.2.2
      · rename_i h1
        rw [if_neg h1, lastS_append]
        refine ⟨by simp only; omega, fun _ => ⟨by omega, ?_⟩⟩
        simp only [Nat.add_sub_cancel]
theorem courseOf_ev (lv : List Int) (hl : lv.length ≤ 1000000000) : Evt fun k => impl_courseOf.f k lv = some (courseV lv) := by
  unfold impl_courseOf.f
  refine evt_loop0 lv.length (fun k s i => impl_courseOf.l0 k s lv (lv.length : Int) i) (courseV lv) (fun i s => s = runC lv i) ?_ ?_ _ rfl
  · rintro i s hi rfl
    refine .inl ⟨_, rfl, 1, Evt.all fun k => ?_⟩
    show impl_courseOf.l0 (k + 1) (runC lv i) lv (lv.length : Int) (i : Int) = impl_courseOf.l0 k (stepC lv (runC lv i) i) lv (lv.length : Int) ((i : Int) + 1)
    have hlen := runC_len lv i
    have hlast := runC_last lv i
    have w1 : wrap64 ((i : Int) + 1) = (i : Int) + 1 := wrap_id (by omega) (by omega)
    simp only [impl_courseOf.l0, rd_nat, w1]
    rw [if_pos (by omega), if_pos (by omega), if_pos (by omega)]
    unfold stepC
    by_cases h0 : lv.getD i 0 = 0
    · rw [if_pos h0, if_pos h0]
    · rw [if_neg h0, if_neg h0, if_pos (show (runC lv i).length < 5864062014805 by omega)]
      by_cases h1 : 0 < (runC lv i).length
      · have w2 : wrap64 (((runC lv i).length : Int) - 1) = ((runC lv i).length : Int) - 1 := wrap_id (by omega) (by omega)
        have e1 : rd_T46 (runC lv i) (((runC lv i).length : Int) - 1) = lastS (runC lv i) := by unfold rd_T46 lastS; congr 1; omega
        have e2 : (((runC lv i).length : Int) - 1).toNat = (runC lv i).length - 1 := by omega
        rw [if_pos (by omega), w2, if_pos (by omega), if_pos (by omega), e1, e2]
        by_cases h2 : (lastS (runC lv i)).f1 = (i : Int)
        · by_cases h3 : (lastS (runC lv i)).f2 = lv.getD i 0
          · rw [if_pos h2, if_pos h3, if_pos ⟨h1, h2, h3⟩, wrap_id (by omega) (by omega)]
          · rw [if_pos h2, if_neg h3, if_neg (fun h => h3 h.2.2)]
        · rw [if_neg h2, if_neg (fun h => h2 h.2.1)]
      · rw [if_neg (by omega), if_neg (fun h => h1 h.1)]
  · rintro s rfl
    refine Evt.succ (Evt.all fun k => ?_)
    show impl_courseOf.l0 (k + 1) (runC lv lv.length) lv (lv.length : Int) (lv.length : Int) = _
    simp only [impl_courseOf.l0]
    rw [if_neg (by omega)]
    unfold courseV
    by_cases h : 12 < (runC lv lv.length).length
    · rw [if_pos (by omega), if_pos h]
    · rw [if_neg (by omega), if_neg h]
theorem runC_run (lv : List Int) (i : Nat) (hb : i = 0 ∨ lv.getD (i - 1) 0 ≠ lv.getD i 0) : ∀ m, (∀ q, i ≤ q → q < i + (m + 1) → lv.getD q 0 = lv.getD i 0) →
    runC lv (i + (m + 1)) = if lv.getD i 0 = 0 then runC lv i else runC lv i ++ [⟨(i : Int), ((i + (m + 1) : Nat) : Int), lv.getD i 0⟩] := by
  intro m
  induction m with
  | zero =>
    intro _
    show stepC lv (runC lv i) i = _
    unfold stepC
    by_cases h0 : lv.getD i 0 = 0
    · rw [if_pos h0, if_pos h0]
    · rw [if_neg h0, if_neg h0, if_neg]
      · simp
      · rintro ⟨h1, h2, h3⟩
        have := (runC_last lv i h1).2 h2
        rcases hb with hb | hb
        · omega
        · exact hb (this.2.symm.trans h3)
  | succ m ih =>
    intro hq
    show stepC lv (runC lv (i + (m + 1))) (i + (m + 1)) = _
    rw [ih (fun q h1 h2 => hq q h1 (by omega))]
    unfold stepC
    rw [hq (i + (m + 1)) (by omega) (by omega)]
    by_cases h0 : lv.getD i 0 = 0
    · rw [if_pos h0, if_pos h0, if_pos h0]
    · rw [if_neg h0, if_neg h0, if_neg h0, if_pos ⟨by simp, by rw [lastS_append], by rw [lastS_append]⟩]
      rw [lastS_append]
      simp only [List.length_append, List.length_singleton, Nat.add_sub_cancel]
      rw [List.set_append_right _ _ (Nat.le_refl _)]
      simp
      omega
theorem l18Course_ev (lv : List Int) (hl : lv.length ≤ 1000000000) (h0 : ∀ x ∈ lv, 0 ≤ x) : Evt fun k => spec_l18Course.f k lv = some (courseV lv) := by
  unfold spec_l18Course.f
  have hge : ∀ i, i < lv.length → 0 ≤ lv.getD i 0 := fun i hi => by rw [getD_lt _ _ _ hi]; exact h0 _ (List.getElem_mem _)
  have fin : ∀ k, spec_l18Course.l0 (k + 1) lv (runC lv lv.length) (lv.length : Int) = some (courseV lv) := by
    intro k
    simp only [spec_l18Course.l0]
    rw [if_neg (by omega)]
    unfold courseV
    by_cases h : 12 < (runC lv lv.length).length
    · rw [if_pos (by omega), if_pos h]
    · rw [if_neg (by omega), if_neg h]
  have main := evt_meas (fun k (s : Nat × Nat) => spec_l18Course.l1 k lv (runC lv s.1) (s.1 : Int) (s.2 : Int)) (courseV lv)
    (fun s => s.1 < lv.length ∧ s.1 ≤ s.2 ∧ s.2 ≤ lv.length ∧ (s.1 = 0 ∨ lv.getD (s.1 - 1) 0 ≠ lv.getD s.1 0) ∧ ∀ q, s.1 ≤ q → q < s.2 → lv.getD q 0 = lv.getD s.1 0)
    (fun s => 2 * (lv.length - s.2) + if s.1 < s.2 then 1 else 0) ?_
  · refine Evt.succ ?_
    by_cases hn : 0 < lv.length
    · have := main (0, 0) ⟨hn, Nat.le_refl _, Nat.zero_le _, .inl rfl, fun q h1 h2 => by simp only at h2; omega⟩
      refine this.mono fun k hk => ?_
      simp only [spec_l18Course.l0]
      rw [if_pos (by omega)]
      exact hk
    · refine Evt.all fun k => ?_
      have := fin k
      obtain rfl : lv = [] := List.eq_nil_of_length_eq_zero (by omega)
      exact this
  · rintro ⟨i, p⟩ ⟨h1, h2, h3, hb, hq⟩
    simp only at h1 h2 h3 hb hq ⊢
    have hlen := runC_len lv i
    have run_end : i < p → runC lv p = if lv.getD i 0 = 0 then runC lv i else runC lv i ++ [⟨(i : Int), (p : Int), lv.getD i 0⟩] := by
      intro hip
      have := runC_run lv i hb (p - i - 1) (fun q a b => hq q a (by omega))
      rw [show i + (p - i - 1 + 1) = p from by omega] at this
      exact this
    by_cases hp : p < lv.length
    · by_cases he : lv.getD p 0 = lv.getD i 0
      · refine .inl ⟨(i, p + 1), ⟨h1, by simp only; omega, by simp only; omega, hb, fun q a b => ?_⟩, ?_, 1, Evt.all fun k => ?_⟩
        · simp only at a b ⊢
          by_cases hqp : q = p
          · subst hqp; exact he
          · exact hq q a (by omega)
        · simp only
          rw [if_pos (by omega)]
          split <;> omega
        · simp only [spec_l18Course.l1, rd_nat]
          rw [if_pos (by omega), if_pos (by omega), if_pos (by omega), if_pos (by omega), if_pos he, wrap_id (by omega) (by omega)]
          rfl
      · have hip : i < p := by
          rcases Nat.lt_or_ge i p with h | h
          · exact h
          · exact absurd (by rw [show p = i from by omega]) he
        have hr := run_end hip
        refine .inl ⟨(p, p), ⟨hp, Nat.le_refl _, h3, .inr ?_, fun q a b => by simp only at a b; omega⟩, ?_, 2, Evt.all fun k => ?_⟩
        · simp only
          rw [hq (p - 1) (by omega) (by omega)]
          exact fun h => he h.symm
        · simp only
          rw [if_pos hip, if_neg (by omega)]
          omega
        · simp only [spec_l18Course.l1, rd_nat]
          rw [if_pos (by omega), if_pos (by omega), if_pos (by omega), if_pos (by omega), if_neg he]
          rw [hr]
          have := hge i h1
          by_cases hz : lv.getD i 0 = 0
          · rw [if_neg (by omega), if_pos hz]
            simp only [spec_l18Course.l0]
            rw [if_pos (by omega)]
          · rw [if_pos (by omega), if_neg hz, if_pos (by omega)]
            simp only [spec_l18Course.l0]
            rw [if_pos (by omega)]
    · obtain rfl : p = lv.length := by omega
      have hr := run_end h1
      refine .inr (Evt.add 2 (Evt.all fun k => ?_))
      simp only [spec_l18Course.l1, rd_nat]
      rw [if_neg (by omega), if_pos (by omega), if_pos (by omega)]
      have := hge i h1
      have hf := fin k
      rw [hr] at hf
      by_cases hz : lv.getD i 0 = 0
      · rw [if_neg (by omega)]
        rw [if_pos hz] at hf
        exact hf
      · rw [if_pos (by omega), if_pos (by omega)]
        rw [if_neg hz] at hf
        exact hf
theorem allWithin_ok (l : List Int) (lo hi : Int) (hl : l.length ≤ 4503599627370496) : ∀ k, l.length < k → impl_allWithin.f k l lo hi = some (l.all fun x => decide (lo ≤ x ∧ x ≤ hi)) := by
  intro k hk
  unfold impl_allWithin.f
  refine all_loop 0 l 0 _ (fun k i => impl_allWithin.l0 k lo hi l (l.length : Int) i) ?_ ?_ k (by omega)
  · intro k i _ hi
    show impl_allWithin.l0 (k + 1) lo _ l (l.length : Int) (i : Int) = _
    simp only [impl_allWithin.l0]
    rw [if_pos (by omega), if_pos (by omega), if_pos (by omega), within_ok, Option.bind_some, wrap_id (by omega) (by omega), rd_nat]
  · intro k _
    show impl_allWithin.l0 (k + 1) lo hi l (l.length : Int) (l.length : Int) = _
    simp only [impl_allWithin.l0]
    rw [if_neg (by omega)]
theorem courseV_len (lv : List Int) : (courseV lv).1.length ≤ lv.length := by
  unfold courseV
  split
  · simp
  · exact runC_len lv _
theorem specCourseOf_loop (lv : List Int) (hl : lv.length ≤ 1000000000) (v : List S46 × Bool)
    (hv : v = if (lv.all fun x => decide (0 ≤ x ∧ x ≤ 3)) = true then courseV lv else ([], false)) : Evt fun k => spec_CourseOf.l0 k lv 0 = some v := by
  refine evt_loop0 lv.length (fun k (_ : Unit) i => spec_CourseOf.l0 k lv i) v (fun i _ => (lv.drop i).all (fun x => decide (0 ≤ x ∧ x ≤ 3)) = lv.all fun x => decide (0 ≤ x ∧ x ≤ 3)) ?_ ?_ () rfl
  · intro i s hi h
    rw [getD_drop lv 0 i hi, List.all_cons] at h
    by_cases hp : 0 ≤ lv.getD i 0 ∧ lv.getD i 0 ≤ 3
    · refine .inl ⟨(), by rw [decide_eq_true hp, Bool.true_and] at h; exact h, 1, Evt.all fun k => ?_⟩
      show spec_CourseOf.l0 (k + 1) lv (i : Int) = _
      simp only [spec_CourseOf.l0, rd_nat, l1In_ok, Option.bind_some, decide_eq_true hp, if_true]
      rw [if_pos (by omega), if_pos (by omega), wrap_id (by omega) (by omega)]
    · refine .inr (Evt.succ (Evt.all fun k => ?_))
      show spec_CourseOf.l0 (k + 1) lv (i : Int) = _
      rw [decide_eq_false hp, Bool.false_and] at h
      rw [hv, ← h, if_neg (by simp)]
      simp only [spec_CourseOf.l0, rd_nat, l1In_ok, Option.bind_some, decide_eq_false hp]
      rw [if_pos (by omega), if_pos (by omega), if_neg (by simp)]
  · intro s h
    rw [List.drop_of_length_le (Nat.le_refl _)] at h
    have hall : (lv.all fun x => decide (0 ≤ x ∧ x ≤ 3)) = true := h.symm
    rw [hv, if_pos hall]
    have h0 : ∀ x ∈ lv, 0 ≤ x := fun x hx => (of_decide_eq_true (List.all_eq_true.1 hall x hx)).1
    refine Evt.succ ((l18Course_ev lv hl h0).mono fun k hk => ?_)
    show spec_CourseOf.l0 (k + 1) lv (lv.length : Int) = _
    simp only [spec_CourseOf.l0]
    rw [if_neg (by omega), hk, Option.bind_some]
theorem pair_CourseOf (lv : List Int) (hl : lv.length ≤ 1048576) : ∃ v, (Evt fun k => impl_CourseOf.f k lv = some v) ∧ (Evt fun k => spec_CourseOf.f k lv = some v) ∧ v.1.length ≤ 1048576 := by
  by_cases hn : (lv.length : Int) > 240
  · refine ⟨([], false), Evt.all fun k => ?_, Evt.all fun k => ?_, by simp⟩
    · simp [impl_CourseOf.f, hn]
    · simp [spec_CourseOf.f, hn]
  · refine ⟨if (lv.all fun x => decide (0 ≤ x ∧ x ≤ 3)) = true then courseV lv else ([], false), ((Evt.above _ (allWithin_ok lv 0 3 (by omega))).and (courseOf_ev lv (by omega))).mono fun k hk => ?_, (specCourseOf_loop lv (by omega) _ rfl).mono fun k hk => ?_, ?_⟩
    · simp only [impl_CourseOf.f, if_neg hn, hk.1, hk.2, Option.bind_some]
      split <;> rfl
    · simp only [spec_CourseOf.f, if_neg hn, hk]
    · have := courseV_len lv
      split
      · omega
      · simp
theorem FnExactCourseOf : FnExactCourseOfPure := by
  intro l0 hm0 hw0
  by_cases hl0 : (l0.length : Int) > 1048576
  · exact ⟨0, by unfold laws_FnExactCourseOf.f; rw [if_pos hl0]⟩
  obtain ⟨⟨g0, g1⟩, hi, hs, hb⟩ := pair_CourseOf l0 (by omega)
  simp only at hb
  have n0 : ¬ (1 + (l0.length : Int) < 0) := by omega
  have n1 : ¬ (1 + 3 * (g0.length : Int) < 0) := by omega
  obtain ⟨K, hK⟩ := ((hi).and ((hs).and ((toIntS_ev l0 (by omega)).and ((eqIntS_ev l0 (by omega)).and ((markIntS_ev l0 1 (by omega) (by omega)).and ((eqSegmentS_self g0 (by omega)).and ((markSegmentS_ev g0 1 (by omega) (by omega)).and (heldSegmentS_ev g0.length 1 (by omega) (by omega))))))))).at
  have e0 := fun j => (hK j).1
  have e1 := fun j => (hK j).2.1
  have e2 := fun j => (hK j).2.2.1
  have e3 := fun j => (hK j).2.2.2.1
  have e4 := fun j => (hK j).2.2.2.2.1
  have e5 := fun j => (hK j).2.2.2.2.2.1
  have e6 := fun j => (hK j).2.2.2.2.2.2.1
  have e7 := fun j => (hK j).2.2.2.2.2.2.2
  refine ⟨K + 6, ?_⟩
  simp only [laws_FnExactCourseOf.f, if_neg hl0, Option.bind_some, e0, e1, e2, e3, e4, e5, e6, e7, if_true]
  simp [laws_FnExactCourseOf.j0, laws_FnExactCourseOf.j1, laws_FnExactCourseOf.j2, e0, e1, e2, e3, e4, e5, e6, e7, n0, n1]
end Go.Proofs.Ytlhajgbhplnieaa.PFnExactCourseOf.Pure
