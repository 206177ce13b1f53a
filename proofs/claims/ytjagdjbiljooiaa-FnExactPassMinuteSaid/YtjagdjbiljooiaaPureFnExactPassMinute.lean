/-
  The pure statement of the law FnExactPassMinute: what its printed function answers is 'true' for all numbers and lists of its kinds. Conditions: the kinds' own bounds, as the statement lays them.
-/
import Derived.Test.YtjagdjbiljooiaaStmFnExactPassMinute
import Derived.DataShut
namespace Go.Proofs.Ytjagdjbiljooiaa.XFnExactPassMinute.Pure
open Go.RowKit Go.Proofs.Ytjagdjbiljooiaa.XFnExactPassMinute Go.Proofs.YtjagdjbiljooiaaW.PrintWords Go.Proofs.YtjagdjbiljooiaaW.PrintLast Go.Proofs.YtjagdjbiljooiaaW.PrintMore
set_option linter.unusedVariables false
set_option linter.unusedSimpArgs false
theorem wrap_id {x : Int} (h0 : -9223372036854775808 ≤ x) (h1 : x ≤ 9223372036854775807) : wrap64 x = x := by unfold wrap64; omega
theorem wf64 {x : Int} (h : (Lit.int .i64 x).wf = true) : -9223372036854775808 ≤ x ∧ x ≤ 9223372036854775807 := by
  simpa [Lit.wf, IntKind.min, IntKind.max, IntKind.signed, IntKind.bits] using h
theorem rd_nat (xs : List Int) (i : Nat) : rd xs (i : Int) = xs.getD i 0 := by simp [rd]
theorem for_loop {σ ρ : Type} (K n : Nat) (L : Nat → σ → Int → Option ρ) (v : ρ) (Inv : Nat → σ → Prop)
    (step : ∀ k i s, K ≤ k → i < n → Inv i s → (∃ s', Inv (i + 1) s' ∧ L (k + 1) s (i : Int) = L k s' ((i : Int) + 1)) ∨ L (k + 1) s (i : Int) = some v)
    (fin : ∀ k s, K ≤ k → Inv n s → L (k + 1) s (n : Int) = some v) :
    ∀ k s, Inv 0 s → n + K < k → L k s 0 = some v := by
  have key : ∀ d k i s, i + d = n → Inv i s → d + K < k → L k s (i : Int) = some v := by
    intro d
    induction d with
    | zero =>
      intro k i s hi h hk
      obtain ⟨k, rfl⟩ : ∃ m, k = m + 1 := ⟨k - 1, by omega⟩
      obtain rfl : i = n := by omega
      exact fin k s (by omega) h
    | succ d ih =>
      intro k i s hi h hk
      obtain ⟨k, rfl⟩ : ∃ m, k = m + 1 := ⟨k - 1, by omega⟩
      rcases step k i s (by omega) (by omega) h with ⟨s', h', e⟩ | e
      · rw [e]
        have := ih k (i + 1) s' (by omega) h' (by omega)
        rw [show ((i + 1 : Nat) : Int) = (i : Int) + 1 from by omega] at this
        exact this
      · exact e
  intro k s h hk
  exact key n k 0 s (by omega) h hk
def Evt (P : Nat → Prop) : Prop := ∃ K, ∀ k, K ≤ k → P k
theorem Evt.all {P : Nat → Prop} (h : ∀ k, P k) : Evt P := ⟨0, fun k _ => h k⟩
theorem Evt.above {P : Nat → Prop} (K : Nat) (h : ∀ k, K < k → P k) : Evt P := ⟨K + 1, fun k hk => h k hk⟩
theorem Evt.and {P Q : Nat → Prop} (h : Evt P) (g : Evt Q) : Evt fun k => P k ∧ Q k := by
  obtain ⟨K, h⟩ := h
  obtain ⟨M, g⟩ := g
  exact ⟨K + M, fun k hk => ⟨h k (by omega), g k (by omega)⟩⟩
theorem Evt.mono {P Q : Nat → Prop} (h : Evt P) (g : ∀ k, P k → Q k) : Evt Q := by
  obtain ⟨K, h⟩ := h
  exact ⟨K, fun k hk => g k (h k hk)⟩
theorem Evt.succ {Q : Nat → Prop} (h : Evt fun k => Q (k + 1)) : Evt Q := by
  obtain ⟨K, h⟩ := h
  refine ⟨K + 1, fun k hk => ?_⟩
  obtain ⟨m, rfl⟩ : ∃ m, k = m + 1 := ⟨k - 1, by omega⟩
  exact h m (by omega)
theorem Evt.add {Q : Nat → Prop} (c : Nat) (h : Evt fun k => Q (k + c)) : Evt Q := by
  obtain ⟨K, h⟩ := h
  refine ⟨K + c, fun k hk => ?_⟩
  obtain ⟨m, rfl⟩ : ∃ m, k = m + c := ⟨k - c, by omega⟩
  exact h m (by omega)
theorem Evt.at {P : Nat → Prop} (h : Evt P) : ∃ K, ∀ j, P (K + j) := by
  obtain ⟨K, h⟩ := h
  exact ⟨K, fun j => h _ (by omega)⟩
theorem Evt.pos : Evt fun k => ∃ m, k = m + 1 := ⟨1, fun k hk => ⟨k - 1, by omega⟩⟩
theorem evt_loop {σ ρ : Type} (n : Nat) (L : Nat → σ → Int → Option ρ) (v : ρ) (Inv : Nat → σ → Prop)
    (step : ∀ i s, i < n → Inv i s → (∃ s', Inv (i + 1) s' ∧ ∃ c, Evt fun k => L (k + c) s (i : Int) = L k s' ((i : Int) + 1)) ∨ Evt fun k => L k s (i : Int) = some v)
    (fin : ∀ s, Inv n s → Evt fun k => L k s (n : Int) = some v) :
    ∀ i s, i ≤ n → Inv i s → Evt fun k => L k s (i : Int) = some v := by
  have key : ∀ d i s, i + d = n → Inv i s → Evt fun k => L k s (i : Int) = some v := by
    intro d
    induction d with
    | zero =>
      intro i s hi h
      obtain rfl : i = n := by omega
      exact fin s h
    | succ d ih =>
      intro i s hi h
      rcases step i s (by omega) h with ⟨s', h', c, e⟩ | e
      · have h2 := ih (i + 1) s' (by omega) h'
        rw [show ((i + 1 : Nat) : Int) = (i : Int) + 1 from by omega] at h2
        exact Evt.add c ((e.and h2).mono fun k hk => hk.1.trans hk.2)
      · exact e
  intro i s hi h
  exact key (n - i) i s (by omega) h
theorem evt_loop0 {σ ρ : Type} (n : Nat) (L : Nat → σ → Int → Option ρ) (v : ρ) (Inv : Nat → σ → Prop)
    (step : ∀ i s, i < n → Inv i s → (∃ s', Inv (i + 1) s' ∧ ∃ c, Evt fun k => L (k + c) s (i : Int) = L k s' ((i : Int) + 1)) ∨ Evt fun k => L k s (i : Int) = some v)
    (fin : ∀ s, Inv n s → Evt fun k => L k s (n : Int) = some v) (s : σ) (h0 : Inv 0 s) : Evt fun k => L k s 0 = some v :=
  evt_loop n L v Inv step fin 0 s (Nat.zero_le _) h0
theorem getD_lt {α : Type} (xs : List α) (z : α) (i : Nat) (h : i < xs.length) : xs.getD i z = xs[i] := by
  rw [List.getD_eq_getElem?_getD, List.getElem?_eq_getElem h]; rfl
theorem getD_set_self {α : Type} (xs : List α) (z v : α) (i : Nat) (h : i < xs.length) : (xs.set i v).getD i z = v := by
  rw [List.getD_eq_getElem?_getD, List.getElem?_set_self h]; rfl
theorem getD_set_ne {α : Type} (xs : List α) (z v : α) (i j : Nat) (h : i ≠ j) : (xs.set i v).getD j z = xs.getD j z := by
  rw [List.getD_eq_getElem?_getD, List.getElem?_set_ne h, List.getD_eq_getElem?_getD]
theorem getD_map {α β : Type} (f : α → β) (xs : List α) (z : α) (y : β) (i : Nat) (h : i < xs.length) : (xs.map f).getD i y = f (xs.getD i z) := by
  rw [getD_lt _ _ _ (by simpa using h), getD_lt _ _ _ h, List.getElem_map]
theorem list_ext_getD {α : Type} (xs ys : List α) (z : α) (h : xs.length = ys.length) (e : ∀ j, j < xs.length → xs.getD j z = ys.getD j z) : xs = ys := by
  apply List.ext_getElem h
  intro j h1 h2
  have := e j h1
  rwa [getD_lt _ _ _ h1, getD_lt _ _ _ h2] at this
def c_Delivery (x : S96) : S94 := ⟨x.f0, x.f1, x.f2, x.f3⟩
theorem toDeliveryS_ev (l : List S96) (hl : l.length ≤ 1048576) : Evt fun k => laws_toDeliveryS.f k l = some (l.map c_Delivery) := by
  unfold laws_toDeliveryS.f
  simp only [if_pos (show 0 ≤ (l.length : Int) by omega), if_pos (show ((l.length : Int) : Int).toNat ≤ 8796093022208 by omega)]
  refine evt_loop0 l.length (fun k s i => laws_toDeliveryS.l0 k l s i) (l.map c_Delivery) (fun i s => s.length = l.length ∧ ∀ j, j < i → s.getD j z94 = (l.map c_Delivery).getD j z94) ?_ ?_ _ ⟨by simp, fun j hj => by omega⟩
  · rintro i s hi ⟨h1, h2⟩
    refine .inl ⟨s.set i ((l.map c_Delivery).getD i z94), ⟨by simpa using h1, fun j hj => ?_⟩, 1, Evt.all fun k => ?_⟩
    · by_cases e : j = i
      · subst e; rw [getD_set_self _ _ _ _ (by omega)]
      · rw [getD_set_ne _ _ _ _ _ (by omega)]; exact h2 j (by omega)
    · show laws_toDeliveryS.l0 (k + 1) l s (i : Int) = _
      simp only [laws_toDeliveryS.l0, laws_toDelivery.f, Option.bind_some]
      rw [if_pos (by omega), if_pos (by omega), if_pos (by omega), wrap_id (by omega) (by omega), Int.toNat_natCast, getD_map _ _ z96 _ _ hi]
      rfl
  · rintro s ⟨h1, h2⟩
    refine Evt.succ (Evt.all fun k => ?_)
    show laws_toDeliveryS.l0 (k + 1) l s (l.length : Int) = _
    simp only [laws_toDeliveryS.l0]
    rw [if_neg (by omega)]
    exact congrArg some (list_ext_getD _ _ z94 (by simpa using h1) (fun j hj => h2 j (by omega)))
theorem eqDeliveryS_self (l : List S94) (hl : l.length ≤ 4503599627370496) : Evt fun k => laws_eqDeliveryS.f k l l = some true := by
  unfold laws_eqDeliveryS.f
  simp only [if_true]
  refine evt_loop0 l.length (fun k (_ : Unit) i => laws_eqDeliveryS.l0 k l l i) true (fun _ _ => True) ?_ ?_ () trivial
  · intro i s hi _
    refine .inl ⟨(), trivial, 1, Evt.all fun k => ?_⟩
    show laws_eqDeliveryS.l0 (k + 1) l l (i : Int) = _
    simp only [laws_eqDeliveryS.l0, laws_eqDelivery.f]
    rw [if_pos (by omega), if_pos (by omega), if_pos (by omega), wrap_id (by omega) (by omega)]
    simp
  · intro s _
    refine Evt.succ (Evt.all fun k => ?_)
    show laws_eqDeliveryS.l0 (k + 1) l l (l.length : Int) = _
    simp only [laws_eqDeliveryS.l0]
    rw [if_neg (by omega)]
theorem szDeliveryS_ok (l : List S96) (a : Int) (ha : 0 ≤ a ∧ a ≤ 1048576) (hl : l.length ≤ maxLen) : laws_szDeliveryS.f l a = some (if a - (l.length : Int) < 0 then -1 else a - (l.length : Int)) := by
  unfold maxLen at hl
  unfold laws_szDeliveryS.f
  rw [wrap_id (by omega) (by omega)]
  split <;> rfl
def mk_Delivery (a : Int) (j : Nat) : S94 := ⟨a + 4 * (j : Int), a + 4 * (j : Int) + 1, a + 4 * (j : Int) + 1 + 1, a + 4 * (j : Int) + 1 + 1 + 1⟩
def marked_Delivery (a : Int) (n : Nat) : List S94 := (List.range n).map (mk_Delivery a)
theorem marked_Delivery_len (a : Int) (n : Nat) : (marked_Delivery a n).length = n := by simp [marked_Delivery]
theorem marked_Delivery_get (a : Int) (n j : Nat) (h : j < n) : (marked_Delivery a n).getD j z94 = mk_Delivery a j := by
  rw [getD_lt _ _ _ (by simpa [marked_Delivery] using h)]; simp [marked_Delivery]
theorem markDeliveryS_ev (l : List S94) (a : Int) (ha : 0 ≤ a ∧ a ≤ 1000000000000) (hl : l.length ≤ 1000000000000) : Evt fun k => laws_markDeliveryS.f k l a = some (a + 4 * l.length, marked_Delivery a l.length) := by
  unfold laws_markDeliveryS.f
  refine evt_loop0 l.length (fun k (s : List S94 × Int) i => laws_markDeliveryS.l0 k s.1 s.2 i) _ (fun i s => s.1.length = l.length ∧ s.2 = a + 4 * i ∧ ∀ j, j < i → s.1.getD j z94 = mk_Delivery a j) ?_ ?_ (l, a) ⟨rfl, by simp, fun j hj => by omega⟩
  · rintro i ⟨s, x⟩ hi ⟨h1, h2, h3⟩
    simp only at h1 h2 h3
    refine .inl ⟨(s.set i (mk_Delivery a i), x + 1 + 1 + 1 + 1), ⟨by simpa using h1, by simp only; omega, fun j hj => ?_⟩, 1, Evt.all fun k => ?_⟩
    · simp only
      by_cases e : j = i
      · subst e; rw [getD_set_self _ _ _ _ (by omega)]
      · rw [getD_set_ne _ _ _ _ _ (by omega)]; exact h3 j (by omega)
    · show laws_markDeliveryS.l0 (k + 1) s x (i : Int) = laws_markDeliveryS.l0 k (s.set i (mk_Delivery a i)) (x + 1 + 1 + 1 + 1) ((i : Int) + 1)
      have w1 : wrap64 (x + 1) = x + 1 := wrap_id (by omega) (by omega)
      have w2 : wrap64 (x + 1 + 1) = x + 1 + 1 := wrap_id (by omega) (by omega)
      have w3 : wrap64 (x + 1 + 1 + 1) = x + 1 + 1 + 1 := wrap_id (by omega) (by omega)
      have w4 : wrap64 (x + 1 + 1 + 1 + 1) = x + 1 + 1 + 1 + 1 := wrap_id (by omega) (by omega)
      simp only [laws_markDeliveryS.l0, Option.bind_some]
      rw [if_pos (by omega), if_pos (by omega), wrap_id (x := (i : Int) + 1) (by omega) (by omega)]
      simp only [w1, w2, w3, w4, rd_T94, Int.toNat_natCast, getD_set_self _ _ _ _ (show i < s.length by omega), List.set_set]
      subst h2
      rfl
  · rintro ⟨s, x⟩ ⟨h1, h2, h3⟩
    simp only at h1 h2 h3
    refine Evt.succ (Evt.all fun k => ?_)
    show laws_markDeliveryS.l0 (k + 1) s x (l.length : Int) = _
    simp only [laws_markDeliveryS.l0]
    rw [if_neg (by omega), h2]
    refine congrArg some (Prod.ext rfl (list_ext_getD _ _ z94 (by rw [marked_Delivery_len]; exact h1) (fun j hj => ?_)))
    have hj' : j < l.length := by simp only at hj; omega
    rw [marked_Delivery_get _ _ _ hj']; exact h3 j hj'
theorem heldDeliveryS_ev (n : Nat) (a : Int) (ha : 0 ≤ a ∧ a ≤ 1000000000000) (hl : n ≤ 1000000000000) : Evt fun k => laws_heldDeliveryS.f k (marked_Delivery a n) a = some (a + 4 * n) := by
  unfold laws_heldDeliveryS.f
  refine evt_loop0 n (fun k (x : Int) i => laws_heldDeliveryS.l0 k (marked_Delivery a n) x i) _ (fun i x => x = a + 4 * i) ?_ ?_ a (by simp)
  · rintro i x hi h2
    refine .inl ⟨x + 1 + 1 + 1 + 1, by omega, 1, Evt.all fun k => ?_⟩
    show laws_heldDeliveryS.l0 (k + 1) (marked_Delivery a n) x (i : Int) = _
    have w1 : wrap64 (x + 1) = x + 1 := wrap_id (by omega) (by omega)
    have w2 : wrap64 (x + 1 + 1) = x + 1 + 1 := wrap_id (by omega) (by omega)
    have w3 : wrap64 (x + 1 + 1 + 1) = x + 1 + 1 + 1 := wrap_id (by omega) (by omega)
    have w4 : wrap64 (x + 1 + 1 + 1 + 1) = x + 1 + 1 + 1 + 1 := wrap_id (by omega) (by omega)
    simp only [laws_heldDeliveryS.l0]
    rw [marked_Delivery_len, if_pos (by omega), if_pos (by omega), wrap_id (x := (i : Int) + 1) (by omega) (by omega)]
    simp only [w1, w2, w3, w4, rd_T94, Int.toNat_natCast, marked_Delivery_get _ _ _ hi]
    subst h2
    simp [mk_Delivery]
  · rintro x h2
    refine Evt.succ (Evt.all fun k => ?_)
    show laws_heldDeliveryS.l0 (k + 1) (marked_Delivery a n) x (n : Int) = _
    simp only [laws_heldDeliveryS.l0]
    rw [marked_Delivery_len, if_neg (by omega), h2]
def markedI (a : Int) (n : Nat) : List Int := (List.range n).map (fun j : Nat => a + (j : Int))
theorem markedI_len (a : Int) (n : Nat) : (markedI a n).length = n := by simp [markedI]
theorem markedI_get (a : Int) (n j : Nat) (h : j < n) : (markedI a n).getD j 0 = a + (j : Int) := by
  rw [getD_lt _ _ _ (by simpa [markedI] using h)]; simp [markedI]
theorem markIntS_ev (l : List Int) (a : Int) (ha : 0 ≤ a ∧ a ≤ 1000000000000) (hl : l.length ≤ 1000000000000) : Evt fun k => laws_markIntS.f k l a = some (a + l.length, markedI a l.length) := by
  unfold laws_markIntS.f
  refine evt_loop0 l.length (fun k (s : List Int × Int) i => laws_markIntS.l0 k s.1 s.2 i) _ (fun i s => s.1.length = l.length ∧ s.2 = a + i ∧ ∀ j, j < i → s.1.getD j 0 = a + (j : Int)) ?_ ?_ (l, a) ⟨rfl, by simp, fun j hj => by omega⟩
  · rintro i ⟨s, x⟩ hi ⟨h1, h2, h3⟩
    simp only at h1 h2 h3
    refine .inl ⟨(s.set i x, x + 1), ⟨by simpa using h1, by simp only; omega, fun j hj => ?_⟩, 1, Evt.all fun k => ?_⟩
    · simp only
      by_cases e : j = i
      · subst e; rw [getD_set_self _ _ _ _ (by omega)]; exact h2
      · rw [getD_set_ne _ _ _ _ _ (by omega)]; exact h3 j (by omega)
    · show laws_markIntS.l0 (k + 1) s x (i : Int) = laws_markIntS.l0 k (s.set i x) (x + 1) ((i : Int) + 1)
      simp only [laws_markIntS.l0]
      rw [if_pos (by omega), if_pos (by omega), wrap_id (x := (i : Int) + 1) (by omega) (by omega), wrap_id (x := x + 1) (by omega) (by omega), Int.toNat_natCast]
  · rintro ⟨s, x⟩ ⟨h1, h2, h3⟩
    simp only at h1 h2 h3
    refine Evt.succ (Evt.all fun k => ?_)
    show laws_markIntS.l0 (k + 1) s x (l.length : Int) = _
    simp only [laws_markIntS.l0]
    rw [if_neg (by omega), h2]
    refine congrArg some (Prod.ext rfl (list_ext_getD _ _ 0 (by rw [markedI_len]; exact h1) (fun j hj => ?_)))
    have hj' : j < l.length := by simp only at hj; omega
    rw [markedI_get _ _ _ hj']; exact h3 j hj'
theorem heldIntS_ev (n : Nat) (a : Int) (ha : 0 ≤ a ∧ a ≤ 1000000000000) (hl : n ≤ 1000000000000) : Evt fun k => laws_heldIntS.f k (markedI a n) a = some (a + n) := by
  unfold laws_heldIntS.f
  refine evt_loop0 n (fun k (x : Int) i => laws_heldIntS.l0 k (markedI a n) x i) _ (fun i x => x = a + i) ?_ ?_ a (by simp)
  · rintro i x hi h2
    refine .inl ⟨x + 1, by omega, 1, Evt.all fun k => ?_⟩
    show laws_heldIntS.l0 (k + 1) (markedI a n) x (i : Int) = _
    simp only [laws_heldIntS.l0]
    rw [markedI_len, if_pos (by omega), if_pos (by omega), rd_nat, markedI_get _ _ _ hi, if_pos h2.symm, wrap_id (x := (i : Int) + 1) (by omega) (by omega), wrap_id (x := x + 1) (by omega) (by omega)]
  · rintro x h2
    refine Evt.succ (Evt.all fun k => ?_)
    show laws_heldIntS.l0 (k + 1) (markedI a n) x (n : Int) = _
    simp only [laws_heldIntS.l0]
    rw [markedI_len, if_neg (by omega), h2]
theorem eqIntS_self (l : List Int) (hl : l.length ≤ 4503599627370496) : ∀ k, l.length < k → laws_eqIntS.f k l l = some true := by
  intro k hk
  unfold laws_eqIntS.f
  rw [if_pos rfl]
  refine for_loop 0 l.length (fun k (_ : Unit) i => laws_eqIntS.l0 k l l i) true (fun _ _ => True) ?_ ?_ k () trivial (by omega)
  · intro k i s _ hi _
    refine .inl ⟨(), trivial, ?_⟩
    show laws_eqIntS.l0 (k + 1) l l (i : Int) = _
    simp only [laws_eqIntS.l0]
    rw [if_pos (by omega), if_pos (by omega), if_pos (by omega), wrap_id (by omega) (by omega)]
    simp
  · intro k s _ _
    show laws_eqIntS.l0 (k + 1) l l (l.length : Int) = _
    simp only [laws_eqIntS.l0]
    rw [if_neg (by omega)]
theorem eqIntS_ev (l : List Int) (hl : l.length ≤ 4503599627370496) : Evt fun k => laws_eqIntS.f k l l = some true := Evt.above _ (eqIntS_self l hl)
theorem within_ok (a b c : Int) : impl_within.f a b c = some (decide (b ≤ a ∧ a ≤ c)) := by
  unfold impl_within.f
  split <;> simp <;> omega
theorem l1In_ok (a b c : Int) : spec_l1In.f a b c = some (decide (b ≤ a ∧ a ≤ c)) := by
  unfold spec_l1In.f
  split <;> simp <;> omega
abbrev delivP (a b c d : Int) : Prop := (1 ≤ a ∧ a ≤ 999) ∧ (0 ≤ d ∧ d ≤ 100000) ∧ ((b = 1 ∧ 0 ≤ c ∧ c ≤ 4) ∨ (b = 2 ∧ 1 ≤ c ∧ c ≤ 5) ∨ (b = 3 ∧ (1 ≤ c ∧ c ≤ 5) ∧ d = 0) ∨ (b = 4 ∧ c = 5 ∧ d = 0))
def delivB (s : S94) : Bool := decide (delivP s.f0 s.f1 s.f2 s.f3)
theorem isDelivery_ok (k : Nat) (a b c d : Int) : impl_isDelivery.f (k + 1) a b c d = some (decide (delivP a b c d)) := by
  unfold delivP
  simp only [impl_isDelivery.f, impl_isDelivery.j0, within_ok, Option.bind_some, impl_isOpen.f]
  by_cases h1 : 1 ≤ a ∧ a ≤ 999
  · by_cases h2 : 0 ≤ d ∧ d ≤ 100000
    · simp only [decide_eq_true h1, decide_eq_true h2, if_true]
      by_cases s1 : b = 1
      · simp only [if_pos s1, Option.bind_some, if_true]
        rw [if_neg (by simp)]
        exact congrArg some (decide_eq_decide.2 (by omega))
      · simp only [if_neg s1, Option.bind_some]
        by_cases s2 : b = 2
        · rw [if_pos (by simpa using s2), if_neg (by simp)]
          simp only [if_pos s2]
          exact congrArg some (decide_eq_decide.2 (by omega))
        · rw [if_neg (by simpa using s2)]
          by_cases hd : d = 0
          · rw [if_neg (by simpa using hd), if_neg s2]
            by_cases s3 : b = 3
            · rw [if_pos s3]; exact congrArg some (decide_eq_decide.2 (by omega))
            · rw [if_neg s3]
              by_cases s4 : b = 4
              · rw [if_pos s4]
                show some (decide (c = 5)) = _
                exact congrArg some (decide_eq_decide.2 (by omega))
              · rw [if_neg s4, decide_eq_false (by omega)]
          · rw [if_pos (by simpa using hd), decide_eq_false (by omega)]
    · simp only [decide_eq_true h1, decide_eq_false h2, if_true]
      rw [if_neg (by simp), decide_eq_false (by omega)]
  · simp only [decide_eq_false h1, if_true]
    rw [if_neg (by simp), decide_eq_false (by omega)]
theorem l19Delivery_ok (k : Nat) (a b c d : Int) : spec_l19Delivery.f (k + 1) a b c d = some (decide (delivP a b c d)) := by
  unfold delivP
  simp only [spec_l19Delivery.f, spec_l19Delivery.j0, l1In_ok, Option.bind_some]
  by_cases h1 : 1 ≤ a ∧ a ≤ 999
  · by_cases h2 : 0 ≤ d ∧ d ≤ 100000
    · simp only [decide_eq_true h1, decide_eq_true h2, if_true, Bool.not_true]
      rw [if_neg (by simp)]
      by_cases s1 : b = 1
      · rw [if_pos s1]; exact congrArg some (decide_eq_decide.2 (by omega))
      · rw [if_neg s1]
        by_cases s2 : b = 2
        · rw [if_pos s2]; exact congrArg some (decide_eq_decide.2 (by omega))
        · rw [if_neg s2]
          by_cases s3 : b = 3
          · rw [if_pos s3]
            by_cases hc : 1 ≤ c ∧ c ≤ 5
            · rw [if_pos (decide_eq_true hc)]
              show some (decide (d = 0)) = _
              exact congrArg some (decide_eq_decide.2 (by omega))
            · rw [if_neg (by simpa using hc), decide_eq_false (by omega)]
          · rw [if_neg s3]
            by_cases s4 : b = 4
            · rw [if_pos s4]
              by_cases hc : c = 5
              · rw [if_pos hc]
                show some (decide (d = 0)) = _
                exact congrArg some (decide_eq_decide.2 (by omega))
              · rw [if_neg hc, decide_eq_false (by omega)]
            · rw [if_neg s4, decide_eq_false (by omega)]
    · simp only [decide_eq_true h1, decide_eq_false h2, if_true, Bool.not_false]
      rw [decide_eq_false (by omega)]
  · simp only [decide_eq_false h1, if_true]
    rw [if_neg (by simp), decide_eq_false (by omega)]
def atQ (l : List S94) (i : Nat) : Bool := delivB (l.getD i z94) && (decide (i = 0) || decide ((l.getD (i - 1) z94).f0 < (l.getD i z94).f0))
def queueB (l : List S94) : Bool := decide (∀ i, i < l.length → atQ l i = true) && decide (l.length ≤ 12)
theorem queueB_at {l : List S94} (h : queueB l = true) : ∀ i, i < l.length → atQ l i = true := by
  unfold queueB at h
  simp only [Bool.and_eq_true, decide_eq_true_eq] at h
  exact h.1
theorem queueB_len {l : List S94} (h : queueB l = true) : l.length ≤ 12 := by
  unfold queueB at h
  simp only [Bool.and_eq_true, decide_eq_true_eq] at h
  exact h.2
theorem queueB_deliv {l : List S94} (h : queueB l = true) (i : Nat) (hi : i < l.length) : delivP (l.getD i z94).f0 (l.getD i z94).f1 (l.getD i z94).f2 (l.getD i z94).f3 := by
  have := queueB_at h i hi
  unfold atQ delivB at this
  simp only [Bool.and_eq_true, decide_eq_true_eq] at this
  exact this.1
theorem rd_del (l : List S94) (i : Nat) : rd_T94 l (i : Int) = l.getD i z94 := by unfold rd_T94; rw [Int.toNat_natCast]
theorem rd_del_pred (l : List S94) (i : Nat) : rd_T94 l ((i : Int) - 1) = l.getD (i - 1) z94 := by unfold rd_T94; congr 1; omega
theorem validQueue_step (l : List S94) (hl : l.length ≤ 4503599627370496) (k i : Nat) (hi : i < l.length) :
    impl_IsValidQueue.l0 (k + 1 + 1) l l (l.length : Int) (i : Int) = if atQ l i = true then impl_IsValidQueue.l0 (k + 1) l l (l.length : Int) ((i : Int) + 1) else some false := by
  obtain ⟨s, hs⟩ : ∃ s, l.getD i z94 = s := ⟨_, rfl⟩
  obtain ⟨p, hp⟩ : ∃ p, l.getD (i - 1) z94 = p := ⟨_, rfl⟩
  have w1 : wrap64 ((i : Int) + 1) = (i : Int) + 1 := wrap_id (by omega) (by omega)
  have w2 : wrap64 ((i : Int) - 1) = (i : Int) - 1 := wrap_id (by omega) (by omega)
  rw [impl_IsValidQueue.l0]
  rw [if_pos (by omega), if_pos (by omega), if_pos (by omega)]
  simp only [isDelivery_ok, Option.bind_some, rd_del, w1, w2, rd_del_pred, atQ, delivB, hs, hp]
  by_cases h1 : delivP s.f0 s.f1 s.f2 s.f3
  · simp only [decide_eq_true h1, if_true, Bool.true_and]
    by_cases h3 : i = 0
    · rw [if_neg (by omega), if_pos (by simp [h3])]
    · rw [if_pos (by omega), if_pos (by omega), if_pos (by omega)]
      by_cases h4 : p.f0 < s.f0
      · rw [if_neg (by omega), if_pos (by simp [h4])]
      · rw [if_pos (by omega), if_neg (by simp [h3, h4])]
  · simp only [decide_eq_false h1, Bool.false_and]
    rw [if_neg (by simp), if_neg (by simp)]
theorem IsValidQueue_ev (l : List S94) (hl : l.length ≤ 4503599627370496) : Evt fun k => impl_IsValidQueue.f k l = some (queueB l) := by
  unfold impl_IsValidQueue.f
  refine Evt.succ ?_
  refine evt_loop0 l.length (fun k (_ : Unit) i => impl_IsValidQueue.l0 (k + 1) l l (l.length : Int) i) (queueB l) (fun i _ => ∀ j, j < i → atQ l j = true) ?_ ?_ () (fun j hj => by omega)
  · intro i s hi h
    by_cases hb : atQ l i = true
    · refine .inl ⟨(), fun j hj => ?_, 1, Evt.all fun k => ?_⟩
      · by_cases e : j = i
        · subst e; exact hb
        · exact h j (by omega)
      · show impl_IsValidQueue.l0 (k + 1 + 1) l l (l.length : Int) (i : Int) = _
        rw [validQueue_step l hl k i hi, if_pos hb]
    · refine .inr (Evt.succ (Evt.all fun k => ?_))
      show impl_IsValidQueue.l0 (k + 1 + 1) l l (l.length : Int) (i : Int) = _
      rw [validQueue_step l hl k i hi, if_neg hb]
      unfold queueB
      rw [decide_eq_false (fun hA => hb (hA i hi)), Bool.false_and]
  · intro s h
    refine Evt.all fun k => ?_
    show impl_IsValidQueue.l0 (k + 1) l l (l.length : Int) (l.length : Int) = _
    simp only [impl_IsValidQueue.l0]
    rw [if_neg (by omega)]
    unfold queueB
    rw [decide_eq_true h, Bool.true_and]
    exact congrArg some (decide_eq_decide.2 (by omega))
theorem l19Good_step (l : List S94) (hl : l.length ≤ 4503599627370496) (k i : Nat) (hi : i < l.length) :
    spec_l19Good.l0 (k + 1 + 1) l (i : Int) = if atQ l i = true then spec_l19Good.l0 (k + 1) l ((i : Int) + 1) else some false := by
  obtain ⟨s, hs⟩ : ∃ s, l.getD i z94 = s := ⟨_, rfl⟩
  obtain ⟨p, hp⟩ : ∃ p, l.getD (i - 1) z94 = p := ⟨_, rfl⟩
  have w1 : wrap64 ((i : Int) + 1) = (i : Int) + 1 := wrap_id (by omega) (by omega)
  have w2 : wrap64 ((i : Int) - 1) = (i : Int) - 1 := wrap_id (by omega) (by omega)
  rw [spec_l19Good.l0]
  rw [if_pos (by omega), if_pos (by omega)]
  simp only [l19Delivery_ok, Option.bind_some, rd_del, w1, w2, rd_del_pred, atQ, delivB, hs, hp]
  by_cases h1 : delivP s.f0 s.f1 s.f2 s.f3
  · simp only [decide_eq_true h1, if_true, Bool.true_and]
    by_cases h3 : i = 0
    · rw [if_neg (by omega), if_pos (by simp [h3])]
    · rw [if_pos (by omega), if_pos (by omega), if_pos (by omega)]
      by_cases h4 : p.f0 < s.f0
      · rw [if_neg (by omega), if_pos (by simp [h4])]
      · rw [if_pos (by omega), if_neg (by simp [h3, h4])]
  · simp only [decide_eq_false h1, Bool.false_and]
    rw [if_neg (by simp), if_neg (by simp)]
theorem l19Good_ev (l : List S94) (hl : l.length ≤ 4503599627370496) : Evt fun k => spec_l19Good.f k l = some (queueB l) := by
  unfold spec_l19Good.f
  refine Evt.succ ?_
  refine evt_loop0 l.length (fun k (_ : Unit) i => spec_l19Good.l0 (k + 1) l i) (queueB l) (fun i _ => ∀ j, j < i → atQ l j = true) ?_ ?_ () (fun j hj => by omega)
  · intro i s hi h
    by_cases hb : atQ l i = true
    · refine .inl ⟨(), fun j hj => ?_, 1, Evt.all fun k => ?_⟩
      · by_cases e : j = i
        · subst e; exact hb
        · exact h j (by omega)
      · show spec_l19Good.l0 (k + 1 + 1) l (i : Int) = _
        rw [l19Good_step l hl k i hi, if_pos hb]
    · refine .inr (Evt.succ (Evt.all fun k => ?_))
      show spec_l19Good.l0 (k + 1 + 1) l (i : Int) = _
      rw [l19Good_step l hl k i hi, if_neg hb]
      unfold queueB
      rw [decide_eq_false (fun hA => hb (hA i hi)), Bool.false_and]
  · intro s h
    refine Evt.all fun k => ?_
    show spec_l19Good.l0 (k + 1) l (l.length : Int) = _
    simp only [spec_l19Good.l0]
    rw [if_neg (by omega)]
    unfold queueB
    rw [decide_eq_true h, Bool.true_and]
    exact congrArg some (decide_eq_decide.2 (by omega))
theorem cloneD (l : List S94) (hl : l.length ≤ 1000000000) : slices_Clone_Delivery.f l = some l := by
  unfold slices_Clone_Delivery.f
  rw [Option.bind_some, if_pos (by simp; omega), List.nil_append]
theorem ownD (l : List S94) (hl : l.length ≤ 1000000000) : spec_l19Own.f l = some l := by
  unfold spec_l19Own.f
  rw [Option.bind_some, if_pos (by simp; omega), List.nil_append]
theorem isMinute_ok (t : Int) : impl_isMinute.f t = some (decide (0 ≤ t ∧ t ≤ 50000)) := by simp only [impl_isMinute.f, within_ok, Option.bind_some]
theorem l19Minute_ok (t : Int) : spec_l19Minute.f t = some (decide (0 ≤ t ∧ t ≤ 50000)) := by simp only [spec_l19Minute.f, l1In_ok, Option.bind_some]
def pstep (t : Int) (acc : List S94 × List Int) (i : Nat) : List S94 × List Int :=
  if (acc.1.getD i z94).f1 = 2 ∧ (acc.1.getD i z94).f3 ≤ t then
    if (acc.1.getD i z94).f2 = 5 then (acc.1.set i ⟨(acc.1.getD i z94).f0, 4, (acc.1.getD i z94).f2, 0⟩, acc.2 ++ [(acc.1.getD i z94).f0])
    else (acc.1.set i ⟨(acc.1.getD i z94).f0, 1, (acc.1.getD i z94).f2, wrap64 (t + (shl .i64 1 (acc.1.getD i z94).f2))⟩, acc.2)
  else acc
def prun (l : List S94) (t : Int) : Nat → List S94 × List Int
  | 0 => (l, [])
  | n + 1 => pstep t (prun l t n) n
theorem prun_len (l : List S94) (t : Int) : ∀ n, (prun l t n).1.length = l.length ∧ (prun l t n).2.length ≤ n
  | 0 => ⟨rfl, Nat.le_refl _⟩
  | n + 1 => by
    have h := prun_len l t n
    simp only [prun, pstep]
    split
    · split
      · simp only [List.length_set, List.length_append, List.length_singleton]; omega
      · simp only [List.length_set]; omega
    · omega
theorem prun_rest (l : List S94) (t : Int) : ∀ n j, n ≤ j → (prun l t n).1.getD j z94 = l.getD j z94
  | 0, _, _ => rfl
  | n + 1, j, hj => by
    have h := prun_rest l t n j (by omega)
    simp only [prun, pstep]
    split
    · split
      · rw [getD_set_ne _ _ _ _ _ (by omega)]; exact h
      · rw [getD_set_ne _ _ _ _ _ (by omega)]; exact h
    · exact h
def passV (l : List S94) (t : Int) : List S94 × List Int × Bool := if queueB l = true ∧ (0 ≤ t ∧ t ≤ 50000) then ((prun l t l.length).1, (prun l t l.length).2, true) else ([], [], false)
theorem passImpl_loop (l : List S94) (t : Int) (hv : queueB l = true) : Evt fun k => impl_PassMinute.l0 k t l [] (l.length : Int) 0 = some ((prun l t l.length).1, (prun l t l.length).2, true) := by
  have hl := queueB_len hv
  refine evt_loop0 l.length (fun k (s : List S94 × List Int) i => impl_PassMinute.l0 k t s.1 s.2 (l.length : Int) i) _ (fun i s => s = prun l t i) ?_ ?_ (l, []) rfl
  · rintro i s hi rfl
    have hd := queueB_deliv hv i hi
    have hr := prun_rest l t i i (Nat.le_refl _)
    have hn := prun_len l t i
    refine .inl ⟨_, rfl, 2, Evt.all fun k => ?_⟩
    show impl_PassMinute.l0 (k + 1 + 1) t (prun l t i).1 (prun l t i).2 (l.length : Int) (i : Int) = impl_PassMinute.l0 k t (pstep t (prun l t i) i).1 (pstep t (prun l t i) i).2 (l.length : Int) ((i : Int) + 1)
    obtain ⟨acc, hacc⟩ : ∃ acc, acc = prun l t i := ⟨_, rfl⟩
    rw [← hacc] at hr hn ⊢
    obtain ⟨s, hs⟩ : ∃ s, s = acc.1.getD i z94 := ⟨_, rfl⟩
    rw [← hs] at hr
    rw [← hr] at hd
    unfold delivP at hd
    have w : wrap64 ((i : Int) + 1) = (i : Int) + 1 := wrap_id (by omega) (by omega)
    have g1 : (i : Int) < (l.length : Int) := by omega
    have g2 : 0 ≤ (i : Int) := by omega
    have g3 : (i : Int) < (acc.1.length : Int) := by omega
    have g4 : acc.2.length < 17592186044416 := by omega
    have e0 : ∀ v : S94, (acc.1.set i v).getD i z94 = v := fun v => getD_set_self _ _ _ _ (by omega)
    simp only [impl_PassMinute.l0, rd_del, if_pos g1, if_pos g2, if_pos g3, ← hs, pstep, w]
    by_cases c1 : s.f1 = 2
    · rw [if_pos c1]
      by_cases c2 : s.f3 ≤ t
      · rw [if_pos ⟨c1, c2⟩, decide_eq_false (by omega)]
        simp only [impl_PassMinute.j2, Bool.false_eq_true, if_false, if_pos g2, if_pos g3, rd_del, ← hs, Option.bind_some, Int.toNat_natCast, e0, List.set_set, if_pos g4, w]
        by_cases c3 : s.f2 = 5
        · rw [if_pos c3, if_pos c3]
        · rw [if_neg c3, if_neg c3, if_pos (by omega)]
      · rw [if_neg (fun q => c2 q.2), decide_eq_true (by omega)]
        simp only [impl_PassMinute.j2, if_true, w]
    · rw [if_neg c1, if_neg (fun q => c1 q.1)]
      simp only [impl_PassMinute.j2, if_true, w]
  · rintro s rfl
    refine Evt.succ (Evt.all fun k => ?_)
    show impl_PassMinute.l0 (k + 1) t (prun l t l.length).1 (prun l t l.length).2 (l.length : Int) (l.length : Int) = _
    simp only [impl_PassMinute.l0]
    rw [if_neg (by omega)]
theorem passSpec_loop (l : List S94) (t : Int) (hv : queueB l = true) : Evt fun k => spec_PassMinute.l0 k t [] l 0 = some ((prun l t l.length).1, (prun l t l.length).2, true) := by
  have hl := queueB_len hv
  refine evt_loop0 l.length (fun k (s : List S94 × List Int) i => spec_PassMinute.l0 k t s.2 s.1 i) _ (fun i s => s = prun l t i) ?_ ?_ (l, []) rfl
  · rintro i s hi rfl
    have hd := queueB_deliv hv i hi
    have hr := prun_rest l t i i (Nat.le_refl _)
    have hn := prun_len l t i
    refine .inl ⟨_, rfl, 2, Evt.all fun k => ?_⟩
    show spec_PassMinute.l0 (k + 1 + 1) t (prun l t i).2 (prun l t i).1 (i : Int) = spec_PassMinute.l0 k t (pstep t (prun l t i) i).2 (pstep t (prun l t i) i).1 ((i : Int) + 1)
    obtain ⟨acc, hacc⟩ : ∃ acc, acc = prun l t i := ⟨_, rfl⟩
    rw [← hacc] at hr hn ⊢
    obtain ⟨s, hs⟩ : ∃ s, s = acc.1.getD i z94 := ⟨_, rfl⟩
    rw [← hs] at hr
    rw [← hr] at hd
    unfold delivP at hd
    have w : wrap64 ((i : Int) + 1) = (i : Int) + 1 := wrap_id (by omega) (by omega)
    have g2 : 0 ≤ (i : Int) := by omega
    have g3 : (i : Int) < (acc.1.length : Int) := by omega
    have g4 : acc.2.length < 17592186044416 := by omega
    simp only [spec_PassMinute.l0, rd_del, if_pos g2, if_pos g3, ← hs, pstep, w]
    by_cases c1 : s.f1 = 2
    · rw [if_pos c1]
      by_cases c2 : s.f3 ≤ t
      · rw [if_pos ⟨c1, c2⟩, decide_eq_false (by omega)]
        have u : IntKind.u64.wrap s.f2 = s.f2 := by
          show s.f2 % 18446744073709551616 = s.f2
          omega
        simp only [spec_PassMinute.j2, Bool.false_eq_true, if_false, if_pos g2, if_pos g3, Int.toNat_natCast, if_pos g4, w, u]
        by_cases c3 : s.f2 = 5
        · rw [if_pos c3, if_pos c3]
        · rw [if_neg c3, if_neg c3, if_pos (by omega)]
      · rw [if_neg (fun q => c2 q.2), decide_eq_true (by omega)]
        simp only [spec_PassMinute.j2, if_true, w]
    · rw [if_neg c1, if_neg (fun q => c1 q.1)]
      simp only [spec_PassMinute.j2, if_true, w]
  · rintro s rfl
    have hn := prun_len l t l.length
    refine Evt.succ (Evt.all fun k => ?_)
    show spec_PassMinute.l0 (k + 1) t (prun l t l.length).2 (prun l t l.length).1 (l.length : Int) = _
    simp only [spec_PassMinute.l0]
    rw [if_neg (by omega)]
theorem PassMinute_ok (l : List S94) (t : Int) (hl : l.length ≤ 1048576) : (Evt fun k => impl_PassMinute.f k l t = some (passV l t)) ∧ (Evt fun k => spec_PassMinute.f k l t = some (passV l t)) := by
  have c1 := IsValidQueue_ev l (by omega)
  have c2 := l19Good_ev l (by omega)
  unfold passV
  by_cases hq : queueB l = true
  · by_cases ht : 0 ≤ t ∧ t ≤ 50000
    · rw [if_pos ⟨hq, ht⟩]
      refine ⟨?_, ?_⟩
      · obtain ⟨K, hK⟩ := c1.and (passImpl_loop l t hq)
        refine ⟨K + 1, fun k hk => ?_⟩
        obtain ⟨m, rfl⟩ : ∃ m, k = m + 1 := ⟨k - 1, by omega⟩
        simp only [impl_PassMinute.f, impl_PassMinute.j0, (hK (m + 1) (by omega)).1, (hK m (by omega)).2, hq, Option.bind_some, if_true, isMinute_ok, decide_eq_true ht, Bool.not_true, Bool.false_eq_true, if_false, cloneD l (by omega)]
      · obtain ⟨K, hK⟩ := c2.and (passSpec_loop l t hq)
        refine ⟨K + 1, fun k hk => ?_⟩
        obtain ⟨m, rfl⟩ : ∃ m, k = m + 1 := ⟨k - 1, by omega⟩
        simp only [spec_PassMinute.f, spec_PassMinute.j0, (hK (m + 1) (by omega)).1, (hK m (by omega)).2, hq, Option.bind_some, if_true, l19Minute_ok, decide_eq_true ht, Bool.not_true, Bool.false_eq_true, if_false, ownD l (by omega)]
    · rw [if_neg (fun q => ht q.2)]
      refine ⟨(Evt.pos.and c1).mono ?_, (Evt.pos.and c2).mono ?_⟩
      · rintro k ⟨⟨m, rfl⟩, hk⟩
        simp only [impl_PassMinute.f, impl_PassMinute.j0, hk, hq, Option.bind_some, if_true, isMinute_ok, decide_eq_false ht, Bool.not_false]
      · rintro k ⟨⟨m, rfl⟩, hk⟩
        simp only [spec_PassMinute.f, spec_PassMinute.j0, hk, hq, Option.bind_some, if_true, l19Minute_ok, decide_eq_false ht, Bool.not_false]
  · rw [if_neg (fun q => hq q.1)]
    rw [Bool.not_eq_true] at hq
    refine ⟨(Evt.pos.and c1).mono ?_, (Evt.pos.and c2).mono ?_⟩
    · rintro k ⟨⟨m, rfl⟩, hk⟩; simp [impl_PassMinute.f, impl_PassMinute.j0, hk, hq]
    · rintro k ⟨⟨m, rfl⟩, hk⟩; simp [spec_PassMinute.f, spec_PassMinute.j0, hk, hq]
theorem pair_PassMinute (l : List S94) (t : Int) (hl : l.length ≤ 1048576) (_ : -9223372036854775808 ≤ t ∧ t ≤ 9223372036854775807) : ∃ v, (Evt fun k => impl_PassMinute.f k l t = some v) ∧ (Evt fun k => spec_PassMinute.f k l t = some v) ∧ v.1.length ≤ 1048576 ∧ v.2.1.length ≤ 1048576 := by
  obtain ⟨a, b⟩ := PassMinute_ok l t hl
  refine ⟨_, a, b, ?_⟩
  have h := prun_len l t l.length
  unfold passV
  split
  · exact ⟨by dsimp only; omega, by dsimp only; omega⟩
  · simp
theorem FnExactPassMinute : FnExactPassMinutePure := by
  intro l0 a1 hm0 hw0 w1
  have q0 := szDeliveryS_ok l0 1048576 (by omega) hm0
  by_cases hl0 : (1048576 - (l0.length : Int)) < 0
  · exact ⟨0, by unfold laws_FnExactPassMinute.f; rw [q0, if_pos hl0, Option.bind_some, if_pos (by omega)]⟩
  rw [if_neg hl0] at q0
  have hn0 : l0.length ≤ 1048576 := by omega
  obtain ⟨⟨g0, g1, g2⟩, hi, hs, hb⟩ := pair_PassMinute (l0.map c_Delivery) a1 (by rw [List.length_map]; exact hn0) (wf64 w1)
  simp only at hb
  have n0 : ¬ (1 + 4 * (l0.length : Int) < 0) := by omega
  have n1 : ¬ (1 + 4 * (g0.length : Int) < 0) := by omega
  have n2 : ¬ (1 + 4 * (g0.length : Int) + (g1.length : Int) < 0) := by omega
  obtain ⟨K, hK⟩ := ((hi).and ((hs).and ((toDeliveryS_ev l0 hn0).and ((eqDeliveryS_self (l0.map c_Delivery) (by rw [List.length_map]; omega)).and ((markDeliveryS_ev (l0.map c_Delivery) 1 (by omega) (by rw [List.length_map]; omega)).and ((eqDeliveryS_self g0 (by omega)).and ((markDeliveryS_ev g0 1 (by omega) (by omega)).and ((heldDeliveryS_ev g0.length 1 (by omega) (by omega)).and ((eqIntS_ev g1 (by omega)).and ((markIntS_ev g1 (1 + 4 * (g0.length : Int)) (by omega) (by omega)).and (heldIntS_ev g1.length (1 + 4 * (g0.length : Int)) (by omega) (by omega)))))))))))).at
  have e0 := fun j => (hK j).1
  have e1 := fun j => (hK j).2.1
  have e2 := fun j => (hK j).2.2.1
  have e3 := fun j => (hK j).2.2.2.1
  have e4 := fun j => (hK j).2.2.2.2.1
  have e5 := fun j => (hK j).2.2.2.2.2.1
  have e6 := fun j => (hK j).2.2.2.2.2.2.1
  have e7 := fun j => (hK j).2.2.2.2.2.2.2.1
  have e8 := fun j => (hK j).2.2.2.2.2.2.2.2.1
  have e9 := fun j => (hK j).2.2.2.2.2.2.2.2.2.1
  have e10 := fun j => (hK j).2.2.2.2.2.2.2.2.2.2
  refine ⟨K + 6, ?_⟩
  simp only [laws_FnExactPassMinute.f, q0, if_neg hl0, Option.bind_some, e0, e1, e2, e3, e4, e5, e6, e7, e8, e9, e10, if_true]
  simp [laws_FnExactPassMinute.j0, laws_FnExactPassMinute.j1, laws_FnExactPassMinute.j2, e0, e1, e2, e3, e4, e5, e6, e7, e8, e9, e10, n0, n1, n2]
end Go.Proofs.Ytjagdjbiljooiaa.XFnExactPassMinute.Pure
