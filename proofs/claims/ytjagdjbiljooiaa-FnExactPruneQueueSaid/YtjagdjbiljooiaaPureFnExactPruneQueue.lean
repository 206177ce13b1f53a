/-
  The pure statement of the law FnExactPruneQueue: what its printed function answers is 'true' for all numbers and lists of its kinds. Conditions: the kinds' own bounds, as the statement lays them.
-/
import Derived.Test.YtjagdjbiljooiaaStmFnExactPruneQueue
import Derived.DataShut
namespace Go.Proofs.Ytjagdjbiljooiaa.XFnExactPruneQueue.Pure
open Go.RowKit Go.Proofs.Ytjagdjbiljooiaa.XFnExactPruneQueue Go.Proofs.YtjagdjbiljooiaaW.PrintWords Go.Proofs.YtjagdjbiljooiaaW.PrintLast Go.Proofs.YtjagdjbiljooiaaW.PrintMore
set_option linter.unusedVariables false
set_option linter.unusedSimpArgs false
theorem wrap_id {x : Int} (h0 : -9223372036854775808 ≤ x) (h1 : x ≤ 9223372036854775807) : wrap64 x = x := by unfold wrap64; omega
theorem getD_drop {α : Type} (xs : List α) (z : α) (i : Nat) (h : i < xs.length) : xs.drop i = xs.getD i z :: xs.drop (i + 1) := by
  rw [List.drop_eq_getElem_cons h, List.getD_eq_getElem?_getD, List.getElem?_eq_getElem h]; rfl
def Evt (P : Nat → Prop) : Prop := ∃ K, ∀ k, K ≤ k → P k
theorem Evt.all {P : Nat → Prop} (h : ∀ k, P k) : Evt P := ⟨0, fun k _ => h k⟩
theorem Evt.and {P Q : Nat → Prop} (h : Evt P) (g : Evt Q) : Evt fun k => P k ∧ Q k := by
  obtain ⟨K, h⟩ := h
  obtain ⟨M, g⟩ := g
  exact ⟨K + M, fun k hk => ⟨h k (by omega), g k (by omega)⟩⟩
theorem Evt.mono {P Q : Nat → Prop} (h : Evt P) (g : ∀ k, P k → Q k) : Evt Q := by
  obtain ⟨K, h⟩ := h
  exact ⟨K, fun k hk => g k (h k hk)⟩
theorem Evt.succ {Q : Nat → Prop} (h : Evt fun k => Q (k + 1)) : Evt Q := by
  obtain ⟨K, h⟩ := h
  refine ⟨K + 1, fun k hk => ?_⟩
  obtain ⟨m, rfl⟩ : ∃ m, k = m + 1 := ⟨k - 1, by omega⟩
  exact h m (by omega)
theorem Evt.add {Q : Nat → Prop} (c : Nat) (h : Evt fun k => Q (k + c)) : Evt Q := by
  obtain ⟨K, h⟩ := h
  refine ⟨K + c, fun k hk => ?_⟩
  obtain ⟨m, rfl⟩ : ∃ m, k = m + c := ⟨k - c, by omega⟩
  exact h m (by omega)
theorem Evt.at {P : Nat → Prop} (h : Evt P) : ∃ K, ∀ j, P (K + j) := by
  obtain ⟨K, h⟩ := h
  exact ⟨K, fun j => h _ (by omega)⟩
theorem evt_loop {σ ρ : Type} (n : Nat) (L : Nat → σ → Int → Option ρ) (v : ρ) (Inv : Nat → σ → Prop)
    (step : ∀ i s, i < n → Inv i s → (∃ s', Inv (i + 1) s' ∧ ∃ c, Evt fun k => L (k + c) s (i : Int) = L k s' ((i : Int) + 1)) ∨ Evt fun k => L k s (i : Int) = some v)
    (fin : ∀ s, Inv n s → Evt fun k => L k s (n : Int) = some v) :
    ∀ i s, i ≤ n → Inv i s → Evt fun k => L k s (i : Int) = some v := by
  have key : ∀ d i s, i + d = n → Inv i s → Evt fun k => L k s (i : Int) = some v := by
    intro d
    induction d with
    | zero =>
      intro i s hi h
      obtain rfl : i = n := by omega
      exact fin s h
    | succ d ih =>
      intro i s hi h
      rcases step i s (by omega) h with ⟨s', h', c, e⟩ | e
      · have h2 := ih (i + 1) s' (by omega) h'
        rw [show ((i + 1 : Nat) : Int) = (i : Int) + 1 from by omega] at h2
        exact Evt.add c ((e.and h2).mono fun k hk => hk.1.trans hk.2)
      · exact e
  intro i s hi h
  exact key (n - i) i s (by omega) h
theorem evt_loop0 {σ ρ : Type} (n : Nat) (L : Nat → σ → Int → Option ρ) (v : ρ) (Inv : Nat → σ → Prop)
    (step : ∀ i s, i < n → Inv i s → (∃ s', Inv (i + 1) s' ∧ ∃ c, Evt fun k => L (k + c) s (i : Int) = L k s' ((i : Int) + 1)) ∨ Evt fun k => L k s (i : Int) = some v)
    (fin : ∀ s, Inv n s → Evt fun k => L k s (n : Int) = some v) (s : σ) (h0 : Inv 0 s) : Evt fun k => L k s 0 = some v :=
  evt_loop n L v Inv step fin 0 s (Nat.zero_le _) h0
theorem getD_lt {α : Type} (xs : List α) (z : α) (i : Nat) (h : i < xs.length) : xs.getD i z = xs[i] := by
  rw [List.getD_eq_getElem?_getD, List.getElem?_eq_getElem h]; rfl
theorem getD_set_self {α : Type} (xs : List α) (z v : α) (i : Nat) (h : i < xs.length) : (xs.set i v).getD i z = v := by
  rw [List.getD_eq_getElem?_getD, List.getElem?_set_self h]; rfl
theorem getD_set_ne {α : Type} (xs : List α) (z v : α) (i j : Nat) (h : i ≠ j) : (xs.set i v).getD j z = xs.getD j z := by
  rw [List.getD_eq_getElem?_getD, List.getElem?_set_ne h, List.getD_eq_getElem?_getD]
theorem getD_map {α β : Type} (f : α → β) (xs : List α) (z : α) (y : β) (i : Nat) (h : i < xs.length) : (xs.map f).getD i y = f (xs.getD i z) := by
  rw [getD_lt _ _ _ (by simpa using h), getD_lt _ _ _ h, List.getElem_map]
theorem list_ext_getD {α : Type} (xs ys : List α) (z : α) (h : xs.length = ys.length) (e : ∀ j, j < xs.length → xs.getD j z = ys.getD j z) : xs = ys := by
  apply List.ext_getElem h
  intro j h1 h2
  have := e j h1
  rwa [getD_lt _ _ _ h1, getD_lt _ _ _ h2] at this
def c_Delivery (x : S96) : S94 := ⟨x.f0, x.f1, x.f2, x.f3⟩
theorem toDeliveryS_ev (l : List S96) (hl : l.length ≤ 1048576) : Evt fun k => laws_toDeliveryS.f k l = some (l.map c_Delivery) := by
  unfold laws_toDeliveryS.f
  simp only [if_pos (show 0 ≤ (l.length : Int) by omega), if_pos (show ((l.length : Int) : Int).toNat ≤ 8796093022208 by omega)]
  refine evt_loop0 l.length (fun k s i => laws_toDeliveryS.l0 k l s i) (l.map c_Delivery) (fun i s => s.length = l.length ∧ ∀ j, j < i → s.getD j z94 = (l.map c_Delivery).getD j z94) ?_ ?_ _ ⟨by simp, fun j hj => by omega⟩
  · rintro i s hi ⟨h1, h2⟩
    refine .inl ⟨s.set i ((l.map c_Delivery).getD i z94), ⟨by simpa using h1, fun j hj => ?_⟩, 1, Evt.all fun k => ?_⟩
    · by_cases e : j = i
      · subst e; rw [getD_set_self _ _ _ _ (by omega)]
      · rw [getD_set_ne _ _ _ _ _ (by omega)]; exact h2 j (by omega)
    · show laws_toDeliveryS.l0 (k + 1) l s (i : Int) = _
      simp only [laws_toDeliveryS.l0, laws_toDelivery.f, Option.bind_some]
      rw [if_pos (by omega), if_pos (by omega), if_pos (by omega), wrap_id (by omega) (by omega), Int.toNat_natCast, getD_map _ _ z96 _ _ hi]
      rfl
  · rintro s ⟨h1, h2⟩
    refine Evt.succ (Evt.all fun k => ?_)
    show laws_toDeliveryS.l0 (k + 1) l s (l.length : Int) = _
    simp only [laws_toDeliveryS.l0]
    rw [if_neg (by omega)]
    exact congrArg some (list_ext_getD _ _ z94 (by simpa using h1) (fun j hj => h2 j (by omega)))
theorem eqDeliveryS_self (l : List S94) (hl : l.length ≤ 4503599627370496) : Evt fun k => laws_eqDeliveryS.f k l l = some true := by
  unfold laws_eqDeliveryS.f
  simp only [if_true]
  refine evt_loop0 l.length (fun k (_ : Unit) i => laws_eqDeliveryS.l0 k l l i) true (fun _ _ => True) ?_ ?_ () trivial
  · intro i s hi _
    refine .inl ⟨(), trivial, 1, Evt.all fun k => ?_⟩
    show laws_eqDeliveryS.l0 (k + 1) l l (i : Int) = _
    simp only [laws_eqDeliveryS.l0, laws_eqDelivery.f]
    rw [if_pos (by omega), if_pos (by omega), if_pos (by omega), wrap_id (by omega) (by omega)]
    simp
  · intro s _
    refine Evt.succ (Evt.all fun k => ?_)
    show laws_eqDeliveryS.l0 (k + 1) l l (l.length : Int) = _
    simp only [laws_eqDeliveryS.l0]
    rw [if_neg (by omega)]
theorem szDeliveryS_ok (l : List S96) (a : Int) (ha : 0 ≤ a ∧ a ≤ 1048576) (hl : l.length ≤ maxLen) : laws_szDeliveryS.f l a = some (if a - (l.length : Int) < 0 then -1 else a - (l.length : Int)) := by
  unfold maxLen at hl
  unfold laws_szDeliveryS.f
  rw [wrap_id (by omega) (by omega)]
  split <;> rfl
def mk_Delivery (a : Int) (j : Nat) : S94 := ⟨a + 4 * (j : Int), a + 4 * (j : Int) + 1, a + 4 * (j : Int) + 1 + 1, a + 4 * (j : Int) + 1 + 1 + 1⟩
def marked_Delivery (a : Int) (n : Nat) : List S94 := (List.range n).map (mk_Delivery a)
theorem marked_Delivery_len (a : Int) (n : Nat) : (marked_Delivery a n).length = n := by simp [marked_Delivery]
theorem marked_Delivery_get (a : Int) (n j : Nat) (h : j < n) : (marked_Delivery a n).getD j z94 = mk_Delivery a j := by
  rw [getD_lt _ _ _ (by simpa [marked_Delivery] using h)]; simp [marked_Delivery]
theorem markDeliveryS_ev (l : List S94) (a : Int) (ha : 0 ≤ a ∧ a ≤ 1000000000000) (hl : l.length ≤ 1000000000000) : Evt fun k => laws_markDeliveryS.f k l a = some (a + 4 * l.length, marked_Delivery a l.length) := by
  unfold laws_markDeliveryS.f
  refine evt_loop0 l.length (fun k (s : List S94 × Int) i => laws_markDeliveryS.l0 k s.1 s.2 i) _ (fun i s => s.1.length = l.length ∧ s.2 = a + 4 * i ∧ ∀ j, j < i → s.1.getD j z94 = mk_Delivery a j) ?_ ?_ (l, a) ⟨rfl, by simp, fun j hj => by omega⟩
  · rintro i ⟨s, x⟩ hi ⟨h1, h2, h3⟩
    simp only at h1 h2 h3
    refine .inl ⟨(s.set i (mk_Delivery a i), x + 1 + 1 + 1 + 1), ⟨by simpa using h1, by simp only; omega, fun j hj => ?_⟩, 1, Evt.all fun k => ?_⟩
    · simp only
      by_cases e : j = i
      · subst e; rw [getD_set_self _ _ _ _ (by omega)]
      · rw [getD_set_ne _ _ _ _ _ (by omega)]; exact h3 j (by omega)
    · show laws_markDeliveryS.l0 (k + 1) s x (i : Int) = laws_markDeliveryS.l0 k (s.set i (mk_Delivery a i)) (x + 1 + 1 + 1 + 1) ((i : Int) + 1)
      have w1 : wrap64 (x + 1) = x + 1 := wrap_id (by omega) (by omega)
      have w2 : wrap64 (x + 1 + 1) = x + 1 + 1 := wrap_id (by omega) (by omega)
      have w3 : wrap64 (x + 1 + 1 + 1) = x + 1 + 1 + 1 := wrap_id (by omega) (by omega)
      have w4 : wrap64 (x + 1 + 1 + 1 + 1) = x + 1 + 1 + 1 + 1 := wrap_id (by omega) (by omega)
      simp only [laws_markDeliveryS.l0, Option.bind_some]
      rw [if_pos (by omega), if_pos (by omega), wrap_id (x := (i : Int) + 1) (by omega) (by omega)]
      simp only [w1, w2, w3, w4, rd_T94, Int.toNat_natCast, getD_set_self _ _ _ _ (show i < s.length by omega), List.set_set]
      subst h2
      rfl
  · rintro ⟨s, x⟩ ⟨h1, h2, h3⟩
    simp only at h1 h2 h3
    refine Evt.succ (Evt.all fun k => ?_)
    show laws_markDeliveryS.l0 (k + 1) s x (l.length : Int) = _
    simp only [laws_markDeliveryS.l0]
    rw [if_neg (by omega), h2]
    refine congrArg some (Prod.ext rfl (list_ext_getD _ _ z94 (by rw [marked_Delivery_len]; exact h1) (fun j hj => ?_)))
    have hj' : j < l.length := by simp only at hj; omega
    rw [marked_Delivery_get _ _ _ hj']; exact h3 j hj'
theorem heldDeliveryS_ev (n : Nat) (a : Int) (ha : 0 ≤ a ∧ a ≤ 1000000000000) (hl : n ≤ 1000000000000) : Evt fun k => laws_heldDeliveryS.f k (marked_Delivery a n) a = some (a + 4 * n) := by
  unfold laws_heldDeliveryS.f
  refine evt_loop0 n (fun k (x : Int) i => laws_heldDeliveryS.l0 k (marked_Delivery a n) x i) _ (fun i x => x = a + 4 * i) ?_ ?_ a (by simp)
  · rintro i x hi h2
    refine .inl ⟨x + 1 + 1 + 1 + 1, by omega, 1, Evt.all fun k => ?_⟩
    show laws_heldDeliveryS.l0 (k + 1) (marked_Delivery a n) x (i : Int) = _
    have w1 : wrap64 (x + 1) = x + 1 := wrap_id (by omega) (by omega)
    have w2 : wrap64 (x + 1 + 1) = x + 1 + 1 := wrap_id (by omega) (by omega)
    have w3 : wrap64 (x + 1 + 1 + 1) = x + 1 + 1 + 1 := wrap_id (by omega) (by omega)
    have w4 : wrap64 (x + 1 + 1 + 1 + 1) = x + 1 + 1 + 1 + 1 := wrap_id (by omega) (by omega)
    simp only [laws_heldDeliveryS.l0]
    rw [marked_Delivery_len, if_pos (by omega), if_pos (by omega), wrap_id (x := (i : Int) + 1) (by omega) (by omega)]
    simp only [w1, w2, w3, w4, rd_T94, Int.toNat_natCast, marked_Delivery_get _ _ _ hi]
    subst h2
    simp [mk_Delivery]
  · rintro x h2
    refine Evt.succ (Evt.all fun k => ?_)
    show laws_heldDeliveryS.l0 (k + 1) (marked_Delivery a n) x (n : Int) = _
    simp only [laws_heldDeliveryS.l0]
    rw [marked_Delivery_len, if_neg (by omega), h2]
theorem within_ok (a b c : Int) : impl_within.f a b c = some (decide (b ≤ a ∧ a ≤ c)) := by
  unfold impl_within.f
  split <;> simp <;> omega
theorem l1In_ok (a b c : Int) : spec_l1In.f a b c = some (decide (b ≤ a ∧ a ≤ c)) := by
  unfold spec_l1In.f
  split <;> simp <;> omega
abbrev delivP (a b c d : Int) : Prop := (1 ≤ a ∧ a ≤ 999) ∧ (0 ≤ d ∧ d ≤ 100000) ∧ ((b = 1 ∧ 0 ≤ c ∧ c ≤ 4) ∨ (b = 2 ∧ 1 ≤ c ∧ c ≤ 5) ∨ (b = 3 ∧ (1 ≤ c ∧ c ≤ 5) ∧ d = 0) ∨ (b = 4 ∧ c = 5 ∧ d = 0))
def delivB (s : S94) : Bool := decide (delivP s.f0 s.f1 s.f2 s.f3)
theorem isDelivery_ok (k : Nat) (a b c d : Int) : impl_isDelivery.f (k + 1) a b c d = some (decide (delivP a b c d)) := by
  unfold delivP
  simp only [impl_isDelivery.f, impl_isDelivery.j0, within_ok, Option.bind_some, impl_isOpen.f]
  by_cases h1 : 1 ≤ a ∧ a ≤ 999
  · by_cases h2 : 0 ≤ d ∧ d ≤ 100000
    · simp only [decide_eq_true h1, decide_eq_true h2, if_true]
      by_cases s1 : b = 1
      · simp only [if_pos s1, Option.bind_some, if_true]
        rw [if_neg (by simp)]
        exact congrArg some (decide_eq_decide.2 (by omega))
      · simp only [if_neg s1, Option.bind_some]
        by_cases s2 : b = 2
        · rw [if_pos (by simpa using s2), if_neg (by simp)]
          simp only [if_pos s2]
          exact congrArg some (decide_eq_decide.2 (by omega))
        · rw [if_neg (by simpa using s2)]
          by_cases hd : d = 0
          · rw [if_neg (by simpa using hd), if_neg s2]
            by_cases s3 : b = 3
            · rw [if_pos s3]; exact congrArg some (decide_eq_decide.2 (by omega))
            · rw [if_neg s3]
              by_cases s4 : b = 4
              · rw [if_pos s4]
                show some (decide (c = 5)) = _
                exact congrArg some (decide_eq_decide.2 (by omega))
              · rw [if_neg s4, decide_eq_false (by omega)]
          · rw [if_pos (by simpa using hd), decide_eq_false (by omega)]
    · simp only [decide_eq_true h1, decide_eq_false h2, if_true]
      rw [if_neg (by simp), decide_eq_false (by omega)]
  · simp only [decide_eq_false h1, if_true]
    rw [if_neg (by simp), decide_eq_false (by omega)]
theorem l19Delivery_ok (k : Nat) (a b c d : Int) : spec_l19Delivery.f (k + 1) a b c d = some (decide (delivP a b c d)) := by
  unfold delivP
  simp only [spec_l19Delivery.f, spec_l19Delivery.j0, l1In_ok, Option.bind_some]
  by_cases h1 : 1 ≤ a ∧ a ≤ 999
  · by_cases h2 : 0 ≤ d ∧ d ≤ 100000
    · simp only [decide_eq_true h1, decide_eq_true h2, if_true, Bool.not_true]
      rw [if_neg (by simp)]
      by_cases s1 : b = 1
      · rw [if_pos s1]; exact congrArg some (decide_eq_decide.2 (by omega))
      · rw [if_neg s1]
        by_cases s2 : b = 2
        · rw [if_pos s2]; exact congrArg some (decide_eq_decide.2 (by omega))
        · rw [if_neg s2]
          by_cases s3 : b = 3
          · rw [if_pos s3]
            by_cases hc : 1 ≤ c ∧ c ≤ 5
            · rw [if_pos (decide_eq_true hc)]
              show some (decide (d = 0)) = _
              exact congrArg some (decide_eq_decide.2 (by omega))
            · rw [if_neg (by simpa using hc), decide_eq_false (by omega)]
          · rw [if_neg s3]
            by_cases s4 : b = 4
            · rw [if_pos s4]
              by_cases hc : c = 5
              · rw [if_pos hc]
                show some (decide (d = 0)) = _
                exact congrArg some (decide_eq_decide.2 (by omega))
              · rw [if_neg hc, decide_eq_false (by omega)]
            · rw [if_neg s4, decide_eq_false (by omega)]
    · simp only [decide_eq_true h1, decide_eq_false h2, if_true, Bool.not_false]
      rw [decide_eq_false (by omega)]
  · simp only [decide_eq_false h1, if_true]
    rw [if_neg (by simp), decide_eq_false (by omega)]
def atQ (l : List S94) (i : Nat) : Bool := delivB (l.getD i z94) && (decide (i = 0) || decide ((l.getD (i - 1) z94).f0 < (l.getD i z94).f0))
def queueB (l : List S94) : Bool := decide (∀ i, i < l.length → atQ l i = true) && decide (l.length ≤ 12)
theorem queueB_at {l : List S94} (h : queueB l = true) : ∀ i, i < l.length → atQ l i = true := by
  unfold queueB at h
  simp only [Bool.and_eq_true, decide_eq_true_eq] at h
  exact h.1
theorem queueB_len {l : List S94} (h : queueB l = true) : l.length ≤ 12 := by
  unfold queueB at h
  simp only [Bool.and_eq_true, decide_eq_true_eq] at h
  exact h.2
theorem queueB_deliv {l : List S94} (h : queueB l = true) (i : Nat) (hi : i < l.length) : delivP (l.getD i z94).f0 (l.getD i z94).f1 (l.getD i z94).f2 (l.getD i z94).f3 := by
  have := queueB_at h i hi
  unfold atQ delivB at this
  simp only [Bool.and_eq_true, decide_eq_true_eq] at this
  exact this.1
theorem rd_del (l : List S94) (i : Nat) : rd_T94 l (i : Int) = l.getD i z94 := by unfold rd_T94; rw [Int.toNat_natCast]
theorem rd_del_pred (l : List S94) (i : Nat) : rd_T94 l ((i : Int) - 1) = l.getD (i - 1) z94 := by unfold rd_T94; congr 1; omega
theorem validQueue_step (l : List S94) (hl : l.length ≤ 4503599627370496) (k i : Nat) (hi : i < l.length) :
    impl_IsValidQueue.l0 (k + 1 + 1) l l (l.length : Int) (i : Int) = if atQ l i = true then impl_IsValidQueue.l0 (k + 1) l l (l.length : Int) ((i : Int) + 1) else some false := by
  obtain ⟨s, hs⟩ : ∃ s, l.getD i z94 = s := ⟨_, rfl⟩
  obtain ⟨p, hp⟩ : ∃ p, l.getD (i - 1) z94 = p := ⟨_, rfl⟩
  have w1 : wrap64 ((i : Int) + 1) = (i : Int) + 1 := wrap_id (by omega) (by omega)
  have w2 : wrap64 ((i : Int) - 1) = (i : Int) - 1 := wrap_id (by omega) (by omega)
  rw [impl_IsValidQueue.l0]
  rw [if_pos (by omega), if_pos (by omega), if_pos (by omega)]
  simp only [isDelivery_ok, Option.bind_some, rd_del, w1, w2, rd_del_pred, atQ, delivB, hs, hp]
  by_cases h1 : delivP s.f0 s.f1 s.f2 s.f3
  · simp only [decide_eq_true h1, if_true, Bool.true_and]
    by_cases h3 : i = 0
    · rw [if_neg (by omega), if_pos (by simp [h3])]
    · rw [if_pos (by omega), if_pos (by omega), if_pos (by omega)]
      by_cases h4 : p.f0 < s.f0
      · rw [if_neg (by omega), if_pos (by simp [h4])]
      · rw [if_pos (by omega), if_neg (by simp [h3, h4])]
  · simp only [decide_eq_false h1, Bool.false_and]
    rw [if_neg (by simp), if_neg (by simp)]
theorem IsValidQueue_ev (l : List S94) (hl : l.length ≤ 4503599627370496) : Evt fun k => impl_IsValidQueue.f k l = some (queueB l) := by
  unfold impl_IsValidQueue.f
  refine Evt.succ ?_
  refine evt_loop0 l.length (fun k (_ : Unit) i => impl_IsValidQueue.l0 (k + 1) l l (l.length : Int) i) (queueB l) (fun i _ => ∀ j, j < i → atQ l j = true) ?_ ?_ () (fun j hj => by omega)
  · intro i s hi h
    by_cases hb : atQ l i = true
    · refine .inl ⟨(), fun j hj => ?_, 1, Evt.all fun k => ?_⟩
      · by_cases e : j = i
        · subst e; exact hb
        · exact h j (by omega)
      · show impl_IsValidQueue.l0 (k + 1 + 1) l l (l.length : Int) (i : Int) = _
        rw [validQueue_step l hl k i hi, if_pos hb]
    · refine .inr (Evt.succ (Evt.all fun k => ?_))
      show impl_IsValidQueue.l0 (k + 1 + 1) l l (l.length : Int) (i : Int) = _
      rw [validQueue_step l hl k i hi, if_neg hb]
      unfold queueB
      rw [decide_eq_false (fun hA => hb (hA i hi)), Bool.false_and]
  · intro s h
    refine Evt.all fun k => ?_
    show impl_IsValidQueue.l0 (k + 1) l l (l.length : Int) (l.length : Int) = _
    simp only [impl_IsValidQueue.l0]
    rw [if_neg (by omega)]
    unfold queueB
    rw [decide_eq_true h, Bool.true_and]
    exact congrArg some (decide_eq_decide.2 (by omega))
theorem l19Good_step (l : List S94) (hl : l.length ≤ 4503599627370496) (k i : Nat) (hi : i < l.length) :
    spec_l19Good.l0 (k + 1 + 1) l (i : Int) = if atQ l i = true then spec_l19Good.l0 (k + 1) l ((i : Int) + 1) else some false := by
  obtain ⟨s, hs⟩ : ∃ s, l.getD i z94 = s := ⟨_, rfl⟩
  obtain ⟨p, hp⟩ : ∃ p, l.getD (i - 1) z94 = p := ⟨_, rfl⟩
  have w1 : wrap64 ((i : Int) + 1) = (i : Int) + 1 := wrap_id (by omega) (by omega)
  have w2 : wrap64 ((i : Int) - 1) = (i : Int) - 1 := wrap_id (by omega) (by omega)
  rw [spec_l19Good.l0]
  rw [if_pos (by omega), if_pos (by omega)]
  simp only [l19Delivery_ok, Option.bind_some, rd_del, w1, w2, rd_del_pred, atQ, delivB, hs, hp]
  by_cases h1 : delivP s.f0 s.f1 s.f2 s.f3
  · simp only [decide_eq_true h1, if_true, Bool.true_and]
    by_cases h3 : i = 0
    · rw [if_neg (by omega), if_pos (by simp [h3])]
    · rw [if_pos (by omega), if_pos (by omega), if_pos (by omega)]
      by_cases h4 : p.f0 < s.f0
      · rw [if_neg (by omega), if_pos (by simp [h4])]
      · rw [if_pos (by omega), if_neg (by simp [h3, h4])]
  · simp only [decide_eq_false h1, Bool.false_and]
    rw [if_neg (by simp), if_neg (by simp)]
theorem l19Good_ev (l : List S94) (hl : l.length ≤ 4503599627370496) : Evt fun k => spec_l19Good.f k l = some (queueB l) := by
  unfold spec_l19Good.f
  refine Evt.succ ?_
  refine evt_loop0 l.length (fun k (_ : Unit) i => spec_l19Good.l0 (k + 1) l i) (queueB l) (fun i _ => ∀ j, j < i → atQ l j = true) ?_ ?_ () (fun j hj => by omega)
  · intro i s hi h
    by_cases hb : atQ l i = true
    · refine .inl ⟨(), fun j hj => ?_, 1, Evt.all fun k => ?_⟩
      · by_cases e : j = i
        · subst e; exact hb
        · exact h j (by omega)
      · show spec_l19Good.l0 (k + 1 + 1) l (i : Int) = _
        rw [l19Good_step l hl k i hi, if_pos hb]
    · refine .inr (Evt.succ (Evt.all fun k => ?_))
      show spec_l19Good.l0 (k + 1 + 1) l (i : Int) = _
      rw [l19Good_step l hl k i hi, if_neg hb]
      unfold queueB
      rw [decide_eq_false (fun hA => hb (hA i hi)), Bool.false_and]
  · intro s h
    refine Evt.all fun k => ?_
    show spec_l19Good.l0 (k + 1) l (l.length : Int) = _
    simp only [spec_l19Good.l0]
    rw [if_neg (by omega)]
    unfold queueB
    rw [decide_eq_true h, Bool.true_and]
    exact congrArg some (decide_eq_decide.2 (by omega))
theorem cloneD (l : List S94) (hl : l.length ≤ 1000000000) : slices_Clone_Delivery.f l = some l := by
  unfold slices_Clone_Delivery.f
  rw [Option.bind_some, if_pos (by simp; omega), List.nil_append]
def openB (s : S94) : Bool := decide (s.f1 = 1) || decide (s.f1 = 2)
theorem isOpen_ok (a b c d : Int) : impl_isOpen.f a b c d = some (decide (b = 1) || decide (b = 2)) := by
  unfold impl_isOpen.f
  by_cases h : b = 1
  · rw [if_pos h, decide_eq_true h]; rfl
  · rw [if_neg h, decide_eq_false h]; rfl
theorem prune1_ok (s : S94) : impl_PruneQueue_1.f s.f0 s.f1 s.f2 s.f3 = some (!openB s) := by
  simp only [impl_PruneQueue_1.f, isOpen_ok, Option.bind_some, openB]
theorem take_set_succ (xs : List S94) (i : Nat) (e : S94) (h : i < xs.length) : (xs.set i e).take (i + 1) = xs.take i ++ [e] := by
  rw [List.take_succ_eq_append_getElem (by rw [List.length_set]; exact h), List.getElem_set_self]
  congr 1
  apply List.ext_getElem?
  intro j
  rw [List.getElem?_take, List.getElem?_take]
  split
  · rw [List.getElem?_set_ne (by omega)]
  · rfl
theorem drop_set_lt (xs : List S94) (i j : Nat) (e : S94) (h : i < j) : (xs.set i e).drop j = xs.drop j := by
  apply List.ext_getElem?
  intro q
  rw [List.getElem?_drop, List.getElem?_drop, List.getElem?_set_ne (by omega)]
theorem filt_succ (l : List S94) (j : Nat) (h : j < l.length) : (l.take (j + 1)).filter openB = (l.take j).filter openB ++ if openB (l.getD j z94) = true then [l.getD j z94] else [] := by
  rw [List.take_succ_eq_append_getElem h, List.filter_append, getD_lt _ _ _ h]
  congr 1
  cases hq : openB l[j] <;> simp [hq]
theorem delLoop (l : List S94) (hl : l.length ≤ 1048576) : ∀ (j : Nat) (s : List S94 × Nat), j ≤ l.length → (s.1.length = l.length ∧ s.2 ≤ j ∧ s.1.take s.2 = (l.take j).filter openB ∧ s.1.drop j = l.drop j) →
    Evt fun k => slices_DeleteFunc_Delivery.l0 k s.1 (s.2 : Int) (j : Int) = some (l.filter openB) := by
  refine evt_loop l.length (fun k (s : List S94 × Nat) j => slices_DeleteFunc_Delivery.l0 k s.1 (s.2 : Int) j) (l.filter openB) (fun j s => s.1.length = l.length ∧ s.2 ≤ j ∧ s.1.take s.2 = (l.take j).filter openB ∧ s.1.drop j = l.drop j) ?_ ?_
  · rintro j ⟨xs, i⟩ hj ⟨h1, h2, h3, h4⟩
    dsimp only at h1 h2 h3 h4
    have he : xs.getD j z94 = l.getD j z94 := by
      have a := getD_drop xs z94 j (by omega)
      have b := getD_drop l z94 j hj
      rw [h4, b] at a
      exact (List.cons.inj a).1.symm
    have hd : xs.drop (j + 1) = l.drop (j + 1) := by
      have a := getD_drop xs z94 j (by omega)
      have b := getD_drop l z94 j hj
      rw [h4, b] at a
      exact (List.cons.inj a).2.symm
    have fs := filt_succ l j hj
    have g1 : (j : Int) < (xs.length : Int) := by omega
    have g2 : 0 ≤ (j : Int) := by omega
    have w1 : wrap64 ((j : Int) + 1) = (j : Int) + 1 := wrap_id (by omega) (by omega)
    have w2 : wrap64 ((i : Int) + 1) = (i : Int) + 1 := wrap_id (by omega) (by omega)
    cases hq : openB (l.getD j z94) with
    | false =>
      rw [hq] at fs
      refine .inl ⟨(xs, i), ⟨h1, by dsimp only; omega, by dsimp only; rw [fs, h3]; simp, hd⟩, 1, Evt.all fun k => ?_⟩
      show slices_DeleteFunc_Delivery.l0 (k + 1) xs (i : Int) (j : Int) = slices_DeleteFunc_Delivery.l0 k xs (i : Int) ((j : Int) + 1)
      simp only [slices_DeleteFunc_Delivery.l0, rd_del, he, prune1_ok, hq, Option.bind_some, if_pos g1, if_pos g2, w1, Bool.not_false, if_true]
    | true =>
      rw [hq, if_pos rfl] at fs
      refine .inl ⟨(xs.set i (l.getD j z94), i + 1), ⟨by simpa using h1, by dsimp only; omega, by dsimp only; rw [take_set_succ _ _ _ (by omega), fs, h3], by dsimp only; rw [drop_set_lt _ _ _ _ (by omega)]; exact hd⟩, 1, Evt.all fun k => ?_⟩
      show slices_DeleteFunc_Delivery.l0 (k + 1) xs (i : Int) (j : Int) = slices_DeleteFunc_Delivery.l0 k (xs.set i (l.getD j z94)) ((i + 1 : Nat) : Int) ((j : Int) + 1)
      simp only [slices_DeleteFunc_Delivery.l0, rd_del, he, prune1_ok, hq, Option.bind_some, if_pos g1, if_pos g2, w1, w2, Bool.not_true, Bool.false_eq_true, if_false, Int.toNat_natCast]
      rw [if_pos (by omega), if_pos (by omega)]
      rfl
  · rintro ⟨xs, i⟩ ⟨h1, h2, h3, h4⟩
    dsimp only at h1 h2 h3 h4
    rw [List.take_length] at h3
    refine Evt.succ (Evt.all fun k => ?_)
    show slices_DeleteFunc_Delivery.l0 (k + 1) xs (i : Int) (l.length : Int) = _
    simp only [slices_DeleteFunc_Delivery.l0, Int.toNat_natCast]
    rw [if_neg (by omega), if_pos (by omega), if_pos (by omega), h3]
theorem first_shut (l : List S94) : ∀ m, m ≤ l.length → (∃ n, n < m ∧ openB (l.getD n z94) = false ∧ ∀ i, i < n → openB (l.getD i z94) = true) ∨ ∀ i, i < m → openB (l.getD i z94) = true
  | 0, _ => .inr (fun i hi => by omega)
  | m + 1, hm => by
    rcases first_shut l m (by omega) with ⟨n, h1, h2, h3⟩ | h
    · exact .inl ⟨n, by omega, h2, h3⟩
    · cases c : openB (l.getD m z94) with
      | false => exact .inl ⟨m, by omega, c, h⟩
      | true =>
        refine .inr (fun i hi => ?_)
        by_cases e : i = m
        · subst e; exact c
        · exact h i (by omega)
theorem filt_all (l : List S94) : ∀ n, n ≤ l.length → (∀ i, i < n → openB (l.getD i z94) = true) → (l.take n).filter openB = l.take n
  | 0, _, _ => by simp
  | n + 1, hn, h => by
    rw [filt_succ l n (by omega), filt_all l n (by omega) (fun i hi => h i (by omega)), if_pos (h n (by omega)), List.take_succ_eq_append_getElem (by omega), getD_lt _ _ _ (by omega)]
theorem indexP_ev (l : List S94) (hl : l.length ≤ 1048576) (n : Nat) (hn : n ≤ l.length) (hb : ∀ i, i < n → openB (l.getD i z94) = true) (v : Int)
    (he : (n < l.length ∧ openB (l.getD n z94) = false ∧ v = n) ∨ (n = l.length ∧ v = -1)) : Evt fun k => slices_IndexFunc_Delivery.f k l = some v := by
  unfold slices_IndexFunc_Delivery.f
  refine evt_loop0 n (fun k (_ : Unit) i => slices_IndexFunc_Delivery.l0 k l (l.length : Int) i) v (fun _ _ => True) ?_ ?_ () trivial
  · rintro i s hi _
    have ne := hb i hi
    refine .inl ⟨(), trivial, 1, Evt.all fun k => ?_⟩
    show slices_IndexFunc_Delivery.l0 (k + 1) l (l.length : Int) (i : Int) = _
    simp only [slices_IndexFunc_Delivery.l0, rd_del, prune1_ok, Option.bind_some, ne]
    rw [if_pos (by omega), if_pos (by omega), if_pos (by omega), if_neg (by simp), wrap_id (by omega) (by omega)]
  · rintro s _
    refine Evt.succ (Evt.all fun k => ?_)
    show slices_IndexFunc_Delivery.l0 (k + 1) l (l.length : Int) (n : Int) = _
    rcases he with ⟨h1, h2, h3⟩ | ⟨h1, h2⟩
    · simp only [slices_IndexFunc_Delivery.l0, rd_del, prune1_ok, Option.bind_some, h2]
      rw [if_pos (by omega), if_pos (by omega), if_pos (by omega), if_pos (by simp), h3]
    · simp only [slices_IndexFunc_Delivery.l0]
      rw [if_neg (by omega), h2]
theorem DeleteFunc_ev (l : List S94) (hl : l.length ≤ 1048576) : Evt fun k => slices_DeleteFunc_Delivery.f k l = some (l.filter openB) := by
  rcases first_shut l l.length (Nat.le_refl _) with ⟨n, h1, h2, h3⟩ | h
  · have a := indexP_ev l hl n (by omega) h3 (n : Int) (.inl ⟨h1, h2, rfl⟩)
    have b := delLoop l hl (n + 1) (l, n) (by omega) ⟨rfl, by dsimp only; omega, by dsimp only; rw [filt_succ l n h1, h2, filt_all l n (by omega) h3]; simp, rfl⟩
    refine (a.and b).mono fun k hk => ?_
    simp only [slices_DeleteFunc_Delivery.f, hk.1, Option.bind_some]
    rw [if_neg (by omega), wrap_id (by omega) (by omega)]
    exact hk.2
  · have a := indexP_ev l hl l.length (Nat.le_refl _) h (-1) (.inr ⟨rfl, rfl⟩)
    have f := filt_all l l.length (Nat.le_refl _) h
    rw [List.take_length] at f
    refine a.mono fun k hk => ?_
    simp only [slices_DeleteFunc_Delivery.f, hk, Option.bind_some, f]
    rw [if_pos trivial]
theorem pruneSpec_loop (l : List S94) (hv : queueB l = true) : Evt fun k => spec_PruneQueue.l0 k l [] 0 = some (l.filter openB, true) := by
  have hl := queueB_len hv
  refine evt_loop0 l.length (fun k (s : List S94) i => spec_PruneQueue.l0 k l s i) (l.filter openB, true) (fun i s => s = (l.take i).filter openB) ?_ ?_ [] (by simp)
  · rintro i s hi rfl
    have hd := queueB_deliv hv i hi
    unfold delivP at hd
    have fs := filt_succ l i hi
    have hle : ((l.take i).filter openB).length ≤ i := Nat.le_trans (List.length_filter_le _ _) (by rw [List.length_take]; omega)
    obtain ⟨s, hs⟩ : ∃ s, s = l.getD i z94 := ⟨_, rfl⟩
    rw [← hs] at fs hd
    have ho : openB s = true ↔ s.f1 ≤ 2 := by
      unfold openB
      rw [Bool.or_eq_true, decide_eq_true_eq, decide_eq_true_eq]
      omega
    refine .inl ⟨_, rfl, 1, Evt.all fun k => ?_⟩
    show spec_PruneQueue.l0 (k + 1) l ((l.take i).filter openB) (i : Int) = spec_PruneQueue.l0 k l ((l.take (i + 1)).filter openB) ((i : Int) + 1)
    simp only [spec_PruneQueue.l0, rd_del, ← hs]
    rw [if_pos (by omega), if_pos (by omega), wrap_id (by omega) (by omega), fs]
    by_cases c : s.f1 ≤ 2
    · rw [if_pos c, if_pos (by omega), if_pos (ho.2 c)]
    · rw [if_neg c, if_neg (fun q => c (ho.1 q)), List.append_nil]
  · rintro s rfl
    refine Evt.succ (Evt.all fun k => ?_)
    show spec_PruneQueue.l0 (k + 1) l ((l.take l.length).filter openB) (l.length : Int) = _
    simp only [spec_PruneQueue.l0]
    rw [if_neg (by omega), List.take_length]
def pruneV (l : List S94) : List S94 × Bool := if queueB l = true then (l.filter openB, true) else ([], false)
theorem PruneQueue_ok (l : List S94) (hl : l.length ≤ 1048576) : (Evt fun k => impl_PruneQueue.f k l = some (pruneV l)) ∧ (Evt fun k => spec_PruneQueue.f k l = some (pruneV l)) := by
  have c1 := IsValidQueue_ev l (by omega)
  have c2 := l19Good_ev l (by omega)
  unfold pruneV
  cases hc : queueB l with
  | false =>
    rw [hc] at c1 c2
    exact ⟨c1.mono fun k hk => by simp [impl_PruneQueue.f, hk], c2.mono fun k hk => by simp [spec_PruneQueue.f, hk]⟩
  | true =>
    rw [hc] at c1 c2
    rw [if_pos rfl]
    refine ⟨(c1.and (DeleteFunc_ev l hl)).mono fun k hk => ?_, (c2.and (pruneSpec_loop l hc)).mono fun k hk => ?_⟩
    · simp only [impl_PruneQueue.f, hk.1, hk.2, Option.bind_some, if_true, cloneD l (by omega)]
    · simp only [spec_PruneQueue.f, hk.1, hk.2, Option.bind_some, if_true]
theorem pair_PruneQueue (l : List S94) (hl : l.length ≤ 1048576) : ∃ v, (Evt fun k => impl_PruneQueue.f k l = some v) ∧ (Evt fun k => spec_PruneQueue.f k l = some v) ∧ v.1.length ≤ 1048576 := by
  obtain ⟨a, b⟩ := PruneQueue_ok l hl
  refine ⟨_, a, b, ?_⟩
  unfold pruneV
  split
  · exact Nat.le_trans (List.length_filter_le _ _) hl
  · simp
theorem FnExactPruneQueue : FnExactPruneQueuePure := by
  intro l0 hm0 hw0
  have q0 := szDeliveryS_ok l0 1048576 (by omega) hm0
  by_cases hl0 : (1048576 - (l0.length : Int)) < 0
  · exact ⟨0, by unfold laws_FnExactPruneQueue.f; rw [q0, if_pos hl0, Option.bind_some, if_pos (by omega)]⟩
  rw [if_neg hl0] at q0
  have hn0 : l0.length ≤ 1048576 := by omega
  obtain ⟨⟨g0, g1⟩, hi, hs, hb⟩ := pair_PruneQueue (l0.map c_Delivery) (by rw [List.length_map]; exact hn0)
  simp only at hb
  have n0 : ¬ (1 + 4 * (l0.length : Int) < 0) := by omega
  have n1 : ¬ (1 + 4 * (g0.length : Int) < 0) := by omega
  obtain ⟨K, hK⟩ := ((hi).and ((hs).and ((toDeliveryS_ev l0 hn0).and ((eqDeliveryS_self (l0.map c_Delivery) (by rw [List.length_map]; omega)).and ((markDeliveryS_ev (l0.map c_Delivery) 1 (by omega) (by rw [List.length_map]; omega)).and ((eqDeliveryS_self g0 (by omega)).and ((markDeliveryS_ev g0 1 (by omega) (by omega)).and (heldDeliveryS_ev g0.length 1 (by omega) (by omega))))))))).at
  have e0 := fun j => (hK j).1
  have e1 := fun j => (hK j).2.1
  have e2 := fun j => (hK j).2.2.1
  have e3 := fun j => (hK j).2.2.2.1
  have e4 := fun j => (hK j).2.2.2.2.1
  have e5 := fun j => (hK j).2.2.2.2.2.1
  have e6 := fun j => (hK j).2.2.2.2.2.2.1
  have e7 := fun j => (hK j).2.2.2.2.2.2.2
  refine ⟨K + 6, ?_⟩
  simp only [laws_FnExactPruneQueue.f, q0, if_neg hl0, Option.bind_some, e0, e1, e2, e3, e4, e5, e6, e7, if_true]
  simp [laws_FnExactPruneQueue.j0, laws_FnExactPruneQueue.j1, laws_FnExactPruneQueue.j2, e0, e1, e2, e3, e4, e5, e6, e7, n0, n1]
end Go.Proofs.Ytjagdjbiljooiaa.XFnExactPruneQueue.Pure
