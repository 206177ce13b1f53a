/-
  The pure statement of the law FnExactTakeReceipt: what its printed function answers is 'true' for all numbers and lists of its kinds. Conditions: the kinds' own bounds, as the statement lays them.
-/
import Derived.Test.YtjagdjbiljooiaaStmFnExactTakeReceipt
import Derived.DataShut
namespace Go.Proofs.Ytjagdjbiljooiaa.XFnExactTakeReceipt.Pure
open Go.RowKit Go.Proofs.Ytjagdjbiljooiaa.XFnExactTakeReceipt Go.Proofs.YtjagdjbiljooiaaW.PrintWords Go.Proofs.YtjagdjbiljooiaaW.PrintLast Go.Proofs.YtjagdjbiljooiaaW.PrintMore
set_option linter.unusedVariables false
set_option linter.unusedSimpArgs false
theorem wrap_id {x : Int} (h0 : -9223372036854775808 ≤ x) (h1 : x ≤ 9223372036854775807) : wrap64 x = x := by unfold wrap64; omega
theorem wf64 {x : Int} (h : (Lit.int .i64 x).wf = true) : -9223372036854775808 ≤ x ∧ x ≤ 9223372036854775807 := by
  simpa [Lit.wf, IntKind.min, IntKind.max, IntKind.signed, IntKind.bits] using h
def Evt (P : Nat → Prop) : Prop := ∃ K, ∀ k, K ≤ k → P k
theorem Evt.all {P : Nat → Prop} (h : ∀ k, P k) : Evt P := ⟨0, fun k _ => h k⟩
theorem Evt.and {P Q : Nat → Prop} (h : Evt P) (g : Evt Q) : Evt fun k => P k ∧ Q k := by
  obtain ⟨K, h⟩ := h
  obtain ⟨M, g⟩ := g
  exact ⟨K + M, fun k hk => ⟨h k (by omega), g k (by omega)⟩⟩
theorem Evt.mono {P Q : Nat → Prop} (h : Evt P) (g : ∀ k, P k → Q k) : Evt Q := by
  obtain ⟨K, h⟩ := h
  exact ⟨K, fun k hk => g k (h k hk)⟩
theorem Evt.succ {Q : Nat → Prop} (h : Evt fun k => Q (k + 1)) : Evt Q := by
  obtain ⟨K, h⟩ := h
  refine ⟨K + 1, fun k hk => ?_⟩
  obtain ⟨m, rfl⟩ : ∃ m, k = m + 1 := ⟨k - 1, by omega⟩
  exact h m (by omega)
theorem Evt.add {Q : Nat → Prop} (c : Nat) (h : Evt fun k => Q (k + c)) : Evt Q := by
  obtain ⟨K, h⟩ := h
  refine ⟨K + c, fun k hk => ?_⟩
  obtain ⟨m, rfl⟩ : ∃ m, k = m + c := ⟨k - c, by omega⟩
  exact h m (by omega)
theorem Evt.at {P : Nat → Prop} (h : Evt P) : ∃ K, ∀ j, P (K + j) := by
  obtain ⟨K, h⟩ := h
  exact ⟨K, fun j => h _ (by omega)⟩
theorem evt_loop {σ ρ : Type} (n : Nat) (L : Nat → σ → Int → Option ρ) (v : ρ) (Inv : Nat → σ → Prop)
    (step : ∀ i s, i < n → Inv i s → (∃ s', Inv (i + 1) s' ∧ ∃ c, Evt fun k => L (k + c) s (i : Int) = L k s' ((i : Int) + 1)) ∨ Evt fun k => L k s (i : Int) = some v)
    (fin : ∀ s, Inv n s → Evt fun k => L k s (n : Int) = some v) :
    ∀ i s, i ≤ n → Inv i s → Evt fun k => L k s (i : Int) = some v := by
  have key : ∀ d i s, i + d = n → Inv i s → Evt fun k => L k s (i : Int) = some v := by
    intro d
    induction d with
    | zero =>
      intro i s hi h
      obtain rfl : i = n := by omega
      exact fin s h
    | succ d ih =>
      intro i s hi h
      rcases step i s (by omega) h with ⟨s', h', c, e⟩ | e
      · have h2 := ih (i + 1) s' (by omega) h'
        rw [show ((i + 1 : Nat) : Int) = (i : Int) + 1 from by omega] at h2
        exact Evt.add c ((e.and h2).mono fun k hk => hk.1.trans hk.2)
      · exact e
  intro i s hi h
  exact key (n - i) i s (by omega) h
theorem evt_loop0 {σ ρ : Type} (n : Nat) (L : Nat → σ → Int → Option ρ) (v : ρ) (Inv : Nat → σ → Prop)
    (step : ∀ i s, i < n → Inv i s → (∃ s', Inv (i + 1) s' ∧ ∃ c, Evt fun k => L (k + c) s (i : Int) = L k s' ((i : Int) + 1)) ∨ Evt fun k => L k s (i : Int) = some v)
    (fin : ∀ s, Inv n s → Evt fun k => L k s (n : Int) = some v) (s : σ) (h0 : Inv 0 s) : Evt fun k => L k s 0 = some v :=
  evt_loop n L v Inv step fin 0 s (Nat.zero_le _) h0
theorem getD_lt {α : Type} (xs : List α) (z : α) (i : Nat) (h : i < xs.length) : xs.getD i z = xs[i] := by
  rw [List.getD_eq_getElem?_getD, List.getElem?_eq_getElem h]; rfl
theorem getD_set_self {α : Type} (xs : List α) (z v : α) (i : Nat) (h : i < xs.length) : (xs.set i v).getD i z = v := by
  rw [List.getD_eq_getElem?_getD, List.getElem?_set_self h]; rfl
theorem getD_set_ne {α : Type} (xs : List α) (z v : α) (i j : Nat) (h : i ≠ j) : (xs.set i v).getD j z = xs.getD j z := by
  rw [List.getD_eq_getElem?_getD, List.getElem?_set_ne h, List.getD_eq_getElem?_getD]
theorem getD_map {α β : Type} (f : α → β) (xs : List α) (z : α) (y : β) (i : Nat) (h : i < xs.length) : (xs.map f).getD i y = f (xs.getD i z) := by
  rw [getD_lt _ _ _ (by simpa using h), getD_lt _ _ _ h, List.getElem_map]
theorem list_ext_getD {α : Type} (xs ys : List α) (z : α) (h : xs.length = ys.length) (e : ∀ j, j < xs.length → xs.getD j z = ys.getD j z) : xs = ys := by
  apply List.ext_getElem h
  intro j h1 h2
  have := e j h1
  rwa [getD_lt _ _ _ h1, getD_lt _ _ _ h2] at this
def c_Delivery (x : S96) : S94 := ⟨x.f0, x.f1, x.f2, x.f3⟩
theorem toDeliveryS_ev (l : List S96) (hl : l.length ≤ 1048576) : Evt fun k => laws_toDeliveryS.f k l = some (l.map c_Delivery) := by
  unfold laws_toDeliveryS.f
  simp only [if_pos (show 0 ≤ (l.length : Int) by omega), if_pos (show ((l.length : Int) : Int).toNat ≤ 8796093022208 by omega)]
  refine evt_loop0 l.length (fun k s i => laws_toDeliveryS.l0 k l s i) (l.map c_Delivery) (fun i s => s.length = l.length ∧ ∀ j, j < i → s.getD j z94 = (l.map c_Delivery).getD j z94) ?_ ?_ _ ⟨by simp, fun j hj => by omega⟩
  · rintro i s hi ⟨h1, h2⟩
    refine .inl ⟨s.set i ((l.map c_Delivery).getD i z94), ⟨by simpa using h1, fun j hj => ?_⟩, 1, Evt.all fun k => ?_⟩
    · by_cases e : j = i
      · subst e; rw [getD_set_self _ _ _ _ (by omega)]
      · rw [getD_set_ne _ _ _ _ _ (by omega)]; exact h2 j (by omega)
    · show laws_toDeliveryS.l0 (k + 1) l s (i : Int) = _
      simp only [laws_toDeliveryS.l0, laws_toDelivery.f, Option.bind_some]
      rw [if_pos (by omega), if_pos (by omega), if_pos (by omega), wrap_id (by omega) (by omega), Int.toNat_natCast, getD_map _ _ z96 _ _ hi]
      rfl
  · rintro s ⟨h1, h2⟩
    refine Evt.succ (Evt.all fun k => ?_)
    show laws_toDeliveryS.l0 (k + 1) l s (l.length : Int) = _
    simp only [laws_toDeliveryS.l0]
    rw [if_neg (by omega)]
    exact congrArg some (list_ext_getD _ _ z94 (by simpa using h1) (fun j hj => h2 j (by omega)))
theorem eqDeliveryS_self (l : List S94) (hl : l.length ≤ 4503599627370496) : Evt fun k => laws_eqDeliveryS.f k l l = some true := by
  unfold laws_eqDeliveryS.f
  simp only [if_true]
  refine evt_loop0 l.length (fun k (_ : Unit) i => laws_eqDeliveryS.l0 k l l i) true (fun _ _ => True) ?_ ?_ () trivial
  · intro i s hi _
    refine .inl ⟨(), trivial, 1, Evt.all fun k => ?_⟩
    show laws_eqDeliveryS.l0 (k + 1) l l (i : Int) = _
    simp only [laws_eqDeliveryS.l0, laws_eqDelivery.f]
    rw [if_pos (by omega), if_pos (by omega), if_pos (by omega), wrap_id (by omega) (by omega)]
    simp
  · intro s _
    refine Evt.succ (Evt.all fun k => ?_)
    show laws_eqDeliveryS.l0 (k + 1) l l (l.length : Int) = _
    simp only [laws_eqDeliveryS.l0]
    rw [if_neg (by omega)]
theorem szDeliveryS_ok (l : List S96) (a : Int) (ha : 0 ≤ a ∧ a ≤ 1048576) (hl : l.length ≤ maxLen) : laws_szDeliveryS.f l a = some (if a - (l.length : Int) < 0 then -1 else a - (l.length : Int)) := by
  unfold maxLen at hl
  unfold laws_szDeliveryS.f
  rw [wrap_id (by omega) (by omega)]
  split <;> rfl
def mk_Delivery (a : Int) (j : Nat) : S94 := ⟨a + 4 * (j : Int), a + 4 * (j : Int) + 1, a + 4 * (j : Int) + 1 + 1, a + 4 * (j : Int) + 1 + 1 + 1⟩
def marked_Delivery (a : Int) (n : Nat) : List S94 := (List.range n).map (mk_Delivery a)
theorem marked_Delivery_len (a : Int) (n : Nat) : (marked_Delivery a n).length = n := by simp [marked_Delivery]
theorem marked_Delivery_get (a : Int) (n j : Nat) (h : j < n) : (marked_Delivery a n).getD j z94 = mk_Delivery a j := by
  rw [getD_lt _ _ _ (by simpa [marked_Delivery] using h)]; simp [marked_Delivery]
theorem markDeliveryS_ev (l : List S94) (a : Int) (ha : 0 ≤ a ∧ a ≤ 1000000000000) (hl : l.length ≤ 1000000000000) : Evt fun k => laws_markDeliveryS.f k l a = some (a + 4 * l.length, marked_Delivery a l.length) := by
  unfold laws_markDeliveryS.f
  refine evt_loop0 l.length (fun k (s : List S94 × Int) i => laws_markDeliveryS.l0 k s.1 s.2 i) _ (fun i s => s.1.length = l.length ∧ s.2 = a + 4 * i ∧ ∀ j, j < i → s.1.getD j z94 = mk_Delivery a j) ?_ ?_ (l, a) ⟨rfl, by simp, fun j hj => by omega⟩
  · rintro i ⟨s, x⟩ hi ⟨h1, h2, h3⟩
    simp only at h1 h2 h3
    refine .inl ⟨(s.set i (mk_Delivery a i), x + 1 + 1 + 1 + 1), ⟨by simpa using h1, by simp only; omega, fun j hj => ?_⟩, 1, Evt.all fun k => ?_⟩
    · simp only
      by_cases e : j = i
      · subst e; rw [getD_set_self _ _ _ _ (by omega)]
      · rw [getD_set_ne _ _ _ _ _ (by omega)]; exact h3 j (by omega)
    · show laws_markDeliveryS.l0 (k + 1) s x (i : Int) = laws_markDeliveryS.l0 k (s.set i (mk_Delivery a i)) (x + 1 + 1 + 1 + 1) ((i : Int) + 1)
      have w1 : wrap64 (x + 1) = x + 1 := wrap_id (by omega) (by omega)
      have w2 : wrap64 (x + 1 + 1) = x + 1 + 1 := wrap_id (by omega) (by omega)
      have w3 : wrap64 (x + 1 + 1 + 1) = x + 1 + 1 + 1 := wrap_id (by omega) (by omega)
      have w4 : wrap64 (x + 1 + 1 + 1 + 1) = x + 1 + 1 + 1 + 1 := wrap_id (by omega) (by omega)
      simp only [laws_markDeliveryS.l0, Option.bind_some]
      rw [if_pos (by omega), if_pos (by omega), wrap_id (x := (i : Int) + 1) (by omega) (by omega)]
      simp only [w1, w2, w3, w4, rd_T94, Int.toNat_natCast, getD_set_self _ _ _ _ (show i < s.length by omega), List.set_set]
      subst h2
      rfl
  · rintro ⟨s, x⟩ ⟨h1, h2, h3⟩
    simp only at h1 h2 h3
    refine Evt.succ (Evt.all fun k => ?_)
    show laws_markDeliveryS.l0 (k + 1) s x (l.length : Int) = _
    simp only [laws_markDeliveryS.l0]
    rw [if_neg (by omega), h2]
    refine congrArg some (Prod.ext rfl (list_ext_getD _ _ z94 (by rw [marked_Delivery_len]; exact h1) (fun j hj => ?_)))
    have hj' : j < l.length := by simp only at hj; omega
    rw [marked_Delivery_get _ _ _ hj']; exact h3 j hj'
theorem heldDeliveryS_ev (n : Nat) (a : Int) (ha : 0 ≤ a ∧ a ≤ 1000000000000) (hl : n ≤ 1000000000000) : Evt fun k => laws_heldDeliveryS.f k (marked_Delivery a n) a = some (a + 4 * n) := by
  unfold laws_heldDeliveryS.f
  refine evt_loop0 n (fun k (x : Int) i => laws_heldDeliveryS.l0 k (marked_Delivery a n) x i) _ (fun i x => x = a + 4 * i) ?_ ?_ a (by simp)
  · rintro i x hi h2
    refine .inl ⟨x + 1 + 1 + 1 + 1, by omega, 1, Evt.all fun k => ?_⟩
    show laws_heldDeliveryS.l0 (k + 1) (marked_Delivery a n) x (i : Int) = _
    have w1 : wrap64 (x + 1) = x + 1 := wrap_id (by omega) (by omega)
    have w2 : wrap64 (x + 1 + 1) = x + 1 + 1 := wrap_id (by omega) (by omega)
    have w3 : wrap64 (x + 1 + 1 + 1) = x + 1 + 1 + 1 := wrap_id (by omega) (by omega)
    have w4 : wrap64 (x + 1 + 1 + 1 + 1) = x + 1 + 1 + 1 + 1 := wrap_id (by omega) (by omega)
    simp only [laws_heldDeliveryS.l0]
    rw [marked_Delivery_len, if_pos (by omega), if_pos (by omega), wrap_id (x := (i : Int) + 1) (by omega) (by omega)]
    simp only [w1, w2, w3, w4, rd_T94, Int.toNat_natCast, marked_Delivery_get _ _ _ hi]
    subst h2
    simp [mk_Delivery]
  · rintro x h2
    refine Evt.succ (Evt.all fun k => ?_)
    show laws_heldDeliveryS.l0 (k + 1) (marked_Delivery a n) x (n : Int) = _
    simp only [laws_heldDeliveryS.l0]
    rw [marked_Delivery_len, if_neg (by omega), h2]
theorem within_ok (a b c : Int) : impl_within.f a b c = some (decide (b ≤ a ∧ a ≤ c)) := by
  unfold impl_within.f
  split <;> simp <;> omega
theorem l1In_ok (a b c : Int) : spec_l1In.f a b c = some (decide (b ≤ a ∧ a ≤ c)) := by
  unfold spec_l1In.f
  split <;> simp <;> omega
abbrev delivP (a b c d : Int) : Prop := (1 ≤ a ∧ a ≤ 999) ∧ (0 ≤ d ∧ d ≤ 100000) ∧ ((b = 1 ∧ 0 ≤ c ∧ c ≤ 4) ∨ (b = 2 ∧ 1 ≤ c ∧ c ≤ 5) ∨ (b = 3 ∧ (1 ≤ c ∧ c ≤ 5) ∧ d = 0) ∨ (b = 4 ∧ c = 5 ∧ d = 0))
def delivB (s : S94) : Bool := decide (delivP s.f0 s.f1 s.f2 s.f3)
theorem isDelivery_ok (k : Nat) (a b c d : Int) : impl_isDelivery.f (k + 1) a b c d = some (decide (delivP a b c d)) := by
  unfold delivP
  simp only [impl_isDelivery.f, impl_isDelivery.j0, within_ok, Option.bind_some, impl_isOpen.f]
  by_cases h1 : 1 ≤ a ∧ a ≤ 999
  · by_cases h2 : 0 ≤ d ∧ d ≤ 100000
    · simp only [decide_eq_true h1, decide_eq_true h2, if_true]
      by_cases s1 : b = 1
      · simp only [if_pos s1, Option.bind_some, if_true]
        rw [if_neg (by simp)]
        exact congrArg some (decide_eq_decide.2 (by omega))
      · simp only [if_neg s1, Option.bind_some]
        by_cases s2 : b = 2
        · rw [if_pos (by simpa using s2), if_neg (by simp)]
          simp only [if_pos s2]
          exact congrArg some (decide_eq_decide.2 (by omega))
        · rw [if_neg (by simpa using s2)]
          by_cases hd : d = 0
          · rw [if_neg (by simpa using hd), if_neg s2]
            by_cases s3 : b = 3
            · rw [if_pos s3]; exact congrArg some (decide_eq_decide.2 (by omega))
            · rw [if_neg s3]
              by_cases s4 : b = 4
              · rw [if_pos s4]
                show some (decide (c = 5)) = _
                exact congrArg some (decide_eq_decide.2 (by omega))
              · rw [if_neg s4, decide_eq_false (by omega)]
          · rw [if_pos (by simpa using hd), decide_eq_false (by omega)]
    · simp only [decide_eq_true h1, decide_eq_false h2, if_true]
      rw [if_neg (by simp), decide_eq_false (by omega)]
  · simp only [decide_eq_false h1, if_true]
    rw [if_neg (by simp), decide_eq_false (by omega)]
theorem l19Delivery_ok (k : Nat) (a b c d : Int) : spec_l19Delivery.f (k + 1) a b c d = some (decide (delivP a b c d)) := by
  unfold delivP
  simp only [spec_l19Delivery.f, spec_l19Delivery.j0, l1In_ok, Option.bind_some]
  by_cases h1 : 1 ≤ a ∧ a ≤ 999
  · by_cases h2 : 0 ≤ d ∧ d ≤ 100000
    · simp only [decide_eq_true h1, decide_eq_true h2, if_true, Bool.not_true]
      rw [if_neg (by simp)]
      by_cases s1 : b = 1
      · rw [if_pos s1]; exact congrArg some (decide_eq_decide.2 (by omega))
      · rw [if_neg s1]
        by_cases s2 : b = 2
        · rw [if_pos s2]; exact congrArg some (decide_eq_decide.2 (by omega))
        · rw [if_neg s2]
          by_cases s3 : b = 3
          · rw [if_pos s3]
            by_cases hc : 1 ≤ c ∧ c ≤ 5
            · rw [if_pos (decide_eq_true hc)]
              show some (decide (d = 0)) = _
              exact congrArg some (decide_eq_decide.2 (by omega))
            · rw [if_neg (by simpa using hc), decide_eq_false (by omega)]
          · rw [if_neg s3]
            by_cases s4 : b = 4
            · rw [if_pos s4]
              by_cases hc : c = 5
              · rw [if_pos hc]
                show some (decide (d = 0)) = _
                exact congrArg some (decide_eq_decide.2 (by omega))
              · rw [if_neg hc, decide_eq_false (by omega)]
            · rw [if_neg s4, decide_eq_false (by omega)]
    · simp only [decide_eq_true h1, decide_eq_false h2, if_true, Bool.not_false]
      rw [decide_eq_false (by omega)]
  · simp only [decide_eq_false h1, if_true]
    rw [if_neg (by simp), decide_eq_false (by omega)]
def atQ (l : List S94) (i : Nat) : Bool := delivB (l.getD i z94) && (decide (i = 0) || decide ((l.getD (i - 1) z94).f0 < (l.getD i z94).f0))
def queueB (l : List S94) : Bool := decide (∀ i, i < l.length → atQ l i = true) && decide (l.length ≤ 12)
theorem queueB_at {l : List S94} (h : queueB l = true) : ∀ i, i < l.length → atQ l i = true := by
  unfold queueB at h
  simp only [Bool.and_eq_true, decide_eq_true_eq] at h
  exact h.1
theorem rd_del (l : List S94) (i : Nat) : rd_T94 l (i : Int) = l.getD i z94 := by unfold rd_T94; rw [Int.toNat_natCast]
theorem rd_del_pred (l : List S94) (i : Nat) : rd_T94 l ((i : Int) - 1) = l.getD (i - 1) z94 := by unfold rd_T94; congr 1; omega
theorem validQueue_step (l : List S94) (hl : l.length ≤ 4503599627370496) (k i : Nat) (hi : i < l.length) :
    impl_IsValidQueue.l0 (k + 1 + 1) l l (l.length : Int) (i : Int) = if atQ l i = true then impl_IsValidQueue.l0 (k + 1) l l (l.length : Int) ((i : Int) + 1) else some false := by
  obtain ⟨s, hs⟩ : ∃ s, l.getD i z94 = s := ⟨_, rfl⟩
  obtain ⟨p, hp⟩ : ∃ p, l.getD (i - 1) z94 = p := ⟨_, rfl⟩
  have w1 : wrap64 ((i : Int) + 1) = (i : Int) + 1 := wrap_id (by omega) (by omega)
  have w2 : wrap64 ((i : Int) - 1) = (i : Int) - 1 := wrap_id (by omega) (by omega)
  rw [impl_IsValidQueue.l0]
  rw [if_pos (by omega), if_pos (by omega), if_pos (by omega)]
  simp only [isDelivery_ok, Option.bind_some, rd_del, w1, w2, rd_del_pred, atQ, delivB, hs, hp]
  by_cases h1 : delivP s.f0 s.f1 s.f2 s.f3
  · simp only [decide_eq_true h1, if_true, Bool.true_and]
    by_cases h3 : i = 0
    · rw [if_neg (by omega), if_pos (by simp [h3])]
    · rw [if_pos (by omega), if_pos (by omega), if_pos (by omega)]
      by_cases h4 : p.f0 < s.f0
      · rw [if_neg (by omega), if_pos (by simp [h4])]
      · rw [if_pos (by omega), if_neg (by simp [h3, h4])]
  · simp only [decide_eq_false h1, Bool.false_and]
    rw [if_neg (by simp), if_neg (by simp)]
theorem IsValidQueue_ev (l : List S94) (hl : l.length ≤ 4503599627370496) : Evt fun k => impl_IsValidQueue.f k l = some (queueB l) := by
  unfold impl_IsValidQueue.f
  refine Evt.succ ?_
  refine evt_loop0 l.length (fun k (_ : Unit) i => impl_IsValidQueue.l0 (k + 1) l l (l.length : Int) i) (queueB l) (fun i _ => ∀ j, j < i → atQ l j = true) ?_ ?_ () (fun j hj => by omega)
  · intro i s hi h
    by_cases hb : atQ l i = true
    · refine .inl ⟨(), fun j hj => ?_, 1, Evt.all fun k => ?_⟩
      · by_cases e : j = i
        · subst e; exact hb
        · exact h j (by omega)
      · show impl_IsValidQueue.l0 (k + 1 + 1) l l (l.length : Int) (i : Int) = _
        rw [validQueue_step l hl k i hi, if_pos hb]
    · refine .inr (Evt.succ (Evt.all fun k => ?_))
      show impl_IsValidQueue.l0 (k + 1 + 1) l l (l.length : Int) (i : Int) = _
      rw [validQueue_step l hl k i hi, if_neg hb]
      unfold queueB
      rw [decide_eq_false (fun hA => hb (hA i hi)), Bool.false_and]
  · intro s h
    refine Evt.all fun k => ?_
    show impl_IsValidQueue.l0 (k + 1) l l (l.length : Int) (l.length : Int) = _
    simp only [impl_IsValidQueue.l0]
    rw [if_neg (by omega)]
    unfold queueB
    rw [decide_eq_true h, Bool.true_and]
    exact congrArg some (decide_eq_decide.2 (by omega))
theorem l19Good_step (l : List S94) (hl : l.length ≤ 4503599627370496) (k i : Nat) (hi : i < l.length) :
    spec_l19Good.l0 (k + 1 + 1) l (i : Int) = if atQ l i = true then spec_l19Good.l0 (k + 1) l ((i : Int) + 1) else some false := by
  obtain ⟨s, hs⟩ : ∃ s, l.getD i z94 = s := ⟨_, rfl⟩
  obtain ⟨p, hp⟩ : ∃ p, l.getD (i - 1) z94 = p := ⟨_, rfl⟩
  have w1 : wrap64 ((i : Int) + 1) = (i : Int) + 1 := wrap_id (by omega) (by omega)
  have w2 : wrap64 ((i : Int) - 1) = (i : Int) - 1 := wrap_id (by omega) (by omega)
  rw [spec_l19Good.l0]
  rw [if_pos (by omega), if_pos (by omega)]
  simp only [l19Delivery_ok, Option.bind_some, rd_del, w1, w2, rd_del_pred, atQ, delivB, hs, hp]
  by_cases h1 : delivP s.f0 s.f1 s.f2 s.f3
  · simp only [decide_eq_true h1, if_true, Bool.true_and]
    by_cases h3 : i = 0
    · rw [if_neg (by omega), if_pos (by simp [h3])]
    · rw [if_pos (by omega), if_pos (by omega), if_pos (by omega)]
      by_cases h4 : p.f0 < s.f0
      · rw [if_neg (by omega), if_pos (by simp [h4])]
      · rw [if_pos (by omega), if_neg (by simp [h3, h4])]
  · simp only [decide_eq_false h1, Bool.false_and]
    rw [if_neg (by simp), if_neg (by simp)]
theorem l19Good_ev (l : List S94) (hl : l.length ≤ 4503599627370496) : Evt fun k => spec_l19Good.f k l = some (queueB l) := by
  unfold spec_l19Good.f
  refine Evt.succ ?_
  refine evt_loop0 l.length (fun k (_ : Unit) i => spec_l19Good.l0 (k + 1) l i) (queueB l) (fun i _ => ∀ j, j < i → atQ l j = true) ?_ ?_ () (fun j hj => by omega)
  · intro i s hi h
    by_cases hb : atQ l i = true
    · refine .inl ⟨(), fun j hj => ?_, 1, Evt.all fun k => ?_⟩
      · by_cases e : j = i
        · subst e; exact hb
        · exact h j (by omega)
      · show spec_l19Good.l0 (k + 1 + 1) l (i : Int) = _
        rw [l19Good_step l hl k i hi, if_pos hb]
    · refine .inr (Evt.succ (Evt.all fun k => ?_))
      show spec_l19Good.l0 (k + 1 + 1) l (i : Int) = _
      rw [l19Good_step l hl k i hi, if_neg hb]
      unfold queueB
      rw [decide_eq_false (fun hA => hb (hA i hi)), Bool.false_and]
  · intro s h
    refine Evt.all fun k => ?_
    show spec_l19Good.l0 (k + 1) l (l.length : Int) = _
    simp only [spec_l19Good.l0]
    rw [if_neg (by omega)]
    unfold queueB
    rw [decide_eq_true h, Bool.true_and]
    exact congrArg some (decide_eq_decide.2 (by omega))
theorem cloneD (l : List S94) (hl : l.length ≤ 1000000000) : slices_Clone_Delivery.f l = some l := by
  unfold slices_Clone_Delivery.f
  rw [Option.bind_some, if_pos (by simp; omega), List.nil_append]
theorem ownD (l : List S94) (hl : l.length ≤ 1000000000) : spec_l19Own.f l = some l := by
  unfold spec_l19Own.f
  rw [Option.bind_some, if_pos (by simp; omega), List.nil_append]
theorem queue_mono {l : List S94} (h : queueB l = true) (i : Nat) : ∀ d, i + (d + 1) < l.length → (l.getD i z94).f0 < (l.getD (i + (d + 1)) z94).f0 := by
  have st : ∀ j, j + 1 < l.length → (l.getD j z94).f0 < (l.getD (j + 1) z94).f0 := by
    intro j hj
    have := queueB_at h (j + 1) hj
    unfold atQ at this
    simp only [Bool.and_eq_true, Bool.or_eq_true, decide_eq_true_eq] at this
    rcases this.2 with e | e
    · omega
    · rw [Nat.add_sub_cancel] at e; exact e
  intro d
  induction d with
  | zero => intro hd; exact st i hd
  | succ d ih =>
    intro hd
    have a := ih (by omega)
    have b := st (i + (d + 1)) (by omega)
    rw [show i + (d + 1) + 1 = i + (d + 1 + 1) from by omega] at b
    omega
theorem queue_one {l : List S94} (h : queueB l = true) {i j : Nat} (hi : i < l.length) (hj : j < l.length) (e : (l.getD i z94).f0 = (l.getD j z94).f0) : i = j := by
  rcases Nat.lt_trichotomy i j with c | c | c
  · have := queue_mono h i (j - i - 1) (by omega)
    rw [show i + (j - i - 1 + 1) = j from by omega] at this
    omega
  · exact c
  · have := queue_mono h j (i - j - 1) (by omega)
    rw [show j + (i - j - 1 + 1) = i from by omega] at this
    omega
theorem deliveryAt_ev (l : List S94) (id : Int) (hl : l.length ≤ 1048576) (n : Nat) (hn : n ≤ l.length) (hb : ∀ i, i < n → (l.getD i z94).f0 ≠ id) (v : Int)
    (he : (n < l.length ∧ (l.getD n z94).f0 = id ∧ v = n) ∨ (n = l.length ∧ v = -1)) : Evt fun k => impl_deliveryAt.f k l id = some v := by
  have lp : Evt fun k => slices_IndexFunc_Delivery.f k l id = some v := by
    unfold slices_IndexFunc_Delivery.f
    refine evt_loop0 n (fun k (_ : Unit) i => slices_IndexFunc_Delivery.l0 k l id (l.length : Int) i) v (fun _ _ => True) ?_ ?_ () trivial
    · rintro i s hi _
      have ne := hb i hi
      refine .inl ⟨(), trivial, 1, Evt.all fun k => ?_⟩
      show slices_IndexFunc_Delivery.l0 (k + 1) l id (l.length : Int) (i : Int) = _
      simp only [slices_IndexFunc_Delivery.l0, rd_del, impl_deliveryAt_1.f, Option.bind_some, beq_eq_false_iff_ne.2 ne]
      rw [if_pos (by omega), if_pos (by omega), if_pos (by omega), if_neg (by simp), wrap_id (by omega) (by omega)]
    · rintro s _
      refine Evt.succ (Evt.all fun k => ?_)
      show slices_IndexFunc_Delivery.l0 (k + 1) l id (l.length : Int) (n : Int) = _
      rcases he with ⟨h1, h2, h3⟩ | ⟨h1, h2⟩
      · simp only [slices_IndexFunc_Delivery.l0, rd_del, impl_deliveryAt_1.f, Option.bind_some, h2, beq_self_eq_true]
        rw [if_pos (by omega), if_pos (by omega), if_pos (by omega), if_pos trivial, h3]
      · simp only [slices_IndexFunc_Delivery.l0]
        rw [if_neg (by omega), h2]
  exact lp.mono fun k hk => by simp only [impl_deliveryAt.f, hk, Option.bind_some]
theorem takeSpec_loop (l : List S94) (id : Int) (hl : l.length ≤ 1048576) (v : List S94 × Bool)
    (hv : ∀ i, i < l.length → (l.getD i z94).f0 = id → ((l.getD i z94).f1 = 2 ∨ (l.getD i z94).f1 = 3) → v = (l.set i ⟨id, 3, (l.getD i z94).f2, 0⟩, true))
    (hn : (∀ i, i < l.length → (l.getD i z94).f0 = id → ¬ ((l.getD i z94).f1 = 2 ∨ (l.getD i z94).f1 = 3)) → v = ([], false)) : Evt fun k => spec_TakeReceipt.l0 k id l 0 = some v := by
  refine evt_loop0 l.length (fun k (_ : Unit) i => spec_TakeReceipt.l0 k id l i) v (fun i _ => ∀ j, j < i → (l.getD j z94).f0 = id → ¬ ((l.getD j z94).f1 = 2 ∨ (l.getD j z94).f1 = 3)) ?_ ?_ () (fun j hj => by omega)
  · rintro i s hi h
    by_cases c1 : (l.getD i z94).f0 = id
    · by_cases c2 : (l.getD i z94).f1 = 2 ∨ (l.getD i z94).f1 = 3
      · refine .inr (Evt.succ (Evt.all fun k => ?_))
        show spec_TakeReceipt.l0 (k + 1) id l (i : Int) = _
        simp only [spec_TakeReceipt.l0, rd_del, Int.toNat_natCast]
        rw [if_pos (by omega), if_pos (by omega), if_pos c1, hv i hi c1 c2]
        rcases c2 with c2 | c2
        · rw [if_pos c2]
        · rw [if_neg (by omega), if_pos c2]
      · refine .inl ⟨(), fun j hj => ?_, 1, Evt.all fun k => ?_⟩
        · by_cases e : j = i
          · subst e; exact fun _ => c2
          · exact h j (by omega)
        · show spec_TakeReceipt.l0 (k + 1) id l (i : Int) = _
          simp only [spec_TakeReceipt.l0, rd_del]
          rw [if_pos (by omega), if_pos (by omega), if_pos c1, if_neg (fun q => c2 (.inl q)), if_neg (fun q => c2 (.inr q)), wrap_id (by omega) (by omega)]
    · refine .inl ⟨(), fun j hj => ?_, 1, Evt.all fun k => ?_⟩
      · by_cases e : j = i
        · subst e; exact fun q => absurd q c1
        · exact h j (by omega)
      · show spec_TakeReceipt.l0 (k + 1) id l (i : Int) = _
        simp only [spec_TakeReceipt.l0, rd_del]
        rw [if_pos (by omega), if_pos (by omega), if_neg c1, wrap_id (by omega) (by omega)]
  · rintro s h
    refine Evt.succ (Evt.all fun k => ?_)
    show spec_TakeReceipt.l0 (k + 1) id l (l.length : Int) = _
    simp only [spec_TakeReceipt.l0]
    rw [if_neg (by omega), hn h]
theorem first_or (l : List S94) (id : Int) : ∀ m, m ≤ l.length → (∃ n, n < m ∧ (l.getD n z94).f0 = id ∧ ∀ i, i < n → (l.getD i z94).f0 ≠ id) ∨ ∀ i, i < m → (l.getD i z94).f0 ≠ id
  | 0, _ => .inr (fun i hi => by omega)
  | m + 1, hm => by
    rcases first_or l id m (by omega) with ⟨n, h1, h2, h3⟩ | h
    · exact .inl ⟨n, by omega, h2, h3⟩
    · by_cases c : (l.getD m z94).f0 = id
      · exact .inl ⟨m, by omega, c, h⟩
      · refine .inr (fun i hi => ?_)
        by_cases e : i = m
        · subst e; exact c
        · exact h i (by omega)
theorem pair_TakeReceipt (l : List S94) (id : Int) (hl : l.length ≤ 1048576) (_ : -9223372036854775808 ≤ id ∧ id ≤ 9223372036854775807) : ∃ v, (Evt fun k => impl_TakeReceipt.f k l id = some v) ∧ (Evt fun k => spec_TakeReceipt.f k l id = some v) ∧ v.1.length ≤ 1048576 := by
  have c1 := IsValidQueue_ev l (by omega)
  have c2 := l19Good_ev l (by omega)
  cases hc : queueB l with
  | false =>
    rw [hc] at c1 c2
    refine ⟨([], false), c1.mono fun k hk => ?_, c2.mono fun k hk => ?_, by simp⟩
    · simp [impl_TakeReceipt.f, hk]
    · simp [spec_TakeReceipt.f, hk]
  | true =>
    rw [hc] at c1 c2
    rcases first_or l id l.length (Nat.le_refl _) with ⟨n, h1, h2, h3⟩ | h
    · have at_ := deliveryAt_ev l id hl n (by omega) h3 (n : Int) (.inl ⟨h1, h2, rfl⟩)
      by_cases q : (l.getD n z94).f1 = 2 ∨ (l.getD n z94).f1 = 3
      · have sp := takeSpec_loop l id hl (l.set n ⟨id, 3, (l.getD n z94).f2, 0⟩, true)
          (fun i hi e _ => by rw [queue_one hc hi h1 (e.trans h2.symm)]) (fun hn => absurd q (hn n h1 h2))
        refine ⟨(l.set n ⟨id, 3, (l.getD n z94).f2, 0⟩, true), (c1.and at_).mono fun k hk => ?_, (c2.and sp).mono fun k hk => ?_, by simp only [List.length_set]; exact hl⟩
        · have e0 : ∀ u : S94, (l.set n u).getD n z94 = u := fun u => getD_set_self _ _ _ _ h1
          simp only [impl_TakeReceipt.f, hk.1, hk.2, Option.bind_some, if_true, rd_del, cloneD l (by omega), Int.toNat_natCast, e0, List.set_set]
          rw [if_neg (by omega), if_pos (by omega), if_pos (by omega)]
          rcases q with q | q
          · rw [if_pos q, if_pos (by omega), h2]
          · rw [if_neg (by omega), if_pos q, if_pos (by omega), h2]
        · simp only [spec_TakeReceipt.f, hk.1, hk.2, Option.bind_some, if_true, ownD l (by omega)]
      · have sp := takeSpec_loop l id hl ([], false) (fun i hi e c => absurd (queue_one hc hi h1 (e.trans h2.symm) ▸ c) q) (fun _ => rfl)
        refine ⟨([], false), (c1.and at_).mono fun k hk => ?_, (c2.and sp).mono fun k hk => ?_, by simp⟩
        · simp only [impl_TakeReceipt.f, hk.1, hk.2, Option.bind_some, if_true, rd_del]
          rw [if_neg (by omega), if_pos (by omega), if_pos (by omega), if_neg (fun c => q (.inl c)), if_neg (fun c => q (.inr c))]
        · simp only [spec_TakeReceipt.f, hk.1, hk.2, Option.bind_some, if_true, ownD l (by omega)]
    · have at_ := deliveryAt_ev l id hl l.length (Nat.le_refl _) h (-1) (.inr ⟨rfl, rfl⟩)
      have sp := takeSpec_loop l id hl ([], false) (fun i hi e _ => absurd e (h i hi)) (fun _ => rfl)
      refine ⟨([], false), (c1.and at_).mono fun k hk => ?_, (c2.and sp).mono fun k hk => ?_, by simp⟩
      · simp [impl_TakeReceipt.f, hk.1, hk.2]
      · simp only [spec_TakeReceipt.f, hk.1, hk.2, Option.bind_some, if_true, ownD l (by omega)]
theorem FnExactTakeReceipt : FnExactTakeReceiptPure := by
  intro l0 a1 hm0 hw0 w1
  have q0 := szDeliveryS_ok l0 1048576 (by omega) hm0
  by_cases hl0 : (1048576 - (l0.length : Int)) < 0
  · exact ⟨0, by unfold laws_FnExactTakeReceipt.f; rw [q0, if_pos hl0, Option.bind_some, if_pos (by omega)]⟩
  rw [if_neg hl0] at q0
  have hn0 : l0.length ≤ 1048576 := by omega
  obtain ⟨⟨g0, g1⟩, hi, hs, hb⟩ := pair_TakeReceipt (l0.map c_Delivery) a1 (by rw [List.length_map]; exact hn0) (wf64 w1)
  simp only at hb
  have n0 : ¬ (1 + 4 * (l0.length : Int) < 0) := by omega
  have n1 : ¬ (1 + 4 * (g0.length : Int) < 0) := by omega
  obtain ⟨K, hK⟩ := ((hi).and ((hs).and ((toDeliveryS_ev l0 hn0).and ((eqDeliveryS_self (l0.map c_Delivery) (by rw [List.length_map]; omega)).and ((markDeliveryS_ev (l0.map c_Delivery) 1 (by omega) (by rw [List.length_map]; omega)).and ((eqDeliveryS_self g0 (by omega)).and ((markDeliveryS_ev g0 1 (by omega) (by omega)).and (heldDeliveryS_ev g0.length 1 (by omega) (by omega))))))))).at
  have e0 := fun j => (hK j).1
  have e1 := fun j => (hK j).2.1
  have e2 := fun j => (hK j).2.2.1
  have e3 := fun j => (hK j).2.2.2.1
  have e4 := fun j => (hK j).2.2.2.2.1
  have e5 := fun j => (hK j).2.2.2.2.2.1
  have e6 := fun j => (hK j).2.2.2.2.2.2.1
  have e7 := fun j => (hK j).2.2.2.2.2.2.2
  refine ⟨K + 6, ?_⟩
  simp only [laws_FnExactTakeReceipt.f, q0, if_neg hl0, Option.bind_some, e0, e1, e2, e3, e4, e5, e6, e7, if_true]
  simp [laws_FnExactTakeReceipt.j0, laws_FnExactTakeReceipt.j1, laws_FnExactTakeReceipt.j2, e0, e1, e2, e3, e4, e5, e6, e7, n0, n1]
end Go.Proofs.Ytjagdjbiljooiaa.XFnExactTakeReceipt.Pure
