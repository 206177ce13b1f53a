/-
  The pure statement of the law FnExactAddDelivery: what its printed function answers is 'true' for all numbers and lists of its kinds. Conditions: the kinds' own bounds, as the statement lays them.
-/
import Derived.Test.YtppjagpjlcbhpaaStmFnExactAddDelivery
import Derived.DataShut
namespace Go.Proofs.Ytppjagpjlcbhpaa.XFnExactAddDelivery.Pure
open Go.RowKit Go.Proofs.Ytppjagpjlcbhpaa.XFnExactAddDelivery Go.Proofs.YtppjagpjlcbhpaaW.PrintWords Go.Proofs.YtppjagpjlcbhpaaW.PrintLast Go.Proofs.YtppjagpjlcbhpaaW.PrintMore
set_option linter.unusedVariables false
set_option linter.unusedSimpArgs false
theorem wrap_id {x : Int} (h0 : -9223372036854775808 ≤ x) (h1 : x ≤ 9223372036854775807) : wrap64 x = x := by unfold wrap64; omega
theorem wf64 {x : Int} (h : (Lit.int .i64 x).wf = true) : -9223372036854775808 ≤ x ∧ x ≤ 9223372036854775807 := by
  simpa [Lit.wf, IntKind.min, IntKind.max, IntKind.signed, IntKind.bits] using h
def Evt (P : Nat → Prop) : Prop := ∃ K, ∀ k, K ≤ k → P k
theorem Evt.all {P : Nat → Prop} (h : ∀ k, P k) : Evt P := ⟨0, fun k _ => h k⟩
theorem Evt.and {P Q : Nat → Prop} (h : Evt P) (g : Evt Q) : Evt fun k => P k ∧ Q k := by
  obtain ⟨K, h⟩ := h
  obtain ⟨M, g⟩ := g
  exact ⟨K + M, fun k hk => ⟨h k (by omega), g k (by omega)⟩⟩
theorem Evt.mono {P Q : Nat → Prop} (h : Evt P) (g : ∀ k, P k → Q k) : Evt Q := by
  obtain ⟨K, h⟩ := h
  exact ⟨K, fun k hk => g k (h k hk)⟩
theorem Evt.succ {Q : Nat → Prop} (h : Evt fun k => Q (k + 1)) : Evt Q := by
  obtain ⟨K, h⟩ := h
  refine ⟨K + 1, fun k hk => ?_⟩
  obtain ⟨m, rfl⟩ : ∃ m, k = m + 1 := ⟨k - 1, by omega⟩
  exact h m (by omega)
theorem Evt.add {Q : Nat → Prop} (c : Nat) (h : Evt fun k => Q (k + c)) : Evt Q := by
  obtain ⟨K, h⟩ := h
  refine ⟨K + c, fun k hk => ?_⟩
  obtain ⟨m, rfl⟩ : ∃ m, k = m + c := ⟨k - c, by omega⟩
  exact h m (by omega)
theorem Evt.shift {Q : Nat → Prop} (h : Evt Q) : Evt fun k => Q (k + 1) := by
  obtain ⟨K, h⟩ := h
  exact ⟨K, fun k hk => h _ (by omega)⟩
theorem Evt.at {P : Nat → Prop} (h : Evt P) : ∃ K, ∀ j, P (K + j) := by
  obtain ⟨K, h⟩ := h
  exact ⟨K, fun j => h _ (by omega)⟩
theorem evt_loop {σ ρ : Type} (n : Nat) (L : Nat → σ → Int → Option ρ) (v : ρ) (Inv : Nat → σ → Prop)
    (step : ∀ i s, i < n → Inv i s → (∃ s', Inv (i + 1) s' ∧ ∃ c, Evt fun k => L (k + c) s (i : Int) = L k s' ((i : Int) + 1)) ∨ Evt fun k => L k s (i : Int) = some v)
    (fin : ∀ s, Inv n s → Evt fun k => L k s (n : Int) = some v) :
    ∀ i s, i ≤ n → Inv i s → Evt fun k => L k s (i : Int) = some v := by
  have key : ∀ d i s, i + d = n → Inv i s → Evt fun k => L k s (i : Int) = some v := by
    intro d
    induction d with
    | zero =>
      intro i s hi h
      obtain rfl : i = n := by omega
      exact fin s h
    | succ d ih =>
      intro i s hi h
      rcases step i s (by omega) h with ⟨s', h', c, e⟩ | e
      · have h2 := ih (i + 1) s' (by omega) h'
        rw [show ((i + 1 : Nat) : Int) = (i : Int) + 1 from by omega] at h2
        exact Evt.add c ((e.and h2).mono fun k hk => hk.1.trans hk.2)
      · exact e
  intro i s hi h
  exact key (n - i) i s (by omega) h
theorem evt_loop0 {σ ρ : Type} (n : Nat) (L : Nat → σ → Int → Option ρ) (v : ρ) (Inv : Nat → σ → Prop)
    (step : ∀ i s, i < n → Inv i s → (∃ s', Inv (i + 1) s' ∧ ∃ c, Evt fun k => L (k + c) s (i : Int) = L k s' ((i : Int) + 1)) ∨ Evt fun k => L k s (i : Int) = some v)
    (fin : ∀ s, Inv n s → Evt fun k => L k s (n : Int) = some v) (s : σ) (h0 : Inv 0 s) : Evt fun k => L k s 0 = some v :=
  evt_loop n L v Inv step fin 0 s (Nat.zero_le _) h0
theorem getD_lt {α : Type} (xs : List α) (z : α) (i : Nat) (h : i < xs.length) : xs.getD i z = xs[i] := by
  rw [List.getD_eq_getElem?_getD, List.getElem?_eq_getElem h]; rfl
theorem getD_set_self {α : Type} (xs : List α) (z v : α) (i : Nat) (h : i < xs.length) : (xs.set i v).getD i z = v := by
  rw [List.getD_eq_getElem?_getD, List.getElem?_set_self h]; rfl
theorem getD_set_ne {α : Type} (xs : List α) (z v : α) (i j : Nat) (h : i ≠ j) : (xs.set i v).getD j z = xs.getD j z := by
  rw [List.getD_eq_getElem?_getD, List.getElem?_set_ne h, List.getD_eq_getElem?_getD]
theorem getD_map {α β : Type} (f : α → β) (xs : List α) (z : α) (y : β) (i : Nat) (h : i < xs.length) : (xs.map f).getD i y = f (xs.getD i z) := by
  rw [getD_lt _ _ _ (by simpa using h), getD_lt _ _ _ h, List.getElem_map]
theorem list_ext_getD {α : Type} (xs ys : List α) (z : α) (h : xs.length = ys.length) (e : ∀ j, j < xs.length → xs.getD j z = ys.getD j z) : xs = ys := by
  apply List.ext_getElem h
  intro j h1 h2
  have := e j h1
  rwa [getD_lt _ _ _ h1, getD_lt _ _ _ h2] at this
def c_Delivery (x : S87) : S84 := ⟨x.f0, x.f1, x.f2, x.f3⟩
theorem toDeliveryS_ev (l : List S87) (hl : l.length ≤ 1048576) : Evt fun k => laws_toDeliveryS.f k l = some (l.map c_Delivery) := by
  unfold laws_toDeliveryS.f
  simp only [if_pos (show 0 ≤ (l.length : Int) by omega), if_pos (show ((l.length : Int) : Int).toNat ≤ 8796093022208 by omega)]
  refine evt_loop0 l.length (fun k s i => laws_toDeliveryS.l0 k l s i) (l.map c_Delivery) (fun i s => s.length = l.length ∧ ∀ j, j < i → s.getD j z84 = (l.map c_Delivery).getD j z84) ?_ ?_ _ ⟨by simp, fun j hj => by omega⟩
  · rintro i s hi ⟨h1, h2⟩
    refine .inl ⟨s.set i ((l.map c_Delivery).getD i z84), ⟨by simpa using h1, fun j hj => ?_⟩, 1, Evt.all fun k => ?_⟩
    · by_cases e : j = i
      · subst e; rw [getD_set_self _ _ _ _ (by omega)]
      · rw [getD_set_ne _ _ _ _ _ (by omega)]; exact h2 j (by omega)
    · show laws_toDeliveryS.l0 (k + 1) l s (i : Int) = _
      simp only [laws_toDeliveryS.l0, laws_toDelivery.f, Option.bind_some]
      rw [if_pos (by omega), if_pos (by omega), if_pos (by omega), wrap_id (by omega) (by omega), Int.toNat_natCast, getD_map _ _ z87 _ _ hi]
      rfl
  · rintro s ⟨h1, h2⟩
    refine Evt.succ (Evt.all fun k => ?_)
    show laws_toDeliveryS.l0 (k + 1) l s (l.length : Int) = _
    simp only [laws_toDeliveryS.l0]
    rw [if_neg (by omega)]
    exact congrArg some (list_ext_getD _ _ z84 (by simpa using h1) (fun j hj => h2 j (by omega)))
theorem eqDeliveryS_self (l : List S84) (hl : l.length ≤ 4503599627370496) : Evt fun k => laws_eqDeliveryS.f k l l = some true := by
  unfold laws_eqDeliveryS.f
  simp only [if_true]
  refine evt_loop0 l.length (fun k (_ : Unit) i => laws_eqDeliveryS.l0 k l l i) true (fun _ _ => True) ?_ ?_ () trivial
  · intro i s hi _
    refine .inl ⟨(), trivial, 1, Evt.all fun k => ?_⟩
    show laws_eqDeliveryS.l0 (k + 1) l l (i : Int) = _
    simp only [laws_eqDeliveryS.l0, laws_eqDelivery.f]
    rw [if_pos (by omega), if_pos (by omega), if_pos (by omega), wrap_id (by omega) (by omega)]
    simp
  · intro s _
    refine Evt.succ (Evt.all fun k => ?_)
    show laws_eqDeliveryS.l0 (k + 1) l l (l.length : Int) = _
    simp only [laws_eqDeliveryS.l0]
    rw [if_neg (by omega)]
theorem szDeliveryS_ok (l : List S87) (a : Int) (ha : 0 ≤ a ∧ a ≤ 1048576) (hl : l.length ≤ maxLen) : laws_szDeliveryS.f l a = some (if a - (l.length : Int) < 0 then -1 else a - (l.length : Int)) := by
  unfold maxLen at hl
  unfold laws_szDeliveryS.f
  rw [wrap_id (by omega) (by omega)]
  split <;> rfl
def mk_Delivery (a : Int) (j : Nat) : S84 := ⟨a + 4 * (j : Int), a + 4 * (j : Int) + 1, a + 4 * (j : Int) + 1 + 1, a + 4 * (j : Int) + 1 + 1 + 1⟩
def marked_Delivery (a : Int) (n : Nat) : List S84 := (List.range n).map (mk_Delivery a)
theorem marked_Delivery_len (a : Int) (n : Nat) : (marked_Delivery a n).length = n := by simp [marked_Delivery]
theorem marked_Delivery_get (a : Int) (n j : Nat) (h : j < n) : (marked_Delivery a n).getD j z84 = mk_Delivery a j := by
  rw [getD_lt _ _ _ (by simpa [marked_Delivery] using h)]; simp [marked_Delivery]
theorem markDeliveryS_ev (l : List S84) (a : Int) (ha : 0 ≤ a ∧ a ≤ 1000000000000) (hl : l.length ≤ 1000000000000) : Evt fun k => laws_markDeliveryS.f k l a = some (a + 4 * l.length, marked_Delivery a l.length) := by
  unfold laws_markDeliveryS.f
  refine evt_loop0 l.length (fun k (s : List S84 × Int) i => laws_markDeliveryS.l0 k s.1 s.2 i) _ (fun i s => s.1.length = l.length ∧ s.2 = a + 4 * i ∧ ∀ j, j < i → s.1.getD j z84 = mk_Delivery a j) ?_ ?_ (l, a) ⟨rfl, by simp, fun j hj => by omega⟩
  · rintro i ⟨s, x⟩ hi ⟨h1, h2, h3⟩
    simp only at h1 h2 h3
    refine .inl ⟨(s.set i (mk_Delivery a i), x + 1 + 1 + 1 + 1), ⟨by simpa using h1, by simp only; omega, fun j hj => ?_⟩, 1, Evt.all fun k => ?_⟩
    · simp only
      by_cases e : j = i
      · subst e; rw [getD_set_self _ _ _ _ (by omega)]
      · rw [getD_set_ne _ _ _ _ _ (by omega)]; exact h3 j (by omega)
    · show laws_markDeliveryS.l0 (k + 1) s x (i : Int) = laws_markDeliveryS.l0 k (s.set i (mk_Delivery a i)) (x + 1 + 1 + 1 + 1) ((i : Int) + 1)
      have w1 : wrap64 (x + 1) = x + 1 := wrap_id (by omega) (by omega)
      have w2 : wrap64 (x + 1 + 1) = x + 1 + 1 := wrap_id (by omega) (by omega)
      have w3 : wrap64 (x + 1 + 1 + 1) = x + 1 + 1 + 1 := wrap_id (by omega) (by omega)
      have w4 : wrap64 (x + 1 + 1 + 1 + 1) = x + 1 + 1 + 1 + 1 := wrap_id (by omega) (by omega)
      simp only [laws_markDeliveryS.l0, Option.bind_some]
      rw [if_pos (by omega), if_pos (by omega), wrap_id (x := (i : Int) + 1) (by omega) (by omega)]
      simp only [w1, w2, w3, w4, rd_T84, Int.toNat_natCast, getD_set_self _ _ _ _ (show i < s.length by omega), List.set_set]
      subst h2
      rfl
  · rintro ⟨s, x⟩ ⟨h1, h2, h3⟩
    simp only at h1 h2 h3
    refine Evt.succ (Evt.all fun k => ?_)
    show laws_markDeliveryS.l0 (k + 1) s x (l.length : Int) = _
    simp only [laws_markDeliveryS.l0]
    rw [if_neg (by omega), h2]
    refine congrArg some (Prod.ext rfl (list_ext_getD _ _ z84 (by rw [marked_Delivery_len]; exact h1) (fun j hj => ?_)))
    have hj' : j < l.length := by simp only at hj; omega
    rw [marked_Delivery_get _ _ _ hj']; exact h3 j hj'
theorem heldDeliveryS_ev (n : Nat) (a : Int) (ha : 0 ≤ a ∧ a ≤ 1000000000000) (hl : n ≤ 1000000000000) : Evt fun k => laws_heldDeliveryS.f k (marked_Delivery a n) a = some (a + 4 * n) := by
  unfold laws_heldDeliveryS.f
  refine evt_loop0 n (fun k (x : Int) i => laws_heldDeliveryS.l0 k (marked_Delivery a n) x i) _ (fun i x => x = a + 4 * i) ?_ ?_ a (by simp)
  · rintro i x hi h2
    refine .inl ⟨x + 1 + 1 + 1 + 1, by omega, 1, Evt.all fun k => ?_⟩
    show laws_heldDeliveryS.l0 (k + 1) (marked_Delivery a n) x (i : Int) = _
    have w1 : wrap64 (x + 1) = x + 1 := wrap_id (by omega) (by omega)
    have w2 : wrap64 (x + 1 + 1) = x + 1 + 1 := wrap_id (by omega) (by omega)
    have w3 : wrap64 (x + 1 + 1 + 1) = x + 1 + 1 + 1 := wrap_id (by omega) (by omega)
    have w4 : wrap64 (x + 1 + 1 + 1 + 1) = x + 1 + 1 + 1 + 1 := wrap_id (by omega) (by omega)
    simp only [laws_heldDeliveryS.l0]
    rw [marked_Delivery_len, if_pos (by omega), if_pos (by omega), wrap_id (x := (i : Int) + 1) (by omega) (by omega)]
    simp only [w1, w2, w3, w4, rd_T84, Int.toNat_natCast, marked_Delivery_get _ _ _ hi]
    subst h2
    simp [mk_Delivery]
  · rintro x h2
    refine Evt.succ (Evt.all fun k => ?_)
    show laws_heldDeliveryS.l0 (k + 1) (marked_Delivery a n) x (n : Int) = _
    simp only [laws_heldDeliveryS.l0]
    rw [marked_Delivery_len, if_neg (by omega), h2]
theorem within_ok (a b c : Int) : impl_within.f a b c = some (decide (b ≤ a ∧ a ≤ c)) := by
  unfold impl_within.f
  split <;> simp <;> omega
theorem l1In_ok (a b c : Int) : spec_l1In.f a b c = some (decide (b ≤ a ∧ a ≤ c)) := by
  unfold spec_l1In.f
  split <;> simp <;> omega
abbrev delivP (a b c d : Int) : Prop := (1 ≤ a ∧ a ≤ 999) ∧ (0 ≤ d ∧ d ≤ 100000) ∧ ((b = 1 ∧ 0 ≤ c ∧ c ≤ 4) ∨ (b = 2 ∧ 1 ≤ c ∧ c ≤ 5) ∨ (b = 3 ∧ (1 ≤ c ∧ c ≤ 5) ∧ d = 0) ∨ (b = 4 ∧ c = 5 ∧ d = 0))
def delivB (s : S84) : Bool := decide (delivP s.f0 s.f1 s.f2 s.f3)
theorem isDelivery_ok (k : Nat) (a b c d : Int) : impl_isDelivery.f (k + 1) a b c d = some (decide (delivP a b c d)) := by
  unfold delivP
  simp only [impl_isDelivery.f, impl_isDelivery.j0, within_ok, Option.bind_some, impl_isOpen.f]
  by_cases h1 : 1 ≤ a ∧ a ≤ 999
  · by_cases h2 : 0 ≤ d ∧ d ≤ 100000
    · simp only [decide_eq_true h1, decide_eq_true h2, if_true]
      by_cases s1 : b = 1
      · simp only [if_pos s1, Option.bind_some, if_true]
        rw [if_neg (by simp)]
        exact congrArg some (decide_eq_decide.2 (by omega))
      · simp only [if_neg s1, Option.bind_some]
        by_cases s2 : b = 2
        · rw [if_pos (by simpa using s2), if_neg (by simp)]
          simp only [if_pos s2]
          exact congrArg some (decide_eq_decide.2 (by omega))
        · rw [if_neg (by simpa using s2)]
          by_cases hd : d = 0
          · rw [if_neg (by simpa using hd), if_neg s2]
            by_cases s3 : b = 3
            · rw [if_pos s3]; exact congrArg some (decide_eq_decide.2 (by omega))
            · rw [if_neg s3]
              by_cases s4 : b = 4
              · rw [if_pos s4]
                show some (decide (c = 5)) = _
                exact congrArg some (decide_eq_decide.2 (by omega))
              · rw [if_neg s4, decide_eq_false (by omega)]
          · rw [if_pos (by simpa using hd), decide_eq_false (by omega)]
    · simp only [decide_eq_true h1, decide_eq_false h2, if_true]
      rw [if_neg (by simp), decide_eq_false (by omega)]
  · simp only [decide_eq_false h1, if_true]
    rw [if_neg (by simp), decide_eq_false (by omega)]
theorem l19Delivery_ok (k : Nat) (a b c d : Int) : spec_l19Delivery.f (k + 1) a b c d = some (decide (delivP a b c d)) := by
  unfold delivP
  simp only [spec_l19Delivery.f, spec_l19Delivery.j0, l1In_ok, Option.bind_some]
  by_cases h1 : 1 ≤ a ∧ a ≤ 999
  · by_cases h2 : 0 ≤ d ∧ d ≤ 100000
    · simp only [decide_eq_true h1, decide_eq_true h2, if_true, Bool.not_true]
      rw [if_neg (by simp)]
      by_cases s1 : b = 1
      · rw [if_pos s1]; exact congrArg some (decide_eq_decide.2 (by omega))
      · rw [if_neg s1]
        by_cases s2 : b = 2
        · rw [if_pos s2]; exact congrArg some (decide_eq_decide.2 (by omega))
        · rw [if_neg s2]
          by_cases s3 : b = 3
          · rw [if_pos s3]
            by_cases hc : 1 ≤ c ∧ c ≤ 5
            · rw [if_pos (decide_eq_true hc)]
              show some (decide (d = 0)) = _
              exact congrArg some (decide_eq_decide.2 (by omega))
            · rw [if_neg (by simpa using hc), decide_eq_false (by omega)]
          · rw [if_neg s3]
            by_cases s4 : b = 4
            · rw [if_pos s4]
              by_cases hc : c = 5
              · rw [if_pos hc]
                show some (decide (d = 0)) = _
                exact congrArg some (decide_eq_decide.2 (by omega))
              · rw [if_neg hc, decide_eq_false (by omega)]
            · rw [if_neg s4, decide_eq_false (by omega)]
    · simp only [decide_eq_true h1, decide_eq_false h2, if_true, Bool.not_false]
      rw [decide_eq_false (by omega)]
  · simp only [decide_eq_false h1, if_true]
    rw [if_neg (by simp), decide_eq_false (by omega)]
def atQ (l : List S84) (i : Nat) : Bool := delivB (l.getD i z84) && (decide (i = 0) || decide ((l.getD (i - 1) z84).f0 < (l.getD i z84).f0))
def queueB (l : List S84) : Bool := decide (∀ i, i < l.length → atQ l i = true) && decide (l.length ≤ 12)
theorem queueB_at {l : List S84} (h : queueB l = true) : ∀ i, i < l.length → atQ l i = true := by
  unfold queueB at h
  simp only [Bool.and_eq_true, decide_eq_true_eq] at h
  exact h.1
theorem queueB_len {l : List S84} (h : queueB l = true) : l.length ≤ 12 := by
  unfold queueB at h
  simp only [Bool.and_eq_true, decide_eq_true_eq] at h
  exact h.2
theorem rd_del (l : List S84) (i : Nat) : rd_T84 l (i : Int) = l.getD i z84 := by unfold rd_T84; rw [Int.toNat_natCast]
theorem rd_del_pred (l : List S84) (i : Nat) : rd_T84 l ((i : Int) - 1) = l.getD (i - 1) z84 := by unfold rd_T84; congr 1; omega
theorem validQueue_step (l : List S84) (hl : l.length ≤ 4503599627370496) (k i : Nat) (hi : i < l.length) :
    impl_IsValidQueue.l0 (k + 1 + 1) l l (l.length : Int) (i : Int) = if atQ l i = true then impl_IsValidQueue.l0 (k + 1) l l (l.length : Int) ((i : Int) + 1) else some false := by
  obtain ⟨s, hs⟩ : ∃ s, l.getD i z84 = s := ⟨_, rfl⟩
  obtain ⟨p, hp⟩ : ∃ p, l.getD (i - 1) z84 = p := ⟨_, rfl⟩
  have w1 : wrap64 ((i : Int) + 1) = (i : Int) + 1 := wrap_id (by omega) (by omega)
  have w2 : wrap64 ((i : Int) - 1) = (i : Int) - 1 := wrap_id (by omega) (by omega)
  rw [impl_IsValidQueue.l0]
  rw [if_pos (by omega), if_pos (by omega), if_pos (by omega)]
  simp only [isDelivery_ok, Option.bind_some, rd_del, w1, w2, rd_del_pred, atQ, delivB, hs, hp]
  by_cases h1 : delivP s.f0 s.f1 s.f2 s.f3
  · simp only [decide_eq_true h1, if_true, Bool.true_and]
    by_cases h3 : i = 0
    · rw [if_neg (by omega), if_pos (by simp [h3])]
    · rw [if_pos (by omega), if_pos (by omega), if_pos (by omega)]
      by_cases h4 : p.f0 < s.f0
      · rw [if_neg (by omega), if_pos (by simp [h4])]
      · rw [if_pos (by omega), if_neg (by simp [h3, h4])]
  · simp only [decide_eq_false h1, Bool.false_and]
    rw [if_neg (by simp), if_neg (by simp)]
theorem IsValidQueue_ev (l : List S84) (hl : l.length ≤ 4503599627370496) : Evt fun k => impl_IsValidQueue.f k l = some (queueB l) := by
  unfold impl_IsValidQueue.f
  refine Evt.succ ?_
  refine evt_loop0 l.length (fun k (_ : Unit) i => impl_IsValidQueue.l0 (k + 1) l l (l.length : Int) i) (queueB l) (fun i _ => ∀ j, j < i → atQ l j = true) ?_ ?_ () (fun j hj => by omega)
  · intro i s hi h
    by_cases hb : atQ l i = true
    · refine .inl ⟨(), fun j hj => ?_, 1, Evt.all fun k => ?_⟩
      · by_cases e : j = i
        · subst e; exact hb
        · exact h j (by omega)
      · show impl_IsValidQueue.l0 (k + 1 + 1) l l (l.length : Int) (i : Int) = _
        rw [validQueue_step l hl k i hi, if_pos hb]
    · refine .inr (Evt.succ (Evt.all fun k => ?_))
      show impl_IsValidQueue.l0 (k + 1 + 1) l l (l.length : Int) (i : Int) = _
      rw [validQueue_step l hl k i hi, if_neg hb]
      unfold queueB
      rw [decide_eq_false (fun hA => hb (hA i hi)), Bool.false_and]
  · intro s h
    refine Evt.all fun k => ?_
    show impl_IsValidQueue.l0 (k + 1) l l (l.length : Int) (l.length : Int) = _
    simp only [impl_IsValidQueue.l0]
    rw [if_neg (by omega)]
    unfold queueB
    rw [decide_eq_true h, Bool.true_and]
    exact congrArg some (decide_eq_decide.2 (by omega))
theorem l19Good_step (l : List S84) (hl : l.length ≤ 4503599627370496) (k i : Nat) (hi : i < l.length) :
    spec_l19Good.l0 (k + 1 + 1) l (i : Int) = if atQ l i = true then spec_l19Good.l0 (k + 1) l ((i : Int) + 1) else some false := by
  obtain ⟨s, hs⟩ : ∃ s, l.getD i z84 = s := ⟨_, rfl⟩
  obtain ⟨p, hp⟩ : ∃ p, l.getD (i - 1) z84 = p := ⟨_, rfl⟩
  have w1 : wrap64 ((i : Int) + 1) = (i : Int) + 1 := wrap_id (by omega) (by omega)
  have w2 : wrap64 ((i : Int) - 1) = (i : Int) - 1 := wrap_id (by omega) (by omega)
  rw [spec_l19Good.l0]
  rw [if_pos (by omega), if_pos (by omega)]
  simp only [l19Delivery_ok, Option.bind_some, rd_del, w1, w2, rd_del_pred, atQ, delivB, hs, hp]
  by_cases h1 : delivP s.f0 s.f1 s.f2 s.f3
  · simp only [decide_eq_true h1, if_true, Bool.true_and]
    by_cases h3 : i = 0
    · rw [if_neg (by omega), if_pos (by simp [h3])]
    · rw [if_pos (by omega), if_pos (by omega), if_pos (by omega)]
      by_cases h4 : p.f0 < s.f0
      · rw [if_neg (by omega), if_pos (by simp [h4])]
      · rw [if_pos (by omega), if_neg (by simp [h3, h4])]
  · simp only [decide_eq_false h1, Bool.false_and]
    rw [if_neg (by simp), if_neg (by simp)]
theorem l19Good_ev (l : List S84) (hl : l.length ≤ 4503599627370496) : Evt fun k => spec_l19Good.f k l = some (queueB l) := by
  unfold spec_l19Good.f
  refine Evt.succ ?_
  refine evt_loop0 l.length (fun k (_ : Unit) i => spec_l19Good.l0 (k + 1) l i) (queueB l) (fun i _ => ∀ j, j < i → atQ l j = true) ?_ ?_ () (fun j hj => by omega)
  · intro i s hi h
    by_cases hb : atQ l i = true
    · refine .inl ⟨(), fun j hj => ?_, 1, Evt.all fun k => ?_⟩
      · by_cases e : j = i
        · subst e; exact hb
        · exact h j (by omega)
      · show spec_l19Good.l0 (k + 1 + 1) l (i : Int) = _
        rw [l19Good_step l hl k i hi, if_pos hb]
    · refine .inr (Evt.succ (Evt.all fun k => ?_))
      show spec_l19Good.l0 (k + 1 + 1) l (i : Int) = _
      rw [l19Good_step l hl k i hi, if_neg hb]
      unfold queueB
      rw [decide_eq_false (fun hA => hb (hA i hi)), Bool.false_and]
  · intro s h
    refine Evt.all fun k => ?_
    show spec_l19Good.l0 (k + 1) l (l.length : Int) = _
    simp only [spec_l19Good.l0]
    rw [if_neg (by omega)]
    unfold queueB
    rw [decide_eq_true h, Bool.true_and]
    exact congrArg some (decide_eq_decide.2 (by omega))
theorem cloneD (l : List S84) (hl : l.length ≤ 1000000000) : slices_Clone_Delivery.f l = some l := by
  unfold slices_Clone_Delivery.f
  rw [Option.bind_some, if_pos (by simp; omega), List.nil_append]
theorem ownD (l : List S84) (hl : l.length ≤ 1000000000) : spec_l19Own.f l = some l := by
  unfold spec_l19Own.f
  rw [Option.bind_some, if_pos (by simp; omega), List.nil_append]
theorem isMinute_ok (t : Int) : impl_isMinute.f t = some (decide (0 ≤ t ∧ t ≤ 50000)) := by simp only [impl_isMinute.f, within_ok, Option.bind_some]
theorem l19Minute_ok (t : Int) : spec_l19Minute.f t = some (decide (0 ≤ t ∧ t ≤ 50000)) := by simp only [spec_l19Minute.f, l1In_ok, Option.bind_some]
theorem queue_mono {l : List S84} (h : queueB l = true) (i : Nat) : ∀ d, i + (d + 1) < l.length → (l.getD i z84).f0 < (l.getD (i + (d + 1)) z84).f0 := by
  have st : ∀ j, j + 1 < l.length → (l.getD j z84).f0 < (l.getD (j + 1) z84).f0 := by
    intro j hj
    have := queueB_at h (j + 1) hj
    unfold atQ at this
    simp only [Bool.and_eq_true, Bool.or_eq_true, decide_eq_true_eq] at this
    rcases this.2 with e | e
    · omega
    · rw [Nat.add_sub_cancel] at e; exact e
  intro d
  induction d with
  | zero => intro hd; exact st i hd
  | succ d ih =>
    intro hd
    have a := ih (by omega)
    have b := st (i + (d + 1)) (by omega)
    rw [show i + (d + 1) + 1 = i + (d + 1 + 1) from by omega] at b
    omega
theorem queue_one {l : List S84} (h : queueB l = true) {i j : Nat} (hi : i < l.length) (hj : j < l.length) (e : (l.getD i z84).f0 = (l.getD j z84).f0) : i = j := by
  rcases Nat.lt_trichotomy i j with c | c | c
  · have := queue_mono h i (j - i - 1) (by omega)
    rw [show i + (j - i - 1 + 1) = j from by omega] at this
    omega
  · exact c
  · have := queue_mono h j (i - j - 1) (by omega)
    rw [show j + (i - j - 1 + 1) = i from by omega] at this
    omega
theorem deliveryAt_ev (l : List S84) (id : Int) (hl : l.length ≤ 1048576) (n : Nat) (hn : n ≤ l.length) (hb : ∀ i, i < n → (l.getD i z84).f0 ≠ id) (v : Int)
    (he : (n < l.length ∧ (l.getD n z84).f0 = id ∧ v = n) ∨ (n = l.length ∧ v = -1)) : Evt fun k => impl_deliveryAt.f k l id = some v := by
  have lp : Evt fun k => slices_IndexFunc_Delivery.f k l id = some v := by
    unfold slices_IndexFunc_Delivery.f
    refine evt_loop0 n (fun k (_ : Unit) i => slices_IndexFunc_Delivery.l0 k l id (l.length : Int) i) v (fun _ _ => True) ?_ ?_ () trivial
    · rintro i s hi _
      have ne := hb i hi
      refine .inl ⟨(), trivial, 1, Evt.all fun k => ?_⟩
      show slices_IndexFunc_Delivery.l0 (k + 1) l id (l.length : Int) (i : Int) = _
      simp only [slices_IndexFunc_Delivery.l0, rd_del, impl_deliveryAt_1.f, Option.bind_some, beq_eq_false_iff_ne.2 ne]
      rw [if_pos (by omega), if_pos (by omega), if_pos (by omega), if_neg (by simp), wrap_id (by omega) (by omega)]
    · rintro s _
      refine Evt.succ (Evt.all fun k => ?_)
      show slices_IndexFunc_Delivery.l0 (k + 1) l id (l.length : Int) (n : Int) = _
      rcases he with ⟨h1, h2, h3⟩ | ⟨h1, h2⟩
      · simp only [slices_IndexFunc_Delivery.l0, rd_del, impl_deliveryAt_1.f, Option.bind_some, h2, beq_self_eq_true]
        rw [if_pos (by omega), if_pos (by omega), if_pos (by omega), if_pos trivial, h3]
      · simp only [slices_IndexFunc_Delivery.l0]
        rw [if_neg (by omega), h2]
  exact lp.mono fun k hk => by simp only [impl_deliveryAt.f, hk, Option.bind_some]
theorem first_or (l : List S84) (id : Int) : ∀ m, m ≤ l.length → (∃ n, n < m ∧ (l.getD n z84).f0 = id ∧ ∀ i, i < n → (l.getD i z84).f0 ≠ id) ∨ ∀ i, i < m → (l.getD i z84).f0 ≠ id
  | 0, _ => .inr (fun i hi => by omega)
  | m + 1, hm => by
    rcases first_or l id m (by omega) with ⟨n, h1, h2, h3⟩ | h
    · exact .inl ⟨n, by omega, h2, h3⟩
    · by_cases c : (l.getD m z84).f0 = id
      · exact .inl ⟨m, by omega, c, h⟩
      · refine .inr (fun i hi => ?_)
        by_cases e : i = m
        · subst e; exact c
        · exact h i (by omega)
def putD (l : List S84) (id t : Int) (n : Nat) : List S84 := l.take n ++ [⟨id, 1, 0, t⟩] ++ l.drop n
def addV (l : List S84) : List S84 × Bool := if queueB l = true then (l, true) else ([], false)
theorem putD_len (l : List S84) (id t : Int) (n : Nat) (hn : n ≤ l.length) : (putD l id t n).length = l.length + 1 := by
  simp only [putD, List.length_append, List.length_take, List.length_drop, List.length_singleton]
  omega
theorem place_of (l : List S84) (id : Int) : ∀ m, m ≤ l.length → ∃ n, n ≤ m ∧ (∀ i, i < n → (l.getD i z84).f0 < id) ∧ (n < m → ¬ (l.getD n z84).f0 < id)
  | 0, _ => ⟨0, Nat.le_refl _, fun i hi => by omega, fun h => by omega⟩
  | m + 1, hm => by
    obtain ⟨n, h1, h2, h3⟩ := place_of l id m (by omega)
    by_cases e : n < m
    · exact ⟨n, by omega, h2, fun _ => h3 e⟩
    · obtain rfl : n = m := by omega
      by_cases c : (l.getD n z84).f0 < id
      · refine ⟨n + 1, Nat.le_refl _, fun i hi => ?_, fun h => by omega⟩
        by_cases q : i = n
        · subst q; exact c
        · exact h2 i (by omega)
      · exact ⟨n, by omega, h2, fun _ => c⟩
theorem addSpec_ev (l : List S84) (id t : Int) (hl : l.length ≤ 1048576) (n : Nat) (hn : n ≤ l.length) (h2 : ∀ i, i < n → (l.getD i z84).f0 < id) (h3 : n < l.length → ¬ (l.getD n z84).f0 < id) : Evt fun k => spec_AddDelivery.l0 k l id t 0 = some (addV (putD l id t n)) := by
  have j2 : Evt fun k => spec_AddDelivery.j2 k l id t (n : Int) = some (addV (putD l id t n)) := by
    have hp := putD_len l id t n hn
    refine Evt.succ ((l19Good_ev (putD l id t n) (by omega)).mono fun k hk => ?_)
    have e1 : ((l.take n).length + 1 < 4398046511104) := by rw [List.length_take]; omega
    have e2 : ((l.take n ++ [(⟨id, 1, 0, t⟩ : S84)]).length + (l.drop n).length < 4398046511104) := by
      rw [List.length_append, List.length_take, List.length_drop, List.length_singleton]; omega
    have e3 : (l.take n).length ≤ 1000000000 := by rw [List.length_take]; omega
    simp only [spec_AddDelivery.j2]
    rw [if_pos (by omega), if_pos (by omega), Int.toNat_natCast, ownD _ e3, Option.bind_some, Option.bind_some, List.length_singleton, if_pos e1, Option.bind_some, Option.bind_some, if_pos e2, Option.bind_some]
    show (spec_l19Good.f k (putD l id t n)).bind _ = _
    rw [hk, Option.bind_some]
    unfold addV
    split <;> rfl
  refine evt_loop0 n (fun k (_ : Unit) i => spec_AddDelivery.l0 k l id t i) _ (fun _ _ => True) ?_ ?_ () trivial
  · rintro i s hi _
    have c := h2 i hi
    refine .inl ⟨(), trivial, 1, Evt.all fun k => ?_⟩
    show spec_AddDelivery.l0 (k + 1) l id t (i : Int) = _
    simp only [spec_AddDelivery.l0, rd_del]
    rw [if_pos (by omega), if_pos (by omega), if_pos c, wrap_id (by omega) (by omega)]
  · rintro s _
    refine Evt.succ (j2.mono fun k hk => ?_)
    show spec_AddDelivery.l0 (k + 1) l id t (n : Int) = _
    simp only [spec_AddDelivery.l0, rd_del]
    by_cases e : n < l.length
    · rw [if_pos (by omega), if_pos (by omega), if_neg (h3 e)]; exact hk
    · rw [if_neg (by omega)]; exact hk
theorem queue_pw {l : List S84} (h : queueB l = true) : l.Pairwise (fun a b => a.f0 < b.f0) := by
  rw [List.pairwise_iff_getElem]
  intro i j hi hj hij
  have := queue_mono h i (j - i - 1) (by omega)
  rw [show i + (j - i - 1 + 1) = j from by omega, getD_lt _ _ _ hi, getD_lt _ _ _ hj] at this
  exact this
theorem mem_getD {l : List S84} {x : S84} (h : x ∈ l) : ∃ i, i < l.length ∧ l.getD i z84 = x := by
  obtain ⟨i, hi, e⟩ := List.mem_iff_getElem.1 h
  exact ⟨i, hi, by rw [getD_lt _ _ _ hi]; exact e⟩
theorem sortD_put {l : List S84} (hq : queueB l = true) (id t : Int) (n : Nat) (hn : n ≤ l.length) (h2 : ∀ i, i < n → (l.getD i z84).f0 < id) (h3 : n < l.length → ¬ (l.getD n z84).f0 < id) (hne : ∀ i, i < l.length → (l.getD i z84).f0 ≠ id) :
    sortD (l ++ [⟨id, 1, 0, t⟩]) = putD l id t n := by
  obtain ⟨hp, ho⟩ := sortD_perm (l ++ [(⟨id, 1, 0, t⟩ : S84)])
  have hpw := queue_pw hq
  have hsplit : l.take n ++ l.drop n = l := List.take_append_drop n l
  have hp2 : (putD l id t n).Perm (l ++ [(⟨id, 1, 0, t⟩ : S84)]) := by
    unfold putD
    rw [List.append_assoc, List.singleton_append]
    refine List.perm_middle.trans ?_
    rw [hsplit]
    exact (List.perm_append_singleton _ _).symm
  have lt1 : ∀ a, a ∈ l.take n → a.f0 < id := by
    intro a ha
    obtain ⟨i, hi, e⟩ := List.mem_iff_getElem.1 ha
    rw [List.length_take] at hi
    rw [List.getElem_take] at e
    have := h2 i (by omega)
    rw [getD_lt _ _ _ (by omega), e] at this
    exact this
  have gt1 : ∀ a, a ∈ l.drop n → id < a.f0 := by
    intro a ha
    obtain ⟨i, hi, e⟩ := List.mem_iff_getElem.1 ha
    rw [List.length_drop] at hi
    rw [List.getElem_drop] at e
    have g0 := h3 (by omega)
    have g1 := hne n (by omega)
    have g2 : (l.getD n z84).f0 ≤ (l.getD (n + i) z84).f0 := by
      rcases Nat.eq_zero_or_pos i with q | q
      · subst q; exact Int.le_refl _
      · have := queue_mono hq n (i - 1) (by omega)
        rw [show n + (i - 1 + 1) = n + i from by omega] at this
        omega
    rw [getD_lt l z84 (n + i) (by omega), e] at g2
    omega
  have pw2 : (putD l id t n).Pairwise (fun a b => a.f0 ≤ b.f0) := by
    unfold putD
    rw [List.append_assoc, List.singleton_append, List.pairwise_append]
    refine ⟨(hpw.sublist (List.take_sublist _ _)).imp (fun h => Int.le_of_lt h), ?_, ?_⟩
    · rw [List.pairwise_cons]
      exact ⟨fun a ha => Int.le_of_lt (gt1 a ha), (hpw.sublist (List.drop_sublist _ _)).imp (fun h => Int.le_of_lt h)⟩
    · intro a ha b hb
      have := lt1 a ha
      rcases List.mem_cons.1 hb with rfl | hb
      · exact Int.le_of_lt this
      · have := gt1 b hb; omega
  have pw1 : (sortD (l ++ [(⟨id, 1, 0, t⟩ : S84)])).Pairwise (fun a b => a.f0 ≤ b.f0) := by
    have hlen := hp.length_eq
    rw [List.pairwise_iff_getElem]
    intro i j hi hj hij
    have := ho i j hij (by omega)
    rw [getD_lt _ _ _ hi, getD_lt _ _ _ hj] at this
    omega
  refine List.Perm.eq_of_pairwise (le := fun a b : S84 => a.f0 ≤ b.f0) ?_ pw1 pw2 (hp.trans hp2.symm)
  intro a b ha hb h1 h2'
  have ma := hp.mem_iff.1 ha
  have mb := hp2.mem_iff.1 hb
  have e : a.f0 = b.f0 := Int.le_antisymm h1 h2'
  rcases List.mem_append.1 ma with ma | ma
  · obtain ⟨i, hi, ei⟩ := mem_getD ma
    rcases List.mem_append.1 mb with mb | mb
    · obtain ⟨j, hj, ej⟩ := mem_getD mb
      have := queue_one hq hi hj (by rw [ei, ej]; exact e)
      rw [← ei, ← ej, this]
    · rw [List.mem_singleton] at mb
      exact absurd (by rw [ei, e, mb]) (hne i hi)
  · rw [List.mem_singleton] at ma
    rcases List.mem_append.1 mb with mb | mb
    · obtain ⟨j, hj, ej⟩ := mem_getD mb
      exact absurd (by rw [ej, ← e, ma]) (hne j hj)
    · rw [List.mem_singleton] at mb
      rw [ma, mb]
theorem putD_taken {l : List S84} (id t : Int) (n : Nat) (hn : n < l.length) (he : (l.getD n z84).f0 = id) : queueB (putD l id t n) = false := by
  cases hq : queueB (putD l id t n) with
  | false => rfl
  | true =>
    have hp := putD_len l id t n (by omega)
    have m := queue_mono hq n 0 (by omega)
    have e1 : (putD l id t n).getD n z84 = ⟨id, 1, 0, t⟩ := by
      unfold putD
      rw [List.append_assoc, List.getD_eq_getElem?_getD, List.getElem?_append_right (by rw [List.length_take]; omega), List.length_take, show n - min n l.length = 0 from by omega]
      rfl
    have e2 : (putD l id t n).getD (n + (0 + 1)) z84 = l.getD n z84 := by
      unfold putD
      rw [List.getD_eq_getElem?_getD, List.getElem?_append_right (by rw [List.length_append, List.length_take, List.length_singleton]; omega), List.length_append, List.length_take, List.length_singleton, show n + (0 + 1) - (min n l.length + 1) = 0 from by omega, List.getElem?_drop, Nat.add_zero, List.getD_eq_getElem?_getD]
    rw [e1, e2, he] at m
    exact absurd m (Int.lt_irrefl _)
theorem pair_AddDelivery (l : List S84) (id t : Int) (hl : l.length ≤ 1048576) (_ : -9223372036854775808 ≤ id ∧ id ≤ 9223372036854775807) (_ : -9223372036854775808 ≤ t ∧ t ≤ 9223372036854775807) : ∃ v, (Evt fun k => impl_AddDelivery.f k l id t = some v) ∧ (Evt fun k => spec_AddDelivery.f k l id t = some v) ∧ v.1.length ≤ 1048576 := by
  have c1 := IsValidQueue_ev l (by omega)
  have c2 := l19Good_ev l (by omega)
  cases hc : queueB l with
  | false =>
    rw [hc] at c1 c2
    refine ⟨([], false), Evt.succ (c1.shift.mono fun k hk => ?_), Evt.succ (c2.shift.mono fun k hk => ?_), by simp⟩
    · simp [impl_AddDelivery.f, impl_AddDelivery.j0, hk]
    · simp [spec_AddDelivery.f, spec_AddDelivery.j0, hk]
  | true =>
    rw [hc] at c1 c2
    have h12 := queueB_len hc
    by_cases ht : 0 ≤ t ∧ t ≤ 50000
    · obtain ⟨n, hn, h2, h3⟩ := place_of l id l.length (Nat.le_refl _)
      have sp := addSpec_ev l id t hl n hn h2 h3
      have hp := putD_len l id t n hn
      have vl : (addV (putD l id t n)).1.length ≤ 1048576 := by
        unfold addV
        split
        · simp only; omega
        · simp
      refine ⟨addV (putD l id t n), ?_, Evt.succ ((c2.shift.and sp).mono fun k hk => ?_), vl⟩
      · rcases first_or l id l.length (Nat.le_refl _) with ⟨m, m1, m2, m3⟩ | h
        · have at_ := deliveryAt_ev l id hl m (by omega) m3 (m : Int) (.inl ⟨m1, m2, rfl⟩)
          have hnm : n = m := by
            rcases Nat.lt_trichotomy n m with q | q | q
            · have g := h3 (by omega)
              have := queue_mono hc n (m - n - 1) (by omega)
              rw [show n + (m - n - 1 + 1) = m from by omega] at this
              omega
            · exact q
            · have := h2 m q; omega
          subst hnm
          have ev : addV (putD l id t n) = ([], false) := by unfold addV; rw [putD_taken id t n m1 m2]; rfl
          rw [ev]
          refine Evt.succ ((c1.shift.and at_.shift).mono fun k hk => ?_)
          simp only [impl_AddDelivery.f, impl_AddDelivery.j0, hk.1, hk.2, Option.bind_some, if_true, isMinute_ok, decide_eq_true ht]
          rw [if_pos (decide_eq_true (by omega))]
        · have at_ := deliveryAt_ev l id hl l.length (Nat.le_refl _) h (-1) (.inr ⟨rfl, rfl⟩)
          have hs := sortD_put hc id t n hn h2 h3 h
          refine Evt.succ ((c1.shift.and (at_.shift.and (IsValidQueue_ev (putD l id t n) (by omega)))).mono fun k hk => ?_)
          have sf : slices_SortFunc_Delivery.f (l ++ [(⟨id, 1, 0, t⟩ : S84)]) = some (putD l id t n) := by
            unfold slices_SortFunc_Delivery.f
            rw [if_pos ⟨by rw [List.length_append, List.length_singleton]; omega, by rw [List.length_append, List.length_singleton]; omega⟩, hs]
          simp only [impl_AddDelivery.f, impl_AddDelivery.j0, hk.1, hk.2.1, Option.bind_some, if_true, isMinute_ok, decide_eq_true ht, cloneD l (by omega)]
          rw [if_neg (by simp), if_pos (by omega), sf, Option.bind_some, hk.2.2, Option.bind_some]
          unfold addV
          split <;> rfl
      · simp only [spec_AddDelivery.f, spec_AddDelivery.j0, hk.1, Option.bind_some, if_true, l19Minute_ok, decide_eq_true ht, Bool.not_true, Bool.false_eq_true, if_false]
        exact hk.2
    · refine ⟨([], false), Evt.succ (c1.shift.mono fun k hk => ?_), Evt.succ (c2.shift.mono fun k hk => ?_), by simp⟩
      · simp only [impl_AddDelivery.f, impl_AddDelivery.j0, hk, Option.bind_some, if_true, isMinute_ok, decide_eq_false ht, Bool.false_eq_true, if_false]
      · simp only [spec_AddDelivery.f, spec_AddDelivery.j0, hk, Option.bind_some, if_true, l19Minute_ok, decide_eq_false ht, Bool.not_false]
theorem FnExactAddDelivery : FnExactAddDeliveryPure := by
  intro l0 a1 a2 hm0 hw0 w1 w2
  have q0 := szDeliveryS_ok l0 1048576 (by omega) hm0
  by_cases hl0 : (1048576 - (l0.length : Int)) < 0
  · exact ⟨0, by unfold laws_FnExactAddDelivery.f; rw [q0, if_pos hl0, Option.bind_some, if_pos (by omega)]⟩
  rw [if_neg hl0] at q0
  have hn0 : l0.length ≤ 1048576 := by omega
  obtain ⟨⟨g0, g1⟩, hi, hs, hb⟩ := pair_AddDelivery (l0.map c_Delivery) a1 a2 (by rw [List.length_map]; exact hn0) (wf64 w1) (wf64 w2)
  simp only at hb
  have n0 : ¬ (1 + 4 * (l0.length : Int) < 0) := by omega
  have n1 : ¬ (1 + 4 * (g0.length : Int) < 0) := by omega
  obtain ⟨K, hK⟩ := ((hi).and ((hs).and ((toDeliveryS_ev l0 hn0).and ((eqDeliveryS_self (l0.map c_Delivery) (by rw [List.length_map]; omega)).and ((markDeliveryS_ev (l0.map c_Delivery) 1 (by omega) (by rw [List.length_map]; omega)).and ((eqDeliveryS_self g0 (by omega)).and ((markDeliveryS_ev g0 1 (by omega) (by omega)).and (heldDeliveryS_ev g0.length 1 (by omega) (by omega))))))))).at
  have e0 := fun j => (hK j).1
  have e1 := fun j => (hK j).2.1
  have e2 := fun j => (hK j).2.2.1
  have e3 := fun j => (hK j).2.2.2.1
  have e4 := fun j => (hK j).2.2.2.2.1
  have e5 := fun j => (hK j).2.2.2.2.2.1
  have e6 := fun j => (hK j).2.2.2.2.2.2.1
  have e7 := fun j => (hK j).2.2.2.2.2.2.2
  refine ⟨K + 6, ?_⟩
  simp only [laws_FnExactAddDelivery.f, q0, if_neg hl0, Option.bind_some, e0, e1, e2, e3, e4, e5, e6, e7, if_true]
  simp [laws_FnExactAddDelivery.j0, laws_FnExactAddDelivery.j1, laws_FnExactAddDelivery.j2, e0, e1, e2, e3, e4, e5, e6, e7, n0, n1]
end Go.Proofs.Ytppjagpjlcbhpaa.XFnExactAddDelivery.Pure
