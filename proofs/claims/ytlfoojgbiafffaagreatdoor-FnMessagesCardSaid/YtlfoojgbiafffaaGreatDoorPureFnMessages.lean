/-
  The pure statement of the law FnMessages: what its printed function answers is 'true' for every row of bytes. Conditions: the row's own bounds, as the statement lays them.
-/
import Derived.Lib.Split
import Derived.Lib.Join
import Derived.Lib.ItoaNum
import Derived.Lib.AtoiAll
import Derived.Lib.Case
import Derived.Test.YtlfoojgbiafffaaGreatDoorXFnMessagesx12
namespace Txt
open Go Go.Lib
/-! ### cut at a separator whose first byte does not stand ahead of it -/
theorem occ_no {c : UInt8} {t pre rest : List UInt8} (h : c ∉ pre) {j : Nat} (hj : j < pre.length) : occAt (pre ++ rest) (c :: t) j = false := by
  rcases Bool.eq_false_or_eq_true (occAt (pre ++ rest) (c :: t) j) with h1 | h1
  · have h2 := occAt_head rfl h1
    rw [List.getElem?_append_left hj] at h2
    exact absurd (List.mem_of_getElem? h2) h
  · exact h1
theorem occ_yes (pre sep rest : List UInt8) : occAt (pre ++ sep ++ rest) sep pre.length = true := by
  unfold occAt
  rw [List.append_assoc, List.drop_left]
  exact List.isPrefixOf_iff_prefix.2 (List.prefix_append _ _)
theorem index_at (pre rest : List UInt8) (c : UInt8) (t : List UInt8) (h : c ∉ pre) : index (pre ++ (c :: t) ++ rest) (c :: t) = pre.length :=
  index_first (by simp <;> omega) (occ_yes _ _ _) (fun j hj => by rw [List.append_assoc]; exact occ_no h hj)
theorem cut_at (pre rest : List UInt8) (c : UInt8) (t : List UInt8) (h : c ∉ pre) : cut (pre ++ (c :: t) ++ rest) (c :: t) = (pre, rest, true) := by
  unfold cut
  rw [index_at pre rest c t h, if_pos (by omega), Int.toNat_natCast]
  have e1 : (pre ++ (c :: t) ++ rest).take pre.length = pre := by rw [List.append_assoc, List.take_left]
  have e2 : (pre ++ (c :: t) ++ rest).drop (pre.length + (c :: t).length) = rest := by
    rw [← List.length_append, List.drop_left]
  rw [e1, e2]
theorem index_miss (s : List UInt8) (c : UInt8) (t : List UInt8) (h : c ∉ s) : index s (c :: t) = -1 :=
  index_none fun j _ => by
    rcases Bool.eq_false_or_eq_true (occAt s (c :: t) j) with h1 | h1
    · exact absurd (List.mem_of_getElem? (occAt_head rfl h1)) h
    · exact h1
/-! ### split at one byte -/
def splitOn (c : UInt8) : List UInt8 → List (List UInt8)
  | [] => [[]]
  | x :: r => if x = c then [] :: splitOn c r else
    match splitOn c r with
    | [] => [[x]]
    | p :: q => (x :: p) :: q
theorem splitOn_ne (c : UInt8) (s : List UInt8) : splitOn c s ≠ [] := by
  cases s with
  | nil => simp [splitOn]
  | cons x r =>
    unfold splitOn
    split
    · simp
    · split <;> simp
theorem splitOn_none (c : UInt8) : ∀ (s : List UInt8), c ∉ s → splitOn c s = [s]
  | [], _ => rfl
  | x :: r, h => by
    have h1 : x ≠ c := fun e => h (by simp [e])
    have h2 : c ∉ r := fun e => h (by simp [e])
    unfold splitOn
    rw [if_neg h1, splitOn_none c r h2]
theorem splitOn_at (c : UInt8) : ∀ (pre rest : List UInt8), c ∉ pre → splitOn c (pre ++ c :: rest) = pre :: splitOn c rest
  | [], rest, _ => by simp [splitOn]
  | x :: pre, rest, h => by
    have h1 : x ≠ c := fun e => h (by simp [e])
    have h2 : c ∉ pre := fun e => h (by simp [e])
    rw [List.cons_append, splitOn, if_neg h1, splitOn_at c pre rest h2]
theorem split_first (c : UInt8) (s : List UInt8) : c ∉ s ∨ ∃ pre rest, s = pre ++ c :: rest ∧ c ∉ pre := by
  induction s with
  | nil => left; simp
  | cons x r ih =>
    by_cases h : x = c
    · right; exact ⟨[], r, by simp [h], by simp⟩
    · rcases ih with h1 | ⟨pre, rest, rfl, h2⟩
      · left; simp [h1, Ne.symm h]
      · right; exact ⟨x :: pre, rest, rfl, by simp [h2, Ne.symm h]⟩
theorem splitK_count (c : UInt8) : ∀ (fuel : Nat) (s : List UInt8), s.length < fuel → splitK [c] 0 (countFrom [c] fuel s) s = splitOn c s
  | 0, s, h => by omega
  | fuel + 1, s, h => by
    unfold countFrom
    rcases split_first c s with h1 | ⟨pre, rest, rfl, h1⟩
    · rw [index_miss s c [] h1, if_pos (by rfl), splitOn_none c s h1]; rfl
    · have e := index_at pre rest c [] h1
      simp only [List.append_assoc, List.singleton_append] at e
      have e2 : (pre ++ c :: rest).drop (pre.length + 1) = rest := by
        rw [show pre ++ c :: rest = (pre ++ [c]) ++ rest by simp, show pre.length + 1 = (pre ++ [c]).length by simp, List.drop_left]
      have e3 : (pre ++ c :: rest).take pre.length = pre := by rw [List.take_left]
      have hn : ¬ (((pre.length : Nat) : Int) == -1) = true := by simp
      have ih := splitK_count c fuel rest (by simp at h; omega)
      rw [e, if_neg hn, Int.toNat_natCast, show ([c] : List UInt8).length = 1 from rfl, e2, Nat.add_comm 1, splitK, e, if_neg hn, Int.toNat_natCast, Nat.add_zero, e3, show ([c] : List UInt8).length = 1 from rfl, e2, ih, splitOn_at c pre rest h1]
theorem split_one (c : UInt8) (s : List UInt8) : split s [c] = splitOn c s := splitK_count c _ s (by omega)
/-! ### numerals -/
def dig (c : UInt8) : Bool := 48 ≤ c.toNat && c.toNat ≤ 57
theorem dig_of (d : Nat) (h : d < 10) : (UInt8.ofNat (48 + d)).toNat = 48 + d := by
  rw [UInt8.toNat_ofNat']; omega
theorem decDigits_dig (u : Nat) : ∀ c ∈ decDigits u, 48 ≤ c.toNat ∧ c.toNat ≤ 57 := by
  induction u using decDigits.induct with
  | case1 u h =>
    rw [decDigits, dif_pos h]
    intro c hc
    obtain rfl := List.mem_singleton.1 hc
    have := dig_of u h; omega
  | case2 u h ih =>
    rw [decDigits, dif_neg h]
    intro c hc
    rcases List.mem_append.1 hc with h1 | h1
    · exact ih c h1
    · obtain rfl := List.mem_singleton.1 h1
      rw [dig_of _ (by omega)]; omega
theorem decDigits_ne (u : Nat) : decDigits u ≠ [] := by
  rw [decDigits]; split <;> simp
/-- A numeral holds no sign that is no digit. -/
theorem not_mem_dec (u : Nat) (c : UInt8) (h : c.toNat < 48 ∨ 57 < c.toNat) : c ∉ decDigits u := fun hc => by
  have := decDigits_dig u c hc; omega
theorem itoa_nat {n : Int} (h : 0 ≤ n) : itoa n = decDigits n.toNat := by unfold itoa; rw [if_neg (by omega)]
theorem not_mem_itoa {n : Int} (h : 0 ≤ n) (c : UInt8) (hc : c.toNat < 48 ∨ 57 < c.toNat) : c ∉ itoa n := by rw [itoa_nat h]; exact not_mem_dec _ c hc
theorem decDigits_len (u : Nat) (k : Nat) (h : u < 10 ^ (k + 1)) : (decDigits u).length ≤ k + 1 := by
  induction k generalizing u with
  | zero => rw [decDigits, dif_pos (by omega)]; simp
  | succ k ih =>
    rw [decDigits]
    split
    · simp
    · have := ih (u / 10) (by rw [Nat.pow_succ] at h; omega)
      simp; omega
theorem parse_dec (u : Nat) (r : List UInt8) (hu : u < 1000000000000000000) : parseUint10 0 (decDigits u ++ r) = parseUint10 u r := by
  induction u using decDigits.induct generalizing r with
  | case1 u h =>
    rw [decDigits, dif_pos h, List.singleton_append, parseUint10, dig_of u h, if_pos (by omega), if_neg (by omega), if_neg (by omega)]
    congr 1; omega
  | case2 u h ih =>
    rw [decDigits, dif_neg h, List.append_assoc, ih _ (by omega), List.singleton_append, parseUint10, dig_of _ (by omega), if_pos (by omega), if_neg (by omega), if_neg (by omega)]
    congr 1; omega
/-- strconv.Atoi's answer at a numeral. -/
theorem atoi_itoa {n : Int} (h0 : 0 ≤ n) (h1 : n < 1000000000000000000) : atoiAll (itoa n) = .ok n := by
  obtain ⟨u, rfl⟩ := Int.eq_ofNat_of_zero_le h0
  rw [itoa_nat h0, Int.toNat_natCast]
  have hp := parse_dec u [] (by omega)
  rw [List.append_nil] at hp
  have hd := decDigits_dig u
  cases hl : decDigits u with
  | nil => exact absurd hl (decDigits_ne u)
  | cons c r =>
    rw [hl] at hp hd
    have hc := hd c (by simp)
    unfold atoiAll
    have hm : parseMag (c :: r) = .ok u := by unfold parseMag; rw [if_neg (by simp), hp]; rfl
    simp only
    rw [if_neg (by omega), hm]
    simp only
    rw [if_neg (by omega), if_neg (by omega), if_neg (by omega)]
end Txt

namespace Go.Proofs.YtlfoojgbiafffaaGreatDoor.XFnMessages
open Go.RowKit Go.Proofs.YtlfoojgbiafffaaGreatDoorW.PrintWords Go.Proofs.YtlfoojgbiafffaaGreatDoorW.PrintLast Go.Proofs.YtlfoojgbiafffaaGreatDoorW.PrintMore
open Go.Proofs.YtlfoojgbiafffaaGreatDoor.Strs
theorem wrap_id {x : Int} (h0 : -9223372036854775808 ≤ x) (h1 : x ≤ 9223372036854775807) : wrap64 x = x := by unfold wrap64; omega
theorem wf64 {x : Int} (h : (Lit.int .i64 x).wf = true) : -9223372036854775808 ≤ x ∧ x ≤ 9223372036854775807 := by
  simpa [Lit.wf, IntKind.min, IntKind.max, IntKind.signed, IntKind.bits] using h
theorem rd_nat (xs : List Int) (i : Nat) : rd xs (i : Int) = xs.getD i 0 := by simp [rd]
theorem for_loop {σ ρ : Type} (K n : Nat) (L : Nat → σ → Int → Option ρ) (v : ρ) (Inv : Nat → σ → Prop)
    (step : ∀ k i s, K ≤ k → i < n → Inv i s → (∃ s', Inv (i + 1) s' ∧ L (k + 1) s (i : Int) = L k s' ((i : Int) + 1)) ∨ L (k + 1) s (i : Int) = some v)
    (fin : ∀ k s, K ≤ k → Inv n s → L (k + 1) s (n : Int) = some v) :
    ∀ k s, Inv 0 s → n + K < k → L k s 0 = some v := by
  have key : ∀ d k i s, i + d = n → Inv i s → d + K < k → L k s (i : Int) = some v := by
    intro d
    induction d with
    | zero =>
      intro k i s hi h hk
      obtain ⟨k, rfl⟩ : ∃ m, k = m + 1 := ⟨k - 1, by omega⟩
      obtain rfl : i = n := by omega
      exact fin k s (by omega) h
    | succ d ih =>
      intro k i s hi h hk
      obtain ⟨k, rfl⟩ : ∃ m, k = m + 1 := ⟨k - 1, by omega⟩
      rcases step k i s (by omega) (by omega) h with ⟨s', h', e⟩ | e
      · rw [e]
        have := ih k (i + 1) s' (by omega) h' (by omega)
        rw [show ((i + 1 : Nat) : Int) = (i : Int) + 1 from by omega] at this
        exact this
      · exact e
  intro k s h hk
  exact key n k 0 s (by omega) h hk
theorem getD_drop {α : Type} (xs : List α) (z : α) (i : Nat) (h : i < xs.length) : xs.drop i = xs.getD i z :: xs.drop (i + 1) := by
  rw [List.drop_eq_getElem_cons h, List.getD_eq_getElem?_getD, List.getElem?_eq_getElem h]; rfl
theorem all_loop {α : Type} (K : Nat) (xs : List α) (z : α) (p : α → Bool) (L : Nat → Int → Option Bool)
    (step : ∀ k i, K ≤ k → i < xs.length → L (k + 1) (i : Int) = if p (xs.getD i z) = true then L k ((i : Int) + 1) else some false)
    (fin : ∀ k, K ≤ k → L (k + 1) (xs.length : Int) = some true) : ∀ k, xs.length + K < k → L k 0 = some (xs.all p) := by
  intro k hk
  refine for_loop K xs.length (fun k (_ : Unit) i => L k i) (xs.all p) (fun i _ => (xs.drop i).all p = xs.all p) ?_ ?_ k () (by simp) hk
  · intro k i s hK hi h
    rw [getD_drop xs z i hi, List.all_cons] at h
    by_cases hp : p (xs.getD i z) = true
    · refine .inl ⟨(), by rw [hp, Bool.true_and] at h; exact h, ?_⟩
      show L (k + 1) (i : Int) = _
      rw [step k i hK hi, if_pos hp]
    · refine .inr ?_
      show L (k + 1) (i : Int) = _
      rw [step k i hK hi, if_neg hp, ← h, (Bool.eq_false_iff.2 hp : p (xs.getD i z) = false), Bool.false_and]
  · intro k s hK h
    rw [List.drop_of_length_le (Nat.le_refl _)] at h
    show L (k + 1) (xs.length : Int) = _
    rw [fin k hK, ← h]; rfl
theorem fold_loop {α σ ρ : Type} (K : Nat) (xs : List α) (z : α) (g : σ → α → σ) (out : σ → ρ) (I : Nat → σ → Prop) (L : Nat → σ → Int → Option ρ)
    (step : ∀ k i s, K ≤ k → i < xs.length → I i s → I (i + 1) (g s (xs.getD i z)) ∧ L (k + 1) s (i : Int) = L k (g s (xs.getD i z)) ((i : Int) + 1))
    (fin : ∀ k s, K ≤ k → I xs.length s → L (k + 1) s (xs.length : Int) = some (out s)) : ∀ k s, I 0 s → xs.length + K < k → L k s 0 = some (out (xs.foldl g s)) := by
  intro k s h0 hk
  refine for_loop K xs.length L (out (xs.foldl g s)) (fun i s' => I i s' ∧ (xs.drop i).foldl g s' = xs.foldl g s) ?_ ?_ k s ⟨h0, by simp⟩ hk
  · rintro k i s' hK hi ⟨h, e⟩
    rw [getD_drop xs z i hi, List.foldl_cons] at e
    obtain ⟨h1, h2⟩ := step k i s' hK hi h
    exact .inl ⟨_, ⟨h1, e⟩, h2⟩
  · rintro k s' hK ⟨h, e⟩
    rw [List.drop_of_length_le (Nat.le_refl _)] at e
    rw [fin k s' hK h, ← e]; rfl

def Evt (P : Nat → Prop) : Prop := ∃ K, ∀ k, K ≤ k → P k
theorem Evt.all {P : Nat → Prop} (h : ∀ k, P k) : Evt P := ⟨0, fun k _ => h k⟩
theorem Evt.from {P : Nat → Prop} (K : Nat) (h : ∀ k, K ≤ k → P k) : Evt P := ⟨K, h⟩
theorem Evt.above {P : Nat → Prop} (K : Nat) (h : ∀ k, K < k → P k) : Evt P := ⟨K + 1, fun k hk => h k hk⟩
theorem Evt.and {P Q : Nat → Prop} (h : Evt P) (g : Evt Q) : Evt fun k => P k ∧ Q k := by
  obtain ⟨K, h⟩ := h
  obtain ⟨M, g⟩ := g
  exact ⟨K + M, fun k hk => ⟨h k (by omega), g k (by omega)⟩⟩
theorem Evt.mono {P Q : Nat → Prop} (h : Evt P) (g : ∀ k, P k → Q k) : Evt Q := by
  obtain ⟨K, h⟩ := h
  exact ⟨K, fun k hk => g k (h k hk)⟩
theorem Evt.succ {Q : Nat → Prop} (h : Evt fun k => Q (k + 1)) : Evt Q := by
  obtain ⟨K, h⟩ := h
  refine ⟨K + 1, fun k hk => ?_⟩
  obtain ⟨m, rfl⟩ : ∃ m, k = m + 1 := ⟨k - 1, by omega⟩
  exact h m (by omega)
theorem Evt.add {Q : Nat → Prop} (c : Nat) (h : Evt fun k => Q (k + c)) : Evt Q := by
  obtain ⟨K, h⟩ := h
  refine ⟨K + c, fun k hk => ?_⟩
  obtain ⟨m, rfl⟩ : ∃ m, k = m + c := ⟨k - c, by omega⟩
  exact h m (by omega)
theorem Evt.shift {Q : Nat → Prop} (h : Evt Q) : Evt fun k => Q (k + 1) := by
  obtain ⟨K, h⟩ := h
  exact ⟨K, fun k hk => h _ (by omega)⟩
theorem Evt.at {P : Nat → Prop} (h : Evt P) : ∃ K, ∀ j, P (K + j) := by
  obtain ⟨K, h⟩ := h
  exact ⟨K, fun j => h _ (by omega)⟩
theorem Evt.pos : Evt fun k => ∃ m, k = m + 1 := ⟨1, fun k hk => ⟨k - 1, by omega⟩⟩
theorem evt_loop {σ ρ : Type} (n : Nat) (L : Nat → σ → Int → Option ρ) (v : ρ) (Inv : Nat → σ → Prop)
    (step : ∀ i s, i < n → Inv i s → (∃ s', Inv (i + 1) s' ∧ ∃ c, Evt fun k => L (k + c) s (i : Int) = L k s' ((i : Int) + 1)) ∨ Evt fun k => L k s (i : Int) = some v)
    (fin : ∀ s, Inv n s → Evt fun k => L k s (n : Int) = some v) :
    ∀ i s, i ≤ n → Inv i s → Evt fun k => L k s (i : Int) = some v := by
  have key : ∀ d i s, i + d = n → Inv i s → Evt fun k => L k s (i : Int) = some v := by
    intro d
    induction d with
    | zero =>
      intro i s hi h
      obtain rfl : i = n := by omega
      exact fin s h
    | succ d ih =>
      intro i s hi h
      rcases step i s (by omega) h with ⟨s', h', c, e⟩ | e
      · have h2 := ih (i + 1) s' (by omega) h'
        rw [show ((i + 1 : Nat) : Int) = (i : Int) + 1 from by omega] at h2
        exact Evt.add c ((e.and h2).mono fun k hk => hk.1.trans hk.2)
      · exact e
  intro i s hi h
  exact key (n - i) i s (by omega) h
theorem evt_loop0 {σ ρ : Type} (n : Nat) (L : Nat → σ → Int → Option ρ) (v : ρ) (Inv : Nat → σ → Prop)
    (step : ∀ i s, i < n → Inv i s → (∃ s', Inv (i + 1) s' ∧ ∃ c, Evt fun k => L (k + c) s (i : Int) = L k s' ((i : Int) + 1)) ∨ Evt fun k => L k s (i : Int) = some v)
    (fin : ∀ s, Inv n s → Evt fun k => L k s (n : Int) = some v) (s : σ) (h0 : Inv 0 s) : Evt fun k => L k s 0 = some v :=
  evt_loop n L v Inv step fin 0 s (Nat.zero_le _) h0
theorem getD_lt {α : Type} (xs : List α) (z : α) (i : Nat) (h : i < xs.length) : xs.getD i z = xs[i] := by
  rw [List.getD_eq_getElem?_getD, List.getElem?_eq_getElem h]; rfl
theorem getD_set_self {α : Type} (xs : List α) (z v : α) (i : Nat) (h : i < xs.length) : (xs.set i v).getD i z = v := by
  rw [List.getD_eq_getElem?_getD, List.getElem?_set_self h]; rfl
theorem getD_set_ne {α : Type} (xs : List α) (z v : α) (i j : Nat) (h : i ≠ j) : (xs.set i v).getD j z = xs.getD j z := by
  rw [List.getD_eq_getElem?_getD, List.getElem?_set_ne h, List.getD_eq_getElem?_getD]
theorem getD_map {α β : Type} (f : α → β) (xs : List α) (z : α) (y : β) (i : Nat) (h : i < xs.length) : (xs.map f).getD i y = f (xs.getD i z) := by
  rw [getD_lt _ _ _ (by simpa using h), getD_lt _ _ _ h, List.getElem_map]
theorem list_ext_getD {α : Type} (xs ys : List α) (z : α) (h : xs.length = ys.length) (e : ∀ j, j < xs.length → xs.getD j z = ys.getD j z) : xs = ys := by
  apply List.ext_getElem h
  intro j h1 h2
  have := e j h1
  rwa [getD_lt _ _ _ h1, getD_lt _ _ _ h2] at this

theorem evt_loop_ex {σ ρ : Type} (n : Nat) (L : Nat → σ → Int → Option ρ) (R : ρ → Prop) (Inv : Nat → σ → Prop)
    (step : ∀ i s, i < n → Inv i s → (∃ s', Inv (i + 1) s' ∧ ∃ c, Evt fun k => L (k + c) s (i : Int) = L k s' ((i : Int) + 1)) ∨ ∃ v, R v ∧ Evt fun k => L k s (i : Int) = some v)
    (fin : ∀ s, Inv n s → ∃ v, R v ∧ Evt fun k => L k s (n : Int) = some v) (s : σ) (h0 : Inv 0 s) : ∃ v, R v ∧ Evt fun k => L k s 0 = some v := by
  have key : ∀ d i s, i + d = n → Inv i s → ∃ v, R v ∧ Evt fun k => L k s (i : Int) = some v := by
    intro d
    induction d with
    | zero =>
      intro i s hi h
      obtain rfl : i = n := by omega
      exact fin s h
    | succ d ih =>
      intro i s hi h
      rcases step i s (by omega) h with ⟨s', h', c, e⟩ | e
      · obtain ⟨v, hv, h2⟩ := ih (i + 1) s' (by omega) h'
        rw [show ((i + 1 : Nat) : Int) = (i : Int) + 1 from by omega] at h2
        exact ⟨v, hv, Evt.add c ((e.and h2).mono fun k hk => hk.1.trans hk.2)⟩
      · exact e
  exact key n 0 s (by omega) h0

theorem u64_range (x : Int) : 0 ≤ IntKind.u64.wrap x ∧ IntKind.u64.wrap x ≤ 18446744073709551615 := by
  simp [IntKind.wrap, IntKind.signed, IntKind.bits]; omega
theorem and255 (x : Int) : 0 ≤ wrap64 (Go.bits .and .u64 (IntKind.u64.wrap x / 1099511627776) 255) ∧ wrap64 (Go.bits .and .u64 (IntKind.u64.wrap x / 1099511627776) 255) ≤ 255 := by
  obtain ⟨h0, h1⟩ := u64_range x
  obtain ⟨y, hy⟩ : ∃ y, y = IntKind.u64.wrap x / 1099511627776 := ⟨_, rfl⟩
  rw [← hy]
  have h := bits_and_u64_nat y.toNat 255 (by omega) (by omega)
  have e : ((y.toNat : Nat) : Int) = y := by omega
  have h2 : bits BinOp.and IntKind.u64 y 255 = ((y.toNat &&& 255 : Nat) : Int) := by rw [← e]; exact h
  have h3 : y.toNat &&& 255 ≤ 255 := Nat.and_le_right
  rw [show Go.bits .and .u64 y 255 = bits BinOp.and IntKind.u64 y 255 from rfl, h2, wrap_id (by omega) (by omega)]
  omega
theorem next_ok (l : List Int) (hb : ∀ x ∈ l, 0 ≤ x ∧ x ≤ 255) (p s : Int) (h0 : 0 ≤ p) (h1 : p ≤ 4611686018427387904) : ∃ v s', spec_l1Cur_next.f l p s = some (v, p + 1, s') ∧ 0 ≤ v ∧ v ≤ 255 := by
  unfold spec_l1Cur_next.f
  have e : wrap64 (p + 1) = p + 1 := wrap_id (by omega) (by omega)
  by_cases c : p < (l.length : Int)
  · have hm : rd l p ∈ l := by
      have : rd l p = l.getD p.toNat 0 := by simp [rd]
      rw [this, List.getD_eq_getElem?_getD, List.getElem?_eq_getElem (by omega), Option.getD_some]
      exact List.getElem_mem _
    obtain ⟨b0, b1⟩ := hb _ hm
    rw [if_pos c, if_pos h0, e, if_pos (by omega)]
    exact ⟨_, _, rfl, by rw [wrap_id (by omega) (by omega)]; exact ⟨b0, b1⟩⟩
  · rw [if_neg c, e, if_neg (by omega)]
    exact ⟨_, _, rfl, and255 _⟩
theorem tmod_range (x a : Int) (h0 : 0 ≤ x) (ha : 1 ≤ a) : 0 ≤ Int.tmod x a ∧ Int.tmod x a < a := ⟨Int.tmod_nonneg a h0, Int.tmod_lt_of_pos x (by omega)⟩
theorem pick_ok (l : List Int) (hb : ∀ x ∈ l, 0 ≤ x ∧ x ≤ 255) (p s a : Int) (h0 : 0 ≤ p) (h1 : p ≤ 4611686018427387000) (ha : 1 ≤ a) :
    ∃ v p' s', spec_l1Cur_pick.f l p s a = some (v, p', s') ∧ p ≤ p' ∧ p' ≤ p + 2 ∧ 0 ≤ v ∧ v < a := by
  unfold spec_l1Cur_pick.f
  by_cases c : a ≤ 1
  · rw [if_pos c]; exact ⟨0, p, s, rfl, by omega, by omega, by omega, by omega⟩
  · obtain ⟨v, s1, e1, v0, v1⟩ := next_ok l hb p s h0 (by omega)
    rw [if_neg c, e1, Option.bind_some]
    by_cases c2 : a > 200
    · obtain ⟨u, s2, e2, u0, u1⟩ := next_ok l hb (p + 1) s1 (by omega) (by omega)
      rw [if_pos c2]; dsimp only; rw [e2, Option.bind_some, if_neg (by omega)]
      have q : 0 ≤ wrap64 (wrap64 (v * 256) + u) := by rw [wrap_id (x := v * 256) (by omega) (by omega), wrap_id (by omega) (by omega)]; omega
      exact ⟨_, _, _, rfl, by dsimp only; omega, by dsimp only; omega, tmod_range _ a q ha⟩
    · rw [if_neg c2, if_neg (by omega)]
      exact ⟨_, _, _, rfl, by dsimp only; omega, by dsimp only; omega, tmod_range _ a v0 ha⟩
theorem one_ok (l : List Int) (hb : ∀ x ∈ l, 0 ≤ x ∧ x ≤ 255) (p s a : Int) (h0 : 0 ≤ p) (h1 : p ≤ 4611686018427387000) (ha : 1 ≤ a) :
    ∃ b p' s', spec_l1Cur_one.f l p s a = some (b, p', s') ∧ p ≤ p' ∧ p' ≤ p + 2 := by
  obtain ⟨v, p', s', e, q0, q1, _, _⟩ := pick_ok l hb p s a h0 h1 ha
  unfold spec_l1Cur_one.f
  rw [e]; exact ⟨_, _, _, rfl, q0, q1⟩
theorem among_ok (l : List Int) (hb : ∀ x ∈ l, 0 ≤ x ∧ x ≤ 255) (p s : Int) (h0 : 0 ≤ p) (h1 : p ≤ 4611686018427387000) (xs : List Int) (hx : 1 ≤ xs.length) :
    ∃ v p' s', spec_l1Cur_among.f l p s xs = some (v, p', s') ∧ p ≤ p' ∧ p' ≤ p + 2 ∧ v ∈ xs := by
  obtain ⟨v, p', s', e, q0, q1, v0, v1⟩ := pick_ok l hb p s (xs.length : Int) h0 h1 (by omega)
  unfold spec_l1Cur_among.f
  rw [e, Option.bind_some, if_pos v0, if_pos v1]
  refine ⟨_, _, _, rfl, q0, q1, ?_⟩
  have : rd xs v = xs.getD v.toNat 0 := by simp [rd]
  dsimp only
  rw [this, List.getD_eq_getElem?_getD, List.getElem?_eq_getElem (by omega), Option.getD_some]
  exact List.getElem_mem _

theorem bytes_of (l : List Int) (h : ∀ x ∈ l, (Lit.int .u8 x).wf = true) : ∀ x ∈ l, 0 ≤ x ∧ x ≤ 255 := by
  intro x hx
  have := h x hx
  simpa [Lit.wf, IntKind.min, IntKind.max, IntKind.signed, IntKind.bits] using this

theorem l1In_ok (a b c : Int) : spec_l1In.f a b c = some (decide (b ≤ a ∧ a ≤ c)) := by
  unfold spec_l1In.f
  split <;> simp <;> omega

theorem within_ok (a b c : Int) : impl_within.f a b c = some (decide (b ≤ a ∧ a ≤ c)) := by
  unfold impl_within.f
  split <;> simp <;> omega

/-! ### the two writings of a warning -/
def V (a0 a1 a2 a3 a4 a5 : Int) : Prop := (1 ≤ a0 ∧ a0 ≤ 999) ∧ (1 ≤ a1 ∧ a1 ≤ 5) ∧ (1 ≤ a2 ∧ a2 ≤ 3) ∧ (1 ≤ a3 ∧ a3 ≤ 9) ∧ (1 ≤ a5 ∧ a5 ≤ 240) ∧ (0 ≤ a4 ∧ a4 ≤ a5 - 1)
instance (a0 a1 a2 a3 a4 a5 : Int) : Decidable (V a0 a1 a2 a3 a4 a5) := by unfold V; infer_instance
theorem good_ok (a0 a1 a2 a3 a4 a5 : Int) : spec_l14Good.f a0 a1 a2 a3 a4 a5 = some (decide (V a0 a1 a2 a3 a4 a5)) := by
  unfold spec_l14Good.f V
  simp only [l1In_ok, Option.bind_some, decide_eq_true_eq]
  by_cases h0 : 1 ≤ a0 ∧ a0 ≤ 999
  · rw [if_pos h0]
    by_cases h1 : 1 ≤ a1 ∧ a1 ≤ 5
    · rw [if_pos h1]
      by_cases h2 : 1 ≤ a2 ∧ a2 ≤ 3
      · rw [if_pos h2]
        by_cases h3 : 1 ≤ a3 ∧ a3 ≤ 9
        · rw [if_pos h3]
          by_cases h4 : 1 ≤ a5 ∧ a5 ≤ 240
          · rw [if_pos h4, wrap_id (by omega) (by omega)]; simp [h0, h1, h2, h3, h4]
          · rw [if_neg h4]; simp [h4]
        · rw [if_neg h3]; simp [h3]
      · rw [if_neg h2]; simp [h2]
    · rw [if_neg h1]; simp [h1]
  · rw [if_neg h0]; simp [h0]
theorem valid_ok (a0 a1 a2 a3 a4 a5 : Int) : impl_IsValidWarning.f a0 a1 a2 a3 a4 a5 = some (decide (V a0 a1 a2 a3 a4 a5)) := by
  unfold impl_IsValidWarning.f V
  simp only [within_ok, Option.bind_some, decide_eq_true_eq]
  by_cases h0 : 1 ≤ a0 ∧ a0 ≤ 999
  · rw [if_pos h0]
    by_cases h1 : 1 ≤ a1 ∧ a1 ≤ 5
    · rw [if_pos h1]
      by_cases h2 : 1 ≤ a2 ∧ a2 ≤ 3
      · rw [if_pos h2]
        by_cases h3 : 1 ≤ a3 ∧ a3 ≤ 9
        · rw [if_pos h3]
          by_cases h4 : a4 ≥ 0
          · rw [if_pos h4]
            by_cases h5 : a4 < a5
            · rw [if_pos h5]; exact congrArg some (decide_eq_decide.2 (by omega))
            · rw [if_neg h5]; exact congrArg some (decide_eq_false (by omega)).symm
          · rw [if_neg h4]; exact congrArg some (decide_eq_false (by omega)).symm
        · rw [if_neg h3]; exact congrArg some (decide_eq_false (by omega)).symm
      · rw [if_neg h2]; exact congrArg some (decide_eq_false (by omega)).symm
    · rw [if_neg h1]; exact congrArg some (decide_eq_false (by omega)).symm
  · rw [if_neg h0]; exact congrArg some (decide_eq_false (by omega)).symm
theorem B_ext {a b : ByteArray} (h : a.data.toList = b.data.toList) : a = b := by
  obtain ⟨a⟩ := a
  obtain ⟨b⟩ := b
  exact congrArg ByteArray.mk (Array.toList_inj.1 h)
theorem B_toList (l : List UInt8) : (B l).toList = l := by
  rw [Lib.toList_data]; rfl
theorem B_data (l : List UInt8) : (B l).data.toList = l := rfl
theorem B_of (s : ByteArray) : B s.data.toList = s := B_ext rfl
theorem B_ext2 (l m : List UInt8) (i j : Nat) (h : m = (l.drop i).take (j - i)) : (B l).extract i j = B m := by
  apply B_ext
  rw [h, B_data, ByteArray.data_extract]
  simp [B, List.extract]
theorem dig10 (d : Int) (h0 : 0 ≤ d) (h1 : d < 10) : (if 0 ≤ d then (if d ≤ (wrap64 (d + 1)) then (if (wrap64 (d + 1)) ≤ 10 then (some ((⟨#[48, 49, 50, 51, 52, 53, 54, 55, 56, 57]⟩ : ByteArray).extract (d : Int).toNat ((wrap64 (d + 1)) : Int).toNat)) else (none)) else (none)) else (none)) = some (B [UInt8.ofNat (48 + d.toNat)]) := by
  rw [wrap_id (by omega) (by omega), if_pos h0, if_pos (by omega), if_pos (by omega)]
  have : d = 0 ∨ d = 1 ∨ d = 2 ∨ d = 3 ∨ d = 4 ∨ d = 5 ∨ d = 6 ∨ d = 7 ∨ d = 8 ∨ d = 9 := by omega
  rcases this with rfl | rfl | rfl | rfl | rfl | rfl | rfl | rfl | rfl | rfl <;> rfl
theorem num_nat (u : Nat) (hu : u < 1000000000000) : Evt fun k => spec_l1Num.f k (u : Int) = some (B (Lib.decDigits u)) := by
  induction u using Nat.strongRecOn with
  | _ u ih =>
    by_cases h : u < 10
    · refine Evt.succ (Evt.all fun k => ?_)
      show spec_l1Num.f (k + 1) _ = _
      rw [spec_l1Num.f, if_neg (by omega), if_pos (by omega), dig10 _ (by omega) (by omega), Lib.decDigits, dif_pos h]; rfl
    · have h2 := ih (u / 10) (by omega) (by omega)
      refine Evt.succ (h2.mono fun k hk => ?_)
      have e1 : Int.tdiv (u : Int) 10 = ((u / 10 : Nat) : Int) := by rw [Int.tdiv_eq_ediv_of_nonneg (by omega)]; omega
      have e2 : Int.tmod (u : Int) 10 = ((u % 10 : Nat) : Int) := by rw [Int.tmod_eq_emod_of_nonneg (by omega)]; omega
      have hl := Txt.decDigits_len (u / 10) 11 (by omega)
      show spec_l1Num.f (k + 1) _ = _
      rw [spec_l1Num.f, if_neg (by omega), if_neg (by omega), e1, wrap_id (by omega) (by omega), hk, Option.bind_some, e2]
      have hd := dig10 ((u % 10 : Nat) : Int) (by omega) (by omega)
      rw [wrap_id (by omega) (by omega), if_pos (by omega), if_pos (by omega), if_pos (by omega)] at hd ⊢
      rw [Option.some.inj hd, if_pos (by rw [B_size, B_size]; simp only [List.length_cons, List.length_nil]; omega), B_app]
      conv => rhs; rw [Lib.decDigits, dif_neg h]
      rfl
theorem num_ok (n : Int) (h0 : 0 ≤ n) (h1 : n < 1000000000000) : Evt fun k => spec_l1Num.f k n = some (B (Lib.itoa n)) := by
  have := num_nat n.toNat (by omega)
  rw [Txt.itoa_nat h0]
  rwa [show ((n.toNat : Nat) : Int) = n by omega] at this
theorem num_tot (n : Int) (h0 : -1000000000 ≤ n) (h1 : n < 1000000000000) : ∃ r, Evt fun k => spec_l1Num.f k n = some r := by
  by_cases h : n < 0
  · obtain ⟨K, hK⟩ := num_ok (-n) (by omega) (by omega)
    have hl : (B (Lib.itoa (-n))).size ≤ 20 := by rw [B_size, Txt.itoa_nat (by omega)]; have := Txt.decDigits_len (-n).toNat 10 (by omega); omega
    refine ⟨(⟨#[45]⟩ : ByteArray) ++ B (Lib.itoa (-n)), Evt.succ ⟨K, fun k hk => ?_⟩⟩
    show spec_l1Num.f (k + 1) _ = _
    rw [spec_l1Num.f, if_pos h, wrap_id (by omega) (by omega), hK k hk, Option.bind_some, if_pos (by omega)]
  · exact ⟨_, num_ok n (by omega) h1⟩
theorem itoa_le (n : Int) (h0 : 0 ≤ n) (h1 : n < 1000) : (Lib.itoa n).length ≤ 3 := by
  rw [Txt.itoa_nat h0]; exact Txt.decDigits_len _ 2 (by omega)
theorem itoa_pos (n : Int) (h0 : 0 ≤ n) : 1 ≤ (Lib.itoa n).length := by
  rw [Txt.itoa_nat h0]
  have := Txt.decDigits_ne n.toNat
  cases h : Lib.decDigits n.toNat with
  | nil => exact absurd h this
  | cons => simp
def yor : List UInt8 := [89, 79, 82]
def wrs : List UInt8 := [87, 82, 83, 72, 84]
def codeL (a0 a1 a2 a3 a4 a5 : Int) : List UInt8 := [yor.getD (a2 - 1).toNat 0, wrs.getD (a1 - 1).toNat 0] ++ (Lib.itoa a3 ++ [46] ++ Lib.itoa a4 ++ [46] ++ Lib.itoa a5 ++ [46] ++ Lib.itoa a0)
theorem three {x : Int} (h : 1 ≤ x ∧ x ≤ 3) : x = 1 ∨ x = 2 ∨ x = 3 := by omega
theorem five {x : Int} (h : 1 ≤ x ∧ x ≤ 5) : x = 1 ∨ x = 2 ∨ x = 3 ∨ x = 4 ∨ x = 5 := by omega
theorem slev_ok (x : Int) (h : 1 ≤ x ∧ x ≤ 3) : rdOf ByteArray.empty ([(⟨#[]⟩ : ByteArray), (⟨#[121, 101, 108, 108, 111, 119]⟩ : ByteArray), (⟨#[111, 114, 97, 110, 103, 101]⟩ : ByteArray), (⟨#[114, 101, 100]⟩ : ByteArray)] : List ByteArray) x = B (Lib.toLowerA (levL.getD x.toNat [])) ∧ (Lib.toLowerA (levL.getD x.toNat [])).length ≤ 6 := by
  rcases three h with rfl | rfl | rfl <;> exact ⟨rfl, by decide⟩
theorem stop_ok (x : Int) (h : 1 ≤ x ∧ x ≤ 5) : rdOf ByteArray.empty ([(⟨#[]⟩ : ByteArray), (⟨#[119, 105, 110, 100]⟩ : ByteArray), (⟨#[114, 97, 105, 110]⟩ : ByteArray), (⟨#[115, 110, 111, 119]⟩ : ByteArray), (⟨#[104, 101, 97, 116]⟩ : ByteArray), (⟨#[115, 116, 111, 114, 109]⟩ : ByteArray)] : List ByteArray) x = B (topL.getD x.toNat []) ∧ (topL.getD x.toNat []).length ≤ 5 := by
  rcases five h with rfl | rfl | rfl | rfl | rfl <;> exact ⟨rfl, by decide⟩
theorem line_spec {a0 a1 a2 a3 a4 a5 : Int} (v : V a0 a1 a2 a3 a4 a5) : Evt fun k => spec_l17Line.f k a0 a1 a2 a3 a4 a5 = some (B (lineL a0 a1 a2 a3 a4 a5)) := by
  obtain ⟨v0, v1, v2, v3, v5, v4⟩ := v
  obtain ⟨K0, n0⟩ := num_ok a0 (by omega) (by omega)
  obtain ⟨K3, n3⟩ := num_ok a3 (by omega) (by omega)
  obtain ⟨K4, n4⟩ := num_ok a4 (by omega) (by omega)
  obtain ⟨K5, n5⟩ := num_ok a5 (by omega) (by omega)
  have l0 := itoa_le a0 (by omega) (by omega)
  have l3 := itoa_le a3 (by omega) (by omega)
  have l4 := itoa_le a4 (by omega) (by omega)
  have l5 := itoa_le a5 (by omega) (by omega)
  obtain ⟨eL, lL⟩ := slev_ok a2 v2
  obtain ⟨eT, lT⟩ := stop_ok a1 v1
  refine ⟨K0 + K3 + K4 + K5, fun k hk => ?_⟩
  have k1 : (⟨#[58, 32]⟩ : ByteArray) = B [58, 32] := rfl
  have k2 : (⟨#[32]⟩ : ByteArray) = B [32] := rfl
  have k3 : (⟨#[44, 32, 97, 114, 101, 97, 32]⟩ : ByteArray) = B [44, 32, 97, 114, 101, 97, 32] := rfl
  have k4 : (⟨#[44, 32, 104, 111, 117, 114, 115, 32]⟩ : ByteArray) = B [44, 32, 104, 111, 117, 114, 115, 32] := rfl
  have k5 : (⟨#[45]⟩ : ByteArray) = B [45] := rfl
  show spec_l17Line.f k a0 a1 a2 a3 a4 a5 = _
  unfold spec_l17Line.f spec_l17Levels.f spec_l17Topics.f
  rw [n0 k (by omega), Option.bind_some, if_pos (by rw [B_size]; omega), Option.bind_some, if_pos (by omega), if_pos (by simp only [List.length_cons, List.length_nil]; omega), eL, k1, k2, k3, k4, k5]
  simp only [B_app, B_size]
  rw [if_pos (by simp only [List.length_append, List.length_cons, List.length_nil]; omega), if_pos (by simp only [List.length_append, List.length_cons, List.length_nil]; omega), Option.bind_some, if_pos (by omega), if_pos (by simp only [List.length_cons, List.length_nil]; omega), eT]
  simp only [B_app, B_size]
  rw [if_pos (by simp only [List.length_append, List.length_cons, List.length_nil]; omega), if_pos (by simp only [List.length_append, List.length_cons, List.length_nil]; omega), n3 k (by omega), Option.bind_some]
  simp only [B_app, B_size]
  rw [if_pos (by simp only [List.length_append, List.length_cons, List.length_nil]; omega), if_pos (by simp only [List.length_append, List.length_cons, List.length_nil]; omega), n4 k (by omega), Option.bind_some]
  simp only [B_app, B_size]
  rw [if_pos (by simp only [List.length_append, List.length_cons, List.length_nil]; omega), if_pos (by simp only [List.length_append, List.length_cons, List.length_nil]; omega), n5 k (by omega), Option.bind_some]
  simp only [B_app, B_size]
  rw [if_pos (by simp only [List.length_append, List.length_cons, List.length_nil]; omega)]
  simp only [lineL, List.append_assoc]
theorem yor_at (x : Int) (h : 1 ≤ x ∧ x ≤ 3) : (⟨#[89, 79, 82]⟩ : ByteArray).extract (x - 1).toNat x.toNat = B [yor.getD (x - 1).toNat 0] := by
  rcases three h with rfl | rfl | rfl <;> rfl
theorem wrs_at (x : Int) (h : 1 ≤ x ∧ x ≤ 5) : (⟨#[87, 82, 83, 72, 84]⟩ : ByteArray).extract (x - 1).toNat x.toNat = B [wrs.getD (x - 1).toNat 0] := by
  rcases five h with rfl | rfl | rfl | rfl | rfl <;> rfl
theorem code_spec {a0 a1 a2 a3 a4 a5 : Int} (v : V a0 a1 a2 a3 a4 a5) : Evt fun k => spec_l17Code.f k a0 a1 a2 a3 a4 a5 = some (B (codeL a0 a1 a2 a3 a4 a5)) := by
  obtain ⟨v0, v1, v2, v3, v5, v4⟩ := v
  obtain ⟨K0, n0⟩ := num_ok a0 (by omega) (by omega)
  obtain ⟨K3, n3⟩ := num_ok a3 (by omega) (by omega)
  obtain ⟨K4, n4⟩ := num_ok a4 (by omega) (by omega)
  obtain ⟨K5, n5⟩ := num_ok a5 (by omega) (by omega)
  have l0 := itoa_le a0 (by omega) (by omega)
  have l3 := itoa_le a3 (by omega) (by omega)
  have l4 := itoa_le a4 (by omega) (by omega)
  have l5 := itoa_le a5 (by omega) (by omega)
  have eY := yor_at a2 v2
  have eW := wrs_at a1 v1
  have k6 : (⟨#[46]⟩ : ByteArray) = B [46] := rfl
  refine ⟨K0 + K3 + K4 + K5, fun k hk => ?_⟩
  show spec_l17Code.f k a0 a1 a2 a3 a4 a5 = _
  unfold spec_l17Code.f
  rw [wrap_id (x := a2 - 1) (by omega) (by omega), wrap_id (x := a1 - 1) (by omega) (by omega), eY, eW, if_pos (by omega), if_pos (by omega), if_pos (by omega), if_pos (by omega), if_pos (by omega), if_pos (by omega), k6]
  simp only [B_app, B_size]
  rw [if_pos (by simp only [List.length_append, List.length_cons, List.length_nil]; omega), n3 k (by omega), Option.bind_some]
  simp only [B_app, B_size]
  rw [if_pos (by simp only [List.length_append, List.length_cons, List.length_nil]; omega), if_pos (by simp only [List.length_append, List.length_cons, List.length_nil]; omega), n4 k (by omega), Option.bind_some]
  simp only [B_app, B_size]
  rw [if_pos (by simp only [List.length_append, List.length_cons, List.length_nil]; omega), if_pos (by simp only [List.length_append, List.length_cons, List.length_nil]; omega), n5 k (by omega), Option.bind_some]
  simp only [B_app, B_size]
  rw [if_pos (by simp only [List.length_append, List.length_cons, List.length_nil]; omega), if_pos (by simp only [List.length_append, List.length_cons, List.length_nil]; omega), n0 k (by omega), Option.bind_some]
  simp only [B_app, B_size]
  rw [if_pos (by simp only [List.length_append, List.length_cons, List.length_nil]; omega)]
  simp [codeL, List.append_assoc]
theorem line_impl {a0 a1 a2 a3 a4 a5 : Int} (v : V a0 a1 a2 a3 a4 a5) : impl_warningLine.f a0 a1 a2 a3 a4 a5 = some (B (lineL a0 a1 a2 a3 a4 a5)) := by
  obtain ⟨v0, v1, v2, v3, v5, v4⟩ := v
  unfold impl_warningLine.f i64
  exact if_pos ⟨by omega, by omega, by omega, by omega, by omega, by omega⟩
theorem join4 (a b c d : Int) (ha : 0 ≤ a ∧ a < 1000) (hb : 0 ≤ b ∧ b < 1000) (hc : 0 ≤ c ∧ c < 1000) (hd : 0 ≤ d ∧ d < 1000) :
    Evt fun k => impl_joinInts.f k [a, b, c, d] (⟨#[46]⟩ : ByteArray) = some (B (Lib.itoa a ++ [46] ++ Lib.itoa b ++ [46] ++ Lib.itoa c ++ [46] ++ Lib.itoa d)) := by
  have la := itoa_le a ha.1 ha.2
  have lb := itoa_le b hb.1 hb.2
  have lc := itoa_le c hc.1 hc.2
  have ld := itoa_le d hd.1 hd.2
  have e : ∀ x : Int, 0 ≤ x ∧ x < 1000 → strconv_Itoa.f x = some (B (Lib.itoa x)) := fun x hx => by unfold strconv_Itoa.f; exact if_pos ⟨by omega, by omega⟩
  have e3 : strings_Join.f [B (Lib.itoa a), B (Lib.itoa b), B (Lib.itoa c), B (Lib.itoa d)] (⟨#[46]⟩ : ByteArray) = some (B (Lib.itoa a ++ [46] ++ Lib.itoa b ++ [46] ++ Lib.itoa c ++ [46] ++ Lib.itoa d)) := by
    have ej : Lib.join ([B (Lib.itoa a), B (Lib.itoa b), B (Lib.itoa c), B (Lib.itoa d)].map (·.data.toList)) ((⟨#[46]⟩ : ByteArray).data.toList) = Lib.itoa a ++ [46] ++ Lib.itoa b ++ [46] ++ Lib.itoa c ++ [46] ++ Lib.itoa d := by
      simp [Lib.join, B, List.intercalate]
    unfold strings_Join.f
    rw [ej, if_pos ⟨by simp, by simp; omega⟩]
  have step : ∀ (k : Nat) (x5 : List ByteArray) (n : Nat) (x : Int), n < 4 → x5.length = 4 → rd [a, b, c, d] (n : Int) = x → 0 ≤ x ∧ x < 1000 → impl_joinInts.l0 (k + 1) (⟨#[46]⟩ : ByteArray) x5 [a, b, c, d] 4 (n : Int) = impl_joinInts.l0 k (⟨#[46]⟩ : ByteArray) (x5.set n (B (Lib.itoa x))) [a, b, c, d] 4 ((n : Int) + 1) := by
    intro k x5 n x hn h5 hr hx
    rw [impl_joinInts.l0, if_pos (by omega), if_pos (by omega), if_pos (by simp only [List.length_cons, List.length_nil]; omega), hr, e x hx, Option.bind_some, if_pos (by omega), Int.toNat_natCast, wrap_id (by omega) (by omega)]
  refine Evt.add 5 (Evt.all fun k => ?_)
  show impl_joinInts.f (k + 5) _ _ = _
  unfold impl_joinInts.f
  rw [if_pos (by simp only [List.length_cons, List.length_nil]; omega), if_pos (by simp only [List.length_cons, List.length_nil]; omega)]
  have e0 : (List.replicate ((([a, b, c, d] : List Int).length : Int) : Int).toNat (⟨#[]⟩ : ByteArray)) = [⟨#[]⟩, ⟨#[]⟩, ⟨#[]⟩, ⟨#[]⟩] := rfl
  have el : (([a, b, c, d] : List Int).length : Int) = 4 := rfl
  rw [e0, el]
  have s0 := step (k + 4) [⟨#[]⟩, ⟨#[]⟩, ⟨#[]⟩, ⟨#[]⟩] 0 a (by omega) rfl (by simp [rd]) ha
  have s1 := step (k + 3) [B (Lib.itoa a), ⟨#[]⟩, ⟨#[]⟩, ⟨#[]⟩] 1 b (by omega) rfl (by simp [rd]) hb
  have s2 := step (k + 2) [B (Lib.itoa a), B (Lib.itoa b), ⟨#[]⟩, ⟨#[]⟩] 2 c (by omega) rfl (by simp [rd]) hc
  have s3 := step (k + 1) [B (Lib.itoa a), B (Lib.itoa b), B (Lib.itoa c), ⟨#[]⟩] 3 d (by omega) rfl (by simp [rd]) hd
  refine s0.trans (s1.trans (s2.trans (s3.trans ?_)))
  show impl_joinInts.l0 (k + 1) _ _ _ _ 4 = _
  rw [impl_joinInts.l0, if_neg (by omega)]
  have e4 : ([B (Lib.itoa a), B (Lib.itoa b), B (Lib.itoa c), ⟨#[]⟩].set 3 (B (Lib.itoa d))) = [B (Lib.itoa a), B (Lib.itoa b), B (Lib.itoa c), B (Lib.itoa d)] := rfl
  rw [e4, e3]; rfl
theorem lets_at (x y : Int) (hx : 1 ≤ x ∧ x ≤ 3) (hy : 1 ≤ y ∧ y ≤ 5) : strOfNums [bt (⟨#[32, 89, 79, 82]⟩ : ByteArray) x, bt (⟨#[32, 87, 82, 83, 72, 84]⟩ : ByteArray) y] = B [yor.getD (x - 1).toNat 0, wrs.getD (y - 1).toNat 0] := by
  rcases three hx with rfl | rfl | rfl <;> rcases five hy with rfl | rfl | rfl | rfl | rfl <;> rfl
theorem code_impl {a0 a1 a2 a3 a4 a5 : Int} (v : V a0 a1 a2 a3 a4 a5) : Evt fun k => impl_warningCode.f k a0 a1 a2 a3 a4 a5 = some (B (codeL a0 a1 a2 a3 a4 a5)) := by
  obtain ⟨v0, v1, v2, v3, v5, v4⟩ := v
  have l0 := itoa_le a0 (by omega) (by omega)
  have l3 := itoa_le a3 (by omega) (by omega)
  have l4 := itoa_le a4 (by omega) (by omega)
  have l5 := itoa_le a5 (by omega) (by omega)
  refine (join4 a3 a4 a5 a0 (by omega) (by omega) (by omega) (by omega)).mono fun k hk => ?_
  unfold impl_warningCode.f
  rw [if_pos (by omega), if_pos (by omega), if_pos (by omega), if_pos (by omega), Option.bind_some, hk, Option.bind_some, lets_at a2 a1 v2 v1]
  simp only [B_app, B_size]
  rw [if_pos (by simp only [List.length_append, List.length_cons, List.length_nil]; omega)]
  rfl
theorem V_dec {a0 a1 a2 a3 a4 a5 : Int} (v : V a0 a1 a2 a3 a4 a5) : decide (V a0 a1 a2 a3 a4 a5) = true := decide_eq_true v
theorem WLine_impl (a0 a1 a2 a3 a4 a5 : Int) : impl_WarningLine.f a0 a1 a2 a3 a4 a5 = some (if V a0 a1 a2 a3 a4 a5 then (B (lineL a0 a1 a2 a3 a4 a5), true) else (⟨#[]⟩, false)) := by
  unfold impl_WarningLine.f
  rw [valid_ok, Option.bind_some]
  by_cases v : V a0 a1 a2 a3 a4 a5
  · rw [if_pos (V_dec v), line_impl v, Option.bind_some, if_pos v]
  · rw [if_neg (by simpa using v), if_neg v]
theorem WCode_impl (a0 a1 a2 a3 a4 a5 : Int) : Evt fun k => impl_WarningCode.f k a0 a1 a2 a3 a4 a5 = some (if V a0 a1 a2 a3 a4 a5 then (B (codeL a0 a1 a2 a3 a4 a5), true) else (⟨#[]⟩, false)) := by
  by_cases v : V a0 a1 a2 a3 a4 a5
  · refine (code_impl v).mono fun k hk => ?_
    unfold impl_WarningCode.f
    rw [valid_ok, Option.bind_some, if_pos (V_dec v), hk, Option.bind_some, if_pos v]
  · refine Evt.all fun k => ?_
    unfold impl_WarningCode.f
    rw [valid_ok, Option.bind_some, if_neg (by simpa using v), if_neg v]
theorem WLine_spec (a0 a1 a2 a3 a4 a5 : Int) : Evt fun k => spec_WarningLine.f k a0 a1 a2 a3 a4 a5 = some (if V a0 a1 a2 a3 a4 a5 then (B (lineL a0 a1 a2 a3 a4 a5), true) else (⟨#[]⟩, false)) := by
  by_cases v : V a0 a1 a2 a3 a4 a5
  · refine (line_spec v).mono fun k hk => ?_
    unfold spec_WarningLine.f
    rw [good_ok, Option.bind_some, if_pos (V_dec v), hk, Option.bind_some, if_pos v]
  · refine Evt.all fun k => ?_
    unfold spec_WarningLine.f
    rw [good_ok, Option.bind_some, if_neg (by simpa using v), if_neg v]
theorem levelAt_eq (lv : ByteArray) : levelAt.f lv = some (if Lib.toLowerA [] = lv.data.toList then 0 else if Lib.toLowerA [89, 101, 108, 108, 111, 119] = lv.data.toList then 1 else if Lib.toLowerA [79, 114, 97, 110, 103, 101] = lv.data.toList then 2 else if Lib.toLowerA [82, 101, 100] = lv.data.toList then 3 else -1) := by
  unfold levelAt.f
  have el : ((levL.map B).length : Int) = 4 := rfl
  have step : ∀ (k : Nat) (i : Int) (x : List UInt8), 0 ≤ i → i < 4 → rdOf ByteArray.empty (levL.map B) i = B x →
      ixS.l0 (fun x => (B (Lib.toLowerA x.data.toList)).toList == lv.toList) (k + 1) (levL.map B) i = if Lib.toLowerA x = lv.data.toList then some i else ixS.l0 (fun x => (B (Lib.toLowerA x.data.toList)).toList == lv.toList) k (levL.map B) (i + 1) := by
    intro k i x h0 h1 e
    rw [ixS.l0, el, if_pos h1, if_pos h0, e, B_data, B_toList, Lib.toList_data, wrap_id (by omega) (by omega)]
    by_cases h : Lib.toLowerA x = lv.data.toList
    · rw [if_pos (by simpa using h), if_pos h]
    · rw [if_neg (by simpa using h), if_neg h]
  have s0 := step 5 0 [] (by omega) (by omega) rfl
  have s1 := step 4 1 [89, 101, 108, 108, 111, 119] (by omega) (by omega) rfl
  have s2 := step 3 2 [79, 114, 97, 110, 103, 101] (by omega) (by omega) rfl
  have s3 := step 2 3 [82, 101, 100] (by omega) (by omega) rfl
  have s4 : ixS.l0 (fun x => (B (Lib.toLowerA x.data.toList)).toList == lv.toList) 2 (levL.map B) 4 = some (-1) := by rw [ixS.l0, el, if_neg (by omega)]
  show ixS.l0 _ (5 + 1) _ 0 = _
  rw [s0, show (0 : Int) + 1 = 1 from rfl, s1, show (1 : Int) + 1 = 2 from rfl, s2, show (2 : Int) + 1 = 3 from rfl, s3, show (3 : Int) + 1 = 4 from rfl, s4]
  split
  · rfl
  · split
    · rfl
    · split
      · rfl
      · split <;> rfl
theorem levelAt_tot (lv : ByteArray) : ∃ r, levelAt.f lv = some r ∧ -1 ≤ r ∧ r < 4 := by
  refine ⟨_, levelAt_eq lv, ?_⟩
  repeat' split
  all_goals omega
theorem levelAt_of (x : Int) (h : 1 ≤ x ∧ x ≤ 3) : levelAt.f (B (Lib.toLowerA (levL.getD x.toNat []))) = some x := by
  rw [levelAt_eq]
  rcases three h with rfl | rfl | rfl <;> rfl
theorem topicAt_eq (t : ByteArray) : topicAt.f t = some (if t.data.toList = topL.getD 0 [] then 0 else if t.data.toList = topL.getD 1 [] then 1 else if t.data.toList = topL.getD 2 [] then 2 else if t.data.toList = topL.getD 3 [] then 3 else if t.data.toList = topL.getD 4 [] then 4 else if t.data.toList = topL.getD 5 [] then 5 else -1) := by
  unfold topicAt.f slices_Index_string_string.f
  have el : ((topL.map B).length : Int) = 6 := rfl
  rw [el]
  have step : ∀ (k : Nat) (i : Int) (x : List UInt8), 0 ≤ i → i < 6 → rdOf ByteArray.empty (topL.map B) i = B x →
      slices_Index_string_string.l0 (k + 1) (topL.map B) t 6 i = if t.data.toList = x then some i else slices_Index_string_string.l0 k (topL.map B) t 6 (i + 1) := by
    intro k i x h0 h1 e
    rw [slices_Index_string_string.l0, el, if_pos h1, if_pos h0, if_pos h1, e, B_toList, Lib.toList_data, wrap_id (by omega) (by omega)]
  have s0 := step 7 0 (topL.getD 0 []) (by omega) (by omega) rfl
  have s1 := step 6 1 (topL.getD 1 []) (by omega) (by omega) rfl
  have s2 := step 5 2 (topL.getD 2 []) (by omega) (by omega) rfl
  have s3 := step 4 3 (topL.getD 3 []) (by omega) (by omega) rfl
  have s4 := step 3 4 (topL.getD 4 []) (by omega) (by omega) rfl
  have s5 := step 2 5 (topL.getD 5 []) (by omega) (by omega) rfl
  have s6 : slices_Index_string_string.l0 2 (topL.map B) t 6 6 = some (-1) := by rw [slices_Index_string_string.l0, if_neg (by omega)]
  show slices_Index_string_string.l0 (7 + 1) _ _ 6 0 = _
  rw [s0, show (0 : Int) + 1 = 1 from rfl, s1, show (1 : Int) + 1 = 2 from rfl, s2, show (2 : Int) + 1 = 3 from rfl, s3, show (3 : Int) + 1 = 4 from rfl, s4, show (4 : Int) + 1 = 5 from rfl, s5, show (5 : Int) + 1 = 6 from rfl, s6]
  repeat' split
  all_goals rfl
theorem topicAt_tot (t : ByteArray) : ∃ r, topicAt.f t = some r ∧ -1 ≤ r ∧ r < 6 := by
  refine ⟨_, topicAt_eq t, ?_⟩
  repeat' split
  all_goals omega
theorem topicAt_of (x : Int) (h : 1 ≤ x ∧ x ≤ 5) : topicAt.f (B (topL.getD x.toNat [])) = some x := by
  rw [topicAt_eq]
  rcases five h with rfl | rfl | rfl | rfl | rfl <;> rfl
/-! ### numbers that are read -/
theorem read4 (k : Nat) (s0 s1 s2 s3 : ByteArray) (h0 : s0.size ≤ 281474976710656) (h1 : s1.size ≤ 281474976710656) (h2 : s2.size ≤ 281474976710656) (h3 : s3.size ≤ 281474976710656) :
    impl_readInts.f (k + 5) [s0, s1, s2, s3] = some (if ((pIntL s0.data.toList).2 && ((pIntL s1.data.toList).2 && ((pIntL s2.data.toList).2 && (pIntL s3.data.toList).2))) = true then ([(pIntL s0.data.toList).1, (pIntL s1.data.toList).1, (pIntL s2.data.toList).1, (pIntL s3.data.toList).1], true) else ([], false)) := by
  have step : ∀ (k : Nat) (x4 : List Int) (n : Nat) (s : ByteArray), n < 4 → x4.length = 4 → rdOf ByteArray.empty [s0, s1, s2, s3] (n : Int) = s → s.size ≤ 281474976710656 →
      impl_readInts.l0 (k + 1) x4 [s0, s1, s2, s3] 4 (n : Int) = if (pIntL s.data.toList).2 = true then impl_readInts.l0 k (x4.set n (pIntL s.data.toList).1) [s0, s1, s2, s3] 4 ((n : Int) + 1) else some ([], false) := by
    intro k x4 n s hn h4 e hs
    rw [impl_readInts.l0, if_pos (by omega), if_pos (by omega), if_pos (by simp only [List.length_cons, List.length_nil]; omega), e]
    unfold impl_ParseInt.f
    rw [if_pos hs, Option.bind_some]
    by_cases h : (pIntL s.data.toList).2 = true
    · rw [if_pos h, if_pos h, if_pos (by omega), Int.toNat_natCast, wrap_id (by omega) (by omega)]
    · rw [if_neg h, if_neg h]
  unfold impl_readInts.f
  rw [if_pos (by simp only [List.length_cons, List.length_nil]; omega), if_pos (by simp only [List.length_cons, List.length_nil]; omega)]
  have e0 : (List.replicate ((([s0, s1, s2, s3] : List ByteArray).length : Int) : Int).toNat (0 : Int)) = [0, 0, 0, 0] := rfl
  have el : (([s0, s1, s2, s3] : List ByteArray).length : Int) = 4 := rfl
  rw [e0, el]
  have t0 := step (k + 4) [0, 0, 0, 0] 0 s0 (by omega) rfl rfl h0
  have t1 := step (k + 3) [(pIntL s0.data.toList).1, 0, 0, 0] 1 s1 (by omega) rfl rfl h1
  have t2 := step (k + 2) [(pIntL s0.data.toList).1, (pIntL s1.data.toList).1, 0, 0] 2 s2 (by omega) rfl rfl h2
  have t3 := step (k + 1) [(pIntL s0.data.toList).1, (pIntL s1.data.toList).1, (pIntL s2.data.toList).1, 0] 3 s3 (by omega) rfl rfl h3
  have t4 : ∀ x, impl_readInts.l0 (k + 1) x [s0, s1, s2, s3] 4 4 = some (x, true) := fun x => by rw [impl_readInts.l0, if_neg (by omega)]
  refine t0.trans ?_
  cases (pIntL s0.data.toList).2 with
  | false => rfl
  | true =>
    rw [if_pos rfl, Bool.true_and]
    refine t1.trans ?_
    cases (pIntL s1.data.toList).2 with
    | false => rfl
    | true =>
      rw [if_pos rfl, Bool.true_and]
      refine t2.trans ?_
      cases (pIntL s2.data.toList).2 with
      | false => rfl
      | true =>
        rw [if_pos rfl, Bool.true_and]
        refine t3.trans ?_
        cases (pIntL s3.data.toList).2 with
        | false => rfl
        | true => rw [if_pos rfl, if_pos rfl]; exact t4 _
theorem pInt_itoa (n : Int) (h0 : 0 ≤ n) (h1 : n < 1000) : pIntL (B (Lib.itoa n)).data.toList = (n, true) := by
  rw [B_data]
  unfold pIntL
  rw [Txt.atoi_itoa h0 (by omega)]
  simp only
  rw [if_pos ⟨by omega, by omega, trivial⟩]
theorem cut_len (l sep : List UInt8) : (Lib.cut l sep).1.length ≤ l.length ∧ (Lib.cut l sep).2.1.length ≤ l.length := by
  unfold Lib.cut
  split
  · simp; omega
  · simp
theorem cut_some (s sep : ByteArray) (h : s.size < 4294967281) : strings_Cut.f s sep = some (cutL s sep) ∧ (cutL s sep).1.size ≤ s.size ∧ (cutL s sep).2.1.size ≤ s.size := by
  refine ⟨?_, ?_, ?_⟩
  · unfold strings_Cut.f; exact if_pos h
  · have := (cut_len s.data.toList sep.data.toList).1
    show (B _).size ≤ _
    rw [B_size]; simpa using this
  · have := (cut_len s.data.toList sep.data.toList).2
    show (B _).size ≤ _
    rw [B_size]; simpa using this
def Good (code : Int → Int → Int → Int → Int → Int → List UInt8) (s : ByteArray) (r : Int × Int × Int × Int × Int × Int × Bool) : Prop :=
  (r.2.2.2.2.2.2 = true → V r.1 r.2.1 r.2.2.1 r.2.2.2.1 r.2.2.2.2.1 r.2.2.2.2.2.1 ∧ s = B (code r.1 r.2.1 r.2.2.1 r.2.2.2.1 r.2.2.2.2.1 r.2.2.2.2.2.1)) ∧
  (r.2.2.2.2.2.2 = false → r = (0, 0, 0, 0, 0, 0, false))
theorem Good.zero (code) (s : ByteArray) : Good code s (0, 0, 0, 0, 0, 0, false) := ⟨fun h => absurd h (by simp), fun _ => rfl⟩
theorem eq_of_toList {s : ByteArray} {l : List UInt8} (h : (B l).toList = s.toList) : s = B l := by
  rw [B_toList, Lib.toList_data] at h
  exact B_ext h.symm
theorem pw_end (k : Nat) (s t : ByteArray) (x : List Int) (hx : x.length = 4) (l : Int) (b : Bool) : ∃ r, pwRaw.j0 (k + 1) s t x l b = some r ∧ Good lineL s r := by
  rw [pwRaw.j0]
  cases b with
  | true => rw [if_pos rfl]; exact ⟨_, rfl, Good.zero _ _⟩
  | false =>
    obtain ⟨y, hy, _⟩ := topicAt_tot t
    rw [if_neg (by simp), if_pos (by omega), hy, Option.bind_some, if_pos (by omega), if_pos (by omega), if_pos (by omega), valid_ok, Option.bind_some]
    by_cases v : V (rd x 0) y l (rd x 1) (rd x 2) (rd x 3)
    · rw [if_pos (V_dec v), line_impl v, Option.bind_some]
      by_cases e : (B (lineL (rd x 0) y l (rd x 1) (rd x 2) (rd x 3))).toList = s.toList
      · rw [if_pos e]; exact ⟨_, rfl, ⟨fun _ => ⟨v, eq_of_toList e⟩, fun h => absurd h (by simp)⟩⟩
      · rw [if_neg e]; exact ⟨_, rfl, Good.zero _ _⟩
    · rw [if_neg (by simpa using v)]; exact ⟨_, rfl, Good.zero _ _⟩
theorem pw_total (s : ByteArray) (hs : s.size < 4294967281) : ∃ r, impl_ParseWarningLine.f s = some r ∧ Good lineL s r := by
  unfold impl_ParseWarningLine.f pwRaw.f
  obtain ⟨e1, a1, b1⟩ := cut_some s (⟨#[58, 32]⟩ : ByteArray) hs
  rw [e1, Option.bind_some]
  generalize cutL s (⟨#[58, 32]⟩ : ByteArray) = c1 at a1 b1 ⊢
  obtain ⟨e2, a2, b2⟩ := cut_some c1.2.1 (⟨#[32]⟩ : ByteArray) (by omega)
  rw [e2, Option.bind_some]
  generalize cutL c1.2.1 (⟨#[32]⟩ : ByteArray) = c2 at a2 b2 ⊢
  obtain ⟨e3, a3, b3⟩ := cut_some c2.2.1 (⟨#[44, 32, 97, 114, 101, 97, 32]⟩ : ByteArray) (by omega)
  rw [e3, Option.bind_some]
  generalize cutL c2.2.1 (⟨#[44, 32, 97, 114, 101, 97, 32]⟩ : ByteArray) = c3 at a3 b3 ⊢
  obtain ⟨e4, a4, b4⟩ := cut_some c3.2.1 (⟨#[44, 32, 104, 111, 117, 114, 115, 32]⟩ : ByteArray) (by omega)
  rw [e4, Option.bind_some]
  generalize cutL c3.2.1 (⟨#[44, 32, 104, 111, 117, 114, 115, 32]⟩ : ByteArray) = c4 at a4 b4 ⊢
  obtain ⟨e5, a5, b5⟩ := cut_some c4.2.1 (⟨#[45]⟩ : ByteArray) (by omega)
  rw [e5, Option.bind_some]
  generalize cutL c4.2.1 (⟨#[45]⟩ : ByteArray) = c5 at a5 b5 ⊢
  rw [read4 3 c1.1 c4.1 c5.1 c5.2.1 (by omega) (by omega) (by omega) (by omega), Option.bind_some]
  obtain ⟨l, hl, _⟩ := levelAt_tot c2.1
  rw [hl, Option.bind_some]
  split
  · rw [if_pos rfl]; exact pw_end 7 s _ _ rfl _ _
  · rw [if_neg (by simp)]
    rw [pwRaw.j0, if_pos rfl]; exact ⟨_, rfl, Good.zero _ _⟩
theorem cut_B (pre rest : List UInt8) (c : UInt8) (t : List UInt8) (h : c ∉ pre) (hs : (pre ++ (c :: t) ++ rest).length < 4294967281) :
    strings_Cut.f (B (pre ++ (c :: t) ++ rest)) (B (c :: t)) = some (B pre, B rest, true) := by
  unfold strings_Cut.f cutL
  rw [if_pos (by rw [B_size]; exact hs), B_data, B_data, Txt.cut_at pre rest c t h]
theorem low_no (x : Int) (h : 1 ≤ x ∧ x ≤ 3) : (32 : UInt8) ∉ Lib.toLowerA (levL.getD x.toNat []) := by
  rcases three h with rfl | rfl | rfl <;> decide
theorem top_no (x : Int) (h : 1 ≤ x ∧ x ≤ 5) : (44 : UInt8) ∉ topL.getD x.toNat [] := by
  rcases five h with rfl | rfl | rfl | rfl | rfl <;> decide
theorem pw_line {a0 a1 a2 a3 a4 a5 : Int} (v : V a0 a1 a2 a3 a4 a5) : impl_ParseWarningLine.f (B (lineL a0 a1 a2 a3 a4 a5)) = some (a0, a1, a2, a3, a4, a5, true) := by
  have v' := v
  obtain ⟨v0, v1, v2, v3, v5, v4⟩ := v
  have l0 := itoa_le a0 (by omega) (by omega)
  have l3 := itoa_le a3 (by omega) (by omega)
  have l4 := itoa_le a4 (by omega) (by omega)
  have l5 := itoa_le a5 (by omega) (by omega)
  have lL := (slev_ok a2 v2).2
  have lT := (stop_ok a1 v1).2
  have m0 := Txt.not_mem_itoa (n := a0) (by omega) 58 (by decide)
  have m3 := Txt.not_mem_itoa (n := a3) (by omega) 44 (by decide)
  have m4 := Txt.not_mem_itoa (n := a4) (by omega) 45 (by decide)
  have r4 : (Lib.itoa a4 ++ [45] ++ Lib.itoa a5).length < 100 := by simp only [List.length_append, List.length_cons, List.length_nil]; omega
  have r3 : (Lib.itoa a3 ++ [44, 32, 104, 111, 117, 114, 115, 32] ++ (Lib.itoa a4 ++ [45] ++ Lib.itoa a5)).length < 100 := by simp only [List.length_append, List.length_cons, List.length_nil] at *; omega
  have r2 : (topL.getD a1.toNat [] ++ [44, 32, 97, 114, 101, 97, 32] ++ (Lib.itoa a3 ++ [44, 32, 104, 111, 117, 114, 115, 32] ++ (Lib.itoa a4 ++ [45] ++ Lib.itoa a5))).length < 100 := by simp only [List.length_append, List.length_cons, List.length_nil] at *; omega
  have r1 : (Lib.toLowerA (levL.getD a2.toNat []) ++ [32] ++ (topL.getD a1.toNat [] ++ [44, 32, 97, 114, 101, 97, 32] ++ (Lib.itoa a3 ++ [44, 32, 104, 111, 117, 114, 115, 32] ++ (Lib.itoa a4 ++ [45] ++ Lib.itoa a5)))).length < 100 := by simp only [List.length_append, List.length_cons, List.length_nil] at *; omega
  have r0 : (Lib.itoa a0 ++ [58, 32] ++ (Lib.toLowerA (levL.getD a2.toNat []) ++ [32] ++ (topL.getD a1.toNat [] ++ [44, 32, 97, 114, 101, 97, 32] ++ (Lib.itoa a3 ++ [44, 32, 104, 111, 117, 114, 115, 32] ++ (Lib.itoa a4 ++ [45] ++ Lib.itoa a5))))).length < 100 := by simp only [List.length_append, List.length_cons, List.length_nil] at *; omega
  have el : lineL a0 a1 a2 a3 a4 a5 = Lib.itoa a0 ++ [58, 32] ++ (Lib.toLowerA (levL.getD a2.toNat []) ++ [32] ++ (topL.getD a1.toNat [] ++ [44, 32, 97, 114, 101, 97, 32] ++ (Lib.itoa a3 ++ [44, 32, 104, 111, 117, 114, 115, 32] ++ (Lib.itoa a4 ++ [45] ++ Lib.itoa a5)))) := by simp only [lineL, List.append_assoc]
  have c0 := cut_B (Lib.itoa a0) _ 58 [32] m0 (Nat.lt_trans r0 (by omega))
  have c1 := cut_B (Lib.toLowerA (levL.getD a2.toNat [])) _ 32 [] (low_no a2 v2) (Nat.lt_trans r1 (by omega))
  have c2 := cut_B (topL.getD a1.toNat []) _ 44 [32, 97, 114, 101, 97, 32] (top_no a1 v1) (Nat.lt_trans r2 (by omega))
  have c3 := cut_B (Lib.itoa a3) _ 44 [32, 104, 111, 117, 114, 115, 32] m3 (Nat.lt_trans r3 (by omega))
  have c4 := cut_B (Lib.itoa a4) _ 45 [] m4 (Nat.lt_trans r4 (by omega))
  have sz : ∀ n : Int, 0 ≤ n → n < 1000 → (B (Lib.itoa n)).size ≤ 281474976710656 := fun n h0 h1 => by have := itoa_le n h0 h1; rw [B_size]; omega
  unfold impl_ParseWarningLine.f pwRaw.f
  rw [el]
  rw [show (⟨#[58, 32]⟩ : ByteArray) = B [58, 32] from rfl, c0, Option.bind_some]
  dsimp only
  rw [show (⟨#[32]⟩ : ByteArray) = B [32] from rfl, c1, Option.bind_some]
  dsimp only
  rw [show (⟨#[44, 32, 97, 114, 101, 97, 32]⟩ : ByteArray) = B [44, 32, 97, 114, 101, 97, 32] from rfl, c2, Option.bind_some]
  dsimp only
  rw [show (⟨#[44, 32, 104, 111, 117, 114, 115, 32]⟩ : ByteArray) = B [44, 32, 104, 111, 117, 114, 115, 32] from rfl, c3, Option.bind_some]
  dsimp only
  rw [show (⟨#[45]⟩ : ByteArray) = B [45] from rfl, c4, Option.bind_some]
  dsimp only
  rw [read4 3 _ _ _ _ (sz a0 (by omega) (by omega)) (sz a3 (by omega) (by omega)) (sz a4 (by omega) (by omega)) (sz a5 (by omega) (by omega)), pInt_itoa a0 (by omega) (by omega), pInt_itoa a3 (by omega) (by omega), pInt_itoa a4 (by omega) (by omega), pInt_itoa a5 (by omega) (by omega)]
  simp only [Bool.and_self, if_true, Option.bind_some]
  rw [levelAt_of a2 v2, Option.bind_some]
  rw [show decide (a2 < 1) = false from decide_eq_false (by omega), pwRaw.j0, if_neg (by simp), if_pos (by simp), topicAt_of a1 v1, Option.bind_some, if_pos (by simp), if_pos (by simp), if_pos (by simp)]
  have q0 : rd [a0, a3, a4, a5] 0 = a0 := rfl
  have q1 : rd [a0, a3, a4, a5] 1 = a3 := rfl
  have q2 : rd [a0, a3, a4, a5] 2 = a4 := rfl
  have q3 : rd [a0, a3, a4, a5] 3 = a5 := rfl
  rw [q0, q1, q2, q3, valid_ok, Option.bind_some, if_pos (V_dec v'), line_impl v', Option.bind_some, el, if_pos rfl]
theorem splitOn_len (c : UInt8) : ∀ (s : List UInt8) (x : List UInt8), x ∈ Txt.splitOn c s → x.length ≤ s.length
  | [], x, h => by simp [Txt.splitOn] at h; simp [h]
  | y :: r, x, h => by
    unfold Txt.splitOn at h
    split at h
    · rcases List.mem_cons.1 h with rfl | h
      · simp
      · have := splitOn_len c r x h; simp; omega
    · split at h
      · rw [List.mem_singleton] at h; subst h; simp
      · rename_i p q e
        have ih := splitOn_len c r
        rw [e] at ih
        rcases List.mem_cons.1 h with rfl | h
        · have := ih p (by simp); simp; omega
        · have := ih x (by simp [h]); simp; omega
theorem splitB_eq (s : ByteArray) (c : UInt8) : Lib.splitB (B [c]) 0 (Lib.countB s (B [c])) s = (Txt.splitOn c s.data.toList).map B := by
  have h := Lib.splitB_data (B [c]) 0 (Lib.countB s (B [c])) s
  have h2 : Lib.splitK (B [c]).data.toList 0 (Lib.countB s (B [c])) s.data.toList = Txt.splitOn c s.data.toList := Txt.split_one c s.data.toList
  rw [h2] at h
  rw [← h, List.map_map]
  have : (B ∘ fun x : ByteArray => x.data.toList) = id := by funext x; exact B_of x
  rw [this, List.map_id]
theorem split_some (s : ByteArray) (h : s.size < 4294967281) : strings_Split.f s (⟨#[46]⟩ : ByteArray) = some ((Txt.splitOn 46 s.data.toList).map B) := by
  unfold strings_Split.f
  rw [if_pos ⟨h, by decide⟩]
  exact congrArg some (splitB_eq s 46)
theorem bt_B (l : List UInt8) (i : Nat) (h : i < l.length) : bt (B l) (i : Int) = ((l.getD i 0).toNat : Int) := by
  unfold bt
  rw [dif_pos (show ((i : Int)).toNat < (B l).size by rw [B_size]; simpa using h), List.getD_eq_getElem?_getD, List.getElem?_eq_getElem h]
  rfl
theorem place_impl (x y : Int) (hx : 1 ≤ x ∧ x ≤ 3) (hy : 1 ≤ y ∧ y ≤ 5) : strings_IndexByte.f (⟨#[32, 89, 79, 82]⟩ : ByteArray) ((yor.getD (x - 1).toNat 0).toNat : Int) = some x ∧ strings_IndexByte.f (⟨#[32, 87, 82, 83, 72, 84]⟩ : ByteArray) ((wrs.getD (y - 1).toNat 0).toNat : Int) = some y := by
  constructor
  · rcases three hx with rfl | rfl | rfl <;> rfl
  · rcases five hy with rfl | rfl | rfl | rfl | rfl <;> rfl
theorem pcI_zero (s : ByteArray) (l : List ByteArray) : ∃ r, Good codeL s r ∧ Evt fun k => impl_ParseCode.j0 k s l true = some r :=
  ⟨_, Good.zero _ _, Evt.succ (Evt.all fun k => by show impl_ParseCode.j0 (k + 1) s l true = _; rw [impl_ParseCode.j0, if_pos rfl])⟩
theorem pcI_main (s p0 p1 p2 p3 : ByteArray) (hs : 2 ≤ s.size) (h0 : 2 ≤ p0.size) (z0 : p0.size ≤ 281474976710656) (z1 : p1.size ≤ 281474976710656) (z2 : p2.size ≤ 281474976710656) (z3 : p3.size ≤ 281474976710656) :
    ∃ r, Good codeL s r ∧ Evt fun k => impl_ParseCode.j0 k s [p0, p1, p2, p3] false = some r := by
  obtain ⟨u, hu⟩ : ∃ u, strings_IndexByte.f (⟨#[32, 89, 79, 82]⟩ : ByteArray) (bt s 0) = some u := ⟨_, rfl⟩
  obtain ⟨v, hv⟩ : ∃ v, strings_IndexByte.f (⟨#[32, 87, 82, 83, 72, 84]⟩ : ByteArray) (bt s 1) = some v := ⟨_, rfl⟩
  have e0 : rdOf ByteArray.empty [p0, p1, p2, p3] 0 = p0 := rfl
  have e1 : [p0, p1, p2, p3].set (0 : Int).toNat (p0.extract 2 p0.size) = [p0.extract 2 p0.size, p1, p2, p3] := rfl
  have zq : (p0.extract 2 p0.size).size ≤ 281474976710656 := by rw [ByteArray.size_extract]; omega
  have go : ∀ k, impl_ParseCode.j0 (k + 6) s [p0, p1, p2, p3] false = _ := fun k => by
    rw [impl_ParseCode.j0, if_neg (by simp), if_pos (by omega), hu, Option.bind_some, if_pos (by omega), hv, Option.bind_some, if_pos (by simp), e0, if_pos (by omega), e1, read4 k _ p1 p2 p3 zq z1 z2 z3, Option.bind_some]
  generalize (pIntL (p0.extract 2 p0.size).data.toList) = q0 at go
  generalize (pIntL p1.data.toList) = q1 at go
  generalize (pIntL p2.data.toList) = q2 at go
  generalize (pIntL p3.data.toList) = q3 at go
  by_cases c : (q0.2 && (q1.2 && (q2.2 && q3.2))) = true
  · rw [if_pos c] at go
    have w0 : rd [q0.1, q1.1, q2.1, q3.1] 0 = q0.1 := rfl
    have w1 : rd [q0.1, q1.1, q2.1, q3.1] 1 = q1.1 := rfl
    have w2 : rd [q0.1, q1.1, q2.1, q3.1] 2 = q2.1 := rfl
    have w3 : rd [q0.1, q1.1, q2.1, q3.1] 3 = q3.1 := rfl
    by_cases g : V q3.1 v u q0.1 q1.1 q2.1
    · have steps : True := trivial
      by_cases e : (B (codeL q3.1 v u q0.1 q1.1 q2.1)).toList = s.toList
      · refine ⟨(q3.1, v, u, q0.1, q1.1, q2.1, true), ⟨fun _ => ⟨g, eq_of_toList e⟩, fun h => absurd h (by simp)⟩, Evt.add 6 (((code_impl g).shift.shift).shift.shift.shift.mono fun k hk => ?_)⟩
        show impl_ParseCode.j0 (k + 6) s [p0, p1, p2, p3] false = _
        rw [go k]; dsimp only
        rw [if_pos rfl, if_pos (by simp), if_pos (by simp), if_pos (by simp), if_pos (by simp), w0, w1, w2, w3, valid_ok, Option.bind_some, if_pos (V_dec g), show k + 5 = k + 1 + 1 + 1 + 1 + 1 from rfl, hk, Option.bind_some, if_pos e]
      · refine ⟨_, Good.zero _ _, Evt.add 6 (((code_impl g).shift.shift).shift.shift.shift.mono fun k hk => ?_)⟩
        show impl_ParseCode.j0 (k + 6) s [p0, p1, p2, p3] false = _
        rw [go k]; dsimp only
        rw [if_pos rfl, if_pos (by simp), if_pos (by simp), if_pos (by simp), if_pos (by simp), w0, w1, w2, w3, valid_ok, Option.bind_some, if_pos (V_dec g), show k + 5 = k + 1 + 1 + 1 + 1 + 1 from rfl, hk, Option.bind_some, if_neg e]
    · exact ⟨_, Good.zero _ _, Evt.add 6 (Evt.all fun k => by
        show impl_ParseCode.j0 (k + 6) s [p0, p1, p2, p3] false = _
        rw [go k]; dsimp only
        rw [if_pos rfl, if_pos (by simp), if_pos (by simp), if_pos (by simp), if_pos (by simp), w0, w1, w2, w3, valid_ok, Option.bind_some, if_neg (by simpa using g)])⟩
  · rw [if_neg c] at go
    exact ⟨_, Good.zero _ _, Evt.add 6 (Evt.all fun k => (go k).trans (by rw [if_neg (by simp)]))⟩
theorem four_of {α : Type} (l : List α) (h : l.length = 4) : ∃ a b c d, l = [a, b, c, d] := by
  match l, h with
  | [a, b, c, d], _ => exact ⟨a, b, c, d, rfl⟩
theorem pcI_total (s : ByteArray) (hs : s.size < 4294967281) : ∃ r, Good codeL s r ∧ Evt fun k => impl_ParseCode.f k s = some r := by
  have e := split_some s hs
  have hl : ∀ x ∈ (Txt.splitOn 46 s.data.toList).map B, x.size ≤ s.size := by
    intro x hx
    obtain ⟨y, hy, rfl⟩ := List.mem_map.1 hx
    have := splitOn_len 46 _ y hy
    rw [B_size]; simpa using this
  generalize (Txt.splitOn 46 s.data.toList).map B = l at e hl
  by_cases h4 : l.length = 4
  · obtain ⟨p0, p1, p2, p3, rfl⟩ := four_of l h4
    have z0 := hl p0 (by simp)
    have z1 := hl p1 (by simp)
    have z2 := hl p2 (by simp)
    have z3 := hl p3 (by simp)
    have go : ∀ k, impl_ParseCode.f k s = impl_ParseCode.j0 k s [p0, p1, p2, p3] (decide ((p0.size : Int) < 3)) := fun k => by
      unfold impl_ParseCode.f
      rw [e, Option.bind_some, if_pos (by simp), if_pos (by simp)]; rfl
    by_cases h3 : (p0.size : Int) < 3
    · obtain ⟨r, hr, ev⟩ := pcI_zero s [p0, p1, p2, p3]
      exact ⟨r, hr, ev.mono fun k hk => by rw [go k, decide_eq_true h3]; exact hk⟩
    · obtain ⟨r, hr, ev⟩ := pcI_main s p0 p1 p2 p3 (by omega) (by omega) (by omega) (by omega) (by omega) (by omega)
      exact ⟨r, hr, ev.mono fun k hk => by rw [go k, decide_eq_false h3]; exact hk⟩
  · obtain ⟨r, hr, ev⟩ := pcI_zero s l
    refine ⟨r, hr, ev.mono fun k hk => ?_⟩
    unfold impl_ParseCode.f
    rw [e, Option.bind_some, if_neg (by omega)]; exact hk
theorem code_split {a0 a1 a2 a3 a4 a5 : Int} (v : V a0 a1 a2 a3 a4 a5) : Txt.splitOn 46 (codeL a0 a1 a2 a3 a4 a5) = [[yor.getD (a2 - 1).toNat 0, wrs.getD (a1 - 1).toNat 0] ++ Lib.itoa a3, Lib.itoa a4, Lib.itoa a5, Lib.itoa a0] := by
  obtain ⟨v0, v1, v2, v3, v5, v4⟩ := v
  have m : ∀ n : Int, 0 ≤ n → (46 : UInt8) ∉ Lib.itoa n := fun n h => Txt.not_mem_itoa h 46 (by decide)
  have m3 : (46 : UInt8) ∉ [yor.getD (a2 - 1).toNat 0, wrs.getD (a1 - 1).toNat 0] ++ Lib.itoa a3 := by
    intro h
    rcases List.mem_append.1 h with h | h
    · rcases three v2 with rfl | rfl | rfl <;> rcases five v1 with rfl | rfl | rfl | rfl | rfl <;> exact absurd h (by decide)
    · exact m a3 (by omega) h
  have e : codeL a0 a1 a2 a3 a4 a5 = ([yor.getD (a2 - 1).toNat 0, wrs.getD (a1 - 1).toNat 0] ++ Lib.itoa a3) ++ 46 :: (Lib.itoa a4 ++ 46 :: (Lib.itoa a5 ++ 46 :: Lib.itoa a0)) := by simp [codeL, List.append_assoc]
  rw [e, Txt.splitOn_at _ _ _ m3, Txt.splitOn_at _ _ _ (m a4 (by omega)), Txt.splitOn_at _ _ _ (m a5 (by omega)), Txt.splitOn_none _ _ (m a0 (by omega))]
theorem codeL_len {a0 a1 a2 a3 a4 a5 : Int} (v : V a0 a1 a2 a3 a4 a5) : (codeL a0 a1 a2 a3 a4 a5).length ≤ 17 ∧ 9 ≤ (codeL a0 a1 a2 a3 a4 a5).length := by
  obtain ⟨v0, v1, v2, v3, v5, v4⟩ := v
  have l0 := itoa_le a0 (by omega) (by omega)
  have l3 := itoa_le a3 (by omega) (by omega)
  have l4 := itoa_le a4 (by omega) (by omega)
  have l5 := itoa_le a5 (by omega) (by omega)
  have p0 := itoa_pos a0 (by omega)
  have p3 := itoa_pos a3 (by omega)
  have p4 := itoa_pos a4 (by omega)
  have p5 := itoa_pos a5 (by omega)
  simp only [codeL, List.length_append, List.length_cons, List.length_nil]
  omega
theorem pcI_code {a0 a1 a2 a3 a4 a5 : Int} (v : V a0 a1 a2 a3 a4 a5) : Evt fun k => impl_ParseCode.f k (B (codeL a0 a1 a2 a3 a4 a5)) = some (a0, a1, a2, a3, a4, a5, true) := by
  have hl := codeL_len v
  have v' := v
  have hc := code_split v
  obtain ⟨v0, v1, v2, v3, v5, v4⟩ := v
  have p3 := itoa_pos a3 (by omega)
  have sz : ∀ n : Int, 0 ≤ n → n < 1000 → (B (Lib.itoa n)).size ≤ 281474976710656 := fun n h0 h1 => by have := itoa_le n h0 h1; rw [B_size]; omega
  have hs : (B (codeL a0 a1 a2 a3 a4 a5)).size < 4294967281 := by rw [B_size]; omega
  have e := split_some _ hs
  rw [B_data, hc] at e
  have b0 : bt (B (codeL a0 a1 a2 a3 a4 a5)) 0 = ((yor.getD (a2 - 1).toNat 0).toNat : Int) := bt_B _ 0 (by omega)
  have b1 : bt (B (codeL a0 a1 a2 a3 a4 a5)) 1 = ((wrs.getD (a1 - 1).toNat 0).toNat : Int) := bt_B _ 1 (by omega)
  obtain ⟨i0, i1⟩ := place_impl a2 a1 v2 v1
  have eq : (B ([yor.getD (a2 - 1).toNat 0, wrs.getD (a1 - 1).toNat 0] ++ Lib.itoa a3)).extract 2 (B ([yor.getD (a2 - 1).toNat 0, wrs.getD (a1 - 1).toNat 0] ++ Lib.itoa a3)).size = B (Lib.itoa a3) := by
    refine B_ext2 _ _ _ _ ?_
    rw [B_size]; simp
  have s0 : 3 ≤ (B ([yor.getD (a2 - 1).toNat 0, wrs.getD (a1 - 1).toNat 0] ++ Lib.itoa a3)).size := by rw [B_size]; simp only [List.length_append, List.length_cons, List.length_nil]; omega
  refine Evt.add 6 (((code_impl v').shift.shift).shift.shift.shift.mono fun k hk => ?_)
  show impl_ParseCode.f (k + 6) _ = _
  unfold impl_ParseCode.f
  rw [e, Option.bind_some]
  dsimp only [List.map]
  have e0 : ∀ p0 p1 p2 p3 : ByteArray, rdOf ByteArray.empty [p0, p1, p2, p3] 0 = p0 := fun _ _ _ _ => rfl
  have e1 : ∀ p0 p1 p2 p3 q : ByteArray, [p0, p1, p2, p3].set (0 : Int).toNat q = [q, p1, p2, p3] := fun _ _ _ _ _ => rfl
  have d : ∀ p0 p1 p2 p3 : ByteArray, 3 ≤ p0.size → decide (((rdOf ByteArray.empty [p0, p1, p2, p3] 0).size : Int) < 3) = false := fun p0 p1 p2 p3 h => decide_eq_false (by rw [e0]; omega)
  rw [if_pos (by simp), if_pos (by simp), d _ _ _ _ s0, impl_ParseCode.j0, if_neg (by simp), if_pos (by rw [B_size]; omega), b0, i0, Option.bind_some, if_pos (by rw [B_size]; omega), b1, i1, Option.bind_some, if_pos (by simp), e0, if_pos (by omega), e1, eq,
    read4 k _ _ _ _ (sz a3 (by omega) (by omega)) (sz a4 (by omega) (by omega)) (sz a5 (by omega) (by omega)) (sz a0 (by omega) (by omega)), pInt_itoa a0 (by omega) (by omega), pInt_itoa a3 (by omega) (by omega), pInt_itoa a4 (by omega) (by omega), pInt_itoa a5 (by omega) (by omega)]
  simp only [Bool.and_self, if_true, Option.bind_some]
  have q0 : rd [a3, a4, a5, a0] 0 = a3 := rfl
  have q1 : rd [a3, a4, a5, a0] 1 = a4 := rfl
  have q2 : rd [a3, a4, a5, a0] 2 = a5 := rfl
  have q3 : rd [a3, a4, a5, a0] 3 = a0 := rfl
  rw [if_pos (by simp), if_pos (by simp), if_pos (by simp), if_pos (by simp), q0, q1, q2, q3, valid_ok, Option.bind_some, if_pos (V_dec v'), show k + 5 = k + 1 + 1 + 1 + 1 + 1 from rfl, hk, Option.bind_some, if_pos rfl]
/-! ### the law's own reader of codes -/
theorem splitB_step (l : List UInt8) (c : UInt8) (i j : Nat) (hj : j ≤ i) (hi : i < l.length) (hno : ∀ m, j ≤ m → m < i → l.getD m 0 ≠ c) (hc : l.getD i 0 = c) :
    Txt.splitOn c (l.drop j) = ((l.drop j).take (i - j)) :: Txt.splitOn c (l.drop (i + 1)) := by
  have e : l.drop j = (l.drop j).take (i - j) ++ c :: l.drop (i + 1) := by
    conv => lhs; rw [← List.take_append_drop (i - j) (l.drop j)]
    rw [List.drop_drop, show j + (i - j) = i by omega, List.drop_eq_getElem_cons hi]
    rw [List.getD_eq_getElem?_getD, List.getElem?_eq_getElem hi] at hc
    rw [← hc]; rfl
  have hn : c ∉ (l.drop j).take (i - j) := by
    intro hm
    obtain ⟨m, hm1, hm2⟩ := List.getElem_of_mem hm
    rw [List.length_take, List.length_drop] at hm1
    have := hno (j + m) (by omega) (by omega)
    rw [List.getD_eq_getElem?_getD, List.getElem?_eq_getElem (by omega)] at this
    apply this
    rw [List.getElem_take, List.getElem_drop] at hm2
    exact hm2
  conv => lhs; rw [e]
  exact Txt.splitOn_at c _ _ hn
theorem splitS (s : ByteArray) (c : UInt8) (hs : s.size ≤ 1000) : Evt fun k => spec_l1Split.f k s (c.toNat : Int) = some ((Txt.splitOn c s.data.toList).map B) := by
  obtain ⟨l, rfl⟩ : ∃ l, s = B l := ⟨_, (B_of s).symm⟩
  rw [B_data]
  rw [B_size] at hs
  unfold spec_l1Split.f
  refine evt_loop0 l.length (fun k (q : List ByteArray × Nat) i => spec_l1Split.l0 k (B l) (c.toNat : Int) q.1 (q.2 : Int) i) _
    (fun i q => q.2 ≤ i ∧ q.1.length ≤ i ∧ (∀ m, q.2 ≤ m → m < i → l.getD m 0 ≠ c) ∧ q.1 ++ (Txt.splitOn c (l.drop q.2)).map B = (Txt.splitOn c l).map B) ?_ ?_ ([], 0) ⟨by simp, by simp, by intro m _ h; omega, by simp⟩
  · rintro i ⟨acc, j⟩ hi ⟨h1, h2, h3, h4⟩
    dsimp only at h1 h2 h3 h4
    have hb := bt_B l i hi
    by_cases h : l.getD i 0 = c
    · refine .inl ⟨(acc ++ [B ((l.drop j).take (i - j))], i + 1), ⟨Nat.le_refl _, by simp; omega, by intro m a b; omega, ?_⟩, 1, Evt.all fun k => ?_⟩
      · dsimp only
        rw [splitB_step l c i j h1 hi h3 h] at h4
        simpa using h4
      · show spec_l1Split.l0 (k + 1) (B l) (c.toNat : Int) acc (j : Int) (i : Int) = _
        rw [spec_l1Split.l0, if_pos (by rw [B_size]; omega), if_pos (by omega), hb, if_pos (by rw [h]), if_pos (by omega), if_pos (by omega), if_pos (by rw [B_size]; omega), if_pos (by omega), wrap_id (by omega) (by omega), Int.toNat_natCast, Int.toNat_natCast, B_ext2 l _ j i rfl]
        rfl
    · refine .inl ⟨(acc, j), ⟨by dsimp only; omega, by dsimp only; omega, ?_, h4⟩, 1, Evt.all fun k => ?_⟩
      · intro m a b
        by_cases e : m = i
        · rw [e]; exact h
        · exact h3 m a (by omega)
      · show spec_l1Split.l0 (k + 1) (B l) (c.toNat : Int) acc (j : Int) (i : Int) = _
        rw [spec_l1Split.l0, if_pos (by rw [B_size]; omega), if_pos (by omega), hb, if_neg (fun e => h (UInt8.toNat_inj.1 (by omega))), wrap_id (by omega) (by omega)]
  · rintro ⟨acc, j⟩ ⟨h1, h2, h3, h4⟩
    dsimp only at h1 h2 h3 h4
    refine Evt.succ (Evt.all fun k => ?_)
    show spec_l1Split.l0 (k + 1) (B l) (c.toNat : Int) acc (j : Int) (l.length : Int) = _
    have hn : c ∉ l.drop j := by
      intro hm
      obtain ⟨m, hm1, hm2⟩ := List.getElem_of_mem hm
      rw [List.length_drop] at hm1
      have := h3 (j + m) (by omega) (by omega)
      rw [List.getD_eq_getElem?_getD, List.getElem?_eq_getElem (by omega)] at this
      apply this
      rw [List.getElem_drop] at hm2
      exact hm2
    rw [Txt.splitOn_none _ _ hn] at h4
    rw [spec_l1Split.l0, if_neg (by rw [B_size]; omega), if_pos (by omega), if_pos (by rw [B_size]; omega), if_pos (by omega), Int.toNat_natCast, B_size, B_ext2 l (l.drop j) j l.length (by rw [List.take_of_length_le (by simp)]), ← h4]
    rfl
def val (l : List UInt8) : Int := l.foldl (fun a c => 10 * a + ((c.toNat : Int) - 48)) 0
theorem val_snoc (l : List UInt8) (c : UInt8) : val (l ++ [c]) = 10 * val l + ((c.toNat : Int) - 48) := by unfold val; rw [List.foldl_append]; rfl
theorem val_dec (u : Nat) : val (Lib.decDigits u) = u := by
  induction u using Nat.strongRecOn with
  | _ u ih =>
    rw [Lib.decDigits]
    by_cases h : u < 10
    · rw [dif_pos h]
      have := Txt.dig_of u h
      simp only [val, List.foldl_cons, List.foldl_nil]
      omega
    · rw [dif_neg h, val_snoc, ih (u / 10) (by omega)]
      have := Txt.dig_of (u % 10) (by omega)
      omega
theorem read_loop (s : ByteArray) (l : List UInt8) (hl : l.length ≤ 6) (hs : l.length ≤ s.size) :
    ∃ r, Evt fun k => spec_l1Read.l0 k s (B l) 0 0 = some r := by
  have := evt_loop_ex l.length (fun k (x : Int) i => spec_l1Read.l0 k s (B l) x i) (fun _ => True) (fun i x => 0 ≤ x ∧ x < 10 ^ i) ?_ ?_ (0 : Int) ⟨by omega, by simp⟩
  · obtain ⟨r, _, h⟩ := this; exact ⟨r, h⟩
  · rintro i x hi ⟨h0, h1⟩
    have hb := bt_B l i hi
    have hp : (10 : Int) ^ i ≤ 100000 := by
      have : i = 0 ∨ i = 1 ∨ i = 2 ∨ i = 3 ∨ i = 4 ∨ i = 5 := by omega
      rcases this with rfl | rfl | rfl | rfl | rfl | rfl <;> decide
    have hq : (10 : Int) ^ (i + 1) = 10 * 10 ^ i := by rw [Int.pow_succ]; omega
    have go : ∀ k, spec_l1Read.l0 (k + 1) s (B l) x (i : Int) = _ := fun k => by
      rw [spec_l1Read.l0, if_pos (by rw [B_size]; omega), if_pos (by omega), hb]
    by_cases c1 : ((l.getD i 0).toNat : Int) < 48
    · exact .inr ⟨_, trivial, Evt.succ (Evt.all fun k => by show spec_l1Read.l0 (k + 1) s (B l) x (i : Int) = _; rw [go k, if_pos c1])⟩
    · by_cases c2 : ((l.getD i 0).toNat : Int) > 57
      · exact .inr ⟨_, trivial, Evt.succ (Evt.all fun k => by show spec_l1Read.l0 (k + 1) s (B l) x (i : Int) = _; rw [go k, if_neg c1, if_pos c2])⟩
      · refine .inl ⟨10 * x + (((l.getD i 0).toNat : Int) - 48), ⟨by omega, by omega⟩, 1, Evt.all fun k => ?_⟩
        show spec_l1Read.l0 (k + 1) s (B l) x (i : Int) = _
        rw [go k, if_neg c1, if_neg c2, Int.emod_eq_of_lt (by omega) (by omega), wrap_id (x := 10 * x) (by omega) (by omega), wrap_id (x := (i : Int) + 1) (by omega) (by omega), wrap_id (by omega) (by omega)]
  · rintro x ⟨h0, h1⟩
    have hp : (10 : Int) ^ l.length ≤ 1000000 := by
      have : l.length = 0 ∨ l.length = 1 ∨ l.length = 2 ∨ l.length = 3 ∨ l.length = 4 ∨ l.length = 5 ∨ l.length = 6 := by omega
      rcases this with h | h | h | h | h | h | h <;> rw [h] <;> decide
    have go : ∀ k, spec_l1Read.l0 (k + 1) s (B l) x (l.length : Int) = _ := fun k => by
      rw [spec_l1Read.l0, if_neg (by rw [B_size]; omega)]
    by_cases c : ((B l).size : Int) < (s.size : Int)
    · obtain ⟨t, ht⟩ := num_tot (-x) (by omega) (by omega)
      by_cases e : t.toList = s.toList
      · exact ⟨_, trivial, Evt.succ (ht.mono fun k hk => by show spec_l1Read.l0 (k + 1) s (B l) x (l.length : Int) = _; rw [go k, if_pos c, wrap_id (by omega) (by omega), hk, Option.bind_some, if_pos e])⟩
      · exact ⟨_, trivial, Evt.succ (ht.mono fun k hk => by show spec_l1Read.l0 (k + 1) s (B l) x (l.length : Int) = _; rw [go k, if_pos c, wrap_id (by omega) (by omega), hk, Option.bind_some, if_neg e])⟩
    · obtain ⟨t, ht⟩ := num_tot x (by omega) (by omega)
      by_cases e : t.toList = s.toList
      · exact ⟨_, trivial, Evt.succ (ht.mono fun k hk => by show spec_l1Read.l0 (k + 1) s (B l) x (l.length : Int) = _; rw [go k, if_neg c, hk, Option.bind_some, if_pos e])⟩
      · exact ⟨_, trivial, Evt.succ (ht.mono fun k hk => by show spec_l1Read.l0 (k + 1) s (B l) x (l.length : Int) = _; rw [go k, if_neg c, hk, Option.bind_some, if_neg e])⟩
theorem read_j1 (s : ByteArray) (l : List UInt8) (hs : l.length ≤ s.size) : ∃ r, Evt fun k => spec_l1Read.j1 k s (B l) = some r := by
  by_cases h : 1 ≤ (l.length : Int) ∧ (l.length : Int) ≤ 6
  · obtain ⟨r, hr⟩ := read_loop s l (by omega) hs
    exact ⟨r, Evt.succ (hr.mono fun k hk => by show spec_l1Read.j1 (k + 1) s (B l) = _; rw [spec_l1Read.j1, l1In_ok, Option.bind_some, B_size, if_pos (decide_eq_true h)]; exact hk)⟩
  · exact ⟨_, Evt.succ (Evt.all fun k => by show spec_l1Read.j1 (k + 1) s (B l) = _; rw [spec_l1Read.j1, l1In_ok, Option.bind_some, B_size, if_neg (by simpa using h)])⟩
theorem read_tot (s : ByteArray) : ∃ r, Evt fun k => spec_l1Read.f k s = some r := by
  have plain : ∃ r, Evt fun k => spec_l1Read.j0 k s s false = some r := by
    obtain ⟨r, hr⟩ := read_j1 s s.data.toList (by simp)
    refine ⟨r, Evt.succ (hr.mono fun k hk => ?_)⟩
    show spec_l1Read.j0 (k + 1) s s false = _
    rw [spec_l1Read.j0, if_neg (by simp)]
    rw [B_of] at hk; exact hk
  by_cases h : (s.size : Int) > 1
  · cases hb : (bt s 0 == 45) with
    | true =>
      obtain ⟨r, hr⟩ := read_j1 s (s.data.toList.drop 1) (by simp)
      refine ⟨r, Evt.succ (hr.mono fun k hk => ?_)⟩
      show spec_l1Read.f (k + 1) s = _
      unfold spec_l1Read.f
      rw [if_pos h, if_pos (by omega), hb, spec_l1Read.j0, if_pos rfl, if_pos (by omega)]
      have e : s.extract 1 s.size = B (s.data.toList.drop 1) := by
        apply B_ext
        rw [Lib.extract_to_end]; rfl
      rw [e]; exact hk
    | false =>
      obtain ⟨r, hr⟩ := plain
      refine ⟨r, hr.mono fun k hk => ?_⟩
      unfold spec_l1Read.f
      rw [if_pos h, if_pos (by omega), hb]; exact hk
  · obtain ⟨r, hr⟩ := plain
    refine ⟨r, hr.mono fun k hk => ?_⟩
    unfold spec_l1Read.f
    rw [if_neg h]; exact hk
theorem read_itoa (n : Int) (h0 : 0 ≤ n) (h1 : n < 1000) : Evt fun k => spec_l1Read.f k (B (Lib.itoa n)) = some (n, true) := by
  obtain ⟨l, hl⟩ : ∃ l, l = Lib.itoa n := ⟨_, rfl⟩
  have hd : ∀ i, i < l.length → 48 ≤ (l.getD i 0).toNat ∧ (l.getD i 0).toNat ≤ 57 := by
    intro i hi
    rw [List.getD_eq_getElem?_getD, List.getElem?_eq_getElem hi, Option.getD_some]
    have hm : ∀ c ∈ l, 48 ≤ c.toNat ∧ c.toNat ≤ 57 := by rw [hl, Txt.itoa_nat h0]; exact Txt.decDigits_dig _
    exact hm _ (List.getElem_mem hi)
  have hv : val l = n := by rw [hl, Txt.itoa_nat h0, val_dec]; omega
  have hle : l.length ≤ 3 := by rw [hl]; exact itoa_le n h0 h1
  have hpos : 1 ≤ l.length := by rw [hl]; exact itoa_pos n h0
  have lp : Evt fun k => spec_l1Read.l0 k (B l) (B l) 0 0 = some (n, true) := by
    refine evt_loop0 l.length (fun k (x : Int) i => spec_l1Read.l0 k (B l) (B l) x i) (n, true) (fun i x => x = val (l.take i) ∧ 0 ≤ x ∧ x < 10 ^ i) ?_ ?_ (0 : Int) ⟨by simp [val], by omega, by simp⟩
    · rintro i x hi ⟨hx, x0, x1⟩
      have hb := bt_B l i hi
      obtain ⟨d0, d1⟩ := hd i hi
      have hp : (10 : Int) ^ i ≤ 100 := by
        have : i = 0 ∨ i = 1 ∨ i = 2 := by omega
        rcases this with rfl | rfl | rfl <;> decide
      have hq : (10 : Int) ^ (i + 1) = 10 * 10 ^ i := by rw [Int.pow_succ]; omega
      refine .inl ⟨10 * x + (((l.getD i 0).toNat : Int) - 48), ⟨?_, by omega, by omega⟩, 1, Evt.all fun k => ?_⟩
      · rw [List.take_succ_eq_append_getElem hi, val_snoc, hx, List.getD_eq_getElem?_getD, List.getElem?_eq_getElem hi]; rfl
      · show spec_l1Read.l0 (k + 1) (B l) (B l) x (i : Int) = _
        rw [spec_l1Read.l0, if_pos (by rw [B_size]; omega), if_pos (by omega), hb, if_neg (by omega), if_neg (by omega), Int.emod_eq_of_lt (by omega) (by omega), wrap_id (x := 10 * x) (by omega) (by omega), wrap_id (x := (i : Int) + 1) (by omega) (by omega), wrap_id (by omega) (by omega)]
    · rintro x ⟨hx, x0, x1⟩
      rw [List.take_of_length_le (Nat.le_refl _), hv] at hx
      subst hx
      refine Evt.succ ((num_ok x h0 (by omega)).mono fun k hk => ?_)
      show spec_l1Read.l0 (k + 1) (B l) (B l) x (l.length : Int) = _
      rw [spec_l1Read.l0, if_neg (by rw [B_size]; omega), if_neg (by omega), hk, Option.bind_some, ← hl, if_pos rfl]
  rw [← hl]
  have j1 : Evt fun k => spec_l1Read.j1 k (B l) (B l) = some (n, true) := Evt.succ (lp.mono fun k hk => by
    show spec_l1Read.j1 (k + 1) (B l) (B l) = _
    rw [spec_l1Read.j1, l1In_ok, Option.bind_some, B_size, if_pos (decide_eq_true ⟨by omega, by omega⟩)]; exact hk)
  have j0 : Evt fun k => spec_l1Read.j0 k (B l) (B l) false = some (n, true) := Evt.succ (j1.mono fun k hk => by
    show spec_l1Read.j0 (k + 1) (B l) (B l) false = _
    rw [spec_l1Read.j0, if_neg (by simp)]; exact hk)
  refine j0.mono fun k hk => ?_
  unfold spec_l1Read.f
  have hb : (bt (B l) 0 == 45) = false := by
    have hb := bt_B l 0 (by omega)
    obtain ⟨d0, d1⟩ := hd 0 (by omega)
    rw [show ((0 : Nat) : Int) = 0 from rfl] at hb
    rw [hb]
    simp only [beq_eq_false_iff_ne]
    omega
  by_cases h : ((B l).size : Int) > 1
  · rw [if_pos h, if_pos (by omega), hb]; exact hk
  · rw [if_neg h]; exact hk
theorem place_tot (s : ByteArray) (c : Int) (hs : s.size ≤ 10) : ∃ r, Evt fun k => spec_l17Place.f k s c = some r := by
  have := evt_loop_ex s.size (fun k (_ : Unit) i => spec_l17Place.l0 k s c i) (fun _ => True) (fun _ _ => True) ?_ ?_ () trivial
  · obtain ⟨r, _, h⟩ := this; exact ⟨r, h⟩
  · rintro i x hi _
    by_cases e : bt s (i : Int) = c
    · exact .inr ⟨_, trivial, Evt.succ (Evt.all fun k => by show spec_l17Place.l0 (k + 1) s c (i : Int) = _; rw [spec_l17Place.l0, if_pos (by omega), if_pos (by omega), if_pos e])⟩
    · exact .inl ⟨(), trivial, 1, Evt.all fun k => by show spec_l17Place.l0 (k + 1) s c (i : Int) = _; rw [spec_l17Place.l0, if_pos (by omega), if_pos (by omega), if_neg e, wrap_id (by omega) (by omega)]⟩
  · rintro x _
    exact ⟨_, trivial, Evt.succ (Evt.all fun k => by show spec_l17Place.l0 (k + 1) s c (s.size : Int) = _; rw [spec_l17Place.l0, if_neg (by omega)])⟩
theorem place_at (l : List UInt8) (c : UInt8) (n : Nat) (x : Int) (hl : l.length ≤ 100) (hn : n < l.length) (hx : x = (n : Int) + 1) (hc : l.getD n 0 = c) (hno : ∀ m, m < n → l.getD m 0 ≠ c) : Evt fun k => spec_l17Place.f k (B l) (c.toNat : Int) = some x := by
  have key : ∀ d i, i + d = n → Evt fun k => spec_l17Place.l0 k (B l) (c.toNat : Int) (i : Int) = some x := by
    intro d
    induction d with
    | zero =>
      intro i hi
      obtain rfl : i = n := by omega
      refine Evt.succ (Evt.all fun k => ?_)
      show spec_l17Place.l0 (k + 1) (B l) (c.toNat : Int) (i : Int) = _
      rw [spec_l17Place.l0, if_pos (by rw [B_size]; omega), if_pos (by omega), bt_B l i hn, if_pos (by rw [hc]), hx, wrap_id (by omega) (by omega)]
    | succ d ih =>
      intro i hi
      refine Evt.succ ((ih (i + 1) (by omega)).mono fun k hk => ?_)
      show spec_l17Place.l0 (k + 1) (B l) (c.toNat : Int) (i : Int) = _
      rw [spec_l17Place.l0, if_pos (by rw [B_size]; omega), if_pos (by omega), bt_B l i (by omega), if_neg (fun e => hno i (by omega) (UInt8.toNat_inj.1 (by omega))), wrap_id (by omega) (by omega)]
      exact hk
  exact key n 0 (by omega)
theorem place_yor (x : Int) (h : 1 ≤ x ∧ x ≤ 3) : Evt fun k => spec_l17Place.f k (⟨#[89, 79, 82]⟩ : ByteArray) ((yor.getD (x - 1).toNat 0).toNat : Int) = some x := by
  exact place_at [89, 79, 82] _ (x - 1).toNat x (by decide) (by rcases three h with rfl | rfl | rfl <;> decide) (by omega) (by rcases three h with rfl | rfl | rfl <;> decide) (by rcases three h with rfl | rfl | rfl <;> decide)
theorem place_wrs (x : Int) (h : 1 ≤ x ∧ x ≤ 5) : Evt fun k => spec_l17Place.f k (⟨#[87, 82, 83, 72, 84]⟩ : ByteArray) ((wrs.getD (x - 1).toNat 0).toNat : Int) = some x := by
  exact place_at [87, 82, 83, 72, 84] _ (x - 1).toNat x (by decide) (by rcases five h with rfl | rfl | rfl | rfl | rfl <;> decide) (by omega) (by rcases five h with rfl | rfl | rfl | rfl | rfl <;> decide) (by rcases five h with rfl | rfl | rfl | rfl | rfl <;> decide)
theorem pcS_total (s : ByteArray) : ∃ r, Good codeL s r ∧ Evt fun k => spec_ParseCode.f k s = some r := by
  by_cases h : 9 ≤ (s.size : Int) ∧ (s.size : Int) ≤ 20
  · obtain ⟨K1, e1⟩ := splitS (s.extract 2 s.size) 46 (by rw [ByteArray.size_extract]; omega)
    generalize (Txt.splitOn 46 (s.extract 2 s.size).data.toList).map B = l at e1
    by_cases h4 : l.length = 4
    · obtain ⟨p0, p1, p2, p3, rfl⟩ := four_of l h4
      obtain ⟨q0, K2, e2⟩ := read_tot p0
      obtain ⟨q1, K3, e3⟩ := read_tot p1
      obtain ⟨q2, K4, e4⟩ := read_tot p2
      obtain ⟨q3, K5, e5⟩ := read_tot p3
      obtain ⟨u, K6, e6⟩ := place_tot (⟨#[87, 82, 83, 72, 84]⟩ : ByteArray) (bt s 1) (by decide)
      obtain ⟨v, K7, e7⟩ := place_tot (⟨#[89, 79, 82]⟩ : ByteArray) (bt s 0) (by decide)
      have w0 : rdOf ByteArray.empty [p0, p1, p2, p3] 0 = p0 := rfl
      have w1 : rdOf ByteArray.empty [p0, p1, p2, p3] 1 = p1 := rfl
      have w2 : rdOf ByteArray.empty [p0, p1, p2, p3] 2 = p2 := rfl
      have w3 : rdOf ByteArray.empty [p0, p1, p2, p3] 3 = p3 := rfl
      have go : ∀ k, K1 + K2 + K3 + K4 + K5 + K6 + K7 ≤ k → spec_ParseCode.f k s = (if q0.2 = true then (if q1.2 = true then (if q2.2 = true then (if q3.2 = true then ((spec_l14Good.f q3.1 u v q0.1 q1.1 q2.1).bind fun t374 => (if t374 = true then ((spec_l17Code.f k q3.1 u v q0.1 q1.1 q2.1).bind fun t375 => (if t375.toList = s.toList then (some (q3.1, u, v, q0.1, q1.1, q2.1, true)) else (some (0, 0, 0, 0, 0, 0, false)))) else (some (0, 0, 0, 0, 0, 0, false)))) else (some (0, 0, 0, 0, 0, 0, false))) else (some (0, 0, 0, 0, 0, 0, false))) else (some (0, 0, 0, 0, 0, 0, false))) else (some (0, 0, 0, 0, 0, 0, false))) := fun k hk => by
        unfold spec_ParseCode.f
        rw [l1In_ok, Option.bind_some, if_pos (decide_eq_true h), if_pos (by omega), show (46 : Int) = ((46 : UInt8).toNat : Int) from rfl, e1 k (by omega), Option.bind_some, if_pos (by simp), if_pos (by simp), w0, e2 k (by omega), Option.bind_some, if_pos (by simp), w1, e3 k (by omega), Option.bind_some, if_pos (by simp), w2, e4 k (by omega), Option.bind_some, if_pos (by simp), w3, e5 k (by omega), Option.bind_some, if_pos (by omega), e6 k (by omega), Option.bind_some, if_pos (by omega), e7 k (by omega), Option.bind_some]
      by_cases c : q0.2 = true ∧ q1.2 = true ∧ q2.2 = true ∧ q3.2 = true
      · obtain ⟨c0, c1, c2, c3⟩ := c
        simp only [if_pos c0, if_pos c1, if_pos c2, if_pos c3] at go
        by_cases g : V q3.1 u v q0.1 q1.1 q2.1
        · obtain ⟨K8, e8⟩ := code_spec g
          by_cases e : (B (codeL q3.1 u v q0.1 q1.1 q2.1)).toList = s.toList
          · refine ⟨(q3.1, u, v, q0.1, q1.1, q2.1, true), ⟨fun _ => ⟨g, eq_of_toList e⟩, fun h => absurd h (by simp)⟩, K1 + K2 + K3 + K4 + K5 + K6 + K7 + K8, fun k hk => ?_⟩
            show spec_ParseCode.f k s = _
            rw [go k (by omega), good_ok, Option.bind_some, if_pos (V_dec g), e8 k (by omega), Option.bind_some, if_pos e]
          · refine ⟨_, Good.zero _ _, K1 + K2 + K3 + K4 + K5 + K6 + K7 + K8, fun k hk => ?_⟩
            show spec_ParseCode.f k s = _
            rw [go k (by omega), good_ok, Option.bind_some, if_pos (V_dec g), e8 k (by omega), Option.bind_some, if_neg e]
        · refine ⟨_, Good.zero _ _, K1 + K2 + K3 + K4 + K5 + K6 + K7, fun k hk => ?_⟩
          show spec_ParseCode.f k s = _
          rw [go k hk, good_ok, Option.bind_some, if_neg (by simpa using g)]
      · refine ⟨_, Good.zero _ _, K1 + K2 + K3 + K4 + K5 + K6 + K7, fun k hk => ?_⟩
        show spec_ParseCode.f k s = _
        rw [go k hk]
        by_cases c0 : q0.2 = true
        · rw [if_pos c0]
          by_cases c1 : q1.2 = true
          · rw [if_pos c1]
            by_cases c2 : q2.2 = true
            · rw [if_pos c2, if_neg (fun c3 => c ⟨c0, c1, c2, c3⟩)]
            · rw [if_neg c2]
          · rw [if_neg c1]
        · rw [if_neg c0]
    · refine ⟨_, Good.zero _ _, K1, fun k hk => ?_⟩
      show spec_ParseCode.f k s = _
      unfold spec_ParseCode.f
      rw [l1In_ok, Option.bind_some, if_pos (decide_eq_true h), if_pos (by omega), show (46 : Int) = ((46 : UInt8).toNat : Int) from rfl, e1 k (by omega), Option.bind_some, if_neg (by omega)]
  · refine ⟨_, Good.zero _ _, Evt.all fun k => ?_⟩
    unfold spec_ParseCode.f
    rw [l1In_ok, Option.bind_some, if_neg (by simpa using h)]
theorem code_drop {a0 a1 a2 a3 a4 a5 : Int} (v : V a0 a1 a2 a3 a4 a5) : Txt.splitOn 46 ((codeL a0 a1 a2 a3 a4 a5).drop 2) = [Lib.itoa a3, Lib.itoa a4, Lib.itoa a5, Lib.itoa a0] := by
  obtain ⟨v0, v1, v2, v3, v5, v4⟩ := v
  have m : ∀ n : Int, 0 ≤ n → (46 : UInt8) ∉ Lib.itoa n := fun n h => Txt.not_mem_itoa h 46 (by decide)
  have e : (codeL a0 a1 a2 a3 a4 a5).drop 2 = Lib.itoa a3 ++ 46 :: (Lib.itoa a4 ++ 46 :: (Lib.itoa a5 ++ 46 :: Lib.itoa a0)) := by simp [codeL, List.append_assoc]
  rw [e, Txt.splitOn_at _ _ _ (m a3 (by omega)), Txt.splitOn_at _ _ _ (m a4 (by omega)), Txt.splitOn_at _ _ _ (m a5 (by omega)), Txt.splitOn_none _ _ (m a0 (by omega))]
theorem pcS_code {a0 a1 a2 a3 a4 a5 : Int} (v : V a0 a1 a2 a3 a4 a5) : Evt fun k => spec_ParseCode.f k (B (codeL a0 a1 a2 a3 a4 a5)) = some (a0, a1, a2, a3, a4, a5, true) := by
  have hl := codeL_len v
  have v' := v
  have hc := code_drop v
  obtain ⟨K8, e8⟩ := code_spec v
  obtain ⟨v0, v1, v2, v3, v5, v4⟩ := v
  have ex : (B (codeL a0 a1 a2 a3 a4 a5)).extract 2 (B (codeL a0 a1 a2 a3 a4 a5)).size = B ((codeL a0 a1 a2 a3 a4 a5).drop 2) := B_ext2 _ _ _ _ (by rw [B_size, List.take_of_length_le (by simp)])
  obtain ⟨K1, e1⟩ := splitS (B ((codeL a0 a1 a2 a3 a4 a5).drop 2)) 46 (by rw [B_size, List.length_drop]; omega)
  rw [B_data, hc] at e1
  obtain ⟨K2, e2⟩ := read_itoa a3 (by omega) (by omega)
  obtain ⟨K3, e3⟩ := read_itoa a4 (by omega) (by omega)
  obtain ⟨K4, e4⟩ := read_itoa a5 (by omega) (by omega)
  obtain ⟨K5, e5⟩ := read_itoa a0 (by omega) (by omega)
  have b0 : bt (B (codeL a0 a1 a2 a3 a4 a5)) 0 = ((yor.getD (a2 - 1).toNat 0).toNat : Int) := bt_B _ 0 (by omega)
  have b1 : bt (B (codeL a0 a1 a2 a3 a4 a5)) 1 = ((wrs.getD (a1 - 1).toNat 0).toNat : Int) := bt_B _ 1 (by omega)
  obtain ⟨K6, e6⟩ := place_wrs a1 v1
  obtain ⟨K7, e7⟩ := place_yor a2 v2
  refine ⟨K1 + K2 + K3 + K4 + K5 + K6 + K7 + K8, fun k hk => ?_⟩
  have f1 := e1 k (by omega)
  have f2 := e2 k (by omega)
  have f3 := e3 k (by omega)
  have f4 := e4 k (by omega)
  have f5 := e5 k (by omega)
  have f6 := e6 k (by omega)
  have f7 := e7 k (by omega)
  have f8 := e8 k (by omega)
  have w0 : ∀ p0 p1 p2 p3 : ByteArray, rdOf ByteArray.empty [p0, p1, p2, p3] 0 = p0 := fun _ _ _ _ => rfl
  have w1 : ∀ p0 p1 p2 p3 : ByteArray, rdOf ByteArray.empty [p0, p1, p2, p3] 1 = p1 := fun _ _ _ _ => rfl
  have w2 : ∀ p0 p1 p2 p3 : ByteArray, rdOf ByteArray.empty [p0, p1, p2, p3] 2 = p2 := fun _ _ _ _ => rfl
  have w3 : ∀ p0 p1 p2 p3 : ByteArray, rdOf ByteArray.empty [p0, p1, p2, p3] 3 = p3 := fun _ _ _ _ => rfl
  dsimp only [List.map] at f1
  show spec_ParseCode.f k _ = _
  unfold spec_ParseCode.f
  rw [l1In_ok, Option.bind_some, B_size, if_pos (decide_eq_true ⟨by omega, by omega⟩), if_pos (by omega)]
  rw [B_size] at ex
  rw [ex, show (46 : Int) = ((46 : UInt8).toNat : Int) from rfl, f1, Option.bind_some, if_pos (by simp), if_pos (by simp), w0, f2, Option.bind_some, if_pos (by simp), w1, f3, Option.bind_some, if_pos (by simp), w2, f4, Option.bind_some, if_pos (by simp), w3, f5, Option.bind_some, if_pos (by omega), b1, f6, Option.bind_some, if_pos (by omega), b0, f7, Option.bind_some, if_pos rfl, if_pos rfl, if_pos rfl, if_pos rfl, good_ok, Option.bind_some, if_pos (V_dec v'), f8, Option.bind_some, if_pos rfl]
/-- both readers of codes answer alike -/
theorem pc_same (s : ByteArray) (hs : s.size < 4294967281) : ∃ r, Good codeL s r ∧ (Evt fun k => impl_ParseCode.f k s = some r) ∧ Evt fun k => spec_ParseCode.f k s = some r := by
  obtain ⟨r, hr, er⟩ := pcI_total s hs
  obtain ⟨q, hq, eq⟩ := pcS_total s
  refine ⟨r, hr, er, ?_⟩
  cases hb : r.2.2.2.2.2.2 with
  | true =>
    obtain ⟨v, e⟩ := hr.1 hb
    have := pcS_code v
    rw [← e] at this
    refine this.mono fun k hk => hk.trans (congrArg some ?_)
    rw [← hb]
  | false =>
    have e := hr.2 hb
    cases hc : q.2.2.2.2.2.2 with
    | true =>
      obtain ⟨v, e2⟩ := hq.1 hc
      have c := pcI_code v
      rw [← e2] at c
      obtain ⟨K, hK⟩ := c.and er
      obtain ⟨x1, x2⟩ := hK K (Nat.le_refl _)
      have x3 := Option.some.inj (x1.symm.trans x2)
      rw [← x3] at hb
      exact absurd hb (by simp)
    | false => rw [e, ← hq.2 hc]; exact eq
/-! ### what is drawn -/
theorem warn_ok (l : List Int) (hb : ∀ x ∈ l, 0 ≤ x ∧ x ≤ 255) : ∃ a0 a1 a2 a3 a4 a5 p s, spec_l1Cur_warning.f l 0 0 = some (a0, a1, a2, a3, a4, a5, p, s) ∧ 0 ≤ p ∧ p ≤ 100 := by
  unfold spec_l1Cur_warning.f
  obtain ⟨v1, p1, s1, e1, x1, y1, z1, u1⟩ := pick_ok l hb 0 0 30 (by omega) (by omega) (by omega)
  obtain ⟨v2, p2, s2, e2, x2, y2, z2, u2⟩ := pick_ok l hb p1 s1 9 (by omega) (by omega) (by omega)
  obtain ⟨v3, p3, s3, e3, x3, y3, z3, u3⟩ := pick_ok l hb p2 s2 3 (by omega) (by omega) (by omega)
  obtain ⟨v4, p4, s4, e4, x4, y4, z4, u4⟩ := pick_ok l hb p3 s3 3 (by omega) (by omega) (by omega)
  obtain ⟨v5, p5, s5, e5, x5, y5, z5, u5⟩ := pick_ok l hb p4 s4 3 (by omega) (by omega) (by omega)
  obtain ⟨v6, p6, s6, e6, x6, y6, z6, u6⟩ := pick_ok l hb p5 s5 12 (by omega) (by omega) (by omega)
  obtain ⟨v7, p7, s7, e7, x7, y7, z7, u7⟩ := pick_ok l hb p6 s6 24 (by omega) (by omega) (by omega)
  obtain ⟨w0, q0, t0, f0, g0, h0, _⟩ := among_ok l hb p7 s7 (by omega) (by omega) [0, 999, 1000] (by decide)
  obtain ⟨w1, q1, t1, f1, g1, h1, _⟩ := among_ok l hb p7 s7 (by omega) (by omega) [0, 5, 6] (by decide)
  obtain ⟨w2, q2, t2, f2, g2, h2, _⟩ := among_ok l hb p7 s7 (by omega) (by omega) [0, 4] (by decide)
  obtain ⟨w3, q3, t3, f3, g3, h3, _⟩ := among_ok l hb p7 s7 (by omega) (by omega) [0, 9, 10] (by decide)
  obtain ⟨w4, q4, t4, f4, g4, h4, _⟩ := among_ok l hb p7 s7 (by omega) (by omega) [v1, 240, 241] (by simp)
  rw [e1, Option.bind_some]; dsimp only
  rw [e2, Option.bind_some]; dsimp only
  rw [e3, Option.bind_some]; dsimp only
  rw [e4, Option.bind_some]; dsimp only
  rw [e5, Option.bind_some]; dsimp only
  rw [e6, Option.bind_some]; dsimp only
  rw [e7, Option.bind_some]; dsimp only
  have fin : ∀ {x : Option (Int × Int × Int × Int × Int × Int × Int × Int)} (a0 a1 a2 a3 a4 a5 p s : Int), x = some (a0, a1, a2, a3, a4, a5, p, s) → 0 ≤ p ∧ p ≤ 100 → ∃ a0 a1 a2 a3 a4 a5 p s, x = some (a0, a1, a2, a3, a4, a5, p, s) ∧ 0 ≤ p ∧ p ≤ 100 := fun a0 a1 a2 a3 a4 a5 p s e h => ⟨a0, a1, a2, a3, a4, a5, p, s, e, h⟩
  by_cases k0 : v7 = 0
  · rw [if_pos k0, f0, Option.bind_some]; exact fin _ _ _ _ _ _ q0 _ rfl ⟨by omega, by omega⟩
  · rw [if_neg k0]
    by_cases k1 : v7 = 1
    · rw [if_pos k1, f1, Option.bind_some]; exact fin _ _ _ _ _ _ q1 _ rfl ⟨by omega, by omega⟩
    · rw [if_neg k1]
      by_cases k2 : v7 = 2
      · rw [if_pos k2, f2, Option.bind_some]; exact fin _ _ _ _ _ _ q2 _ rfl ⟨by omega, by omega⟩
      · rw [if_neg k2]
        by_cases k3 : v7 = 3
        · rw [if_pos k3, f3, Option.bind_some]; exact fin _ _ _ _ _ _ q3 _ rfl ⟨by omega, by omega⟩
        · rw [if_neg k3]
          by_cases k4 : v7 = 4
          · rw [if_pos k4, f4, Option.bind_some]; exact fin _ _ _ _ _ _ q4 _ rfl ⟨by omega, by omega⟩
          · rw [if_neg k4]; exact fin _ _ _ _ _ _ p7 _ rfl ⟨by omega, by omega⟩
theorem spoilt_ok (l : List Int) (hb : ∀ x ∈ l, 0 ≤ x ∧ x ≤ 255) (p s : Int) (h0 : 0 ≤ p) (h1 : p ≤ 1000) (a b : ByteArray) (ha : a.size ≤ 1000) (hbs : 1 ≤ b.size ∧ b.size ≤ 100) :
    ∃ r p' s', spec_l1Cur_spoilt.f l p s a b = some (r, p', s') ∧ r.size ≤ 3000 := by
  unfold spec_l1Cur_spoilt.f
  by_cases he : a.toList = ([] : List UInt8)
  · rw [if_pos he, if_pos (by omega), if_pos (by omega)]
    exact ⟨_, _, _, rfl, by rw [ByteArray.size_extract]; omega⟩
  · have hp : 1 ≤ a.size := by
      rcases Nat.eq_zero_or_pos a.size with h | h
      · exact absurd (by rw [Lib.toList_data]; exact List.eq_nil_of_length_eq_zero (by simpa using h)) he
      · exact h
    obtain ⟨i, p1, s1, e1, x1, y1, z1, u1⟩ := pick_ok l hb p s (a.size : Int) h0 (by omega) (by omega)
    obtain ⟨j, p2, s2, e2, x2, y2, z2, u2⟩ := pick_ok l hb p1 s1 (b.size : Int) (by omega) (by omega) (by omega)
    obtain ⟨k, p3, s3, e3, x3, y3, z3, u3⟩ := pick_ok l hb p2 s2 3 (by omega) (by omega) (by omega)
    have c1 : ((b.extract j.toNat b.size).extract 0 1).size = 1 := by simp only [ByteArray.size_extract]; omega
    have c0 : (1 : Int) ≤ ((b.extract j.toNat b.size).size : Int) := by simp only [ByteArray.size_extract]; omega
    have c2 : (a.extract 0 i.toNat).size ≤ 1000 := by simp only [ByteArray.size_extract]; omega
    have c3 : ∀ m, (a.extract m a.size).size ≤ 1000 := fun m => by simp only [ByteArray.size_extract]; omega
    have w : wrap64 (i + 1) = i + 1 := wrap_id (by omega) (by omega)
    have c4 := c3 i.toNat
    have c5 := c3 (i + 1).toNat
    rw [if_neg he, e1, Option.bind_some]; dsimp only
    rw [e2, Option.bind_some]; dsimp only
    rw [if_pos z2, if_pos (by omega), if_pos (by omega), if_pos c0, e3, Option.bind_some]; dsimp only
    rw [w]
    by_cases k0 : k = 0
    · rw [if_pos k0, if_pos z1, if_pos (by omega), if_pos (by omega), if_pos (by rw [ByteArray.size_append]; omega)]
      exact ⟨_, _, _, rfl, by simp only [ByteArray.size_append]; omega⟩
    · rw [if_neg k0]
      by_cases k1 : k = 1
      · rw [if_pos k1, if_pos z1, if_pos (by omega), if_pos (by omega), if_pos (by omega), if_pos (by omega), if_pos (by rw [ByteArray.size_append]; omega)]
        exact ⟨_, _, _, rfl, by simp only [ByteArray.size_append]; omega⟩
      · rw [if_neg k1, if_pos z1, if_pos (by omega), if_pos (by omega), if_pos (by omega), if_pos (by omega)]
        exact ⟨_, _, _, rfl, by simp only [ByteArray.size_append]; omega⟩
theorem lineL_len {a0 a1 a2 a3 a4 a5 : Int} (v : V a0 a1 a2 a3 a4 a5) : (lineL a0 a1 a2 a3 a4 a5).length ≤ 100 := by
  obtain ⟨v0, v1, v2, v3, v5, v4⟩ := v
  have l0 := itoa_le a0 (by omega) (by omega)
  have l3 := itoa_le a3 (by omega) (by omega)
  have l4 := itoa_le a4 (by omega) (by omega)
  have l5 := itoa_le a5 (by omega) (by omega)
  have lL := (slev_ok a2 v2).2
  have lT := (stop_ok a1 v1).2
  simp only [lineL, List.length_append, List.length_cons, List.length_nil]
  omega
theorem drawLine_j (l : List Int) (hb : ∀ x ∈ l, 0 ≤ x ∧ x ≤ 255) (p s : Int) (h0 : 0 ≤ p) (h1 : p ≤ 100) {a0 a1 a2 a3 a4 a5 : Int} (v : V a0 a1 a2 a3 a4 a5) :
    ∃ r, r.size ≤ 3000 ∧ Evt fun k => spec_DrawParseWarningLine.j0 k l p s a0 a1 a2 a3 a4 a5 = some r := by
  obtain ⟨K, e⟩ := line_spec v
  have hl := lineL_len v
  obtain ⟨b, p1, s1, e1, x1, y1⟩ := one_ok l hb p s 4 h0 (by omega) (by omega)
  cases b with
  | true =>
    obtain ⟨r, p2, s2, e2, hr⟩ := spoilt_ok l hb p1 s1 (by omega) (by omega) (B (lineL a0 a1 a2 a3 a4 a5)) (⟨#[49, 32, 44, 45, 114]⟩ : ByteArray) (by rw [B_size]; omega) (by decide)
    refine ⟨r, hr, Evt.succ ⟨K, fun k hk => ?_⟩⟩
    show spec_DrawParseWarningLine.j0 (k + 1) l p s a0 a1 a2 a3 a4 a5 = _
    rw [spec_DrawParseWarningLine.j0, e k hk, Option.bind_some, e1, Option.bind_some, if_pos rfl]; dsimp only
    rw [e2, Option.bind_some]
  | false =>
    refine ⟨B (lineL a0 a1 a2 a3 a4 a5), by rw [B_size]; omega, Evt.succ ⟨K, fun k hk => ?_⟩⟩
    show spec_DrawParseWarningLine.j0 (k + 1) l p s a0 a1 a2 a3 a4 a5 = _
    rw [spec_DrawParseWarningLine.j0, e k hk, Option.bind_some, e1, Option.bind_some, if_neg (by simp)]
theorem drawLine (l : List Int) (hb : ∀ x ∈ l, 0 ≤ x ∧ x ≤ 255) : ∃ r, r.size ≤ 3000 ∧ Evt fun k => spec_DrawParseWarningLine.f k l = some r := by
  obtain ⟨a0, a1, a2, a3, a4, a5, p, s, e, h0, h1⟩ := warn_ok l hb
  by_cases v : V a0 a1 a2 a3 a4 a5
  · obtain ⟨r, hr, ev⟩ := drawLine_j l hb p s h0 h1 v
    refine ⟨r, hr, ev.mono fun k hk => ?_⟩
    unfold spec_DrawParseWarningLine.f
    rw [e, Option.bind_some, good_ok, Option.bind_some, if_pos (V_dec v)]; exact hk
  · obtain ⟨r, hr, ev⟩ := drawLine_j l hb p s h0 h1 (show V 1 1 1 1 0 1 by decide)
    refine ⟨r, hr, ev.mono fun k hk => ?_⟩
    unfold spec_DrawParseWarningLine.f
    rw [e, Option.bind_some, good_ok, Option.bind_some, if_neg (by simpa using v)]; exact hk
theorem drawCode_j (l : List Int) (hb : ∀ x ∈ l, 0 ≤ x ∧ x ≤ 255) (p s : Int) (h0 : 0 ≤ p) (h1 : p ≤ 100) {a0 a1 a2 a3 a4 a5 : Int} (v : V a0 a1 a2 a3 a4 a5) :
    ∃ r, r.size ≤ 3000 ∧ Evt fun k => spec_DrawParseCode.j0 k l p s a0 a1 a2 a3 a4 a5 = some r := by
  obtain ⟨K, e⟩ := code_spec v
  have hl := codeL_len v
  obtain ⟨b, p1, s1, e1, x1, y1⟩ := one_ok l hb p s 4 h0 (by omega) (by omega)
  cases b with
  | true =>
    obtain ⟨r, p2, s2, e2, hr⟩ := spoilt_ok l hb p1 s1 (by omega) (by omega) (B (codeL a0 a1 a2 a3 a4 a5)) (⟨#[49, 46, 82, 87]⟩ : ByteArray) (by rw [B_size]; omega) (by decide)
    refine ⟨r, hr, Evt.succ ⟨K, fun k hk => ?_⟩⟩
    show spec_DrawParseCode.j0 (k + 1) l p s a0 a1 a2 a3 a4 a5 = _
    rw [spec_DrawParseCode.j0, e k hk, Option.bind_some, e1, Option.bind_some, if_pos rfl]; dsimp only
    rw [e2, Option.bind_some]
  | false =>
    refine ⟨B (codeL a0 a1 a2 a3 a4 a5), by rw [B_size]; omega, Evt.succ ⟨K, fun k hk => ?_⟩⟩
    show spec_DrawParseCode.j0 (k + 1) l p s a0 a1 a2 a3 a4 a5 = _
    rw [spec_DrawParseCode.j0, e k hk, Option.bind_some, e1, Option.bind_some, if_neg (by simp)]
theorem drawCode (l : List Int) (hb : ∀ x ∈ l, 0 ≤ x ∧ x ≤ 255) : ∃ r, r.size ≤ 3000 ∧ Evt fun k => spec_DrawParseCode.f k l = some r := by
  obtain ⟨a0, a1, a2, a3, a4, a5, p, s, e, h0, h1⟩ := warn_ok l hb
  by_cases v : V a0 a1 a2 a3 a4 a5
  · obtain ⟨r, hr, ev⟩ := drawCode_j l hb p s h0 h1 v
    refine ⟨r, hr, ev.mono fun k hk => ?_⟩
    unfold spec_DrawParseCode.f
    rw [e, Option.bind_some, good_ok, Option.bind_some, if_pos (V_dec v)]; exact hk
  · obtain ⟨r, hr, ev⟩ := drawCode_j l hb p s h0 h1 (show V 1 5 3 9 0 240 by decide)
    refine ⟨r, hr, ev.mono fun k hk => ?_⟩
    unfold spec_DrawParseCode.f
    rw [e, Option.bind_some, good_ok, Option.bind_some, if_neg (by simpa using v)]; exact hk
/-! ### the law -/
theorem law_j1 (l : List Int) (hb : ∀ x ∈ l, 0 ≤ x ∧ x ≤ 255) : Evt fun k => laws_FnMessages.j1 k l false = some true := by
  obtain ⟨s, hs, K1, e1⟩ := drawCode l hb
  obtain ⟨⟨b0, b1, b2, b3, b4, b5, ok⟩, hg, ⟨K2, e2⟩, ⟨K3, e3⟩⟩ := pc_same s (by omega)
  obtain ⟨K4, e4⟩ := WCode_impl b0 b1 b2 b3 b4 b5
  refine Evt.succ ⟨K1 + K2 + K3 + K4, fun k hk => ?_⟩
  show laws_FnMessages.j1 (k + 1) l false = _
  rw [laws_FnMessages.j1, if_neg (by simp), e1 k (by omega), Option.bind_some, e2 k (by omega), Option.bind_some]
  dsimp only
  rw [e4 k (by omega), Option.bind_some, e3 k (by omega), Option.bind_some, if_pos (by simp), if_pos (by simp)]
  cases ok with
  | false => rw [if_neg (by simp)]
  | true =>
    obtain ⟨v, e⟩ := hg.1 rfl
    dsimp only at v e
    rw [if_pos rfl, if_pos v, if_pos rfl, ← e]
    simp
theorem law_j0 (l : List Int) (hb : ∀ x ∈ l, 0 ≤ x ∧ x ≤ 255) : Evt fun k => laws_FnMessages.j0 k l false = some true := by
  obtain ⟨s, hs, K1, e1⟩ := drawLine l hb
  obtain ⟨⟨b0, b1, b2, b3, b4, b5, ok⟩, e2, hg⟩ := pw_total s (by omega)
  obtain ⟨K3, e3⟩ := law_j1 l hb
  refine Evt.succ ⟨K1 + K3, fun k hk => ?_⟩
  show laws_FnMessages.j0 (k + 1) l false = _
  rw [laws_FnMessages.j0, if_neg (by simp), e1 k (by omega), Option.bind_some, e2, Option.bind_some]
  dsimp only
  rw [WLine_impl, Option.bind_some]
  cases ok with
  | false => rw [if_neg (by simp)]; exact e3 k (by omega)
  | true =>
    obtain ⟨v, e⟩ := hg.1 rfl
    dsimp only at v e
    rw [if_pos rfl, if_pos v, if_pos rfl, ← e, bne_self_eq_false]
    exact e3 k (by omega)
theorem fnMessages_pure : laws_FnMessages.Pure := by
  intro l hm _ hw
  have hb := bytes_of l hw
  suffices Evt fun k => laws_FnMessages.f k l = some true by
    obtain ⟨K, h⟩ := this
    exact ⟨K, h K (Nat.le_refl _)⟩
  by_cases big : (l.length : Int) > 65536
  · refine Evt.all fun k => ?_
    unfold laws_FnMessages.f laws_vBig.f
    rw [Option.bind_some, if_pos (decide_eq_true big)]
  · obtain ⟨a0, a1, a2, a3, a4, a5, p, s, ew, h0, h1⟩ := warn_ok l hb
    have ed : spec_DrawWarningLine.f l = some (a0, a1, a2, a3, a4, a5) := by
      unfold spec_DrawWarningLine.f spec_DrawIsValidWarning.f
      rw [ew]; rfl
    obtain ⟨K1, e1⟩ := WCode_impl a0 a1 a2 a3 a4 a5
    obtain ⟨K2, e2⟩ := WLine_spec a0 a1 a2 a3 a4 a5
    obtain ⟨K3, e3⟩ := law_j0 l hb
    by_cases v : V a0 a1 a2 a3 a4 a5
    · obtain ⟨K4, e4⟩ := pcI_code v
      refine ⟨K1 + K2 + K3 + K4, fun k hk => ?_⟩
      have f1 := e1 k (by omega)
      have f2 := e2 k (by omega)
      have f3 := e3 k (by omega)
      have f4 := e4 k (by omega)
      show laws_FnMessages.f k l = _
      unfold laws_FnMessages.f laws_vBig.f
      rw [Option.bind_some, if_neg (by simpa using big), ed, Option.bind_some]
      dsimp only
      dsimp only at f1 f2 f3 f4
      rw [if_pos v] at f1 f2
      rw [WLine_impl, if_pos v, Option.bind_some]
      dsimp only
      rw [pw_line v, Option.bind_some, f1, Option.bind_some]
      dsimp only
      rw [f4, Option.bind_some, f2, Option.bind_some]
      dsimp only
      rw [if_pos rfl, if_neg (by simp), if_neg (by simp), if_pos rfl, if_pos rfl, if_neg (by simp), if_pos rfl]
      simpa using f3
    · obtain ⟨r, er, _⟩ := pw_total (⟨#[]⟩ : ByteArray) (by decide)
      obtain ⟨q, _, K4, e4⟩ := pcI_total (⟨#[]⟩ : ByteArray) (by decide)
      refine ⟨K1 + K2 + K3 + K4, fun k hk => ?_⟩
      have f1 := e1 k (by omega)
      have f2 := e2 k (by omega)
      have f3 := e3 k (by omega)
      have f4 := e4 k (by omega)
      show laws_FnMessages.f k l = _
      unfold laws_FnMessages.f laws_vBig.f
      rw [Option.bind_some, if_neg (by simpa using big), ed, Option.bind_some]
      dsimp only
      dsimp only at f1 f2 f3 f4
      rw [if_neg v] at f1 f2
      rw [WLine_impl, if_neg v, Option.bind_some]
      dsimp only
      rw [er, Option.bind_some, f1, Option.bind_some]
      dsimp only
      rw [f4, Option.bind_some, f2, Option.bind_some]
      dsimp only
      rw [if_pos rfl, if_neg (by simp), if_neg (by simp), if_neg (by simp)]
      exact f3
end Go.Proofs.YtlfoojgbiafffaaGreatDoor.XFnMessages
