/-
  The pure statement of the law FnExactReadBulletin: what its printed function answers is 'true' for every text. Conditions: the text's own bound, as the statement lays it.
-/
import Derived.Lib.Split
import Derived.Lib.Join
import Derived.Lib.ItoaNum
import Derived.Lib.AtoiAll
import Derived.Lib.Case
import Derived.Test.YtlfoojgbiafffaaGreatDoorXFnExactReadBulletinx15
import Derived.Lib.IndexAny
namespace Txt
open Go Go.Lib
/-! ### cut at a separator whose first byte does not stand ahead of it -/
theorem occ_no {c : UInt8} {t pre rest : List UInt8} (h : c ∉ pre) {j : Nat} (hj : j < pre.length) : occAt (pre ++ rest) (c :: t) j = false := by
  rcases Bool.eq_false_or_eq_true (occAt (pre ++ rest) (c :: t) j) with h1 | h1
  · have h2 := occAt_head rfl h1
    rw [List.getElem?_append_left hj] at h2
    exact absurd (List.mem_of_getElem? h2) h
  · exact h1
theorem occ_yes (pre sep rest : List UInt8) : occAt (pre ++ sep ++ rest) sep pre.length = true := by
  unfold occAt
  rw [List.append_assoc, List.drop_left]
  exact List.isPrefixOf_iff_prefix.2 (List.prefix_append _ _)
theorem index_at (pre rest : List UInt8) (c : UInt8) (t : List UInt8) (h : c ∉ pre) : index (pre ++ (c :: t) ++ rest) (c :: t) = pre.length :=
  index_first (by simp <;> omega) (occ_yes _ _ _) (fun j hj => by rw [List.append_assoc]; exact occ_no h hj)
theorem cut_at (pre rest : List UInt8) (c : UInt8) (t : List UInt8) (h : c ∉ pre) : cut (pre ++ (c :: t) ++ rest) (c :: t) = (pre, rest, true) := by
  unfold cut
  rw [index_at pre rest c t h, if_pos (by omega), Int.toNat_natCast]
  have e1 : (pre ++ (c :: t) ++ rest).take pre.length = pre := by rw [List.append_assoc, List.take_left]
  have e2 : (pre ++ (c :: t) ++ rest).drop (pre.length + (c :: t).length) = rest := by
    rw [← List.length_append, List.drop_left]
  rw [e1, e2]
theorem index_miss (s : List UInt8) (c : UInt8) (t : List UInt8) (h : c ∉ s) : index s (c :: t) = -1 :=
  index_none fun j _ => by
    rcases Bool.eq_false_or_eq_true (occAt s (c :: t) j) with h1 | h1
    · exact absurd (List.mem_of_getElem? (occAt_head rfl h1)) h
    · exact h1
/-! ### split at one byte -/
def splitOn (c : UInt8) : List UInt8 → List (List UInt8)
  | [] => [[]]
  | x :: r => if x = c then [] :: splitOn c r else
    match splitOn c r with
    | [] => [[x]]
    | p :: q => (x :: p) :: q
theorem splitOn_ne (c : UInt8) (s : List UInt8) : splitOn c s ≠ [] := by
  cases s with
  | nil => simp [splitOn]
  | cons x r =>
    unfold splitOn
    split
    · simp
    · split <;> simp
theorem splitOn_none (c : UInt8) : ∀ (s : List UInt8), c ∉ s → splitOn c s = [s]
  | [], _ => rfl
  | x :: r, h => by
    have h1 : x ≠ c := fun e => h (by simp [e])
    have h2 : c ∉ r := fun e => h (by simp [e])
    unfold splitOn
    rw [if_neg h1, splitOn_none c r h2]
theorem splitOn_at (c : UInt8) : ∀ (pre rest : List UInt8), c ∉ pre → splitOn c (pre ++ c :: rest) = pre :: splitOn c rest
  | [], rest, _ => by simp [splitOn]
  | x :: pre, rest, h => by
    have h1 : x ≠ c := fun e => h (by simp [e])
    have h2 : c ∉ pre := fun e => h (by simp [e])
    rw [List.cons_append, splitOn, if_neg h1, splitOn_at c pre rest h2]
theorem split_first (c : UInt8) (s : List UInt8) : c ∉ s ∨ ∃ pre rest, s = pre ++ c :: rest ∧ c ∉ pre := by
  induction s with
  | nil => left; simp
  | cons x r ih =>
    by_cases h : x = c
    · right; exact ⟨[], r, by simp [h], by simp⟩
    · rcases ih with h1 | ⟨pre, rest, rfl, h2⟩
      · left; simp [h1, Ne.symm h]
      · right; exact ⟨x :: pre, rest, rfl, by simp [h2, Ne.symm h]⟩
theorem splitK_count (c : UInt8) : ∀ (fuel : Nat) (s : List UInt8), s.length < fuel → splitK [c] 0 (countFrom [c] fuel s) s = splitOn c s
  | 0, s, h => by omega
  | fuel + 1, s, h => by
    unfold countFrom
    rcases split_first c s with h1 | ⟨pre, rest, rfl, h1⟩
    · rw [index_miss s c [] h1, if_pos (by rfl), splitOn_none c s h1]; rfl
    · have e := index_at pre rest c [] h1
      simp only [List.append_assoc, List.singleton_append] at e
      have e2 : (pre ++ c :: rest).drop (pre.length + 1) = rest := by
        rw [show pre ++ c :: rest = (pre ++ [c]) ++ rest by simp, show pre.length + 1 = (pre ++ [c]).length by simp, List.drop_left]
      have e3 : (pre ++ c :: rest).take pre.length = pre := by rw [List.take_left]
      have hn : ¬ (((pre.length : Nat) : Int) == -1) = true := by simp
      have ih := splitK_count c fuel rest (by simp at h; omega)
      rw [e, if_neg hn, Int.toNat_natCast, show ([c] : List UInt8).length = 1 from rfl, e2, Nat.add_comm 1, splitK, e, if_neg hn, Int.toNat_natCast, Nat.add_zero, e3, show ([c] : List UInt8).length = 1 from rfl, e2, ih, splitOn_at c pre rest h1]
theorem split_one (c : UInt8) (s : List UInt8) : split s [c] = splitOn c s := splitK_count c _ s (by omega)
/-! ### numerals -/
theorem dig_of (d : Nat) (h : d < 10) : (UInt8.ofNat (48 + d)).toNat = 48 + d := by
  rw [UInt8.toNat_ofNat']; omega
theorem decDigits_dig (u : Nat) : ∀ c ∈ decDigits u, 48 ≤ c.toNat ∧ c.toNat ≤ 57 := by
  induction u using decDigits.induct with
  | case1 u h =>
    rw [decDigits, dif_pos h]
    intro c hc
    obtain rfl := List.mem_singleton.1 hc
    have := dig_of u h; omega
  | case2 u h ih =>
    rw [decDigits, dif_neg h]
    intro c hc
    rcases List.mem_append.1 hc with h1 | h1
    · exact ih c h1
    · obtain rfl := List.mem_singleton.1 h1
      rw [dig_of _ (by omega)]; omega
theorem decDigits_ne (u : Nat) : decDigits u ≠ [] := by
  rw [decDigits]; split <;> simp
/-- A numeral holds no sign that is no digit. -/
theorem not_mem_dec (u : Nat) (c : UInt8) (h : c.toNat < 48 ∨ 57 < c.toNat) : c ∉ decDigits u := fun hc => by
  have := decDigits_dig u c hc; omega
theorem itoa_nat {n : Int} (h : 0 ≤ n) : itoa n = decDigits n.toNat := by unfold itoa; rw [if_neg (by omega)]
theorem not_mem_itoa {n : Int} (h : 0 ≤ n) (c : UInt8) (hc : c.toNat < 48 ∨ 57 < c.toNat) : c ∉ itoa n := by rw [itoa_nat h]; exact not_mem_dec _ c hc
theorem decDigits_len (u : Nat) (k : Nat) (h : u < 10 ^ (k + 1)) : (decDigits u).length ≤ k + 1 := by
  induction k generalizing u with
  | zero => rw [decDigits, dif_pos (by omega)]; simp
  | succ k ih =>
    rw [decDigits]
    split
    · simp
    · have := ih (u / 10) (by rw [Nat.pow_succ] at h; omega)
      simp; omega
theorem parse_dec (u : Nat) (r : List UInt8) (hu : u < 1000000000000000000) : parseUint10 0 (decDigits u ++ r) = parseUint10 u r := by
  induction u using decDigits.induct generalizing r with
  | case1 u h =>
    rw [decDigits, dif_pos h, List.singleton_append, parseUint10, dig_of u h, if_pos (by omega), if_neg (by omega), if_neg (by omega)]
    congr 1; omega
  | case2 u h ih =>
    rw [decDigits, dif_neg h, List.append_assoc, ih _ (by omega), List.singleton_append, parseUint10, dig_of _ (by omega), if_pos (by omega), if_neg (by omega), if_neg (by omega)]
    congr 1; omega
/-- strconv.Atoi's answer at a numeral. -/
theorem atoi_itoa {n : Int} (h0 : 0 ≤ n) (h1 : n < 1000000000000000000) : atoiAll (itoa n) = .ok n := by
  obtain ⟨u, rfl⟩ := Int.eq_ofNat_of_zero_le h0
  rw [itoa_nat h0, Int.toNat_natCast]
  have hp := parse_dec u [] (by omega)
  rw [List.append_nil] at hp
  have hd := decDigits_dig u
  cases hl : decDigits u with
  | nil => exact absurd hl (decDigits_ne u)
  | cons c r =>
    rw [hl] at hp hd
    have hc := hd c (by simp)
    unfold atoiAll
    have hm : parseMag (c :: r) = .ok u := by unfold parseMag; rw [if_neg (by simp), hp]; rfl
    simp only
    rw [if_neg (by omega), hm]
    simp only
    rw [if_neg (by omega), if_neg (by omega), if_neg (by omega)]
end Txt

namespace Go.Proofs.YtlfoojgbiafffaaGreatDoor.XFnExactReadBulletin
open Go.RowKit Go.Proofs.YtlfoojgbiafffaaGreatDoorW.PrintWords Go.Proofs.YtlfoojgbiafffaaGreatDoorW.PrintLast Go.Proofs.YtlfoojgbiafffaaGreatDoorW.PrintMore
open Go.Proofs.YtlfoojgbiafffaaGreatDoor.Strs
set_option linter.unusedVariables false
set_option linter.unusedSimpArgs false
theorem wrap_id {x : Int} (h0 : -9223372036854775808 ≤ x) (h1 : x ≤ 9223372036854775807) : wrap64 x = x := by unfold wrap64; omega
theorem getD_drop {α : Type} (xs : List α) (z : α) (i : Nat) (h : i < xs.length) : xs.drop i = xs.getD i z :: xs.drop (i + 1) := by
  rw [List.drop_eq_getElem_cons h, List.getD_eq_getElem?_getD, List.getElem?_eq_getElem h]; rfl
def Evt (P : Nat → Prop) : Prop := ∃ K, ∀ k, K ≤ k → P k
theorem Evt.all {P : Nat → Prop} (h : ∀ k, P k) : Evt P := ⟨0, fun k _ => h k⟩
theorem Evt.from {P : Nat → Prop} (K : Nat) (h : ∀ k, K ≤ k → P k) : Evt P := ⟨K, h⟩
theorem Evt.and {P Q : Nat → Prop} (h : Evt P) (g : Evt Q) : Evt fun k => P k ∧ Q k := by
  obtain ⟨K, h⟩ := h
  obtain ⟨M, g⟩ := g
  exact ⟨K + M, fun k hk => ⟨h k (by omega), g k (by omega)⟩⟩
theorem Evt.mono {P Q : Nat → Prop} (h : Evt P) (g : ∀ k, P k → Q k) : Evt Q := by
  obtain ⟨K, h⟩ := h
  exact ⟨K, fun k hk => g k (h k hk)⟩
theorem Evt.succ {Q : Nat → Prop} (h : Evt fun k => Q (k + 1)) : Evt Q := by
  obtain ⟨K, h⟩ := h
  refine ⟨K + 1, fun k hk => ?_⟩
  obtain ⟨m, rfl⟩ : ∃ m, k = m + 1 := ⟨k - 1, by omega⟩
  exact h m (by omega)
theorem Evt.add {Q : Nat → Prop} (c : Nat) (h : Evt fun k => Q (k + c)) : Evt Q := by
  obtain ⟨K, h⟩ := h
  refine ⟨K + c, fun k hk => ?_⟩
  obtain ⟨m, rfl⟩ : ∃ m, k = m + c := ⟨k - c, by omega⟩
  exact h m (by omega)
theorem Evt.shift {Q : Nat → Prop} (h : Evt Q) : Evt fun k => Q (k + 1) := by
  obtain ⟨K, h⟩ := h
  exact ⟨K, fun k hk => h _ (by omega)⟩
theorem Evt.at {P : Nat → Prop} (h : Evt P) : ∃ K, ∀ j, P (K + j) := by
  obtain ⟨K, h⟩ := h
  exact ⟨K, fun j => h _ (by omega)⟩
theorem Evt.pos : Evt fun k => ∃ m, k = m + 1 := ⟨1, fun k hk => ⟨k - 1, by omega⟩⟩
theorem evt_loop {σ ρ : Type} (n : Nat) (L : Nat → σ → Int → Option ρ) (v : ρ) (Inv : Nat → σ → Prop)
    (step : ∀ i s, i < n → Inv i s → (∃ s', Inv (i + 1) s' ∧ ∃ c, Evt fun k => L (k + c) s (i : Int) = L k s' ((i : Int) + 1)) ∨ Evt fun k => L k s (i : Int) = some v)
    (fin : ∀ s, Inv n s → Evt fun k => L k s (n : Int) = some v) :
    ∀ i s, i ≤ n → Inv i s → Evt fun k => L k s (i : Int) = some v := by
  have key : ∀ d i s, i + d = n → Inv i s → Evt fun k => L k s (i : Int) = some v := by
    intro d
    induction d with
    | zero =>
      intro i s hi h
      obtain rfl : i = n := by omega
      exact fin s h
    | succ d ih =>
      intro i s hi h
      rcases step i s (by omega) h with ⟨s', h', c, e⟩ | e
      · have h2 := ih (i + 1) s' (by omega) h'
        rw [show ((i + 1 : Nat) : Int) = (i : Int) + 1 from by omega] at h2
        exact Evt.add c ((e.and h2).mono fun k hk => hk.1.trans hk.2)
      · exact e
  intro i s hi h
  exact key (n - i) i s (by omega) h
theorem evt_loop0 {σ ρ : Type} (n : Nat) (L : Nat → σ → Int → Option ρ) (v : ρ) (Inv : Nat → σ → Prop)
    (step : ∀ i s, i < n → Inv i s → (∃ s', Inv (i + 1) s' ∧ ∃ c, Evt fun k => L (k + c) s (i : Int) = L k s' ((i : Int) + 1)) ∨ Evt fun k => L k s (i : Int) = some v)
    (fin : ∀ s, Inv n s → Evt fun k => L k s (n : Int) = some v) (s : σ) (h0 : Inv 0 s) : Evt fun k => L k s 0 = some v :=
  evt_loop n L v Inv step fin 0 s (Nat.zero_le _) h0
theorem getD_lt {α : Type} (xs : List α) (z : α) (i : Nat) (h : i < xs.length) : xs.getD i z = xs[i] := by
  rw [List.getD_eq_getElem?_getD, List.getElem?_eq_getElem h]; rfl
theorem getD_set_self {α : Type} (xs : List α) (z v : α) (i : Nat) (h : i < xs.length) : (xs.set i v).getD i z = v := by
  rw [List.getD_eq_getElem?_getD, List.getElem?_set_self h]; rfl
theorem getD_set_ne {α : Type} (xs : List α) (z v : α) (i j : Nat) (h : i ≠ j) : (xs.set i v).getD j z = xs.getD j z := by
  rw [List.getD_eq_getElem?_getD, List.getElem?_set_ne h, List.getD_eq_getElem?_getD]
theorem list_ext_getD {α : Type} (xs ys : List α) (z : α) (h : xs.length = ys.length) (e : ∀ j, j < xs.length → xs.getD j z = ys.getD j z) : xs = ys := by
  apply List.ext_getElem h
  intro j h1 h2
  have := e j h1
  rwa [getD_lt _ _ _ h1, getD_lt _ _ _ h2] at this

theorem evt_loop_ex {σ ρ : Type} (n : Nat) (L : Nat → σ → Int → Option ρ) (R : ρ → Prop) (Inv : Nat → σ → Prop)
    (step : ∀ i s, i < n → Inv i s → (∃ s', Inv (i + 1) s' ∧ ∃ c, Evt fun k => L (k + c) s (i : Int) = L k s' ((i : Int) + 1)) ∨ ∃ v, R v ∧ Evt fun k => L k s (i : Int) = some v)
    (fin : ∀ s, Inv n s → ∃ v, R v ∧ Evt fun k => L k s (n : Int) = some v) (s : σ) (h0 : Inv 0 s) : ∃ v, R v ∧ Evt fun k => L k s 0 = some v := by
  have key : ∀ d i s, i + d = n → Inv i s → ∃ v, R v ∧ Evt fun k => L k s (i : Int) = some v := by
    intro d
    induction d with
    | zero =>
      intro i s hi h
      obtain rfl : i = n := by omega
      exact fin s h
    | succ d ih =>
      intro i s hi h
      rcases step i s (by omega) h with ⟨s', h', c, e⟩ | e
      · obtain ⟨v, hv, h2⟩ := ih (i + 1) s' (by omega) h'
        rw [show ((i + 1 : Nat) : Int) = (i : Int) + 1 from by omega] at h2
        exact ⟨v, hv, Evt.add c ((e.and h2).mono fun k hk => hk.1.trans hk.2)⟩
      · exact e
  exact key n 0 s (by omega) h0

theorem l1In_ok (a b c : Int) : spec_l1In.f a b c = some (decide (b ≤ a ∧ a ≤ c)) := by
  unfold spec_l1In.f
  split <;> simp <;> omega

theorem within_ok (a b c : Int) : impl_within.f a b c = some (decide (b ≤ a ∧ a ≤ c)) := by
  unfold impl_within.f
  split <;> simp <;> omega

/-! ### the two writings of a warning -/
def V (a0 a1 a2 a3 a4 a5 : Int) : Prop := (1 ≤ a0 ∧ a0 ≤ 999) ∧ (1 ≤ a1 ∧ a1 ≤ 5) ∧ (1 ≤ a2 ∧ a2 ≤ 3) ∧ (1 ≤ a3 ∧ a3 ≤ 9) ∧ (1 ≤ a5 ∧ a5 ≤ 240) ∧ (0 ≤ a4 ∧ a4 ≤ a5 - 1)
instance (a0 a1 a2 a3 a4 a5 : Int) : Decidable (V a0 a1 a2 a3 a4 a5) := by unfold V; infer_instance
theorem good_ok (a0 a1 a2 a3 a4 a5 : Int) : spec_l14Good.f a0 a1 a2 a3 a4 a5 = some (decide (V a0 a1 a2 a3 a4 a5)) := by
  unfold spec_l14Good.f V
  simp only [l1In_ok, Option.bind_some, decide_eq_true_eq]
  by_cases h0 : 1 ≤ a0 ∧ a0 ≤ 999
  · rw [if_pos h0]
    by_cases h1 : 1 ≤ a1 ∧ a1 ≤ 5
    · rw [if_pos h1]
      by_cases h2 : 1 ≤ a2 ∧ a2 ≤ 3
      · rw [if_pos h2]
        by_cases h3 : 1 ≤ a3 ∧ a3 ≤ 9
        · rw [if_pos h3]
          by_cases h4 : 1 ≤ a5 ∧ a5 ≤ 240
          · rw [if_pos h4, wrap_id (by omega) (by omega)]; simp [h0, h1, h2, h3, h4]
          · rw [if_neg h4]; simp [h4]
        · rw [if_neg h3]; simp [h3]
      · rw [if_neg h2]; simp [h2]
    · rw [if_neg h1]; simp [h1]
  · rw [if_neg h0]; simp [h0]
theorem valid_ok (a0 a1 a2 a3 a4 a5 : Int) : impl_IsValidWarning.f a0 a1 a2 a3 a4 a5 = some (decide (V a0 a1 a2 a3 a4 a5)) := by
  unfold impl_IsValidWarning.f V
  simp only [within_ok, Option.bind_some, decide_eq_true_eq]
  by_cases h0 : 1 ≤ a0 ∧ a0 ≤ 999
  · rw [if_pos h0]
    by_cases h1 : 1 ≤ a1 ∧ a1 ≤ 5
    · rw [if_pos h1]
      by_cases h2 : 1 ≤ a2 ∧ a2 ≤ 3
      · rw [if_pos h2]
        by_cases h3 : 1 ≤ a3 ∧ a3 ≤ 9
        · rw [if_pos h3]
          by_cases h4 : a4 ≥ 0
          · rw [if_pos h4]
            by_cases h5 : a4 < a5
            · rw [if_pos h5]; exact congrArg some (decide_eq_decide.2 (by omega))
            · rw [if_neg h5]; exact congrArg some (decide_eq_false (by omega)).symm
          · rw [if_neg h4]; exact congrArg some (decide_eq_false (by omega)).symm
        · rw [if_neg h3]; exact congrArg some (decide_eq_false (by omega)).symm
      · rw [if_neg h2]; exact congrArg some (decide_eq_false (by omega)).symm
    · rw [if_neg h1]; exact congrArg some (decide_eq_false (by omega)).symm
  · rw [if_neg h0]; exact congrArg some (decide_eq_false (by omega)).symm
theorem B_ext {a b : ByteArray} (h : a.data.toList = b.data.toList) : a = b := by
  obtain ⟨a⟩ := a
  obtain ⟨b⟩ := b
  exact congrArg ByteArray.mk (Array.toList_inj.1 h)
theorem B_toList (l : List UInt8) : (B l).toList = l := by
  rw [Lib.toList_data]; rfl
theorem B_data (l : List UInt8) : (B l).data.toList = l := rfl
theorem B_of (s : ByteArray) : B s.data.toList = s := B_ext rfl
theorem B_ext2 (l m : List UInt8) (i j : Nat) (h : m = (l.drop i).take (j - i)) : (B l).extract i j = B m := by
  apply B_ext
  rw [h, B_data, ByteArray.data_extract]
  simp [B, List.extract]
theorem dig10 (d : Int) (h0 : 0 ≤ d) (h1 : d < 10) : (if 0 ≤ d then (if d ≤ (wrap64 (d + 1)) then (if (wrap64 (d + 1)) ≤ 10 then (some ((⟨#[48, 49, 50, 51, 52, 53, 54, 55, 56, 57]⟩ : ByteArray).extract (d : Int).toNat ((wrap64 (d + 1)) : Int).toNat)) else (none)) else (none)) else (none)) = some (B [UInt8.ofNat (48 + d.toNat)]) := by
  rw [wrap_id (by omega) (by omega), if_pos h0, if_pos (by omega), if_pos (by omega)]
  have : d = 0 ∨ d = 1 ∨ d = 2 ∨ d = 3 ∨ d = 4 ∨ d = 5 ∨ d = 6 ∨ d = 7 ∨ d = 8 ∨ d = 9 := by omega
  rcases this with rfl | rfl | rfl | rfl | rfl | rfl | rfl | rfl | rfl | rfl <;> rfl
theorem num_nat (u : Nat) (hu : u < 1000000000000) : Evt fun k => spec_l1Num.f k (u : Int) = some (B (Lib.decDigits u)) := by
  induction u using Nat.strongRecOn with
  | _ u ih =>
    by_cases h : u < 10
    · refine Evt.succ (Evt.all fun k => ?_)
      show spec_l1Num.f (k + 1) _ = _
      rw [spec_l1Num.f, if_neg (by omega), if_pos (by omega), dig10 _ (by omega) (by omega), Lib.decDigits, dif_pos h]; rfl
    · have h2 := ih (u / 10) (by omega) (by omega)
      refine Evt.succ (h2.mono fun k hk => ?_)
      have e1 : Int.tdiv (u : Int) 10 = ((u / 10 : Nat) : Int) := by rw [Int.tdiv_eq_ediv_of_nonneg (by omega)]; omega
      have e2 : Int.tmod (u : Int) 10 = ((u % 10 : Nat) : Int) := by rw [Int.tmod_eq_emod_of_nonneg (by omega)]; omega
      have hl := Txt.decDigits_len (u / 10) 11 (by omega)
      show spec_l1Num.f (k + 1) _ = _
      rw [spec_l1Num.f, if_neg (by omega), if_neg (by omega), e1, wrap_id (by omega) (by omega), hk, Option.bind_some, e2]
      have hd := dig10 ((u % 10 : Nat) : Int) (by omega) (by omega)
      rw [wrap_id (by omega) (by omega), if_pos (by omega), if_pos (by omega), if_pos (by omega)] at hd ⊢
      rw [Option.some.inj hd, if_pos (by rw [B_size, B_size]; simp only [List.length_cons, List.length_nil]; omega), B_app]
      conv => rhs; rw [Lib.decDigits, dif_neg h]
      rfl
theorem num_ok (n : Int) (h0 : 0 ≤ n) (h1 : n < 1000000000000) : Evt fun k => spec_l1Num.f k n = some (B (Lib.itoa n)) := by
  have := num_nat n.toNat (by omega)
  rw [Txt.itoa_nat h0]
  rwa [show ((n.toNat : Nat) : Int) = n by omega] at this
theorem num_tot (n : Int) (h0 : -1000000000 ≤ n) (h1 : n < 1000000000000) : ∃ r, Evt fun k => spec_l1Num.f k n = some r := by
  by_cases h : n < 0
  · obtain ⟨K, hK⟩ := num_ok (-n) (by omega) (by omega)
    have hl : (B (Lib.itoa (-n))).size ≤ 20 := by rw [B_size, Txt.itoa_nat (by omega)]; have := Txt.decDigits_len (-n).toNat 10 (by omega); omega
    refine ⟨(⟨#[45]⟩ : ByteArray) ++ B (Lib.itoa (-n)), Evt.succ ⟨K, fun k hk => ?_⟩⟩
    show spec_l1Num.f (k + 1) _ = _
    rw [spec_l1Num.f, if_pos h, wrap_id (by omega) (by omega), hK k hk, Option.bind_some, if_pos (by omega)]
  · exact ⟨_, num_ok n (by omega) h1⟩
theorem itoa_le (n : Int) (h0 : 0 ≤ n) (h1 : n < 1000) : (Lib.itoa n).length ≤ 3 := by
  rw [Txt.itoa_nat h0]; exact Txt.decDigits_len _ 2 (by omega)
theorem itoa_pos (n : Int) (h0 : 0 ≤ n) : 1 ≤ (Lib.itoa n).length := by
  rw [Txt.itoa_nat h0]
  have := Txt.decDigits_ne n.toNat
  cases h : Lib.decDigits n.toNat with
  | nil => exact absurd h this
  | cons => simp
theorem three {x : Int} (h : 1 ≤ x ∧ x ≤ 3) : x = 1 ∨ x = 2 ∨ x = 3 := by omega
theorem five {x : Int} (h : 1 ≤ x ∧ x ≤ 5) : x = 1 ∨ x = 2 ∨ x = 3 ∨ x = 4 ∨ x = 5 := by omega
theorem slev_ok (x : Int) (h : 1 ≤ x ∧ x ≤ 3) : rdOf ByteArray.empty ([(⟨#[]⟩ : ByteArray), (⟨#[121, 101, 108, 108, 111, 119]⟩ : ByteArray), (⟨#[111, 114, 97, 110, 103, 101]⟩ : ByteArray), (⟨#[114, 101, 100]⟩ : ByteArray)] : List ByteArray) x = B (Lib.toLowerA (levL.getD x.toNat [])) ∧ (Lib.toLowerA (levL.getD x.toNat [])).length ≤ 6 := by
  rcases three h with rfl | rfl | rfl <;> exact ⟨rfl, by decide⟩
theorem stop_ok (x : Int) (h : 1 ≤ x ∧ x ≤ 5) : rdOf ByteArray.empty ([(⟨#[]⟩ : ByteArray), (⟨#[119, 105, 110, 100]⟩ : ByteArray), (⟨#[114, 97, 105, 110]⟩ : ByteArray), (⟨#[115, 110, 111, 119]⟩ : ByteArray), (⟨#[104, 101, 97, 116]⟩ : ByteArray), (⟨#[115, 116, 111, 114, 109]⟩ : ByteArray)] : List ByteArray) x = B (topL.getD x.toNat []) ∧ (topL.getD x.toNat []).length ≤ 5 := by
  rcases five h with rfl | rfl | rfl | rfl | rfl <;> exact ⟨rfl, by decide⟩
theorem line_spec {a0 a1 a2 a3 a4 a5 : Int} (v : V a0 a1 a2 a3 a4 a5) : Evt fun k => spec_l17Line.f k a0 a1 a2 a3 a4 a5 = some (B (lineL a0 a1 a2 a3 a4 a5)) := by
  obtain ⟨v0, v1, v2, v3, v5, v4⟩ := v
  obtain ⟨K0, n0⟩ := num_ok a0 (by omega) (by omega)
  obtain ⟨K3, n3⟩ := num_ok a3 (by omega) (by omega)
  obtain ⟨K4, n4⟩ := num_ok a4 (by omega) (by omega)
  obtain ⟨K5, n5⟩ := num_ok a5 (by omega) (by omega)
  have l0 := itoa_le a0 (by omega) (by omega)
  have l3 := itoa_le a3 (by omega) (by omega)
  have l4 := itoa_le a4 (by omega) (by omega)
  have l5 := itoa_le a5 (by omega) (by omega)
  obtain ⟨eL, lL⟩ := slev_ok a2 v2
  obtain ⟨eT, lT⟩ := stop_ok a1 v1
  refine ⟨K0 + K3 + K4 + K5, fun k hk => ?_⟩
  have k1 : (⟨#[58, 32]⟩ : ByteArray) = B [58, 32] := rfl
  have k2 : (⟨#[32]⟩ : ByteArray) = B [32] := rfl
  have k3 : (⟨#[44, 32, 97, 114, 101, 97, 32]⟩ : ByteArray) = B [44, 32, 97, 114, 101, 97, 32] := rfl
  have k4 : (⟨#[44, 32, 104, 111, 117, 114, 115, 32]⟩ : ByteArray) = B [44, 32, 104, 111, 117, 114, 115, 32] := rfl
  have k5 : (⟨#[45]⟩ : ByteArray) = B [45] := rfl
  show spec_l17Line.f k a0 a1 a2 a3 a4 a5 = _
  unfold spec_l17Line.f spec_l17Levels.f spec_l17Topics.f
  rw [n0 k (by omega), Option.bind_some, if_pos (by rw [B_size]; omega), Option.bind_some, if_pos (by omega), if_pos (by simp only [List.length_cons, List.length_nil]; omega), eL, k1, k2, k3, k4, k5]
  simp only [B_app, B_size]
  rw [if_pos (by simp only [List.length_append, List.length_cons, List.length_nil]; omega), if_pos (by simp only [List.length_append, List.length_cons, List.length_nil]; omega), Option.bind_some, if_pos (by omega), if_pos (by simp only [List.length_cons, List.length_nil]; omega), eT]
  simp only [B_app, B_size]
  rw [if_pos (by simp only [List.length_append, List.length_cons, List.length_nil]; omega), if_pos (by simp only [List.length_append, List.length_cons, List.length_nil]; omega), n3 k (by omega), Option.bind_some]
  simp only [B_app, B_size]
  rw [if_pos (by simp only [List.length_append, List.length_cons, List.length_nil]; omega), if_pos (by simp only [List.length_append, List.length_cons, List.length_nil]; omega), n4 k (by omega), Option.bind_some]
  simp only [B_app, B_size]
  rw [if_pos (by simp only [List.length_append, List.length_cons, List.length_nil]; omega), if_pos (by simp only [List.length_append, List.length_cons, List.length_nil]; omega), n5 k (by omega), Option.bind_some]
  simp only [B_app, B_size]
  rw [if_pos (by simp only [List.length_append, List.length_cons, List.length_nil]; omega)]
  simp only [lineL, List.append_assoc]
theorem line_impl {a0 a1 a2 a3 a4 a5 : Int} (v : V a0 a1 a2 a3 a4 a5) : impl_warningLine.f a0 a1 a2 a3 a4 a5 = some (B (lineL a0 a1 a2 a3 a4 a5)) := by
  obtain ⟨v0, v1, v2, v3, v5, v4⟩ := v
  unfold impl_warningLine.f i64
  exact if_pos ⟨by omega, by omega, by omega, by omega, by omega, by omega⟩
theorem V_dec {a0 a1 a2 a3 a4 a5 : Int} (v : V a0 a1 a2 a3 a4 a5) : decide (V a0 a1 a2 a3 a4 a5) = true := decide_eq_true v
theorem levelAt_eq (lv : ByteArray) : levelAt.f lv = some (if Lib.toLowerA [] = lv.data.toList then 0 else if Lib.toLowerA [89, 101, 108, 108, 111, 119] = lv.data.toList then 1 else if Lib.toLowerA [79, 114, 97, 110, 103, 101] = lv.data.toList then 2 else if Lib.toLowerA [82, 101, 100] = lv.data.toList then 3 else -1) := by
  unfold levelAt.f
  have el : ((levL.map B).length : Int) = 4 := rfl
  have step : ∀ (k : Nat) (i : Int) (x : List UInt8), 0 ≤ i → i < 4 → rdOf ByteArray.empty (levL.map B) i = B x →
      ixS.l0 (fun x => (B (Lib.toLowerA x.data.toList)).toList == lv.toList) (k + 1) (levL.map B) i = if Lib.toLowerA x = lv.data.toList then some i else ixS.l0 (fun x => (B (Lib.toLowerA x.data.toList)).toList == lv.toList) k (levL.map B) (i + 1) := by
    intro k i x h0 h1 e
    rw [ixS.l0, el, if_pos h1, if_pos h0, e, B_data, B_toList, Lib.toList_data, wrap_id (by omega) (by omega)]
    by_cases h : Lib.toLowerA x = lv.data.toList
    · rw [if_pos (by simpa using h), if_pos h]
    · rw [if_neg (by simpa using h), if_neg h]
  have s0 := step 5 0 [] (by omega) (by omega) rfl
  have s1 := step 4 1 [89, 101, 108, 108, 111, 119] (by omega) (by omega) rfl
  have s2 := step 3 2 [79, 114, 97, 110, 103, 101] (by omega) (by omega) rfl
  have s3 := step 2 3 [82, 101, 100] (by omega) (by omega) rfl
  have s4 : ixS.l0 (fun x => (B (Lib.toLowerA x.data.toList)).toList == lv.toList) 2 (levL.map B) 4 = some (-1) := by rw [ixS.l0, el, if_neg (by omega)]
  show ixS.l0 _ (5 + 1) _ 0 = _
  rw [s0, show (0 : Int) + 1 = 1 from rfl, s1, show (1 : Int) + 1 = 2 from rfl, s2, show (2 : Int) + 1 = 3 from rfl, s3, show (3 : Int) + 1 = 4 from rfl, s4]
  split
  · rfl
  · split
    · rfl
    · split
      · rfl
      · split <;> rfl
theorem levelAt_tot (lv : ByteArray) : ∃ r, levelAt.f lv = some r ∧ -1 ≤ r ∧ r < 4 := by
  refine ⟨_, levelAt_eq lv, ?_⟩
  repeat' split
  all_goals omega
theorem levelAt_of (x : Int) (h : 1 ≤ x ∧ x ≤ 3) : levelAt.f (B (Lib.toLowerA (levL.getD x.toNat []))) = some x := by
  rw [levelAt_eq]
  rcases three h with rfl | rfl | rfl <;> rfl
theorem topicAt_eq (t : ByteArray) : topicAt.f t = some (if t.data.toList = topL.getD 0 [] then 0 else if t.data.toList = topL.getD 1 [] then 1 else if t.data.toList = topL.getD 2 [] then 2 else if t.data.toList = topL.getD 3 [] then 3 else if t.data.toList = topL.getD 4 [] then 4 else if t.data.toList = topL.getD 5 [] then 5 else -1) := by
  unfold topicAt.f slices_Index_string_string.f
  have el : ((topL.map B).length : Int) = 6 := rfl
  rw [el]
  have step : ∀ (k : Nat) (i : Int) (x : List UInt8), 0 ≤ i → i < 6 → rdOf ByteArray.empty (topL.map B) i = B x →
      slices_Index_string_string.l0 (k + 1) (topL.map B) t 6 i = if t.data.toList = x then some i else slices_Index_string_string.l0 k (topL.map B) t 6 (i + 1) := by
    intro k i x h0 h1 e
    rw [slices_Index_string_string.l0, el, if_pos h1, if_pos h0, if_pos h1, e, B_toList, Lib.toList_data, wrap_id (by omega) (by omega)]
  have s0 := step 7 0 (topL.getD 0 []) (by omega) (by omega) rfl
  have s1 := step 6 1 (topL.getD 1 []) (by omega) (by omega) rfl
  have s2 := step 5 2 (topL.getD 2 []) (by omega) (by omega) rfl
  have s3 := step 4 3 (topL.getD 3 []) (by omega) (by omega) rfl
  have s4 := step 3 4 (topL.getD 4 []) (by omega) (by omega) rfl
  have s5 := step 2 5 (topL.getD 5 []) (by omega) (by omega) rfl
  have s6 : slices_Index_string_string.l0 2 (topL.map B) t 6 6 = some (-1) := by rw [slices_Index_string_string.l0, if_neg (by omega)]
  show slices_Index_string_string.l0 (7 + 1) _ _ 6 0 = _
  rw [s0, show (0 : Int) + 1 = 1 from rfl, s1, show (1 : Int) + 1 = 2 from rfl, s2, show (2 : Int) + 1 = 3 from rfl, s3, show (3 : Int) + 1 = 4 from rfl, s4, show (4 : Int) + 1 = 5 from rfl, s5, show (5 : Int) + 1 = 6 from rfl, s6]
  repeat' split
  all_goals rfl
theorem topicAt_tot (t : ByteArray) : ∃ r, topicAt.f t = some r ∧ -1 ≤ r ∧ r < 6 := by
  refine ⟨_, topicAt_eq t, ?_⟩
  repeat' split
  all_goals omega
theorem topicAt_of (x : Int) (h : 1 ≤ x ∧ x ≤ 5) : topicAt.f (B (topL.getD x.toNat [])) = some x := by
  rw [topicAt_eq]
  rcases five h with rfl | rfl | rfl | rfl | rfl <;> rfl
/-! ### numbers that are read -/
theorem read4 (k : Nat) (s0 s1 s2 s3 : ByteArray) (h0 : s0.size ≤ 281474976710656) (h1 : s1.size ≤ 281474976710656) (h2 : s2.size ≤ 281474976710656) (h3 : s3.size ≤ 281474976710656) :
    impl_readInts.f (k + 5) [s0, s1, s2, s3] = some (if ((pIntL s0.data.toList).2 && ((pIntL s1.data.toList).2 && ((pIntL s2.data.toList).2 && (pIntL s3.data.toList).2))) = true then ([(pIntL s0.data.toList).1, (pIntL s1.data.toList).1, (pIntL s2.data.toList).1, (pIntL s3.data.toList).1], true) else ([], false)) := by
  have step : ∀ (k : Nat) (x4 : List Int) (n : Nat) (s : ByteArray), n < 4 → x4.length = 4 → rdOf ByteArray.empty [s0, s1, s2, s3] (n : Int) = s → s.size ≤ 281474976710656 →
      impl_readInts.l0 (k + 1) x4 [s0, s1, s2, s3] 4 (n : Int) = if (pIntL s.data.toList).2 = true then impl_readInts.l0 k (x4.set n (pIntL s.data.toList).1) [s0, s1, s2, s3] 4 ((n : Int) + 1) else some ([], false) := by
    intro k x4 n s hn h4 e hs
    rw [impl_readInts.l0, if_pos (by omega), if_pos (by omega), if_pos (by simp only [List.length_cons, List.length_nil]; omega), e]
    unfold impl_ParseInt.f
    rw [if_pos hs, Option.bind_some]
    by_cases h : (pIntL s.data.toList).2 = true
    · rw [if_pos h, if_pos h, if_pos (by omega), Int.toNat_natCast, wrap_id (by omega) (by omega)]
    · rw [if_neg h, if_neg h]
  unfold impl_readInts.f
  rw [if_pos (by simp only [List.length_cons, List.length_nil]; omega), if_pos (by simp only [List.length_cons, List.length_nil]; omega)]
  have e0 : (List.replicate ((([s0, s1, s2, s3] : List ByteArray).length : Int) : Int).toNat (0 : Int)) = [0, 0, 0, 0] := rfl
  have el : (([s0, s1, s2, s3] : List ByteArray).length : Int) = 4 := rfl
  rw [e0, el]
  have t0 := step (k + 4) [0, 0, 0, 0] 0 s0 (by omega) rfl rfl h0
  have t1 := step (k + 3) [(pIntL s0.data.toList).1, 0, 0, 0] 1 s1 (by omega) rfl rfl h1
  have t2 := step (k + 2) [(pIntL s0.data.toList).1, (pIntL s1.data.toList).1, 0, 0] 2 s2 (by omega) rfl rfl h2
  have t3 := step (k + 1) [(pIntL s0.data.toList).1, (pIntL s1.data.toList).1, (pIntL s2.data.toList).1, 0] 3 s3 (by omega) rfl rfl h3
  have t4 : ∀ x, impl_readInts.l0 (k + 1) x [s0, s1, s2, s3] 4 4 = some (x, true) := fun x => by rw [impl_readInts.l0, if_neg (by omega)]
  refine t0.trans ?_
  cases (pIntL s0.data.toList).2 with
  | false => rfl
  | true =>
    rw [if_pos rfl, Bool.true_and]
    refine t1.trans ?_
    cases (pIntL s1.data.toList).2 with
    | false => rfl
    | true =>
      rw [if_pos rfl, Bool.true_and]
      refine t2.trans ?_
      cases (pIntL s2.data.toList).2 with
      | false => rfl
      | true =>
        rw [if_pos rfl, Bool.true_and]
        refine t3.trans ?_
        cases (pIntL s3.data.toList).2 with
        | false => rfl
        | true => rw [if_pos rfl, if_pos rfl]; exact t4 _
theorem pInt_itoa (n : Int) (h0 : 0 ≤ n) (h1 : n < 1000) : pIntL (B (Lib.itoa n)).data.toList = (n, true) := by
  rw [B_data]
  unfold pIntL
  rw [Txt.atoi_itoa h0 (by omega)]
  simp only
  rw [if_pos ⟨by omega, by omega, trivial⟩]
theorem cut_len (l sep : List UInt8) : (Lib.cut l sep).1.length ≤ l.length ∧ (Lib.cut l sep).2.1.length ≤ l.length := by
  unfold Lib.cut
  split
  · simp; omega
  · simp
theorem cut_some (s sep : ByteArray) (h : s.size < 4294967281) : strings_Cut.f s sep = some (cutL s sep) ∧ (cutL s sep).1.size ≤ s.size ∧ (cutL s sep).2.1.size ≤ s.size := by
  refine ⟨?_, ?_, ?_⟩
  · unfold strings_Cut.f; exact if_pos h
  · have := (cut_len s.data.toList sep.data.toList).1
    show (B _).size ≤ _
    rw [B_size]; simpa using this
  · have := (cut_len s.data.toList sep.data.toList).2
    show (B _).size ≤ _
    rw [B_size]; simpa using this
def Good (code : Int → Int → Int → Int → Int → Int → List UInt8) (s : ByteArray) (r : Int × Int × Int × Int × Int × Int × Bool) : Prop :=
  (r.2.2.2.2.2.2 = true → V r.1 r.2.1 r.2.2.1 r.2.2.2.1 r.2.2.2.2.1 r.2.2.2.2.2.1 ∧ s = B (code r.1 r.2.1 r.2.2.1 r.2.2.2.1 r.2.2.2.2.1 r.2.2.2.2.2.1)) ∧
  (r.2.2.2.2.2.2 = false → r = (0, 0, 0, 0, 0, 0, false))
theorem Good.zero (code) (s : ByteArray) : Good code s (0, 0, 0, 0, 0, 0, false) := ⟨fun h => absurd h (by simp), fun _ => rfl⟩
theorem eq_of_toList {s : ByteArray} {l : List UInt8} (h : (B l).toList = s.toList) : s = B l := by
  rw [B_toList, Lib.toList_data] at h
  exact B_ext h.symm
theorem pw_end (k : Nat) (s t : ByteArray) (x : List Int) (hx : x.length = 4) (l : Int) (b : Bool) : ∃ r, pwRaw.j0 (k + 1) s t x l b = some r ∧ Good lineL s r := by
  rw [pwRaw.j0]
  cases b with
  | true => rw [if_pos rfl]; exact ⟨_, rfl, Good.zero _ _⟩
  | false =>
    obtain ⟨y, hy, _⟩ := topicAt_tot t
    rw [if_neg (by simp), if_pos (by omega), hy, Option.bind_some, if_pos (by omega), if_pos (by omega), if_pos (by omega), valid_ok, Option.bind_some]
    by_cases v : V (rd x 0) y l (rd x 1) (rd x 2) (rd x 3)
    · rw [if_pos (V_dec v), line_impl v, Option.bind_some]
      by_cases e : (B (lineL (rd x 0) y l (rd x 1) (rd x 2) (rd x 3))).toList = s.toList
      · rw [if_pos e]; exact ⟨_, rfl, ⟨fun _ => ⟨v, eq_of_toList e⟩, fun h => absurd h (by simp)⟩⟩
      · rw [if_neg e]; exact ⟨_, rfl, Good.zero _ _⟩
    · rw [if_neg (by simpa using v)]; exact ⟨_, rfl, Good.zero _ _⟩
theorem pw_total (s : ByteArray) (hs : s.size < 4294967281) : ∃ r, impl_ParseWarningLine.f s = some r ∧ Good lineL s r := by
  unfold impl_ParseWarningLine.f pwRaw.f
  obtain ⟨e1, a1, b1⟩ := cut_some s (⟨#[58, 32]⟩ : ByteArray) hs
  rw [e1, Option.bind_some]
  generalize cutL s (⟨#[58, 32]⟩ : ByteArray) = c1 at a1 b1 ⊢
  obtain ⟨e2, a2, b2⟩ := cut_some c1.2.1 (⟨#[32]⟩ : ByteArray) (by omega)
  rw [e2, Option.bind_some]
  generalize cutL c1.2.1 (⟨#[32]⟩ : ByteArray) = c2 at a2 b2 ⊢
  obtain ⟨e3, a3, b3⟩ := cut_some c2.2.1 (⟨#[44, 32, 97, 114, 101, 97, 32]⟩ : ByteArray) (by omega)
  rw [e3, Option.bind_some]
  generalize cutL c2.2.1 (⟨#[44, 32, 97, 114, 101, 97, 32]⟩ : ByteArray) = c3 at a3 b3 ⊢
  obtain ⟨e4, a4, b4⟩ := cut_some c3.2.1 (⟨#[44, 32, 104, 111, 117, 114, 115, 32]⟩ : ByteArray) (by omega)
  rw [e4, Option.bind_some]
  generalize cutL c3.2.1 (⟨#[44, 32, 104, 111, 117, 114, 115, 32]⟩ : ByteArray) = c4 at a4 b4 ⊢
  obtain ⟨e5, a5, b5⟩ := cut_some c4.2.1 (⟨#[45]⟩ : ByteArray) (by omega)
  rw [e5, Option.bind_some]
  generalize cutL c4.2.1 (⟨#[45]⟩ : ByteArray) = c5 at a5 b5 ⊢
  rw [read4 3 c1.1 c4.1 c5.1 c5.2.1 (by omega) (by omega) (by omega) (by omega), Option.bind_some]
  obtain ⟨l, hl, _⟩ := levelAt_tot c2.1
  rw [hl, Option.bind_some]
  split
  · rw [if_pos rfl]; exact pw_end 7 s _ _ rfl _ _
  · rw [if_neg (by simp)]
    rw [pwRaw.j0, if_pos rfl]; exact ⟨_, rfl, Good.zero _ _⟩
theorem cut_B (pre rest : List UInt8) (c : UInt8) (t : List UInt8) (h : c ∉ pre) (hs : (pre ++ (c :: t) ++ rest).length < 4294967281) :
    strings_Cut.f (B (pre ++ (c :: t) ++ rest)) (B (c :: t)) = some (B pre, B rest, true) := by
  unfold strings_Cut.f cutL
  rw [if_pos (by rw [B_size]; exact hs), B_data, B_data, Txt.cut_at pre rest c t h]
theorem low_no (x : Int) (h : 1 ≤ x ∧ x ≤ 3) : (32 : UInt8) ∉ Lib.toLowerA (levL.getD x.toNat []) := by
  rcases three h with rfl | rfl | rfl <;> decide
theorem top_no (x : Int) (h : 1 ≤ x ∧ x ≤ 5) : (44 : UInt8) ∉ topL.getD x.toNat [] := by
  rcases five h with rfl | rfl | rfl | rfl | rfl <;> decide
theorem pw_line {a0 a1 a2 a3 a4 a5 : Int} (v : V a0 a1 a2 a3 a4 a5) : impl_ParseWarningLine.f (B (lineL a0 a1 a2 a3 a4 a5)) = some (a0, a1, a2, a3, a4, a5, true) := by
  have v' := v
  obtain ⟨v0, v1, v2, v3, v5, v4⟩ := v
  have l0 := itoa_le a0 (by omega) (by omega)
  have l3 := itoa_le a3 (by omega) (by omega)
  have l4 := itoa_le a4 (by omega) (by omega)
  have l5 := itoa_le a5 (by omega) (by omega)
  have lL := (slev_ok a2 v2).2
  have lT := (stop_ok a1 v1).2
  have m0 := Txt.not_mem_itoa (n := a0) (by omega) 58 (by decide)
  have m3 := Txt.not_mem_itoa (n := a3) (by omega) 44 (by decide)
  have m4 := Txt.not_mem_itoa (n := a4) (by omega) 45 (by decide)
  have r4 : (Lib.itoa a4 ++ [45] ++ Lib.itoa a5).length < 100 := by simp only [List.length_append, List.length_cons, List.length_nil]; omega
  have r3 : (Lib.itoa a3 ++ [44, 32, 104, 111, 117, 114, 115, 32] ++ (Lib.itoa a4 ++ [45] ++ Lib.itoa a5)).length < 100 := by simp only [List.length_append, List.length_cons, List.length_nil] at *; omega
  have r2 : (topL.getD a1.toNat [] ++ [44, 32, 97, 114, 101, 97, 32] ++ (Lib.itoa a3 ++ [44, 32, 104, 111, 117, 114, 115, 32] ++ (Lib.itoa a4 ++ [45] ++ Lib.itoa a5))).length < 100 := by simp only [List.length_append, List.length_cons, List.length_nil] at *; omega
  have r1 : (Lib.toLowerA (levL.getD a2.toNat []) ++ [32] ++ (topL.getD a1.toNat [] ++ [44, 32, 97, 114, 101, 97, 32] ++ (Lib.itoa a3 ++ [44, 32, 104, 111, 117, 114, 115, 32] ++ (Lib.itoa a4 ++ [45] ++ Lib.itoa a5)))).length < 100 := by simp only [List.length_append, List.length_cons, List.length_nil] at *; omega
  have r0 : (Lib.itoa a0 ++ [58, 32] ++ (Lib.toLowerA (levL.getD a2.toNat []) ++ [32] ++ (topL.getD a1.toNat [] ++ [44, 32, 97, 114, 101, 97, 32] ++ (Lib.itoa a3 ++ [44, 32, 104, 111, 117, 114, 115, 32] ++ (Lib.itoa a4 ++ [45] ++ Lib.itoa a5))))).length < 100 := by simp only [List.length_append, List.length_cons, List.length_nil] at *; omega
  have el : lineL a0 a1 a2 a3 a4 a5 = Lib.itoa a0 ++ [58, 32] ++ (Lib.toLowerA (levL.getD a2.toNat []) ++ [32] ++ (topL.getD a1.toNat [] ++ [44, 32, 97, 114, 101, 97, 32] ++ (Lib.itoa a3 ++ [44, 32, 104, 111, 117, 114, 115, 32] ++ (Lib.itoa a4 ++ [45] ++ Lib.itoa a5)))) := by simp only [lineL, List.append_assoc]
  have c0 := cut_B (Lib.itoa a0) _ 58 [32] m0 (Nat.lt_trans r0 (by omega))
  have c1 := cut_B (Lib.toLowerA (levL.getD a2.toNat [])) _ 32 [] (low_no a2 v2) (Nat.lt_trans r1 (by omega))
  have c2 := cut_B (topL.getD a1.toNat []) _ 44 [32, 97, 114, 101, 97, 32] (top_no a1 v1) (Nat.lt_trans r2 (by omega))
  have c3 := cut_B (Lib.itoa a3) _ 44 [32, 104, 111, 117, 114, 115, 32] m3 (Nat.lt_trans r3 (by omega))
  have c4 := cut_B (Lib.itoa a4) _ 45 [] m4 (Nat.lt_trans r4 (by omega))
  have sz : ∀ n : Int, 0 ≤ n → n < 1000 → (B (Lib.itoa n)).size ≤ 281474976710656 := fun n h0 h1 => by have := itoa_le n h0 h1; rw [B_size]; omega
  unfold impl_ParseWarningLine.f pwRaw.f
  rw [el]
  rw [show (⟨#[58, 32]⟩ : ByteArray) = B [58, 32] from rfl, c0, Option.bind_some]
  dsimp only
  rw [show (⟨#[32]⟩ : ByteArray) = B [32] from rfl, c1, Option.bind_some]
  dsimp only
  rw [show (⟨#[44, 32, 97, 114, 101, 97, 32]⟩ : ByteArray) = B [44, 32, 97, 114, 101, 97, 32] from rfl, c2, Option.bind_some]
  dsimp only
  rw [show (⟨#[44, 32, 104, 111, 117, 114, 115, 32]⟩ : ByteArray) = B [44, 32, 104, 111, 117, 114, 115, 32] from rfl, c3, Option.bind_some]
  dsimp only
  rw [show (⟨#[45]⟩ : ByteArray) = B [45] from rfl, c4, Option.bind_some]
  dsimp only
  rw [read4 3 _ _ _ _ (sz a0 (by omega) (by omega)) (sz a3 (by omega) (by omega)) (sz a4 (by omega) (by omega)) (sz a5 (by omega) (by omega)), pInt_itoa a0 (by omega) (by omega), pInt_itoa a3 (by omega) (by omega), pInt_itoa a4 (by omega) (by omega), pInt_itoa a5 (by omega) (by omega)]
  simp only [Bool.and_self, if_true, Option.bind_some]
  rw [levelAt_of a2 v2, Option.bind_some]
  rw [show decide (a2 < 1) = false from decide_eq_false (by omega), pwRaw.j0, if_neg (by simp), if_pos (by simp), topicAt_of a1 v1, Option.bind_some, if_pos (by simp), if_pos (by simp), if_pos (by simp)]
  have q0 : rd [a0, a3, a4, a5] 0 = a0 := rfl
  have q1 : rd [a0, a3, a4, a5] 1 = a3 := rfl
  have q2 : rd [a0, a3, a4, a5] 2 = a4 := rfl
  have q3 : rd [a0, a3, a4, a5] 3 = a5 := rfl
  rw [q0, q1, q2, q3, valid_ok, Option.bind_some, if_pos (V_dec v'), line_impl v', Option.bind_some, el, if_pos rfl]
theorem splitOn_len (c : UInt8) : ∀ (s : List UInt8) (x : List UInt8), x ∈ Txt.splitOn c s → x.length ≤ s.length
  | [], x, h => by simp [Txt.splitOn] at h; simp [h]
  | y :: r, x, h => by
    unfold Txt.splitOn at h
    split at h
    · rcases List.mem_cons.1 h with rfl | h
      · simp
      · have := splitOn_len c r x h; simp; omega
    · split at h
      · rw [List.mem_singleton] at h; subst h; simp
      · rename_i p q e
        have ih := splitOn_len c r
        rw [e] at ih
        rcases List.mem_cons.1 h with rfl | h
        · have := ih p (by simp); simp; omega
        · have := ih x (by simp [h]); simp; omega
theorem splitB_eq (s : ByteArray) (c : UInt8) : Lib.splitB (B [c]) 0 (Lib.countB s (B [c])) s = (Txt.splitOn c s.data.toList).map B := by
  have h := Lib.splitB_data (B [c]) 0 (Lib.countB s (B [c])) s
  have h2 : Lib.splitK (B [c]).data.toList 0 (Lib.countB s (B [c])) s.data.toList = Txt.splitOn c s.data.toList := Txt.split_one c s.data.toList
  rw [h2] at h
  rw [← h, List.map_map]
  have : (B ∘ fun x : ByteArray => x.data.toList) = id := by funext x; exact B_of x
  rw [this, List.map_id]
theorem bt_B (l : List UInt8) (i : Nat) (h : i < l.length) : bt (B l) (i : Int) = ((l.getD i 0).toNat : Int) := by
  unfold bt
  rw [dif_pos (show ((i : Int)).toNat < (B l).size by rw [B_size]; simpa using h), List.getD_eq_getElem?_getD, List.getElem?_eq_getElem h]
  rfl
/-! ### the law's own reader of codes -/
theorem splitB_step (l : List UInt8) (c : UInt8) (i j : Nat) (hj : j ≤ i) (hi : i < l.length) (hno : ∀ m, j ≤ m → m < i → l.getD m 0 ≠ c) (hc : l.getD i 0 = c) :
    Txt.splitOn c (l.drop j) = ((l.drop j).take (i - j)) :: Txt.splitOn c (l.drop (i + 1)) := by
  have e : l.drop j = (l.drop j).take (i - j) ++ c :: l.drop (i + 1) := by
    conv => lhs; rw [← List.take_append_drop (i - j) (l.drop j)]
    rw [List.drop_drop, show j + (i - j) = i by omega, List.drop_eq_getElem_cons hi]
    rw [List.getD_eq_getElem?_getD, List.getElem?_eq_getElem hi] at hc
    rw [← hc]; rfl
  have hn : c ∉ (l.drop j).take (i - j) := by
    intro hm
    obtain ⟨m, hm1, hm2⟩ := List.getElem_of_mem hm
    rw [List.length_take, List.length_drop] at hm1
    have := hno (j + m) (by omega) (by omega)
    rw [List.getD_eq_getElem?_getD, List.getElem?_eq_getElem (by omega)] at this
    apply this
    rw [List.getElem_take, List.getElem_drop] at hm2
    exact hm2
  conv => lhs; rw [e]
  exact Txt.splitOn_at c _ _ hn
theorem splitS (s : ByteArray) (c : UInt8) (hs : s.size ≤ 1048576) : Evt fun k => spec_l1Split.f k s (c.toNat : Int) = some ((Txt.splitOn c s.data.toList).map B) := by
  obtain ⟨l, rfl⟩ : ∃ l, s = B l := ⟨_, (B_of s).symm⟩
  rw [B_data]
  rw [B_size] at hs
  unfold spec_l1Split.f
  refine evt_loop0 l.length (fun k (q : List ByteArray × Nat) i => spec_l1Split.l0 k (B l) (c.toNat : Int) q.1 (q.2 : Int) i) _
    (fun i q => q.2 ≤ i ∧ q.1.length ≤ i ∧ (∀ m, q.2 ≤ m → m < i → l.getD m 0 ≠ c) ∧ q.1 ++ (Txt.splitOn c (l.drop q.2)).map B = (Txt.splitOn c l).map B) ?_ ?_ ([], 0) ⟨by simp, by simp, by intro m _ h; omega, by simp⟩
  · rintro i ⟨acc, j⟩ hi ⟨h1, h2, h3, h4⟩
    dsimp only at h1 h2 h3 h4
    have hb := bt_B l i hi
    by_cases h : l.getD i 0 = c
    · refine .inl ⟨(acc ++ [B ((l.drop j).take (i - j))], i + 1), ⟨Nat.le_refl _, by simp; omega, by intro m a b; omega, ?_⟩, 1, Evt.all fun k => ?_⟩
      · dsimp only
        rw [splitB_step l c i j h1 hi h3 h] at h4
        simpa using h4
      · show spec_l1Split.l0 (k + 1) (B l) (c.toNat : Int) acc (j : Int) (i : Int) = _
        rw [spec_l1Split.l0, if_pos (by rw [B_size]; omega), if_pos (by omega), hb, if_pos (by rw [h]), if_pos (by omega), if_pos (by omega), if_pos (by rw [B_size]; omega), if_pos (by omega), wrap_id (by omega) (by omega), Int.toNat_natCast, Int.toNat_natCast, B_ext2 l _ j i rfl]
        rfl
    · refine .inl ⟨(acc, j), ⟨by dsimp only; omega, by dsimp only; omega, ?_, h4⟩, 1, Evt.all fun k => ?_⟩
      · intro m a b
        by_cases e : m = i
        · rw [e]; exact h
        · exact h3 m a (by omega)
      · show spec_l1Split.l0 (k + 1) (B l) (c.toNat : Int) acc (j : Int) (i : Int) = _
        rw [spec_l1Split.l0, if_pos (by rw [B_size]; omega), if_pos (by omega), hb, if_neg (fun e => h (UInt8.toNat_inj.1 (by omega))), wrap_id (by omega) (by omega)]
  · rintro ⟨acc, j⟩ ⟨h1, h2, h3, h4⟩
    dsimp only at h1 h2 h3 h4
    refine Evt.succ (Evt.all fun k => ?_)
    show spec_l1Split.l0 (k + 1) (B l) (c.toNat : Int) acc (j : Int) (l.length : Int) = _
    have hn : c ∉ l.drop j := by
      intro hm
      obtain ⟨m, hm1, hm2⟩ := List.getElem_of_mem hm
      rw [List.length_drop] at hm1
      have := h3 (j + m) (by omega) (by omega)
      rw [List.getD_eq_getElem?_getD, List.getElem?_eq_getElem (by omega)] at this
      apply this
      rw [List.getElem_drop] at hm2
      exact hm2
    rw [Txt.splitOn_none _ _ hn] at h4
    rw [spec_l1Split.l0, if_neg (by rw [B_size]; omega), if_pos (by omega), if_pos (by rw [B_size]; omega), if_pos (by omega), Int.toNat_natCast, B_size, B_ext2 l (l.drop j) j l.length (by rw [List.take_of_length_le (by simp)]), ← h4]
    rfl
def val (l : List UInt8) : Int := l.foldl (fun a c => 10 * a + ((c.toNat : Int) - 48)) 0
theorem val_snoc (l : List UInt8) (c : UInt8) : val (l ++ [c]) = 10 * val l + ((c.toNat : Int) - 48) := by unfold val; rw [List.foldl_append]; rfl
theorem val_dec (u : Nat) : val (Lib.decDigits u) = u := by
  induction u using Nat.strongRecOn with
  | _ u ih =>
    rw [Lib.decDigits]
    by_cases h : u < 10
    · rw [dif_pos h]
      have := Txt.dig_of u h
      simp only [val, List.foldl_cons, List.foldl_nil]
      omega
    · rw [dif_neg h, val_snoc, ih (u / 10) (by omega)]
      have := Txt.dig_of (u % 10) (by omega)
      omega
theorem read_loop (s : ByteArray) (l : List UInt8) (hl : l.length ≤ 6) (hs : l.length ≤ s.size) :
    ∃ r, Evt fun k => spec_l1Read.l0 k s (B l) 0 0 = some r := by
  have := evt_loop_ex l.length (fun k (x : Int) i => spec_l1Read.l0 k s (B l) x i) (fun _ => True) (fun i x => 0 ≤ x ∧ x < 10 ^ i) ?_ ?_ (0 : Int) ⟨by omega, by simp⟩
  · obtain ⟨r, _, h⟩ := this; exact ⟨r, h⟩
  · rintro i x hi ⟨h0, h1⟩
    have hb := bt_B l i hi
    have hp : (10 : Int) ^ i ≤ 100000 := by
      have : i = 0 ∨ i = 1 ∨ i = 2 ∨ i = 3 ∨ i = 4 ∨ i = 5 := by omega
      rcases this with rfl | rfl | rfl | rfl | rfl | rfl <;> decide
    have hq : (10 : Int) ^ (i + 1) = 10 * 10 ^ i := by rw [Int.pow_succ]; omega
    have go : ∀ k, spec_l1Read.l0 (k + 1) s (B l) x (i : Int) = _ := fun k => by
      rw [spec_l1Read.l0, if_pos (by rw [B_size]; omega), if_pos (by omega), hb]
    by_cases c1 : ((l.getD i 0).toNat : Int) < 48
    · exact .inr ⟨_, trivial, Evt.succ (Evt.all fun k => by show spec_l1Read.l0 (k + 1) s (B l) x (i : Int) = _; rw [go k, if_pos c1])⟩
    · by_cases c2 : ((l.getD i 0).toNat : Int) > 57
      · exact .inr ⟨_, trivial, Evt.succ (Evt.all fun k => by show spec_l1Read.l0 (k + 1) s (B l) x (i : Int) = _; rw [go k, if_neg c1, if_pos c2])⟩
      · refine .inl ⟨10 * x + (((l.getD i 0).toNat : Int) - 48), ⟨by omega, by omega⟩, 1, Evt.all fun k => ?_⟩
        show spec_l1Read.l0 (k + 1) s (B l) x (i : Int) = _
        rw [go k, if_neg c1, if_neg c2, Int.emod_eq_of_lt (by omega) (by omega), wrap_id (x := 10 * x) (by omega) (by omega), wrap_id (x := (i : Int) + 1) (by omega) (by omega), wrap_id (by omega) (by omega)]
  · rintro x ⟨h0, h1⟩
    have hp : (10 : Int) ^ l.length ≤ 1000000 := by
      have : l.length = 0 ∨ l.length = 1 ∨ l.length = 2 ∨ l.length = 3 ∨ l.length = 4 ∨ l.length = 5 ∨ l.length = 6 := by omega
      rcases this with h | h | h | h | h | h | h <;> rw [h] <;> decide
    have go : ∀ k, spec_l1Read.l0 (k + 1) s (B l) x (l.length : Int) = _ := fun k => by
      rw [spec_l1Read.l0, if_neg (by rw [B_size]; omega)]
    by_cases c : ((B l).size : Int) < (s.size : Int)
    · obtain ⟨t, ht⟩ := num_tot (-x) (by omega) (by omega)
      by_cases e : t.toList = s.toList
      · exact ⟨_, trivial, Evt.succ (ht.mono fun k hk => by show spec_l1Read.l0 (k + 1) s (B l) x (l.length : Int) = _; rw [go k, if_pos c, wrap_id (by omega) (by omega), hk, Option.bind_some, if_pos e])⟩
      · exact ⟨_, trivial, Evt.succ (ht.mono fun k hk => by show spec_l1Read.l0 (k + 1) s (B l) x (l.length : Int) = _; rw [go k, if_pos c, wrap_id (by omega) (by omega), hk, Option.bind_some, if_neg e])⟩
    · obtain ⟨t, ht⟩ := num_tot x (by omega) (by omega)
      by_cases e : t.toList = s.toList
      · exact ⟨_, trivial, Evt.succ (ht.mono fun k hk => by show spec_l1Read.l0 (k + 1) s (B l) x (l.length : Int) = _; rw [go k, if_neg c, hk, Option.bind_some, if_pos e])⟩
      · exact ⟨_, trivial, Evt.succ (ht.mono fun k hk => by show spec_l1Read.l0 (k + 1) s (B l) x (l.length : Int) = _; rw [go k, if_neg c, hk, Option.bind_some, if_neg e])⟩
theorem read_j1 (s : ByteArray) (l : List UInt8) (hs : l.length ≤ s.size) : ∃ r, Evt fun k => spec_l1Read.j1 k s (B l) = some r := by
  by_cases h : 1 ≤ (l.length : Int) ∧ (l.length : Int) ≤ 6
  · obtain ⟨r, hr⟩ := read_loop s l (by omega) hs
    exact ⟨r, Evt.succ (hr.mono fun k hk => by show spec_l1Read.j1 (k + 1) s (B l) = _; rw [spec_l1Read.j1, l1In_ok, Option.bind_some, B_size, if_pos (decide_eq_true h)]; exact hk)⟩
  · exact ⟨_, Evt.succ (Evt.all fun k => by show spec_l1Read.j1 (k + 1) s (B l) = _; rw [spec_l1Read.j1, l1In_ok, Option.bind_some, B_size, if_neg (by simpa using h)])⟩
theorem read_tot (s : ByteArray) : ∃ r, Evt fun k => spec_l1Read.f k s = some r := by
  have plain : ∃ r, Evt fun k => spec_l1Read.j0 k s s false = some r := by
    obtain ⟨r, hr⟩ := read_j1 s s.data.toList (by simp)
    refine ⟨r, Evt.succ (hr.mono fun k hk => ?_)⟩
    show spec_l1Read.j0 (k + 1) s s false = _
    rw [spec_l1Read.j0, if_neg (by simp)]
    rw [B_of] at hk; exact hk
  by_cases h : (s.size : Int) > 1
  · cases hb : (bt s 0 == 45) with
    | true =>
      obtain ⟨r, hr⟩ := read_j1 s (s.data.toList.drop 1) (by simp)
      refine ⟨r, Evt.succ (hr.mono fun k hk => ?_)⟩
      show spec_l1Read.f (k + 1) s = _
      unfold spec_l1Read.f
      rw [if_pos h, if_pos (by omega), hb, spec_l1Read.j0, if_pos rfl, if_pos (by omega)]
      have e : s.extract 1 s.size = B (s.data.toList.drop 1) := by
        apply B_ext
        rw [Lib.extract_to_end]; rfl
      rw [e]; exact hk
    | false =>
      obtain ⟨r, hr⟩ := plain
      refine ⟨r, hr.mono fun k hk => ?_⟩
      unfold spec_l1Read.f
      rw [if_pos h, if_pos (by omega), hb]; exact hk
  · obtain ⟨r, hr⟩ := plain
    refine ⟨r, hr.mono fun k hk => ?_⟩
    unfold spec_l1Read.f
    rw [if_neg h]; exact hk
theorem read_itoa (n : Int) (h0 : 0 ≤ n) (h1 : n < 1000) : Evt fun k => spec_l1Read.f k (B (Lib.itoa n)) = some (n, true) := by
  obtain ⟨l, hl⟩ : ∃ l, l = Lib.itoa n := ⟨_, rfl⟩
  have hd : ∀ i, i < l.length → 48 ≤ (l.getD i 0).toNat ∧ (l.getD i 0).toNat ≤ 57 := by
    intro i hi
    rw [List.getD_eq_getElem?_getD, List.getElem?_eq_getElem hi, Option.getD_some]
    have hm : ∀ c ∈ l, 48 ≤ c.toNat ∧ c.toNat ≤ 57 := by rw [hl, Txt.itoa_nat h0]; exact Txt.decDigits_dig _
    exact hm _ (List.getElem_mem hi)
  have hv : val l = n := by rw [hl, Txt.itoa_nat h0, val_dec]; omega
  have hle : l.length ≤ 3 := by rw [hl]; exact itoa_le n h0 h1
  have hpos : 1 ≤ l.length := by rw [hl]; exact itoa_pos n h0
  have lp : Evt fun k => spec_l1Read.l0 k (B l) (B l) 0 0 = some (n, true) := by
    refine evt_loop0 l.length (fun k (x : Int) i => spec_l1Read.l0 k (B l) (B l) x i) (n, true) (fun i x => x = val (l.take i) ∧ 0 ≤ x ∧ x < 10 ^ i) ?_ ?_ (0 : Int) ⟨by simp [val], by omega, by simp⟩
    · rintro i x hi ⟨hx, x0, x1⟩
      have hb := bt_B l i hi
      obtain ⟨d0, d1⟩ := hd i hi
      have hp : (10 : Int) ^ i ≤ 100 := by
        have : i = 0 ∨ i = 1 ∨ i = 2 := by omega
        rcases this with rfl | rfl | rfl <;> decide
      have hq : (10 : Int) ^ (i + 1) = 10 * 10 ^ i := by rw [Int.pow_succ]; omega
      refine .inl ⟨10 * x + (((l.getD i 0).toNat : Int) - 48), ⟨?_, by omega, by omega⟩, 1, Evt.all fun k => ?_⟩
      · rw [List.take_succ_eq_append_getElem hi, val_snoc, hx, List.getD_eq_getElem?_getD, List.getElem?_eq_getElem hi]; rfl
      · show spec_l1Read.l0 (k + 1) (B l) (B l) x (i : Int) = _
        rw [spec_l1Read.l0, if_pos (by rw [B_size]; omega), if_pos (by omega), hb, if_neg (by omega), if_neg (by omega), Int.emod_eq_of_lt (by omega) (by omega), wrap_id (x := 10 * x) (by omega) (by omega), wrap_id (x := (i : Int) + 1) (by omega) (by omega), wrap_id (by omega) (by omega)]
    · rintro x ⟨hx, x0, x1⟩
      rw [List.take_of_length_le (Nat.le_refl _), hv] at hx
      subst hx
      refine Evt.succ ((num_ok x h0 (by omega)).mono fun k hk => ?_)
      show spec_l1Read.l0 (k + 1) (B l) (B l) x (l.length : Int) = _
      rw [spec_l1Read.l0, if_neg (by rw [B_size]; omega), if_neg (by omega), hk, Option.bind_some, ← hl, if_pos rfl]
  rw [← hl]
  have j1 : Evt fun k => spec_l1Read.j1 k (B l) (B l) = some (n, true) := Evt.succ (lp.mono fun k hk => by
    show spec_l1Read.j1 (k + 1) (B l) (B l) = _
    rw [spec_l1Read.j1, l1In_ok, Option.bind_some, B_size, if_pos (decide_eq_true ⟨by omega, by omega⟩)]; exact hk)
  have j0 : Evt fun k => spec_l1Read.j0 k (B l) (B l) false = some (n, true) := Evt.succ (j1.mono fun k hk => by
    show spec_l1Read.j0 (k + 1) (B l) (B l) false = _
    rw [spec_l1Read.j0, if_neg (by simp)]; exact hk)
  refine j0.mono fun k hk => ?_
  unfold spec_l1Read.f
  have hb : (bt (B l) 0 == 45) = false := by
    have hb := bt_B l 0 (by omega)
    obtain ⟨d0, d1⟩ := hd 0 (by omega)
    rw [show ((0 : Nat) : Int) = 0 from rfl] at hb
    rw [hb]
    simp only [beq_eq_false_iff_ne]
    omega
  by_cases h : ((B l).size : Int) > 1
  · rw [if_pos h, if_pos (by omega), hb]; exact hk
  · rw [if_neg h]; exact hk

/-! ### lists of warnings -/
def VS (x : S25) : Prop := V x.f0 x.f1 x.f2 x.f3 x.f4 x.f5
def meetS (a b : S25) : Prop := a.f1 = b.f1 ∧ a.f3 = b.f3 ∧ a.f4 < b.f5 ∧ b.f4 < a.f5
def AreW (l : List S25) : Prop := l.length ≤ 12 ∧ (∀ i, i < l.length → VS (l.getD i z25)) ∧ ∀ i, 0 < i → i < l.length → (l.getD (i - 1) z25).f0 < (l.getD i z25).f0
def NoMeet (l : List S25) : Prop := ∀ i j, j < i → i < l.length → ¬ meetS (l.getD j z25) (l.getD i z25)
def ConsL (l : List S25) : Prop := AreW l ∧ NoMeet l
theorem rdT (l : List S25) (i : Nat) : rd_T25 l (i : Int) = l.getD i z25 := by unfold rd_T25; rw [Int.toNat_natCast]
theorem rdT1 (l : List S25) (i : Nat) (h : 0 < i) (h2 : i ≤ 1000000000) : rd_T25 l (wrap64 ((i : Int) - 1)) = l.getD (i - 1) z25 ∧ 0 ≤ wrap64 ((i : Int) - 1) ∧ wrap64 ((i : Int) - 1) = ((i - 1 : Nat) : Int) := by
  have e : wrap64 ((i : Int) - 1) = ((i - 1 : Nat) : Int) := by rw [wrap_id (by omega) (by omega)]; omega
  rw [e]
  exact ⟨rdT l (i - 1), by omega, rfl⟩
theorem validS (x : S25) : impl_IsValidWarning.f x.f0 x.f1 x.f2 x.f3 x.f4 x.f5 = some (decide (V x.f0 x.f1 x.f2 x.f3 x.f4 x.f5)) := valid_ok _ _ _ _ _ _
theorem areW_ok (l : List S25) (hl : l.length ≤ 1000000000) : ∃ b, (b = true ↔ AreW l) ∧ Evt fun k => impl_areWarnings.f k l = some b := by
  unfold impl_areWarnings.f
  refine evt_loop_ex l.length (fun k (_ : Unit) i => impl_areWarnings.l0 k l l (l.length : Int) i) (fun b => b = true ↔ AreW l)
    (fun i _ => (∀ j, j < i → VS (l.getD j z25)) ∧ ∀ j, 0 < j → j < i → (l.getD (j - 1) z25).f0 < (l.getD j z25).f0) ?_ ?_ () ⟨fun j h => by omega, fun j _ h => by omega⟩
  · rintro i _ hi ⟨h1, h2⟩
    by_cases v : VS (l.getD i z25)
    · have hd : decide (V (l.getD i z25).f0 (l.getD i z25).f1 (l.getD i z25).f2 (l.getD i z25).f3 (l.getD i z25).f4 (l.getD i z25).f5) = true := decide_eq_true v
      rcases Nat.eq_zero_or_pos i with h0 | h0
      · refine .inl ⟨(), ⟨fun j hj => ?_, fun j h3 hj => by omega⟩, 1, Evt.all fun k => ?_⟩
        · obtain rfl : j = i := by omega
          exact v
        · show impl_areWarnings.l0 (k + 1) l l (l.length : Int) (i : Int) = _
          rw [impl_areWarnings.l0, if_pos (by omega), if_pos (by omega), if_pos (by omega), rdT, validS, Option.bind_some, if_pos hd, if_neg (by omega), wrap_id (by omega) (by omega)]
      · obtain ⟨e1, e2, e3⟩ := rdT1 l i h0 (by omega)
        by_cases c : (l.getD (i - 1) z25).f0 ≥ (l.getD i z25).f0
        · refine .inr ⟨false, ⟨fun h => (by cases h), fun h => ?_⟩, Evt.succ (Evt.all fun k => ?_)⟩
          · have := h.2.2 i h0 hi; omega
          · show impl_areWarnings.l0 (k + 1) l l (l.length : Int) (i : Int) = _
            rw [impl_areWarnings.l0, if_pos (by omega), if_pos (by omega), if_pos (by omega), rdT, validS, Option.bind_some, if_pos hd, if_pos (by omega), if_pos e2, if_pos (by omega), e1, if_pos c]
        · refine .inl ⟨(), ⟨fun j hj => ?_, fun j h3 hj => ?_⟩, 1, Evt.all fun k => ?_⟩
          · by_cases e : j = i
            · subst e; exact v
            · exact h1 j (by omega)
          · by_cases e : j = i
            · subst e; omega
            · exact h2 j h3 (by omega)
          · show impl_areWarnings.l0 (k + 1) l l (l.length : Int) (i : Int) = _
            rw [impl_areWarnings.l0, if_pos (by omega), if_pos (by omega), if_pos (by omega), rdT, validS, Option.bind_some, if_pos hd, if_pos (by omega), if_pos e2, if_pos (by omega), e1, if_neg c, wrap_id (x := (i : Int) + 1) (by omega) (by omega)]
    · refine .inr ⟨false, ⟨fun h => (by cases h), fun h => absurd (h.2.1 i hi) v⟩, Evt.succ (Evt.all fun k => ?_)⟩
      show impl_areWarnings.l0 (k + 1) l l (l.length : Int) (i : Int) = _
      rw [impl_areWarnings.l0, if_pos (by omega), if_pos (by omega), if_pos (by omega), rdT, validS, Option.bind_some, if_neg (fun h_ => v (show V _ _ _ _ _ _ from of_decide_eq_true h_))]
  · rintro _ ⟨h1, h2⟩
    refine ⟨decide ((l.length : Int) ≤ 12), ?_, Evt.succ (Evt.all fun k => ?_)⟩
    · rw [decide_eq_true_iff]
      exact ⟨fun h => ⟨by omega, h1, h2⟩, fun h => by have := h.1; omega⟩
    · show impl_areWarnings.l0 (k + 1) l l (l.length : Int) (l.length : Int) = _
      rw [impl_areWarnings.l0, if_neg (by omega)]
theorem meets_iff (w x : S25) : meets w.f0 w.f1 w.f2 w.f3 w.f4 w.f5 x = true ↔ meetS x w := by
  unfold meets impl_doMeet.f meetS
  by_cases h1 : w.f1 = x.f1
  · by_cases h2 : w.f3 = x.f3
    · by_cases h3 : w.f4 < x.f5
      · rw [if_pos h1, if_pos h2, if_pos h3, Option.getD_some, decide_eq_true_iff]
        exact ⟨fun h => ⟨h1.symm, h2.symm, h, h3⟩, fun h => h.2.2.1⟩
      · rw [if_pos h1, if_pos h2, if_neg h3]; simp [h3]
    · rw [if_pos h1, if_neg h2]; simp [Ne.symm h2]
  · rw [if_neg h1]; simp [Ne.symm h1]
theorem ixW_ok (p : S25 → Bool) (l : List S25) (hl : l.length ≤ 1000000000) : ∀ (d i : Nat), i + d = l.length → ∃ r, ixW.l0 p (d + 1) l (i : Int) = some r ∧ (0 ≤ r ↔ ∃ j, i ≤ j ∧ j < l.length ∧ p (l.getD j z25) = true)
  | 0, i, h => ⟨-1, by rw [ixW.l0, if_neg (by omega)], by constructor
                                                          · intro h; omega
                                                          · rintro ⟨j, _, _, _⟩; omega⟩
  | d + 1, i, h => by
    by_cases c : p (l.getD i z25) = true
    · refine ⟨(i : Int), by rw [ixW.l0, if_pos (by omega), if_pos (by omega), rdT, if_pos c], ⟨fun _ => ⟨i, Nat.le_refl _, by omega, c⟩, fun _ => by omega⟩⟩
    · obtain ⟨r, e, hr⟩ := ixW_ok p l hl d (i + 1) (by omega)
      refine ⟨r, by rw [ixW.l0, if_pos (by omega), if_pos (by omega), rdT, if_neg c, wrap_id (by omega) (by omega)]; exact e, hr.trans ⟨?_, ?_⟩⟩
      · rintro ⟨j, h1, h2, h3⟩; exact ⟨j, by omega, h2, h3⟩
      · rintro ⟨j, h1, h2, h3⟩
        refine ⟨j, ?_, h2, h3⟩
        rcases Nat.eq_or_lt_of_le h1 with rfl | h4
        · exact absurd h3 c
        · exact h4
theorem contains_ok (l : List S25) (hl : l.length ≤ 1000000000) (i : Nat) (hi : i ≤ l.length) (w : S25) : ∃ b, slices_ContainsFunc_Warning.f (l.take i) w.f0 w.f1 w.f2 w.f3 w.f4 w.f5 = some b ∧ (b = true ↔ ∃ j, j < i ∧ meetS (l.getD j z25) w) := by
  have hlen : (l.take i).length = i := by simp; omega
  obtain ⟨r, e, hr⟩ := ixW_ok (meets w.f0 w.f1 w.f2 w.f3 w.f4 w.f5) (l.take i) (by omega) (l.take i).length 0 (by omega)
  refine ⟨decide (r ≥ 0), ?_, ?_⟩
  · unfold slices_ContainsFunc_Warning.f
    rw [show ((0 : Nat) : Int) = 0 from rfl] at e
    rw [e, Option.bind_some]
  · rw [decide_eq_true_iff]
    refine Iff.trans (show r ≥ 0 ↔ _ from hr) ⟨?_, ?_⟩
    · rintro ⟨j, _, h2, h3⟩
      rw [hlen] at h2
      rw [List.getD_eq_getElem?_getD, List.getElem?_take_of_lt h2, ← List.getD_eq_getElem?_getD] at h3
      exact ⟨j, h2, (meets_iff _ _).1 h3⟩
    · rintro ⟨j, h2, h3⟩
      refine ⟨j, Nat.zero_le _, by omega, ?_⟩
      rw [List.getD_eq_getElem?_getD, List.getElem?_take_of_lt h2, ← List.getD_eq_getElem?_getD]
      exact (meets_iff _ _).2 h3
theorem cons_ok (l : List S25) (hl : l.length ≤ 1000000000) : ∃ b, (b = true ↔ ConsL l) ∧ Evt fun k => impl_IsConsistent.f k l = some b := by
  obtain ⟨a, ha, hA⟩ := areW_ok l hl
  cases a with
  | false =>
    refine ⟨false, ⟨fun h => (by cases h), fun h => (by have := ha.2 h.1; cases this)⟩, hA.mono fun k hk => ?_⟩
    unfold impl_IsConsistent.f
    rw [hk, Option.bind_some, if_neg (by simp)]
  | true =>
    have hw := ha.1 rfl
    have := evt_loop_ex l.length (fun k (_ : Unit) i => impl_IsConsistent.l0 k l l (l.length : Int) i) (fun b => b = true ↔ NoMeet l) (fun i _ => ∀ a b, b < a → a < i → ¬ meetS (l.getD b z25) (l.getD a z25)) ?_ ?_ () (fun a b _ h => by omega)
    · obtain ⟨b, hb, hB⟩ := this
      refine ⟨b, hb.trans ⟨fun h => ⟨hw, h⟩, fun h => h.2⟩, (hA.and hB).mono fun k hk => ?_⟩
      unfold impl_IsConsistent.f
      rw [hk.1, Option.bind_some, if_pos rfl]
      exact hk.2
    · rintro i _ hi h
      obtain ⟨b, e, hb⟩ := contains_ok l hl i (by omega) (l.getD i z25)
      cases b with
      | true =>
        obtain ⟨j, h1, h2⟩ := hb.1 rfl
        refine .inr ⟨false, ⟨fun h => (by cases h), fun h => absurd h2 (h i j h1 hi)⟩, Evt.succ (Evt.all fun k => ?_)⟩
        show impl_IsConsistent.l0 (k + 1) l l (l.length : Int) (i : Int) = _
        rw [impl_IsConsistent.l0, if_pos (by omega), if_pos (by omega), if_pos (by omega), if_pos (by omega), Int.toNat_natCast, rdT, e, Option.bind_some, if_pos rfl]
      | false =>
        refine .inl ⟨(), fun a b h1 h2 => ?_, 1, Evt.all fun k => ?_⟩
        · by_cases e2 : a = i
          · subst e2
            intro hm
            have := hb.2 ⟨b, h1, hm⟩
            cases this
          · exact h a b h1 (by omega)
        · show impl_IsConsistent.l0 (k + 1) l l (l.length : Int) (i : Int) = _
          rw [impl_IsConsistent.l0, if_pos (by omega), if_pos (by omega), if_pos (by omega), if_pos (by omega), Int.toNat_natCast, rdT, e, Option.bind_some, if_neg (by simp), wrap_id (by omega) (by omega)]
    · rintro _ h
      refine ⟨true, ⟨fun _ => fun a b h1 h2 => h a b h1 h2, fun _ => rfl⟩, Evt.succ (Evt.all fun k => ?_)⟩
      show impl_IsConsistent.l0 (k + 1) l l (l.length : Int) (l.length : Int) = _
      rw [impl_IsConsistent.l0, if_neg (by omega)]
theorem smeet (a b : S25) : ∃ r, spec_l14Meet.f a.f0 a.f1 a.f2 a.f3 a.f4 a.f5 b.f0 b.f1 b.f2 b.f3 b.f4 b.f5 = some r ∧ (r = true ↔ meetS a b) := by
  unfold spec_l14Meet.f meetS
  by_cases h1 : a.f1 = b.f1
  · by_cases h2 : a.f3 = b.f3
    · by_cases h3 : a.f4 < b.f5
      · rw [if_pos h1, if_pos h2, if_pos h3]; exact ⟨_, rfl, by simp [h1, h2, h3]⟩
      · rw [if_pos h1, if_pos h2, if_neg h3]; exact ⟨_, rfl, by simp [h3]⟩
    · rw [if_pos h1, if_neg h2]; exact ⟨_, rfl, by simp [h2]⟩
  · rw [if_neg h1]; exact ⟨_, rfl, by simp [h1]⟩
theorem sl1_no (l : List S25) (hl : l.length ≤ 100) (i : Nat) (hi : i < l.length) (h : ∀ j, j < i → ¬ meetS (l.getD j z25) (l.getD i z25)) (k : Nat) : ∀ (d j : Nat), j + d = i → spec_l14List.l1 (k + d + 1) l (i : Int) (j : Int) = spec_l14List.l0 k l ((i : Int) + 1)
  | 0, j, e => by
    show spec_l14List.l1 (k + 1) l (i : Int) (j : Int) = _
    rw [spec_l14List.l1, if_neg (by omega), wrap_id (by omega) (by omega)]
  | d + 1, j, e => by
    have ih := sl1_no l hl i hi h k d (j + 1) (by omega)
    obtain ⟨r, e1, hr⟩ := smeet (l.getD j z25) (l.getD i z25)
    have hr' : ¬ r = true := fun hq => h j (by omega) (hr.1 hq)
    show spec_l14List.l1 (k + d + 1 + 1) l (i : Int) (j : Int) = _
    rw [spec_l14List.l1, if_pos (by omega), if_pos (by omega), if_pos (by omega), if_pos (by omega), if_pos (by omega), rdT, rdT, e1, Option.bind_some, if_neg hr', wrap_id (by omega) (by omega)]
    exact ih
theorem sl1_yes (l : List S25) (hl : l.length ≤ 100) (i : Nat) (hi : i < l.length) (j0 : Nat) (hj0 : j0 < i) (h : meetS (l.getD j0 z25) (l.getD i z25)) : ∀ (d j : Nat), j + d = j0 → Evt fun k => spec_l14List.l1 k l (i : Int) (j : Int) = some false
  | 0, j, e => by
    obtain rfl : j = j0 := by omega
    obtain ⟨r, e1, hr⟩ := smeet (l.getD j z25) (l.getD i z25)
    refine Evt.succ (Evt.all fun k => ?_)
    show spec_l14List.l1 (k + 1) l (i : Int) (j : Int) = _
    rw [spec_l14List.l1, if_pos (by omega), if_pos (by omega), if_pos (by omega), if_pos (by omega), if_pos (by omega), rdT, rdT, e1, Option.bind_some, if_pos (hr.2 h)]
  | d + 1, j, e => by
    have ih := sl1_yes l hl i hi j0 hj0 h d (j + 1) (by omega)
    obtain ⟨r, e1, hr⟩ := smeet (l.getD j z25) (l.getD i z25)
    refine Evt.succ (ih.mono fun k hk => ?_)
    show spec_l14List.l1 (k + 1) l (i : Int) (j : Int) = _
    rw [spec_l14List.l1, if_pos (by omega), if_pos (by omega), if_pos (by omega), if_pos (by omega), if_pos (by omega), rdT, rdT, e1, Option.bind_some]
    split
    · rfl
    · rw [wrap_id (by omega) (by omega)]; exact hk
theorem slist_ok (l : List S25) : ∃ b, (b = true ↔ ConsL l) ∧ Evt fun k => spec_l14List.f k l = some b := by
  unfold spec_l14List.f
  by_cases hl : (l.length : Int) > 12
  · refine ⟨false, ⟨fun h => (by cases h), fun h => by have := h.1.1; omega⟩, Evt.all fun k => ?_⟩
    rw [if_pos hl]
  · simp only [if_neg hl]
    refine evt_loop_ex l.length (fun k (_ : Unit) i => spec_l14List.l0 k l i) (fun b => b = true ↔ ConsL l)
      (fun i _ => (∀ j, j < i → VS (l.getD j z25)) ∧ (∀ j, 0 < j → j < i → (l.getD (j - 1) z25).f0 < (l.getD j z25).f0) ∧ ∀ a b, b < a → a < i → ¬ meetS (l.getD b z25) (l.getD a z25)) ?_ ?_ () ⟨fun j h => by omega, fun j _ h => by omega, fun a b _ h => by omega⟩
    · rintro i _ hi ⟨h1, h2, h3⟩
      have good : spec_l14Good.f (l.getD i z25).f0 (l.getD i z25).f1 (l.getD i z25).f2 (l.getD i z25).f3 (l.getD i z25).f4 (l.getD i z25).f5 = _ := good_ok _ _ _ _ _ _
      by_cases v : VS (l.getD i z25)
      · have hd : decide (V (l.getD i z25).f0 (l.getD i z25).f1 (l.getD i z25).f2 (l.getD i z25).f3 (l.getD i z25).f4 (l.getD i z25).f5) = true := decide_eq_true v
        have no : (0 < i → ¬ (l.getD (i - 1) z25).f0 < (l.getD i z25).f0) → 0 < i → (∃ b, (b = true ↔ ConsL l) ∧ Evt fun k => spec_l14List.l0 k l (i : Int) = some b) := by
          intro c h0
          obtain ⟨e1, e2, e3⟩ := rdT1 l i h0 (by omega)
          have c' := c h0
          refine ⟨false, ⟨fun h => (by cases h), fun h => absurd (h.1.2.2 i h0 hi) c'⟩, Evt.add 2 (Evt.all fun k => ?_)⟩
          show spec_l14List.l0 (k + 1 + 1) l (i : Int) = _
          rw [spec_l14List.l0, if_pos (by omega), if_pos (by omega), rdT, good, Option.bind_some, if_pos hd, if_pos (by omega), if_pos e2, if_pos (by omega), e1, spec_l14List.j1, if_pos (decide_eq_true (by omega))]
        have main : (0 < i → (l.getD (i - 1) z25).f0 < (l.getD i z25).f0) → ∀ k, spec_l14List.l0 (k + 1 + 1) l (i : Int) = spec_l14List.l1 k l (i : Int) 0 := by
          intro c k
          rcases Nat.eq_zero_or_pos i with h0 | h0
          · rw [spec_l14List.l0, if_pos (by omega), if_pos (by omega), rdT, good, Option.bind_some, if_pos hd, if_neg (by omega), spec_l14List.j1, if_neg (by simp)]
          · obtain ⟨e1, e2, e3⟩ := rdT1 l i h0 (by omega)
            have c' := c h0
            rw [spec_l14List.l0, if_pos (by omega), if_pos (by omega), rdT, good, Option.bind_some, if_pos hd, if_pos (by omega), if_pos e2, if_pos (by omega), e1, spec_l14List.j1, if_neg (fun h_ => by have := of_decide_eq_true h_; omega)]
        by_cases c : 0 < i → (l.getD (i - 1) z25).f0 < (l.getD i z25).f0
        · by_cases m : ∃ j, j < i ∧ meetS (l.getD j z25) (l.getD i z25)
          · obtain ⟨j, hj, hm⟩ := m
            refine .inr ⟨false, ⟨fun h => (by cases h), fun h => absurd hm (h.2 i j hj hi)⟩, Evt.add 2 ((sl1_yes l (by omega) i hi j hj hm j 0 (by omega)).mono fun k hk => ?_)⟩
            show spec_l14List.l0 (k + 1 + 1) l (i : Int) = _
            rw [main c k]; exact hk
          · have m' : ∀ j, j < i → ¬ meetS (l.getD j z25) (l.getD i z25) := fun j hj hm => m ⟨j, hj, hm⟩
            refine .inl ⟨(), ⟨fun j hj => ?_, fun j h4 hj => ?_, fun a b h4 hj => ?_⟩, i + 1 + 2, Evt.all fun k => ?_⟩
            · by_cases e : j = i
              · subst e; exact v
              · exact h1 j (by omega)
            · by_cases e : j = i
              · subst e; exact c h4
              · exact h2 j h4 (by omega)
            · by_cases e : a = i
              · subst e; exact m' b h4
              · exact h3 a b h4 (by omega)
            · show spec_l14List.l0 (k + i + 1 + 1 + 1) l (i : Int) = _
              rw [main c]
              exact sl1_no l (by omega) i hi m' k i 0 (by omega)
        · have h0 : 0 < i := by
            rcases Nat.eq_zero_or_pos i with h0 | h0
            · exact absurd (fun h => by omega) c
            · exact h0
          exact .inr (no (fun h hlt => c fun _ => hlt) h0)
      · refine .inr ⟨false, ⟨fun h => (by cases h), fun h => absurd (h.1.2.1 i hi) v⟩, Evt.add 2 (Evt.all fun k => ?_)⟩
        show spec_l14List.l0 (k + 1 + 1) l (i : Int) = _
        rw [spec_l14List.l0, if_pos (by omega), if_pos (by omega), rdT, good, Option.bind_some, if_neg (fun h_ => v (show V _ _ _ _ _ _ from of_decide_eq_true h_)), spec_l14List.j1, if_pos rfl]
    · rintro _ ⟨h1, h2, h3⟩
      refine ⟨true, ⟨fun _ => ⟨⟨by omega, h1, h2⟩, h3⟩, fun _ => rfl⟩, Evt.succ (Evt.all fun k => ?_)⟩
      show spec_l14List.l0 (k + 1) l (l.length : Int) = _
      rw [spec_l14List.l0, if_neg (by omega)]
/-! ### checksums -/
theorem has35 (l : List UInt8) : decide (0 ≤ Lib.indexByte l 35) = decide (35 ∈ l) := by
  rw [← Lib.contains_iff_indexByte]
  by_cases h : (35 : UInt8) ∈ l
  · rw [decide_eq_true h]; simpa using h
  · rw [decide_eq_false h]; simpa using h
def sumG (a : Int) (c : UInt8) : Int := Int.tmod (41 * a + (c.toNat : Int) + 1) 999979
def sumL (l : List UInt8) : Int := l.foldl sumG 7
theorem sumG_ok (a : Int) (c : UInt8) (h : 0 ≤ a ∧ a < 999979) : 0 ≤ sumG a c ∧ sumG a c < 999979 := by
  unfold sumG
  rw [Int.tmod_eq_emod_of_nonneg (by omega)]
  omega
theorem sumF_ok : ∀ (l : List UInt8) (a : Int), 0 ≤ a ∧ a < 999979 → 0 ≤ l.foldl sumG a ∧ l.foldl sumG a < 999979
  | [], a, h => h
  | c :: r, a, h => sumF_ok r (sumG a c) (sumG_ok a c h)
theorem sumL_ok (l : List UInt8) : 0 ≤ sumL l ∧ sumL l < 999979 := sumF_ok l 7 (by omega)
theorem sumG_wrap (l : List UInt8) (i : Nat) (hi : i < l.length) (a : Int) (h : 0 ≤ a ∧ a < 999979) : Int.tmod (wrap64 ((wrap64 ((wrap64 (41 * a)) + (wrap64 (bt (B l) (i : Int))))) + 1)) 999979 = sumG a (l.getD i 0) := by
  have hc : ((l.getD i 0).toNat : Int) < 256 := by have := (l.getD i 0).toNat_lt; omega
  rw [bt_B l i hi, wrap_id (x := 41 * a) (by omega) (by omega), wrap_id (x := ((l.getD i 0).toNat : Int)) (by omega) (by omega), wrap_id (x := 41 * a + ((l.getD i 0).toNat : Int)) (by omega) (by omega), wrap_id (by omega) (by omega)]
  rfl
theorem sum_spec (l : List UInt8) (hl : l.length ≤ 2000000) : Evt fun k => spec_l1Sum.f k (B l) = some (sumL l) := by
  unfold spec_l1Sum.f
  refine evt_loop0 l.length (fun k a i => spec_l1Sum.l0 k (B l) a i) (sumL l) (fun i a => (0 ≤ a ∧ a < 999979) ∧ (l.drop i).foldl sumG a = sumL l) ?_ ?_ 7 ⟨by omega, rfl⟩
  · rintro i a hi ⟨h1, h2⟩
    refine .inl ⟨sumG a (l.getD i 0), ⟨sumG_ok _ _ h1, by rw [getD_drop l 0 i hi] at h2; exact h2⟩, 1, Evt.all fun k => ?_⟩
    show spec_l1Sum.l0 (k + 1) (B l) a (i : Int) = _
    rw [spec_l1Sum.l0, if_pos (by rw [B_size]; omega), if_pos (by omega), sumG_wrap l i hi a h1, wrap_id (by omega) (by omega)]
  · rintro a ⟨h1, h2⟩
    rw [List.drop_of_length_le (Nat.le_refl _)] at h2
    refine Evt.succ (Evt.all fun k => ?_)
    show spec_l1Sum.l0 (k + 1) (B l) a (l.length : Int) = _
    rw [spec_l1Sum.l0, if_neg (by rw [B_size]; omega), ← h2]; rfl
theorem sum_impl (l : List UInt8) (hl : l.length ≤ 2000000) : Evt fun k => impl_checksum.f k (B l) = some (sumL l) := by
  unfold impl_checksum.f
  refine evt_loop0 l.length (fun k a i => impl_checksum.l0 k (B l) a i) (sumL l) (fun i a => (0 ≤ a ∧ a < 999979) ∧ (l.drop i).foldl sumG a = sumL l) ?_ ?_ 7 ⟨by omega, rfl⟩
  · rintro i a hi ⟨h1, h2⟩
    refine .inl ⟨sumG a (l.getD i 0), ⟨sumG_ok _ _ h1, by rw [getD_drop l 0 i hi] at h2; exact h2⟩, 1, Evt.all fun k => ?_⟩
    show impl_checksum.l0 (k + 1) (B l) a (i : Int) = _
    rw [impl_checksum.l0, if_pos (by rw [B_size]; omega), if_pos (by omega), sumG_wrap l i hi a h1, wrap_id (by omega) (by omega)]
  · rintro a ⟨h1, h2⟩
    rw [List.drop_of_length_le (Nat.le_refl _)] at h2
    refine Evt.succ (Evt.all fun k => ?_)
    show impl_checksum.l0 (k + 1) (B l) a (l.length : Int) = _
    rw [impl_checksum.l0, if_neg (by rw [B_size]; omega), ← h2]; rfl
def sealL (l : List UInt8) : List UInt8 := l ++ [35] ++ Lib.itoa (sumL l)
theorem sum_len (l : List UInt8) : (Lib.itoa (sumL l)).length ≤ 20 := itoa_len _ (by have := sumL_ok l; unfold i64; omega)
theorem k35 : (⟨#[35]⟩ : ByteArray) = B [35] := rfl
theorem seal_spec (l : List UInt8) (hl : l.length ≤ 2000000) : Evt fun k => spec_l1Seal.f k (B l) = some (B (sealL l)) := by
  have h := sumL_ok l
  have hn := sum_len l
  refine ((sum_spec l hl).and (num_ok (sumL l) h.1 (by omega))).mono fun k hk => ?_
  unfold spec_l1Seal.f
  rw [if_pos (by rw [B_size]; omega), hk.1, Option.bind_some, hk.2, Option.bind_some, k35, B_app, B_app, if_pos (by rw [B_size, B_size, List.length_append]; simp only [List.length_cons, List.length_nil]; omega)]
  rfl
theorem app_impl (l : List UInt8) (hl : l.length ≤ 2000000) : Evt fun k => impl_AppendChecksum.f k (B l) = some (if l.length ≤ 4000 ∧ 35 ∉ l ∧ (sealL l).length ≤ 4000 then (B (sealL l), true) else (⟨#[]⟩, false)) := by
  have h := sumL_ok l
  have hn := sum_len l
  have yes : Evt fun k => impl_AppendChecksum.j0 k (B l) true = some (⟨#[]⟩, false) := Evt.succ (Evt.all fun k => by show impl_AppendChecksum.j0 (k + 1) (B l) true = _; rw [impl_AppendChecksum.j0, if_pos rfl])
  by_cases h1 : l.length ≤ 4000
  · by_cases h2 : (35 : UInt8) ∈ l
    · refine yes.mono fun k hk => ?_
      unfold impl_AppendChecksum.f strings_Contains.f
      rw [if_neg (by rw [B_size]; omega), if_pos rfl, Option.bind_some, B_data, has35, decide_eq_true h2, hk, if_neg (fun q => q.2.1 h2)]
    · refine Evt.succ ((sum_impl l hl).mono fun k hk => ?_)
      have e : strconv_Itoa.f (sumL l) = some (B (Lib.itoa (sumL l))) := by unfold strconv_Itoa.f; exact if_pos ⟨by omega, by omega⟩
      have es : sealL l = (l ++ [35]) ++ Lib.itoa (sumL l) := rfl
      show impl_AppendChecksum.f (k + 1) (B l) = _
      unfold impl_AppendChecksum.f strings_Contains.f
      rw [if_neg (by rw [B_size]; omega), if_pos rfl, Option.bind_some, B_data, has35, decide_eq_false h2, impl_AppendChecksum.j0, if_neg (by simp), if_pos (by rw [B_size]; omega), hk, Option.bind_some, e, Option.bind_some, k35, B_app, B_app,
        if_pos (by rw [B_size, B_size, List.length_append]; simp only [List.length_cons, List.length_nil]; omega), ← es, B_size]
      by_cases h3 : (sealL l).length ≤ 4000
      · rw [if_neg (by omega), if_pos ⟨h1, h2, h3⟩]
      · rw [if_pos (by omega), if_neg (fun q => h3 q.2.2)]
  · refine yes.mono fun k hk => ?_
    unfold impl_AppendChecksum.f
    rw [if_pos (by rw [B_size]; omega), hk, if_neg (fun q => h1 q.1)]
def VG (s : ByteArray) (r : ByteArray × Bool) : Prop := (r.2 = true → ∃ l, r.1 = B l ∧ s = B (sealL l) ∧ (sealL l).length ≤ 4000 ∧ 35 ∉ l) ∧ (r.2 = false → r.1 = ⟨#[]⟩)
theorem sealL_len (l : List UInt8) : l.length + 1 ≤ (sealL l).length := by unfold sealL; simp only [List.length_append, List.length_cons, List.length_nil]; omega
theorem ver_impl (s : ByteArray) (hs : s.size ≤ 1048576) : ∃ r, VG s r ∧ Evt fun k => impl_VerifyChecksum.f k s = some r := by
  obtain ⟨l, rfl⟩ : ∃ l, s = B l := ⟨_, (B_of s).symm⟩
  rw [B_size] at hs
  have hc : strings_Cut.f (B l) (⟨#[35]⟩ : ByteArray) = some (B (Lib.cut l [35]).1, B (Lib.cut l [35]).2.1, (Lib.cut l [35]).2.2) := by unfold strings_Cut.f cutL; rw [if_pos (by rw [B_size]; omega)]; rfl
  have hlen := (cut_len l [35]).1
  generalize Lib.cut l [35] = c at hc hlen
  obtain ⟨t, rest, found⟩ := c
  have ha := app_impl t (by dsimp only at hlen; omega)
  dsimp only at hc
  have zero : VG (B l) (⟨#[]⟩, false) := ⟨fun h => (by cases h), fun _ => rfl⟩
  cases found with
  | false =>
    refine ⟨_, zero, ha.mono fun k hk => ?_⟩
    unfold impl_VerifyChecksum.f
    rw [hc, Option.bind_some, hk, Option.bind_some, if_neg (by simp)]
  | true =>
    by_cases q : t.length ≤ 4000 ∧ 35 ∉ t ∧ (sealL t).length ≤ 4000
    · simp only [if_pos q] at ha
      by_cases e : (B (sealL t)).toList = (B l).toList
      · refine ⟨(B t, true), ⟨fun _ => ⟨t, rfl, eq_of_toList e |>.trans rfl, q.2.2, q.2.1⟩, fun h => (by cases h)⟩, ha.mono fun k hk => ?_⟩
        unfold impl_VerifyChecksum.f
        rw [hc, Option.bind_some, hk, Option.bind_some, if_pos rfl, if_pos rfl, if_pos e]
      · refine ⟨_, zero, ha.mono fun k hk => ?_⟩
        unfold impl_VerifyChecksum.f
        rw [hc, Option.bind_some, hk, Option.bind_some, if_pos rfl, if_pos rfl, if_neg e]
    · simp only [if_neg q] at ha
      refine ⟨_, zero, ha.mono fun k hk => ?_⟩
      unfold impl_VerifyChecksum.f
      rw [hc, Option.bind_some, hk, Option.bind_some, if_pos rfl, if_neg (by simp)]
theorem ver_impl_seal (l : List UInt8) (h : 35 ∉ l) (hl : (sealL l).length ≤ 4000) : Evt fun k => impl_VerifyChecksum.f k (B (sealL l)) = some (B l, true) := by
  have h0 := sealL_len l
  have hc : strings_Cut.f (B (sealL l)) (⟨#[35]⟩ : ByteArray) = some (B l, B (Lib.itoa (sumL l)), true) := cut_B l (Lib.itoa (sumL l)) 35 [] h (Nat.lt_of_le_of_lt hl (by omega))
  refine (app_impl l (by omega)).mono fun k hk => ?_
  rw [if_pos ⟨by omega, h, hl⟩] at hk
  unfold impl_VerifyChecksum.f
  rw [hc, Option.bind_some, hk, Option.bind_some, if_pos rfl, if_pos rfl, if_pos rfl]
theorem split_head (l : List UInt8) (c : UInt8) : ∃ t q, Txt.splitOn c l = t :: q ∧ c ∉ t ∧ t.length ≤ l.length := by
  rcases Txt.split_first c l with h | ⟨pre, rest, rfl, h⟩
  · exact ⟨l, [], Txt.splitOn_none c l h, h, Nat.le_refl _⟩
  · exact ⟨pre, _, Txt.splitOn_at c pre rest h, h, by simp⟩
theorem ver_spec (s : ByteArray) (hs : s.size ≤ 1048576) : ∃ r, VG s r ∧ Evt fun k => spec_VerifyChecksum.f k s = some r := by
  obtain ⟨l, rfl⟩ : ∃ l, s = B l := ⟨_, (B_of s).symm⟩
  have zero : VG (B l) (⟨#[]⟩, false) := ⟨fun h => (by cases h), fun _ => rfl⟩
  by_cases h1 : l.length ≤ 4000
  · obtain ⟨t, q, e, h35, hlen⟩ := split_head l 35
    have hsp := splitS (B l) 35 (by rw [B_size]; omega)
    rw [B_data, e] at hsp
    have hse := seal_spec t (by omega)
    by_cases c : (B (sealL t)).toList = (B l).toList
    · have el : l = sealL t := by rw [B_toList, B_toList] at c; exact c.symm
      refine ⟨(B t, true), ⟨fun _ => ⟨t, rfl, congrArg B el, by rw [← el]; exact h1, h35⟩, fun h => (by cases h)⟩, (hsp.and hse).mono fun k hk => ?_⟩
      obtain ⟨k1, k2⟩ := hk
      unfold spec_VerifyChecksum.f
      rw [if_neg (by rw [B_size]; omega), show (35 : Int) = (((35 : UInt8).toNat : Nat) : Int) from rfl, k1, Option.bind_some, if_pos (by simp only [List.map_cons, List.length_cons]; omega), show rdOf ByteArray.empty ((t :: q).map B) 0 = B t from rfl, k2, Option.bind_some, if_pos c]
    · refine ⟨_, zero, (hsp.and hse).mono fun k hk => ?_⟩
      obtain ⟨k1, k2⟩ := hk
      unfold spec_VerifyChecksum.f
      rw [if_neg (by rw [B_size]; omega), show (35 : Int) = (((35 : UInt8).toNat : Nat) : Int) from rfl, k1, Option.bind_some, if_pos (by simp only [List.map_cons, List.length_cons]; omega), show rdOf ByteArray.empty ((t :: q).map B) 0 = B t from rfl, k2, Option.bind_some, if_neg c]
  · refine ⟨_, zero, Evt.all fun k => ?_⟩
    unfold spec_VerifyChecksum.f
    rw [if_pos (by rw [B_size]; omega)]
theorem ver_spec_seal (l : List UInt8) (h : 35 ∉ l) (hl : (sealL l).length ≤ 4000) : Evt fun k => spec_VerifyChecksum.f k (B (sealL l)) = some (B l, true) := by
  have h0 := sealL_len l
  have e : Txt.splitOn 35 (sealL l) = l :: Txt.splitOn 35 (Lib.itoa (sumL l)) := by
    unfold sealL
    rw [List.append_assoc]
    exact Txt.splitOn_at 35 l _ h
  have hsp := splitS (B (sealL l)) 35 (by rw [B_size]; omega)
  rw [B_data, e] at hsp
  refine (hsp.and (seal_spec l (by omega))).mono fun k hk => ?_
  obtain ⟨k1, k2⟩ := hk
  unfold spec_VerifyChecksum.f
  rw [if_neg (by rw [B_size]; omega), show (35 : Int) = (((35 : UInt8).toNat : Nat) : Int) from rfl, k1, Option.bind_some, if_pos (by simp only [List.map_cons, List.length_cons]; omega), show rdOf ByteArray.empty ((l :: Txt.splitOn 35 (Lib.itoa (sumL l))).map B) 0 = B l from rfl, k2, Option.bind_some, if_pos rfl]
/-! ### the text of a bulletin -/
def lineS (x : S25) : List UInt8 := lineL x.f0 x.f1 x.f2 x.f3 x.f4 x.f5
def tailL : List S25 → List UInt8
  | [] => []
  | x :: r => lineS x ++ [10] ++ tailL r
theorem tailL_app : ∀ a b : List S25, tailL (a ++ b) = tailL a ++ tailL b
  | [], b => rfl
  | x :: r, b => by rw [List.cons_append, tailL, tailL_app r b, tailL]; simp only [List.append_assoc]
def wB : List UInt8 := [98, 117, 108, 108, 101, 116, 105, 110, 32]
def wH : List UInt8 := [32, 97, 116, 32, 104, 111, 117, 114, 32]
def headL (n h : Int) : List UInt8 := wB ++ Lib.itoa n ++ wH ++ Lib.itoa h
def bodyL (n h : Int) (ws : List S25) : List UInt8 := headL n h ++ [10] ++ tailL ws
def VB (n h : Int) (ws : List S25) : Prop := (1 ≤ n ∧ n ≤ 999) ∧ (0 ≤ h ∧ h ≤ 240) ∧ ConsL ws
theorem ConsL.all {ws : List S25} (h : ConsL ws) : ∀ x ∈ ws, VS x := by
  intro x hx
  obtain ⟨i, hi, rfl⟩ := List.getElem_of_mem hx
  have := h.1.2.1 i hi
  rwa [getD_lt _ _ _ hi] at this
theorem line_no (c : UInt8) (hc : c = 35 ∨ c = 10) {x : S25} (v : VS x) : c ∉ lineS x := by
  obtain ⟨v0, v1, v2, v3, v5, v4⟩ := v
  have hd : c.toNat < 48 ∨ 57 < c.toNat := by rcases hc with rfl | rfl <;> decide
  have m0 := Txt.not_mem_itoa (n := x.f0) (by omega) c hd
  have m3 := Txt.not_mem_itoa (n := x.f3) (by omega) c hd
  have m4 := Txt.not_mem_itoa (n := x.f4) (by omega) c hd
  have m5 := Txt.not_mem_itoa (n := x.f5) (by omega) c hd
  have ml : c ∉ Lib.toLowerA (levL.getD x.f2.toNat []) := by
    rcases hc with rfl | rfl <;> rcases three v2 with e | e | e <;> rw [e] <;> decide
  have mt : c ∉ topL.getD x.f1.toNat [] := by
    rcases hc with rfl | rfl <;> rcases five v1 with e | e | e | e | e <;> rw [e] <;> decide
  unfold lineS lineL
  simp only [List.mem_append, not_or]
  have k : ∀ l : List UInt8, 35 ∉ l → 10 ∉ l → c ∉ l := fun l h1 h2 => by rcases hc with rfl | rfl <;> assumption
  exact ⟨⟨⟨⟨⟨⟨⟨⟨m0, k _ (by decide) (by decide)⟩, ml⟩, k _ (by decide) (by decide)⟩, mt⟩, k _ (by decide) (by decide)⟩, m3⟩, k _ (by decide) (by decide)⟩, ⟨m4, k _ (by decide) (by decide)⟩, m5⟩
theorem line_le {x : S25} (v : VS x) : (lineS x).length ≤ 50 := by
  obtain ⟨v0, v1, v2, v3, v5, v4⟩ := v
  have l0 := itoa_le x.f0 (by omega) (by omega)
  have l3 := itoa_le x.f3 (by omega) (by omega)
  have l4 := itoa_le x.f4 (by omega) (by omega)
  have l5 := itoa_le x.f5 (by omega) (by omega)
  have lL := (slev_ok x.f2 v2).2
  have lT := (stop_ok x.f1 v1).2
  unfold lineS lineL
  simp only [List.length_append, List.length_cons, List.length_nil]
  omega
theorem tail_le : ∀ ws : List S25, (∀ x ∈ ws, VS x) → (tailL ws).length ≤ 51 * ws.length
  | [], _ => Nat.le_refl _
  | x :: r, h => by
    have := tail_le r fun y hy => h y (by simp [hy])
    have := line_le (h x (by simp))
    rw [tailL]
    simp only [List.length_append, List.length_cons, List.length_nil]
    omega
theorem tail_no35 : ∀ ws : List S25, (∀ x ∈ ws, VS x) → (35 : UInt8) ∉ tailL ws
  | [], _ => by simp [tailL]
  | x :: r, h => by
    have := tail_no35 r fun y hy => h y (by simp [hy])
    have := line_no 35 (.inl rfl) (h x (by simp))
    rw [tailL]
    simp only [List.mem_append, not_or]
    exact ⟨⟨by assumption, by decide⟩, by assumption⟩
theorem head_le (n h : Int) (hn : 1 ≤ n ∧ n ≤ 999) (hh : 0 ≤ h ∧ h ≤ 240) : (headL n h).length ≤ 24 := by
  have l0 := itoa_le n (by omega) (by omega)
  have l3 := itoa_le h (by omega) (by omega)
  unfold headL wB wH
  simp only [List.length_append, List.length_cons, List.length_nil]
  omega
theorem head_no (c : UInt8) (hc : c = 35 ∨ c = 10) (n h : Int) (hn : 1 ≤ n ∧ n ≤ 999) (hh : 0 ≤ h ∧ h ≤ 240) : c ∉ headL n h := by
  have hd : c.toNat < 48 ∨ 57 < c.toNat := by rcases hc with rfl | rfl <;> decide
  have m0 := Txt.not_mem_itoa (n := n) (by omega) c hd
  have m3 := Txt.not_mem_itoa (n := h) (by omega) c hd
  unfold headL
  simp only [List.mem_append, not_or]
  have k : ∀ l : List UInt8, 35 ∉ l → 10 ∉ l → c ∉ l := fun l h1 h2 => by rcases hc with rfl | rfl <;> assumption
  exact ⟨⟨⟨k _ (by decide) (by decide), m0⟩, k _ (by decide) (by decide)⟩, m3⟩
theorem body_ok {n h : Int} {ws : List S25} (v : VB n h ws) : (35 : UInt8) ∉ bodyL n h ws ∧ (bodyL n h ws).length ≤ 700 ∧ (sealL (bodyL n h ws)).length ≤ 4000 := by
  obtain ⟨hn, hh, hc⟩ := v
  have h1 := head_le n h hn hh
  have h2 := tail_le ws hc.all
  have h3 := hc.1.1
  have h4 := sum_len (bodyL n h ws)
  have h5 : (bodyL n h ws).length ≤ 700 := by
    unfold bodyL
    simp only [List.length_append, List.length_cons, List.length_nil]
    omega
  refine ⟨?_, h5, ?_⟩
  · unfold bodyL
    simp only [List.mem_append, not_or]
    exact ⟨⟨head_no 35 (.inl rfl) n h hn hh, by decide⟩, tail_no35 ws hc.all⟩
  · show (bodyL n h ws ++ [35] ++ Lib.itoa (sumL (bodyL n h ws))).length ≤ 4000
    simp only [List.length_append, List.length_cons, List.length_nil] at h5 ⊢
    omega
theorem take_snoc (ws : List S25) (i : Nat) (hi : i < ws.length) : ws.take (i + 1) = ws.take i ++ [ws.getD i z25] := by
  rw [getD_lt _ _ _ hi, List.take_add_one, List.getElem?_eq_getElem hi]; rfl
theorem tail_step (ws : List S25) (i : Nat) (hi : i < ws.length) : tailL (ws.take (i + 1)) = tailL (ws.take i) ++ (lineS (ws.getD i z25) ++ [10]) := by
  rw [take_snoc ws i hi, tailL_app, tailL, tailL, List.append_nil]
theorem take_all {ws : List S25} (h : ∀ x ∈ ws, VS x) (i : Nat) : ∀ x ∈ ws.take i, VS x := fun x hx => h x (List.mem_of_mem_take hx)
theorem kB : (⟨#[98, 117, 108, 108, 101, 116, 105, 110, 32]⟩ : ByteArray) = B wB := rfl
theorem kH : (⟨#[32, 97, 116, 32, 104, 111, 117, 114, 32]⟩ : ByteArray) = B wH := rfl
theorem k10 : (⟨#[10]⟩ : ByteArray) = B [10] := rfl
theorem itoa_f (x : Int) (hx : 0 ≤ x ∧ x < 1000) : strconv_Itoa.f x = some (B (Lib.itoa x)) := by unfold strconv_Itoa.f; exact if_pos ⟨by omega, by omega⟩
theorem wB_len : wB.length = 9 := rfl
theorem wH_len : wH.length = 9 := rfl
theorem text_impl {n h : Int} {ws : List S25} (v : VB n h ws) : Evt fun k => impl_bulletinText.f k n h ws = some (B (sealL (bodyL n h ws))) := by
  obtain ⟨b35, bl, bs⟩ := body_ok v
  obtain ⟨hn, hh, hc⟩ := v
  have ha := hc.all
  have l0 := itoa_le n (by omega) (by omega)
  have l3 := itoa_le h (by omega) (by omega)
  have h1 := head_le n h hn hh
  have h3 := hc.1.1
  have main : Evt fun k => impl_bulletinText.l0 k (B (headL n h ++ [10])) ws (ws.length : Int) 0 = some (B (sealL (bodyL n h ws))) := by
    refine evt_loop0 ws.length (fun k s i => impl_bulletinText.l0 k s ws (ws.length : Int) i) _ (fun i s => s = B (headL n h ++ [10] ++ tailL (ws.take i))) ?_ ?_ _ (by simp [tailL])
    · rintro i s hi rfl
      have v := hc.1.2.1 i hi
      have el : impl_warningLine.f (ws.getD i z25).f0 (ws.getD i z25).f1 (ws.getD i z25).f2 (ws.getD i z25).f3 (ws.getD i z25).f4 (ws.getD i z25).f5 = some (B (lineS (ws.getD i z25))) := line_impl v
      have hl := line_le v
      have ht := tail_le (ws.take i) (take_all ha i)
      have hti : (ws.take i).length ≤ 12 := by rw [List.length_take]; omega
      refine .inl ⟨_, rfl, 1, Evt.all fun k => ?_⟩
      show impl_bulletinText.l0 (k + 1) _ ws (ws.length : Int) (i : Int) = _
      rw [impl_bulletinText.l0, if_pos (by omega), if_pos (by omega), if_pos (by omega), rdT, el, Option.bind_some, k10, B_app, if_pos (by rw [B_size]; omega), B_app, B_size, B_size, tail_step ws i hi,
        if_pos (by simp only [List.length_append, List.length_cons, List.length_nil] at *; omega), wrap_id (by omega) (by omega)]
      simp only [List.append_assoc]
    · rintro s rfl
      rw [List.take_length]
      have hb : headL n h ++ [10] ++ tailL ws = bodyL n h ws := rfl
      refine Evt.succ ((app_impl (bodyL n h ws) (by omega)).mono fun k hk => ?_)
      rw [if_pos ⟨by omega, b35, bs⟩] at hk
      show impl_bulletinText.l0 (k + 1) _ ws (ws.length : Int) (ws.length : Int) = _
      rw [impl_bulletinText.l0, if_neg (by omega), hb, hk, Option.bind_some]
  refine main.mono fun k hk => ?_
  unfold impl_bulletinText.f
  rw [itoa_f n (by omega), Option.bind_some, if_pos (by rw [B_size]; omega), kB, kH, B_app, if_pos (by rw [B_size, List.length_append, wB_len]; omega), itoa_f h (by omega), Option.bind_some, B_app, if_pos (by rw [B_size, B_size]; simp only [List.length_append, wB_len, wH_len]; omega), B_app,
    if_pos (by rw [B_size]; simp only [List.length_append, wB_len, wH_len]; omega), k10, B_app]
  exact hk
theorem text_spec {n h : Int} {ws : List S25} (v : VB n h ws) : Evt fun k => spec_l17Text.f k n h ws = some (B (sealL (bodyL n h ws))) := by
  obtain ⟨b35, bl, bs⟩ := body_ok v
  obtain ⟨hn, hh, hc⟩ := v
  have ha := hc.all
  have l0 := itoa_le n (by omega) (by omega)
  have l3 := itoa_le h (by omega) (by omega)
  have h1 := head_le n h hn hh
  have h3 := hc.1.1
  have main : Evt fun k => spec_l17Text.l0 k (B (headL n h ++ [10])) 0 n h ws = some (B (sealL (bodyL n h ws))) := by
    refine evt_loop0 ws.length (fun k s i => spec_l17Text.l0 k s i n h ws) _ (fun i s => s = B (headL n h ++ [10] ++ tailL (ws.take i))) ?_ ?_ _ (by simp [tailL])
    · rintro i s hi rfl
      have v := hc.1.2.1 i hi
      have el := line_spec v
      have hl := line_le v
      have ht := tail_le (ws.take i) (take_all ha i)
      have hti : (ws.take i).length ≤ 12 := by rw [List.length_take]; omega
      refine .inl ⟨_, rfl, 1, el.mono fun k hk => ?_⟩
      show spec_l17Text.l0 (k + 1) _ (i : Int) n h ws = _
      rw [show lineL (ws.getD i z25).f0 (ws.getD i z25).f1 (ws.getD i z25).f2 (ws.getD i z25).f3 (ws.getD i z25).f4 (ws.getD i z25).f5 = lineS (ws.getD i z25) from rfl] at hk
      rw [spec_l17Text.l0, if_pos (by omega), if_pos (by omega), rdT, hk, Option.bind_some, k10, B_app, B_app, B_size, B_size, B_size, tail_step ws i hi, if_pos (by simp only [List.length_append, List.length_cons, List.length_nil] at *; omega),
        if_pos (by simp only [List.length_append, List.length_cons, List.length_nil] at *; omega), wrap_id (by omega) (by omega)]
      simp only [List.append_assoc]
    · rintro s rfl
      rw [List.take_length]
      have hb : headL n h ++ [10] ++ tailL ws = bodyL n h ws := rfl
      refine Evt.succ ((seal_spec (bodyL n h ws) (by omega)).mono fun k hk => ?_)
      show spec_l17Text.l0 (k + 1) _ (ws.length : Int) n h ws = _
      rw [spec_l17Text.l0, if_neg (by omega), hb, hk, Option.bind_some]
  refine ((main.and (num_ok n (by omega) (by omega))).and (num_ok h (by omega) (by omega))).mono fun k hk => ?_
  unfold spec_l17Text.f
  rw [hk.1.2, Option.bind_some, if_pos (by rw [B_size]; omega), kB, kH, B_app, if_pos (by rw [B_size, List.length_append, wB_len]; omega), hk.2, Option.bind_some, B_app, if_pos (by rw [B_size, B_size]; simp only [List.length_append, wB_len, wH_len]; omega), B_app,
    if_pos (by rw [B_size]; simp only [List.length_append, wB_len, wH_len]; omega), k10, B_app]
  exact hk.1.1
theorem validB_impl (n h : Int) (ws : List S25) (hl : ws.length ≤ 1000000000) : ∃ b, (b = true ↔ VB n h ws) ∧ Evt fun k => impl_IsValidBulletin.f k n h ws = some b := by
  obtain ⟨c, hc, hC⟩ := cons_ok ws hl
  unfold impl_IsValidBulletin.f
  simp only [within_ok, Option.bind_some, decide_eq_true_eq]
  by_cases h1 : 1 ≤ n ∧ n ≤ 999
  · by_cases h2 : 0 ≤ h ∧ h ≤ 240
    · refine ⟨c, hc.trans ⟨fun q => ⟨h1, h2, q⟩, fun q => q.2.2⟩, hC.mono fun k hk => ?_⟩
      rw [if_pos h1, if_pos h2, hk, Option.bind_some]
    · exact ⟨false, ⟨fun q => (by cases q), fun q => absurd q.2.1 h2⟩, Evt.all fun k => by rw [if_pos h1, if_neg h2]⟩
  · exact ⟨false, ⟨fun q => (by cases q), fun q => absurd q.1 h1⟩, Evt.all fun k => by rw [if_neg h1]⟩
theorem validB_spec (n h : Int) (ws : List S25) : ∃ b, (b = true ↔ VB n h ws) ∧ Evt fun k => spec_l17Good.f k n h ws = some b := by
  obtain ⟨c, hc, hC⟩ := slist_ok ws
  unfold spec_l17Good.f
  simp only [l1In_ok, Option.bind_some, decide_eq_true_eq]
  by_cases h1 : 1 ≤ n ∧ n ≤ 999
  · by_cases h2 : 0 ≤ h ∧ h ≤ 240
    · refine ⟨c, hc.trans ⟨fun q => ⟨h1, h2, q⟩, fun q => q.2.2⟩, hC.mono fun k hk => ?_⟩
      rw [if_pos h1, if_pos h2, hk, Option.bind_some]
    · exact ⟨false, ⟨fun q => (by cases q), fun q => absurd q.2.1 h2⟩, Evt.all fun k => by rw [if_pos h1, if_neg h2]⟩
  · exact ⟨false, ⟨fun q => (by cases q), fun q => absurd q.1 h1⟩, Evt.all fun k => by rw [if_neg h1]⟩
/-! ### the law's own reader of lines -/
theorem sidx_tot (l : List ByteArray) (x : ByteArray) (hl : l.length ≤ 100) : ∃ r, Evt fun k => spec_l17Index.f k l x = some r := by
  have key : ∀ (d i : Nat), i + d = l.length + 1 → ∃ r, Evt fun k => spec_l17Index.l0 k l x (i : Int) = some r := by
    intro d
    induction d with
    | zero => intro i h; exact ⟨0, Evt.succ (Evt.all fun k => by show spec_l17Index.l0 (k + 1) l x (i : Int) = _; rw [spec_l17Index.l0, if_neg (by omega)])⟩
    | succ d ih =>
      intro i h
      by_cases hi : i < l.length
      · by_cases e : (rdOf ByteArray.empty l (i : Int)).toList = x.toList
        · exact ⟨(i : Int), Evt.succ (Evt.all fun k => by show spec_l17Index.l0 (k + 1) l x (i : Int) = _; rw [spec_l17Index.l0, if_pos (by omega), if_pos (by omega), if_pos e])⟩
        · obtain ⟨r, hr⟩ := ih (i + 1) (by omega)
          refine ⟨r, Evt.succ (hr.mono fun k hk => ?_)⟩
          show spec_l17Index.l0 (k + 1) l x (i : Int) = _
          rw [spec_l17Index.l0, if_pos (by omega), if_pos (by omega), if_neg e, wrap_id (by omega) (by omega)]
          exact hk
      · exact ⟨0, Evt.succ (Evt.all fun k => by show spec_l17Index.l0 (k + 1) l x (i : Int) = _; rw [spec_l17Index.l0, if_neg (by omega)])⟩
  exact key l.length 1 (by omega)
def slevs : List ByteArray := [(⟨#[]⟩ : ByteArray), (⟨#[121, 101, 108, 108, 111, 119]⟩ : ByteArray), (⟨#[111, 114, 97, 110, 103, 101]⟩ : ByteArray), (⟨#[114, 101, 100]⟩ : ByteArray)]
def stops : List ByteArray := [(⟨#[]⟩ : ByteArray), (⟨#[119, 105, 110, 100]⟩ : ByteArray), (⟨#[114, 97, 105, 110]⟩ : ByteArray), (⟨#[115, 110, 111, 119]⟩ : ByteArray), (⟨#[104, 101, 97, 116]⟩ : ByteArray), (⟨#[115, 116, 111, 114, 109]⟩ : ByteArray)]
theorem sidx_step (l : List ByteArray) (x : ByteArray) (k i : Nat) (hi : i < l.length) (h100 : l.length ≤ 100) : spec_l17Index.l0 (k + 1) l x (i : Int) = if (rdOf ByteArray.empty l (i : Int)).toList = x.toList then some (i : Int) else spec_l17Index.l0 k l x ((i + 1 : Nat) : Int) := by
  rw [spec_l17Index.l0, if_pos (by omega), if_pos (by omega), wrap_id (by omega) (by omega)]; rfl
theorem sidx_at (l : List ByteArray) (x : ByteArray) (h100 : l.length ≤ 100) (n : Nat) (hn : n < l.length) (hx : (rdOf ByteArray.empty l (n : Int)).toList = x.toList) (hno : ∀ m, 1 ≤ m → m < n → (rdOf ByteArray.empty l (m : Int)).toList ≠ x.toList) : ∀ (d i : Nat), 1 ≤ i → i + d = n → Evt fun k => spec_l17Index.l0 k l x (i : Int) = some (n : Int)
  | 0, i, h1, h => by
    obtain rfl : i = n := by omega
    exact Evt.succ (Evt.all fun k => by show spec_l17Index.l0 (k + 1) l x (i : Int) = _; rw [sidx_step l x k i hn h100, if_pos hx])
  | d + 1, i, h1, h => by
    refine Evt.succ ((sidx_at l x h100 n hn hx hno d (i + 1) (by omega) (by omega)).mono fun k hk => ?_)
    show spec_l17Index.l0 (k + 1) l x (i : Int) = _
    rw [sidx_step l x k i (by omega) h100, if_neg (hno i h1 (by omega))]
    exact hk
theorem sidx_lev (a : Int) (h : 1 ≤ a ∧ a ≤ 3) : Evt fun k => spec_l17Index.f k slevs (B (Lib.toLowerA (levL.getD a.toNat []))) = some a := by
  have key : ∀ n : Nat, 1 ≤ n → n < 4 → (rdOf ByteArray.empty slevs (n : Int)).toList = (B (Lib.toLowerA (levL.getD n []))).toList → (∀ m, 1 ≤ m → m < n → (rdOf ByteArray.empty slevs (m : Int)).toList ≠ (B (Lib.toLowerA (levL.getD n []))).toList) → Evt fun k => spec_l17Index.f k slevs (B (Lib.toLowerA (levL.getD n []))) = some (n : Int) :=
    fun n h1 h2 e1 e2 => sidx_at slevs _ (by decide) n h2 e1 e2 (n - 1) 1 (by omega) (by omega)
  have no : ∀ a b : List UInt8, a ≠ b → (B a).toList ≠ (B b).toList := fun a b h => by rw [B_toList, B_toList]; exact h
  rcases three h with rfl | rfl | rfl
  · exact key 1 (by omega) (by omega) rfl fun m _ _ => by omega
  · refine key 2 (by omega) (by omega) rfl fun m h1 h2 => ?_
    obtain rfl : m = 1 := by omega
    exact no [121, 101, 108, 108, 111, 119] _ (by decide)
  · refine key 3 (by omega) (by omega) rfl fun m h1 h2 => ?_
    have : m = 1 ∨ m = 2 := by omega
    rcases this with rfl | rfl
    · exact no [121, 101, 108, 108, 111, 119] _ (by decide)
    · exact no [111, 114, 97, 110, 103, 101] _ (by decide)
theorem sidx_top (a : Int) (h : 1 ≤ a ∧ a ≤ 5) : Evt fun k => spec_l17Index.f k stops (B (topL.getD a.toNat [])) = some a := by
  have key : ∀ n : Nat, 1 ≤ n → n < 6 → (rdOf ByteArray.empty stops (n : Int)).toList = (B (topL.getD n [])).toList → (∀ m, 1 ≤ m → m < n → (rdOf ByteArray.empty stops (m : Int)).toList ≠ (B (topL.getD n [])).toList) → Evt fun k => spec_l17Index.f k stops (B (topL.getD n [])) = some (n : Int) :=
    fun n h1 h2 e1 e2 => sidx_at stops _ (by decide) n h2 e1 e2 (n - 1) 1 (by omega) (by omega)
  have no : ∀ a b : List UInt8, a ≠ b → (B a).toList ≠ (B b).toList := fun a b h => by rw [B_toList, B_toList]; exact h
  have four : ∀ m n : Nat, 1 ≤ m → m < n → n ≤ 5 → (rdOf ByteArray.empty stops (m : Int)).toList ≠ (B (topL.getD n [])).toList := by
    intro m n h1 h2 h3
    have : (m = 1 ∧ (n = 2 ∨ n = 3 ∨ n = 4 ∨ n = 5)) ∨ (m = 2 ∧ (n = 3 ∨ n = 4 ∨ n = 5)) ∨ (m = 3 ∧ (n = 4 ∨ n = 5)) ∨ (m = 4 ∧ n = 5) := by omega
    rcases this with ⟨rfl, rfl | rfl | rfl | rfl⟩ | ⟨rfl, rfl | rfl | rfl⟩ | ⟨rfl, rfl | rfl⟩ | ⟨rfl, rfl⟩
    · exact no [119, 105, 110, 100] _ (by decide)
    · exact no [119, 105, 110, 100] _ (by decide)
    · exact no [119, 105, 110, 100] _ (by decide)
    · exact no [119, 105, 110, 100] _ (by decide)
    · exact no [114, 97, 105, 110] _ (by decide)
    · exact no [114, 97, 105, 110] _ (by decide)
    · exact no [114, 97, 105, 110] _ (by decide)
    · exact no [115, 110, 111, 119] _ (by decide)
    · exact no [115, 110, 111, 119] _ (by decide)
    · exact no [104, 101, 97, 116] _ (by decide)
  rcases five h with rfl | rfl | rfl | rfl | rfl
  · exact key 1 (by omega) (by omega) rfl fun m _ _ => by omega
  · exact key 2 (by omega) (by omega) rfl fun m h1 h2 => four m 2 h1 h2 (by omega)
  · exact key 3 (by omega) (by omega) rfl fun m h1 h2 => four m 3 h1 h2 (by omega)
  · exact key 4 (by omega) (by omega) rfl fun m h1 h2 => four m 4 h1 h2 (by omega)
  · exact key 5 (by omega) (by omega) rfl fun m h1 h2 => four m 5 h1 h2 (by omega)
theorem parse_zero (s : ByteArray) (l : List ByteArray) : ∃ r, Good lineL s r ∧ Evt fun k => spec_l17Parse.j0 k s l true 0 0 0 0 0 0 = some r :=
  ⟨_, Good.zero _ _, Evt.succ (Evt.all fun k => by show spec_l17Parse.j0 (k + 1) s l true 0 0 0 0 0 0 = _; rw [spec_l17Parse.j0, if_pos rfl])⟩
theorem split_pos (c : UInt8) (l : List UInt8) : 0 < (Txt.splitOn c l).length := List.length_pos_iff.2 (Txt.splitOn_ne c l)
theorem rd_split (c : UInt8) (l : List UInt8) (i : Nat) (hi : i < (Txt.splitOn c l).length) : ∃ p, rdOf ByteArray.empty ((Txt.splitOn c l).map B) (i : Int) = B p ∧ p.length ≤ l.length := by
  refine ⟨(Txt.splitOn c l)[i], ?_, splitOn_len c l _ (List.getElem_mem hi)⟩
  show ((Txt.splitOn c l).map B).getD (i : Int).toNat _ = _
  rw [Int.toNat_natCast, getD_lt _ _ _ (by simpa using hi), List.getElem_map]
theorem parse_main (s : ByteArray) (w : List ByteArray) (hw : (w.length : Int) = 7) (w6 : ∃ p, rdOf ByteArray.empty w 6 = B p ∧ p.length ≤ 1000000)
    (z0 : 2 ≤ ((rdOf ByteArray.empty w 0).size : Int)) (z2 : 2 ≤ ((rdOf ByteArray.empty w 2).size : Int)) (z4 : 2 ≤ ((rdOf ByteArray.empty w 4).size : Int))
    (y0 : ((rdOf ByteArray.empty w 0).size : Int) ≤ 2000000) (y2 : ((rdOf ByteArray.empty w 2).size : Int) ≤ 2000000) (y4 : ((rdOf ByteArray.empty w 4).size : Int) ≤ 2000000) :
    ∃ r, Good lineL s r ∧ Evt fun k => spec_l17Parse.j0 k s w false 0 0 0 0 0 0 = some r := by
  obtain ⟨p, e6, hp⟩ := w6
  have hsp := splitS (B p) 45 (by rw [B_size]; omega)
  rw [B_data] at hsp
  have e45 : (45 : Int) = (((45 : UInt8).toNat : Nat) : Int) := rfl
  by_cases h2 : ((Txt.splitOn 45 p).length : Int) = 2
  · have u0 : wrap64 (((rdOf ByteArray.empty w 0).size : Int) - 1) = ((rdOf ByteArray.empty w 0).size : Int) - 1 := wrap_id (by omega) (by omega)
    have u2 : wrap64 (((rdOf ByteArray.empty w 2).size : Int) - 1) = ((rdOf ByteArray.empty w 2).size : Int) - 1 := wrap_id (by omega) (by omega)
    have u4 : wrap64 (((rdOf ByteArray.empty w 4).size : Int) - 1) = ((rdOf ByteArray.empty w 4).size : Int) - 1 := wrap_id (by omega) (by omega)
    obtain ⟨⟨i, a⟩, R0⟩ := read_tot ((rdOf ByteArray.empty w 0).extract 0 (((rdOf ByteArray.empty w 0).size : Int) - 1).toNat)
    obtain ⟨⟨ar, b⟩, R4⟩ := read_tot ((rdOf ByteArray.empty w 4).extract 0 (((rdOf ByteArray.empty w 4).size : Int) - 1).toNat)
    obtain ⟨⟨f, c⟩, RF⟩ := read_tot (rdOf ByteArray.empty ((Txt.splitOn 45 p).map B) 0)
    obtain ⟨⟨t, d⟩, RT⟩ := read_tot (rdOf ByteArray.empty ((Txt.splitOn 45 p).map B) 1)
    obtain ⟨tp, ET⟩ := sidx_tot stops ((rdOf ByteArray.empty w 2).extract 0 (((rdOf ByteArray.empty w 2).size : Int) - 1).toNat) (by decide)
    obtain ⟨lv, EL⟩ := sidx_tot slevs (rdOf ByteArray.empty w 1) (by decide)
    have all := ((hsp.and (R0.and R4)).and (RF.and RT)).and (ET.and EL)
    have eT : spec_l17Topics.f = some stops := rfl
    have eL : spec_l17Levels.f = some slevs := rfl
    obtain ⟨K, hK⟩ := all
    have go : ∀ k, K ≤ k → spec_l17Parse.j0 (k + 1) s w false 0 0 0 0 0 0 = _ := fun k hk => by
      obtain ⟨⟨⟨k1, k2, k3⟩, k4, k5⟩, k6, k7⟩ := hK k hk
      rw [spec_l17Parse.j0, if_neg (by simp), if_pos (by omega), e6, e45, k1, Option.bind_some, if_pos (by rw [List.length_map]; exact h2), if_pos (by omega), u0, if_pos (by omega), if_pos (by omega), k2, Option.bind_some, if_pos (by omega), u4, if_pos (by omega), if_pos (by omega), k3, Option.bind_some,
        if_pos (by rw [List.length_map]; omega), k4, Option.bind_some, if_pos (by rw [List.length_map]; omega), k5, Option.bind_some, eT, Option.bind_some, if_pos (by omega), u2, if_pos (by omega), if_pos (by omega), k6, Option.bind_some, eL, Option.bind_some, if_pos (by omega), k7, Option.bind_some]
    clear RF RT R0 R4 ET EL hsp
    cases a with
    | false => exact ⟨_, Good.zero _ _, Evt.succ ⟨K, fun k hk => by show spec_l17Parse.j0 (k + 1) s w false 0 0 0 0 0 0 = _; rw [go k hk, if_neg (by simp)]⟩⟩
    | true =>
    cases b with
    | false => exact ⟨_, Good.zero _ _, Evt.succ ⟨K, fun k hk => by show spec_l17Parse.j0 (k + 1) s w false 0 0 0 0 0 0 = _; rw [go k hk, if_pos rfl, if_neg (by simp)]⟩⟩
    | true =>
    cases c with
    | false => exact ⟨_, Good.zero _ _, Evt.succ ⟨K, fun k hk => by show spec_l17Parse.j0 (k + 1) s w false 0 0 0 0 0 0 = _; rw [go k hk, if_pos rfl, if_pos rfl, if_neg (by simp)]⟩⟩
    | true =>
    cases d with
    | false => exact ⟨_, Good.zero _ _, Evt.succ ⟨K, fun k hk => by show spec_l17Parse.j0 (k + 1) s w false 0 0 0 0 0 0 = _; rw [go k hk, if_pos rfl, if_pos rfl, if_pos rfl, if_neg (by simp)]⟩⟩
    | true =>
    by_cases v : V i tp lv ar f t
    · obtain ⟨K2, hln⟩ := line_spec v
      by_cases e : (B (lineL i tp lv ar f t)).toList = s.toList
      · refine ⟨(i, tp, lv, ar, f, t, true), ⟨fun _ => ⟨v, eq_of_toList e⟩, fun h => absurd h (by simp)⟩, Evt.succ ⟨K + K2, fun k hk => ?_⟩⟩
        show spec_l17Parse.j0 (k + 1) s w false 0 0 0 0 0 0 = _
        rw [go k (by omega), if_pos rfl, if_pos rfl, if_pos rfl, if_pos rfl, good_ok, Option.bind_some, if_pos (V_dec v), hln k (by omega), Option.bind_some, if_pos e]
      · refine ⟨_, Good.zero _ _, Evt.succ ⟨K + K2, fun k hk => ?_⟩⟩
        show spec_l17Parse.j0 (k + 1) s w false 0 0 0 0 0 0 = _
        rw [go k (by omega), if_pos rfl, if_pos rfl, if_pos rfl, if_pos rfl, good_ok, Option.bind_some, if_pos (V_dec v), hln k (by omega), Option.bind_some, if_neg e]
    · refine ⟨_, Good.zero _ _, Evt.succ ⟨K, fun k hk => ?_⟩⟩
      show spec_l17Parse.j0 (k + 1) s w false 0 0 0 0 0 0 = _
      rw [go k hk, if_pos rfl, if_pos rfl, if_pos rfl, if_pos rfl, good_ok, Option.bind_some, if_neg (by simpa using v)]
  · refine ⟨_, Good.zero _ _, Evt.succ (hsp.mono fun k hk => ?_)⟩
    show spec_l17Parse.j0 (k + 1) s w false 0 0 0 0 0 0 = _
    rw [spec_l17Parse.j0, if_neg (by simp), if_pos (by omega), e6, e45, hk, Option.bind_some, if_neg (by rw [List.length_map]; exact h2)]
theorem parse_total (s : ByteArray) (hs : s.size ≤ 1000000) : ∃ r, Good lineL s r ∧ Evt fun k => spec_l17Parse.f k s = some r := by
  obtain ⟨l, rfl⟩ : ∃ l, s = B l := ⟨_, (B_of s).symm⟩
  rw [B_size] at hs
  have hsp := splitS (B l) 32 (by rw [B_size]; omega)
  rw [B_data] at hsp
  have e32 : (32 : Int) = (((32 : UInt8).toNat : Nat) : Int) := rfl
  have zero : ∀ c : Nat → Prop, (∀ k, c k → spec_l17Parse.f k (B l) = spec_l17Parse.j0 k (B l) ((Txt.splitOn 32 l).map B) true 0 0 0 0 0 0) → Evt c → ∃ r, Good lineL (B l) r ∧ Evt fun k => spec_l17Parse.f k (B l) = some r := by
    intro c hc he
    obtain ⟨r, g, hr⟩ := parse_zero (B l) ((Txt.splitOn 32 l).map B)
    exact ⟨r, g, (he.and hr).mono fun k hk => (hc k hk.1).trans hk.2⟩
  by_cases h60 : ((B l).size : Int) > 60
  · exact zero _ (fun k hk => by unfold spec_l17Parse.f; rw [e32, hk, Option.bind_some, if_pos h60]) hsp
  · by_cases h7 : (((Txt.splitOn 32 l).map B).length : Int) = 7
    · have len : (Txt.splitOn 32 l).length = 7 := by rw [List.length_map] at h7; omega
      obtain ⟨p0, e0, q0⟩ := rd_split 32 l 0 (by omega)
      obtain ⟨p2, e2, q2⟩ := rd_split 32 l 2 (by omega)
      obtain ⟨p4, e4, q4⟩ := rd_split 32 l 4 (by omega)
      obtain ⟨p6, e6, q6⟩ := rd_split 32 l 6 (by omega)
      have s0 : ((rdOf ByteArray.empty ((Txt.splitOn 32 l).map B) 0).size : Int) ≤ 2000000 := by rw [show (0 : Int) = ((0 : Nat) : Int) from rfl, e0, B_size]; omega
      have s2 : ((rdOf ByteArray.empty ((Txt.splitOn 32 l).map B) 2).size : Int) ≤ 2000000 := by rw [show (2 : Int) = ((2 : Nat) : Int) from rfl, e2, B_size]; omega
      have s4 : ((rdOf ByteArray.empty ((Txt.splitOn 32 l).map B) 4).size : Int) ≤ 2000000 := by rw [show (4 : Int) = ((4 : Nat) : Int) from rfl, e4, B_size]; omega
      by_cases c0 : ((rdOf ByteArray.empty ((Txt.splitOn 32 l).map B) 0).size : Int) < 2
      · exact zero _ (fun k hk => by unfold spec_l17Parse.f; rw [e32, hk, Option.bind_some, if_neg h60, if_pos h7, if_pos (by omega), if_pos c0]) hsp
      · by_cases c2 : ((rdOf ByteArray.empty ((Txt.splitOn 32 l).map B) 2).size : Int) < 2
        · exact zero _ (fun k hk => by unfold spec_l17Parse.f; rw [e32, hk, Option.bind_some, if_neg h60, if_pos h7, if_pos (by omega), if_neg c0, if_pos (by omega), if_pos c2]) hsp
        · by_cases c4 : ((rdOf ByteArray.empty ((Txt.splitOn 32 l).map B) 4).size : Int) < 2
          · exact zero _ (fun k hk => by unfold spec_l17Parse.f; rw [e32, hk, Option.bind_some, if_neg h60, if_pos h7, if_pos (by omega), if_neg c0, if_pos (by omega), if_neg c2, if_pos (by omega), decide_eq_true c4]) hsp
          · obtain ⟨r, g, hr⟩ := parse_main (B l) ((Txt.splitOn 32 l).map B) h7 ⟨p6, e6, by omega⟩ (by omega) (by omega) (by omega) s0 s2 s4
            refine ⟨r, g, (hsp.and hr).mono fun k hk => ?_⟩
            unfold spec_l17Parse.f
            rw [e32, hk.1, Option.bind_some, if_neg h60, if_pos h7, if_pos (by omega), if_neg c0, if_pos (by omega), if_neg c2, if_pos (by omega), decide_eq_false c4]
            exact hk.2
    · exact zero _ (fun k hk => by unfold spec_l17Parse.f; rw [e32, hk, Option.bind_some, if_neg h60, if_neg h7]) hsp
theorem line_words {a0 a1 a2 a3 a4 a5 : Int} (v : V a0 a1 a2 a3 a4 a5) : Txt.splitOn 32 (lineL a0 a1 a2 a3 a4 a5) = [Lib.itoa a0 ++ [58], Lib.toLowerA (levL.getD a2.toNat []), topL.getD a1.toNat [] ++ [44], [97, 114, 101, 97], Lib.itoa a3 ++ [44], [104, 111, 117, 114, 115], Lib.itoa a4 ++ [45] ++ Lib.itoa a5] := by
  obtain ⟨v0, v1, v2, v3, v5, v4⟩ := v
  have m0 := Txt.not_mem_itoa (n := a0) (by omega) 32 (by decide)
  have m3 := Txt.not_mem_itoa (n := a3) (by omega) 32 (by decide)
  have m4 := Txt.not_mem_itoa (n := a4) (by omega) 32 (by decide)
  have m5 := Txt.not_mem_itoa (n := a5) (by omega) 32 (by decide)
  have ml := low_no a2 v2
  have mt : (32 : UInt8) ∉ topL.getD a1.toNat [] := by rcases five v1 with rfl | rfl | rfl | rfl | rfl <;> decide
  have ap : ∀ (l : List UInt8) (c : UInt8), 32 ∉ l → c ≠ 32 → (32 : UInt8) ∉ l ++ [c] := fun l c h hc => by simp only [List.mem_append, List.mem_singleton, not_or]; exact ⟨h, fun e => hc e.symm⟩
  have el : lineL a0 a1 a2 a3 a4 a5 = (Lib.itoa a0 ++ [58]) ++ 32 :: (Lib.toLowerA (levL.getD a2.toNat []) ++ 32 :: ((topL.getD a1.toNat [] ++ [44]) ++ 32 :: ([97, 114, 101, 97] ++ 32 :: ((Lib.itoa a3 ++ [44]) ++ 32 :: ([104, 111, 117, 114, 115] ++ 32 :: (Lib.itoa a4 ++ [45] ++ Lib.itoa a5)))))) := by
    unfold lineL
    simp only [List.append_assoc, List.cons_append, List.nil_append]
  rw [el, Txt.splitOn_at 32 _ _ (ap _ _ m0 (by decide)), Txt.splitOn_at 32 _ _ ml, Txt.splitOn_at 32 _ _ (ap _ _ mt (by decide)), Txt.splitOn_at 32 _ _ (by decide), Txt.splitOn_at 32 _ _ (ap _ _ m3 (by decide)), Txt.splitOn_at 32 _ _ (by decide), Txt.splitOn_none 32 _ (by simp only [List.mem_append, not_or]; exact ⟨⟨m4, by decide⟩, m5⟩)]
theorem cut_last (l : List UInt8) (c : UInt8) (hl : l.length ≤ 1000) : (B (l ++ [c])).extract 0 (wrap64 (((B (l ++ [c])).size : Int) - 1)).toNat = B l ∧ 0 ≤ wrap64 (((B (l ++ [c])).size : Int) - 1) ∧ wrap64 (((B (l ++ [c])).size : Int) - 1) ≤ ((B (l ++ [c])).size : Int) := by
  have e : ((B (l ++ [c])).size : Int) - 1 = (l.length : Int) := by rw [B_size, List.length_append]; simp only [List.length_cons, List.length_nil]; omega
  have e2 : wrap64 (((B (l ++ [c])).size : Int) - 1) = (l.length : Int) := by rw [e]; exact wrap_id (by omega) (by omega)
  rw [e2, Int.toNat_natCast]
  refine ⟨B_ext2 _ _ _ _ (by simp), by omega, by rw [B_size, List.length_append]; omega⟩
theorem parse_line {a0 a1 a2 a3 a4 a5 : Int} (v : V a0 a1 a2 a3 a4 a5) : Evt fun k => spec_l17Parse.f k (B (lineL a0 a1 a2 a3 a4 a5)) = some (a0, a1, a2, a3, a4, a5, true) := by
  have v' := v
  have hw := line_words v
  have hle : (lineL a0 a1 a2 a3 a4 a5).length ≤ 50 := line_le (x := ⟨a0, a1, a2, a3, a4, a5⟩) v
  obtain ⟨v0, v1, v2, v3, v5, v4⟩ := v
  have l0 := itoa_le a0 (by omega) (by omega)
  have l3 := itoa_le a3 (by omega) (by omega)
  have l4 := itoa_le a4 (by omega) (by omega)
  have l5 := itoa_le a5 (by omega) (by omega)
  have g0 := itoa_pos a0 (by omega)
  have g3 := itoa_pos a3 (by omega)
  have lT := (stop_ok a1 v1).2
  have gT : 1 ≤ (topL.getD a1.toNat []).length := by rcases five v1 with rfl | rfl | rfl | rfl | rfl <;> decide
  have m4 := Txt.not_mem_itoa (n := a4) (by omega) 45 (by decide)
  have m5 := Txt.not_mem_itoa (n := a5) (by omega) 45 (by decide)
  have hsp := splitS (B (lineL a0 a1 a2 a3 a4 a5)) 32 (by rw [B_size]; omega)
  rw [B_data, hw] at hsp
  have hs2 : Txt.splitOn 45 (Lib.itoa a4 ++ [45] ++ Lib.itoa a5) = [Lib.itoa a4, Lib.itoa a5] := by
    rw [List.append_assoc, List.singleton_append, Txt.splitOn_at 45 _ _ m4, Txt.splitOn_none 45 _ m5]
  have hsq := splitS (B (Lib.itoa a4 ++ [45] ++ Lib.itoa a5)) 45 (by rw [B_size]; simp only [List.length_append, List.length_cons, List.length_nil]; omega)
  rw [B_data, hs2] at hsq
  obtain ⟨x0, y0, z0⟩ := cut_last (Lib.itoa a0) 58 (by omega)
  obtain ⟨x2, y2, z2⟩ := cut_last (topL.getD a1.toNat []) 44 (by omega)
  obtain ⟨x4, y4, z4⟩ := cut_last (Lib.itoa a3) 44 (by omega)
  have W : List ByteArray := []
  have all := ((hsp.and hsq).and ((read_itoa a0 (by omega) (by omega)).and (read_itoa a3 (by omega) (by omega)))).and (((read_itoa a4 (by omega) (by omega)).and (read_itoa a5 (by omega) (by omega))).and ((sidx_top a1 v1).and ((sidx_lev a2 v2).and (line_spec v'))))
  refine Evt.succ ((all.and hsp.shift).mono fun k hk => ?_)
  obtain ⟨⟨⟨⟨_, k2⟩, k3, k4⟩, ⟨k5, k6⟩, k7, k8, k9⟩, k1⟩ := hk
  unfold stops at k7
  unfold slevs at k8
  show spec_l17Parse.f (k + 1) _ = _
  unfold spec_l17Parse.f
  rw [show (32 : Int) = (((32 : UInt8).toNat : Nat) : Int) from rfl, k1, Option.bind_some, if_neg (by rw [B_size]; omega)]
  have r0 : ∀ q, rdOf ByteArray.empty ([Lib.itoa a0 ++ [58], Lib.toLowerA (levL.getD a2.toNat []), topL.getD a1.toNat [] ++ [44], [97, 114, 101, 97], Lib.itoa a3 ++ [44], [104, 111, 117, 114, 115], q].map B) 0 = B (Lib.itoa a0 ++ [58]) := fun _ => rfl
  have r1 : ∀ q, rdOf ByteArray.empty ([Lib.itoa a0 ++ [58], Lib.toLowerA (levL.getD a2.toNat []), topL.getD a1.toNat [] ++ [44], [97, 114, 101, 97], Lib.itoa a3 ++ [44], [104, 111, 117, 114, 115], q].map B) 1 = B (Lib.toLowerA (levL.getD a2.toNat [])) := fun _ => rfl
  have r2 : ∀ q, rdOf ByteArray.empty ([Lib.itoa a0 ++ [58], Lib.toLowerA (levL.getD a2.toNat []), topL.getD a1.toNat [] ++ [44], [97, 114, 101, 97], Lib.itoa a3 ++ [44], [104, 111, 117, 114, 115], q].map B) 2 = B (topL.getD a1.toNat [] ++ [44]) := fun _ => rfl
  have r4 : ∀ q, rdOf ByteArray.empty ([Lib.itoa a0 ++ [58], Lib.toLowerA (levL.getD a2.toNat []), topL.getD a1.toNat [] ++ [44], [97, 114, 101, 97], Lib.itoa a3 ++ [44], [104, 111, 117, 114, 115], q].map B) 4 = B (Lib.itoa a3 ++ [44]) := fun _ => rfl
  have r6 : ∀ q, rdOf ByteArray.empty ([Lib.itoa a0 ++ [58], Lib.toLowerA (levL.getD a2.toNat []), topL.getD a1.toNat [] ++ [44], [97, 114, 101, 97], Lib.itoa a3 ++ [44], [104, 111, 117, 114, 115], q].map B) 6 = B q := fun _ => rfl
  have s0 : ((B (Lib.itoa a0 ++ [58])).size : Int) ≥ 2 := by rw [B_size, List.length_append]; simp only [List.length_cons, List.length_nil]; omega
  have s2 : ((B (topL.getD a1.toNat [] ++ [44])).size : Int) ≥ 2 := by rw [B_size, List.length_append]; simp only [List.length_cons, List.length_nil]; omega
  have s4 : ((B (Lib.itoa a3 ++ [44])).size : Int) ≥ 2 := by rw [B_size, List.length_append]; simp only [List.length_cons, List.length_nil]; omega
  have ln : ∀ q, (([Lib.itoa a0 ++ [58], Lib.toLowerA (levL.getD a2.toNat []), topL.getD a1.toNat [] ++ [44], [97, 114, 101, 97], Lib.itoa a3 ++ [44], [104, 111, 117, 114, 115], q].map B).length : Int) = 7 := fun _ => rfl
  have ln2 : (([Lib.itoa a4, Lib.itoa a5].map B).length : Int) = 2 := rfl
  have q0 : rdOf ByteArray.empty ([Lib.itoa a4, Lib.itoa a5].map B) 0 = B (Lib.itoa a4) := rfl
  have q1 : rdOf ByteArray.empty ([Lib.itoa a4, Lib.itoa a5].map B) 1 = B (Lib.itoa a5) := rfl
  rw [if_pos (ln _), r0, r2, r4, if_pos (by rw [ln]; omega), if_neg (by omega), if_pos (by rw [ln]; omega), if_neg (by omega), if_pos (by rw [ln]; omega), decide_eq_false (by omega)]
  rw [spec_l17Parse.j0, if_neg (by simp), if_pos (by rw [ln]; omega), r6, show (45 : Int) = (((45 : UInt8).toNat : Nat) : Int) from rfl, k2, Option.bind_some, if_pos ln2, if_pos (by rw [ln]; omega), r0, if_pos y0, if_pos z0, x0, k3, Option.bind_some, if_pos (by rw [ln]; omega), r4, if_pos y4, if_pos z4, x4, k4, Option.bind_some,
    if_pos (by rw [ln2]; omega), q0, k5, Option.bind_some, if_pos (by rw [ln2]; omega), q1, k6, Option.bind_some]
  unfold spec_l17Topics.f spec_l17Levels.f
  rw [Option.bind_some, if_pos (by rw [ln]; omega), r2, if_pos y2, if_pos z2, x2, k7, Option.bind_some, Option.bind_some, if_pos (by rw [ln]; omega), r1, k8, Option.bind_some]
  dsimp only
  rw [if_pos rfl, if_pos rfl, if_pos rfl, if_pos rfl, good_ok, Option.bind_some, if_pos (V_dec v'), k9, Option.bind_some, if_pos rfl]
/-! ### bulletins that are read -/
def GB (s : ByteArray) (r : Int × Int × List S25 × Bool) : Prop :=
  (r.2.2.2 = true → VB r.1 r.2.1 r.2.2.1 ∧ s = B (sealL (bodyL r.1 r.2.1 r.2.2.1))) ∧ (r.2.2.2 = false → r = (0, 0, [], false))
theorem GB.zero (s : ByteArray) : GB s (0, 0, [], false) := ⟨fun h => absurd h (by simp), fun _ => rfl⟩
theorem GB.yes {s : ByteArray} {n h : Int} {ws : List S25} (v : VB n h ws) (e : (B (sealL (bodyL n h ws))).toList = s.toList) : GB s (n, h, ws, true) := ⟨fun _ => ⟨v, eq_of_toList e⟩, fun h => absurd h (by simp)⟩
theorem splitOn_snoc (c : UInt8) : ∀ s, Txt.splitOn c (s ++ [c]) = Txt.splitOn c s ++ [[]]
  | [] => by simp [Txt.splitOn]
  | x :: r => by
    have ih := splitOn_snoc c r
    rw [List.cons_append]
    by_cases h : x = c
    · rw [Txt.splitOn, if_pos h, ih, Txt.splitOn, if_pos h]; rfl
    · rw [Txt.splitOn, if_neg h, ih, Txt.splitOn, if_neg h]
      cases e : Txt.splitOn c r with
      | nil => exact absurd e (Txt.splitOn_ne c r)
      | cons p q => rfl
theorem splitOn_count (c : UInt8) : ∀ s, (Txt.splitOn c s).length ≤ s.length + 1
  | [] => by simp [Txt.splitOn]
  | x :: r => by
    have ih := splitOn_count c r
    by_cases h : x = c
    · rw [Txt.splitOn, if_pos h]; simp; omega
    · rw [Txt.splitOn, if_neg h]
      cases e : Txt.splitOn c r with
      | nil => simp
      | cons p q => rw [e] at ih; simp at ih ⊢; omega
theorem tail_split : ∀ ws : List S25, (∀ x ∈ ws, VS x) → Txt.splitOn 10 (tailL ws) = ws.map lineS ++ [[]]
  | [], _ => rfl
  | x :: r, h => by
    have := tail_split r fun y hy => h y (by simp [hy])
    rw [tailL, List.append_assoc, List.singleton_append, Txt.splitOn_at 10 _ _ (line_no 10 (.inr rfl) (h x (by simp))), this]; rfl
theorem body_split {n h : Int} {ws : List S25} (v : VB n h ws) : Txt.splitOn 10 (bodyL n h ws) = headL n h :: (ws.map lineS ++ [[]]) := by
  unfold bodyL
  rw [List.append_assoc, List.singleton_append, Txt.splitOn_at 10 _ _ (head_no 10 (.inr rfl) n h v.1 v.2.1), tail_split ws v.2.2.all]
theorem tail_end : ∀ ws : List S25, tailL ws = [] ∨ ∃ t, tailL ws = t ++ [10]
  | [] => .inl rfl
  | x :: r => by
    rw [tailL]
    rcases tail_end r with e | ⟨t, e⟩
    · rw [e]; exact .inr ⟨lineS x, by simp⟩
    · rw [e]; exact .inr ⟨lineS x ++ [10] ++ t, by simp⟩
theorem body_trim {n h : Int} {ws : List S25} (v : VB n h ws) : ∃ t, bodyL n h ws = t ++ [10] ∧ Txt.splitOn 10 t = headL n h :: ws.map lineS := by
  obtain ⟨t, e⟩ : ∃ t, bodyL n h ws = t ++ [10] := by
    unfold bodyL
    rcases tail_end ws with e | ⟨t, e⟩
    · rw [e]; exact ⟨headL n h, by simp⟩
    · rw [e]; exact ⟨headL n h ++ [10] ++ t, by simp⟩
  refine ⟨t, e, ?_⟩
  have h1 := body_split v
  rw [e, splitOn_snoc, ← List.cons_append] at h1
  exact List.append_cancel_right h1
theorem ext_last (t : List UInt8) (c : UInt8) : (B (t ++ [c])).extract t.length (B (t ++ [c])).size = B [c] := B_ext2 _ _ _ _ (by rw [B_size]; simp)
theorem hs_in (t : List UInt8) (c : UInt8) (hl : t.length ≤ 1000000) : stringslite_HasSuffix.f (B (t ++ [c])) (⟨#[10]⟩ : ByteArray) = some (decide (c = 10)) := by
  have e1 : (((⟨#[10]⟩ : ByteArray)).size : Int) = 1 := rfl
  have e2 : ((B (t ++ [c])).size : Int) = (t.length : Int) + 1 := by rw [B_size, List.length_append]; simp
  have e3 : wrap64 (((B (t ++ [c])).size : Int) - 1) = (t.length : Int) := by rw [e2, wrap_id (by omega) (by omega)]; omega
  unfold stringslite_HasSuffix.f
  rw [e1, if_pos (by omega), e3, if_pos (by omega), if_pos (by omega), Int.toNat_natCast, ext_last, k10, B_toList, B_toList]
  by_cases h : c = 10
  · subst h; rfl
  · rw [decide_eq_false h]; simpa using h
theorem has_suf (l : List UInt8) (hl : l.length ≤ 1000000) : ∃ b, strings_HasSuffix.f (B l) (⟨#[10]⟩ : ByteArray) = some b ∧ (b = true → ∃ t, l = t ++ [10]) := by
  rcases List.eq_nil_or_concat l with rfl | ⟨t, c, rfl⟩
  · exact ⟨false, rfl, fun h => by cases h⟩
  · rw [List.concat_eq_append] at hl ⊢
    refine ⟨decide (c = 10), ?_, fun h => ⟨t, by rw [of_decide_eq_true h]⟩⟩
    unfold strings_HasSuffix.f
    rw [hs_in t c (by simp at hl; omega), Option.bind_some]
theorem suf_yes (t : List UInt8) (hl : t.length ≤ 1000000) : strings_HasSuffix.f (B (t ++ [10])) (⟨#[10]⟩ : ByteArray) = some true := by
  unfold strings_HasSuffix.f
  rw [hs_in t 10 hl, Option.bind_some]; rfl
theorem trim_suf (t : List UInt8) (hl : t.length ≤ 1000000) : strings_TrimSuffix.f (B (t ++ [10])) (⟨#[10]⟩ : ByteArray) = some (B t) := by
  have e1 : (((⟨#[10]⟩ : ByteArray)).size : Int) = 1 := rfl
  have e2 : ((B (t ++ [10])).size : Int) = (t.length : Int) + 1 := by rw [B_size, List.length_append]; simp
  have e3 : wrap64 (((B (t ++ [10])).size : Int) - 1) = (t.length : Int) := by rw [e2, wrap_id (by omega) (by omega)]; omega
  unfold strings_TrimSuffix.f stringslite_TrimSuffix.f
  rw [hs_in t 10 hl, Option.bind_some, if_pos (by simp), e1, e3, if_pos (by omega), if_pos (by omega), Int.toNat_natCast, Option.bind_some, B_ext2 (t ++ [10]) t 0 t.length (by simp)]
theorem pre_tot (s : ByteArray) (hs : s.size ≤ 1000000) : ∃ r, strings_TrimPrefix.f s (⟨#[98, 117, 108, 108, 101, 116, 105, 110, 32]⟩ : ByteArray) = some r ∧ r.size ≤ s.size := by
  have e1 : (((⟨#[98, 117, 108, 108, 101, 116, 105, 110, 32]⟩ : ByteArray)).size : Int) = 9 := rfl
  unfold strings_TrimPrefix.f stringslite_TrimPrefix.f stringslite_HasPrefix.f
  rw [e1]
  by_cases h : (s.size : Int) ≥ 9
  · rw [if_pos h, if_pos (by omega), if_pos (by omega), Option.bind_some]
    split
    · exact ⟨_, rfl, by rw [ByteArray.size_extract]; omega⟩
    · exact ⟨s, rfl, Nat.le_refl _⟩
  · rw [if_neg h, Option.bind_some, if_neg (by simp)]
    exact ⟨s, rfl, Nat.le_refl _⟩
theorem pre_yes (l : List UInt8) : strings_TrimPrefix.f (B (wB ++ l)) (⟨#[98, 117, 108, 108, 101, 116, 105, 110, 32]⟩ : ByteArray) = some (B l) := by
  have e1 : (((⟨#[98, 117, 108, 108, 101, 116, 105, 110, 32]⟩ : ByteArray)).size : Int) = 9 := rfl
  have e2 : ((B (wB ++ l)).size : Int) = 9 + (l.length : Int) := by rw [B_size, List.length_append, wB_len]; omega
  have e3 : (B (wB ++ l)).extract 0 ((9 : Int)).toNat = B wB := B_ext2 _ _ _ _ (by rfl)
  have e4 : (B (wB ++ l)).extract ((9 : Int)).toNat (B (wB ++ l)).size = B l := B_ext2 _ _ _ _ (by rw [B_size]; show l = (l).take _; rw [List.length_append, wB_len, show 9 + l.length - (9 : Int).toNat = l.length from by simp, List.take_length])
  unfold strings_TrimPrefix.f stringslite_TrimPrefix.f stringslite_HasPrefix.f
  rw [e1, if_pos (by omega), if_pos (by omega), if_pos (by omega), e3, kB, Option.bind_some, if_pos (by simp), if_pos (by omega), if_pos (by omega), e4, Option.bind_some]
theorem read2 (k : Nat) (s0 s1 : ByteArray) (h0 : s0.size ≤ 281474976710656) (h1 : s1.size ≤ 281474976710656) :
    impl_readInts.f (k + 3) [s0, s1] = some (if ((pIntL s0.data.toList).2 && (pIntL s1.data.toList).2) = true then ([(pIntL s0.data.toList).1, (pIntL s1.data.toList).1], true) else ([], false)) := by
  have step : ∀ (k : Nat) (x4 : List Int) (n : Nat) (s : ByteArray), n < 2 → x4.length = 2 → rdOf ByteArray.empty [s0, s1] (n : Int) = s → s.size ≤ 281474976710656 →
      impl_readInts.l0 (k + 1) x4 [s0, s1] 2 (n : Int) = if (pIntL s.data.toList).2 = true then impl_readInts.l0 k (x4.set n (pIntL s.data.toList).1) [s0, s1] 2 ((n : Int) + 1) else some ([], false) := by
    intro k x4 n s hn h4 e hs
    rw [impl_readInts.l0, if_pos (by omega), if_pos (by omega), if_pos (by simp only [List.length_cons, List.length_nil]; omega), e]
    unfold impl_ParseInt.f
    rw [if_pos hs, Option.bind_some]
    by_cases h : (pIntL s.data.toList).2 = true
    · rw [if_pos h, if_pos h, if_pos (by omega), Int.toNat_natCast, wrap_id (by omega) (by omega)]
    · rw [if_neg h, if_neg h]
  unfold impl_readInts.f
  rw [if_pos (by simp only [List.length_cons, List.length_nil]; omega), if_pos (by simp only [List.length_cons, List.length_nil]; omega)]
  have e0 : (List.replicate ((([s0, s1] : List ByteArray).length : Int) : Int).toNat (0 : Int)) = [0, 0] := rfl
  have el : (([s0, s1] : List ByteArray).length : Int) = 2 := rfl
  rw [e0, el]
  have t0 := step (k + 2) [0, 0] 0 s0 (by omega) rfl rfl h0
  have t1 := step (k + 1) [(pIntL s0.data.toList).1, 0] 1 s1 (by omega) rfl rfl h1
  have t4 : ∀ x, impl_readInts.l0 (k + 1) x [s0, s1] 2 2 = some (x, true) := fun x => by rw [impl_readInts.l0, if_neg (by omega)]
  refine t0.trans ?_
  cases (pIntL s0.data.toList).2 with
  | false => rfl
  | true =>
    rw [if_pos rfl, Bool.true_and]
    refine t1.trans ?_
    cases (pIntL s1.data.toList).2 with
    | false => rfl
    | true => rw [if_pos rfl, if_pos rfl]; exact t4 _
theorem rdOf_nat (l : List ByteArray) (i : Nat) (hi : i < l.length) : ∃ x ∈ l, rdOf ByteArray.empty l (i : Int) = x :=
  ⟨l[i], List.getElem_mem hi, by show l.getD (i : Int).toNat _ = _; rw [Int.toNat_natCast, getD_lt _ _ _ hi]⟩
theorem rbl_total (s : ByteArray) (lines : List ByteArray) (n h : Int) (hl : lines.length ≤ 1000000) (hz : ∀ x ∈ lines, x.size ≤ 1000000) : ∃ r, GB s r ∧ Evt fun k => impl_ReadBulletin.l0 k s lines (lines.length : Int) 0 n h [] = some r := by
  refine evt_loop_ex lines.length (fun k (ws : List S25) i => impl_ReadBulletin.l0 k s lines (lines.length : Int) i n h ws) (GB s) (fun i ws => ws.length ≤ i) ?_ ?_ [] (by simp)
  · rintro i ws hi hw
    obtain ⟨x, hx, ex⟩ := rdOf_nat lines i hi
    obtain ⟨⟨b0, b1, b2, b3, b4, b5, ok⟩, e, _⟩ := pw_total x (by have := hz x hx; omega)
    cases ok with
    | false =>
      refine .inr ⟨_, GB.zero s, Evt.succ (Evt.all fun k => ?_)⟩
      show impl_ReadBulletin.l0 (k + 1) s lines (lines.length : Int) (i : Int) n h ws = _
      rw [impl_ReadBulletin.l0, if_pos (by omega), if_pos (by omega), if_pos (by omega), ex, e, Option.bind_some, if_neg (by simp)]
    | true =>
      refine .inl ⟨ws ++ [⟨b0, b1, b2, b3, b4, b5⟩], by simp; omega, 1, Evt.all fun k => ?_⟩
      show impl_ReadBulletin.l0 (k + 1) s lines (lines.length : Int) (i : Int) n h ws = _
      rw [impl_ReadBulletin.l0, if_pos (by omega), if_pos (by omega), if_pos (by omega), ex, e, Option.bind_some, if_pos rfl, if_pos (by omega), wrap_id (by omega) (by omega)]
  · rintro ws hw
    obtain ⟨b, hb, hB⟩ := validB_impl n h ws (by omega)
    cases b with
    | false =>
      refine ⟨_, GB.zero s, Evt.succ (hB.mono fun k hk => ?_)⟩
      show impl_ReadBulletin.l0 (k + 1) s lines (lines.length : Int) (lines.length : Int) n h ws = _
      rw [impl_ReadBulletin.l0, if_neg (by omega), hk, Option.bind_some, if_neg (by simp)]
    | true =>
      have v := hb.1 rfl
      have ht := text_impl v
      by_cases e : (B (sealL (bodyL n h ws))).toList = s.toList
      · refine ⟨_, GB.yes v e, Evt.succ ((hB.and ht).mono fun k hk => ?_)⟩
        show impl_ReadBulletin.l0 (k + 1) s lines (lines.length : Int) (lines.length : Int) n h ws = _
        rw [impl_ReadBulletin.l0, if_neg (by omega), hk.1, Option.bind_some, if_pos rfl, hk.2, Option.bind_some, if_pos e]
      · refine ⟨_, GB.zero s, Evt.succ ((hB.and ht).mono fun k hk => ?_)⟩
        show impl_ReadBulletin.l0 (k + 1) s lines (lines.length : Int) (lines.length : Int) n h ws = _
        rw [impl_ReadBulletin.l0, if_neg (by omega), hk.1, Option.bind_some, if_pos rfl, hk.2, Option.bind_some, if_neg e]
theorem split10 (l : List UInt8) (h : l.length < 4294967281) : strings_Split.f (B l) (⟨#[10]⟩ : ByteArray) = some ((Txt.splitOn 10 l).map B) := by
  unfold strings_Split.f
  rw [if_pos ⟨by rw [B_size]; exact h, by decide⟩]
  exact congrArg some (splitB_eq (B l) 10)
theorem rb_j0 (s : ByteArray) (t : List UInt8) (ht : t.length ≤ 4000) : ∃ r, GB s r ∧ Evt fun k => impl_ReadBulletin.j0 k s (B (t ++ [10])) false = some r := by
  have len := splitOn_count 10 t
  have pos := split_pos 10 t
  obtain ⟨p, e0, hp⟩ := rd_split 10 t 0 pos
  obtain ⟨c1, c2, c3⟩ := cut_some (B p) (⟨#[32, 97, 116, 32, 104, 111, 117, 114, 32]⟩ : ByteArray) (by rw [B_size]; omega)
  rw [B_size] at c2 c3
  generalize cutL (B p) (⟨#[32, 97, 116, 32, 104, 111, 117, 114, 32]⟩ : ByteArray) = c at c1 c2 c3
  obtain ⟨u, hu, zu⟩ := pre_tot c.1 (by omega)
  have r2 := fun k => read2 k u c.2.1 (by omega) (by omega)
  have ln : (((Txt.splitOn 10 t).map B).length : Int) = ((Txt.splitOn 10 t).length : Int) := by rw [List.length_map]
  by_cases q : ((pIntL u.data.toList).2 && (pIntL c.2.1.data.toList).2) = true
  · simp only [if_pos q] at r2
    obtain ⟨r, g, hr⟩ := rbl_total s (((Txt.splitOn 10 t).map B).drop 1) (pIntL u.data.toList).1 (pIntL c.2.1.data.toList).1 (by rw [List.length_drop, List.length_map]; omega) (fun x hx => by
      obtain ⟨y, hy, rfl⟩ := List.mem_map.1 (List.mem_of_mem_drop hx)
      have := splitOn_len 10 t y hy
      rw [B_size]; omega)
    refine ⟨r, g, Evt.add 4 (hr.shift.shift.shift.mono fun k hk => ?_)⟩
    show impl_ReadBulletin.j0 (k + 3 + 1) s (B (t ++ [10])) false = _
    rw [impl_ReadBulletin.j0, if_neg (by simp), trim_suf t (by omega), Option.bind_some, split10 t (by omega), Option.bind_some, if_pos (by omega), show (0 : Int) = ((0 : Nat) : Int) from rfl, e0, c1, Option.bind_some, hu, Option.bind_some, r2 k, Option.bind_some, if_pos rfl]
    dsimp only
    rw [if_pos (by simp only [List.length_cons, List.length_nil]; omega), if_pos (by simp only [List.length_cons, List.length_nil]; omega), if_pos (by omega), Option.bind_some]
    exact hk
  · simp only [if_neg q] at r2
    refine ⟨_, GB.zero s, Evt.add 4 (Evt.all fun k => ?_)⟩
    show impl_ReadBulletin.j0 (k + 3 + 1) s (B (t ++ [10])) false = _
    rw [impl_ReadBulletin.j0, if_neg (by simp), trim_suf t (by omega), Option.bind_some, split10 t (by omega), Option.bind_some, if_pos (by omega), show (0 : Int) = ((0 : Nat) : Int) from rfl, e0, c1, Option.bind_some, hu, Option.bind_some, r2 k, Option.bind_some, if_neg (by simp)]
theorem rb_zero (s t : ByteArray) : Evt fun k => impl_ReadBulletin.j0 k s t true = some (0, 0, [], false) := Evt.succ (Evt.all fun k => by show impl_ReadBulletin.j0 (k + 1) s t true = _; rw [impl_ReadBulletin.j0, if_pos rfl])
theorem rb_total (s : ByteArray) (hs : s.size ≤ 1048576) : ∃ r, GB s r ∧ Evt fun k => impl_ReadBulletin.f k s = some r := by
  obtain ⟨⟨t, ok⟩, g, hv⟩ := ver_impl s hs
  cases ok with
  | false =>
    refine ⟨_, GB.zero s, (hv.and (rb_zero s t)).mono fun k hk => ?_⟩
    unfold impl_ReadBulletin.f
    rw [hk.1, Option.bind_some, if_neg (by simp)]; exact hk.2
  | true =>
    obtain ⟨l, e, _, h4, _⟩ := g.1 rfl
    have hl := sealL_len l
    dsimp only at e
    subst e
    obtain ⟨b, hb, hB⟩ := has_suf l (by omega)
    cases b with
    | false =>
      refine ⟨_, GB.zero s, (hv.and (rb_zero s (B l))).mono fun k hk => ?_⟩
      unfold impl_ReadBulletin.f
      rw [hk.1, Option.bind_some, if_pos rfl, hb, Option.bind_some]; exact hk.2
    | true =>
      obtain ⟨t, rfl⟩ := hB rfl
      obtain ⟨r, gr, hr⟩ := rb_j0 s t (by simp at hl; omega)
      refine ⟨r, gr, (hv.and hr).mono fun k hk => ?_⟩
      unfold impl_ReadBulletin.f
      rw [hk.1, Option.bind_some, if_pos rfl, hb, Option.bind_some]; exact hk.2
theorem occ8 (n : Int) (hn : 0 ≤ n) (rest : List UInt8) (j : Nat) (hj : j < (wB ++ Lib.itoa n).length) : Lib.occAt (wB ++ Lib.itoa n ++ wH ++ rest) wH j = false := by
  rcases Bool.eq_false_or_eq_true (Lib.occAt (wB ++ Lib.itoa n ++ wH ++ rest) wH j) with h1 | h1
  · exfalso
    have h2 := Lib.occAt_head (c := 32) rfl h1
    rw [List.append_assoc, List.getElem?_append_left hj] at h2
    have h3 : j = 8 := by
      rcases Nat.lt_or_ge j 9 with h | h
      · rw [List.getElem?_append_left (by rw [wB_len]; exact h)] at h2
        have : j = 0 ∨ j = 1 ∨ j = 2 ∨ j = 3 ∨ j = 4 ∨ j = 5 ∨ j = 6 ∨ j = 7 ∨ j = 8 := by omega
        rcases this with rfl | rfl | rfl | rfl | rfl | rfl | rfl | rfl | rfl
        all_goals first | rfl | exact absurd h2 (by decide)
      · rw [List.getElem?_append_right (by rw [wB_len]; exact h)] at h2
        exact absurd (List.mem_of_getElem? h2) (Txt.not_mem_itoa hn 32 (by decide))
    subst h3
    have hp := itoa_pos n hn
    have hd : ∀ c ∈ Lib.itoa n, c ≠ 97 := fun c hc e => by subst e; exact Txt.not_mem_itoa hn 97 (by decide) hc
    cases hi : Lib.itoa n with
    | nil => rw [hi] at hp; simp at hp
    | cons d q =>
      rw [hi] at h1 hd
      have h97 := hd d (by simp)
      have e : (wB ++ (d :: q) ++ wH ++ rest).drop 8 = 32 :: d :: (q ++ wH ++ rest) := by simp [wB]
      unfold Lib.occAt at h1
      rw [e] at h1
      simp [wH, Ne.symm h97] at h1
  · exact h1
theorem head_cut (n h : Int) (hn : 1 ≤ n ∧ n ≤ 999) (hh : 0 ≤ h ∧ h ≤ 240) : strings_Cut.f (B (headL n h)) (⟨#[32, 97, 116, 32, 104, 111, 117, 114, 32]⟩ : ByteArray) = some (B (wB ++ Lib.itoa n), B (Lib.itoa h), true) := by
  have hle := head_le n h hn hh
  have hi : Lib.index (wB ++ Lib.itoa n ++ wH ++ Lib.itoa h) wH = ((wB ++ Lib.itoa n).length : Int) :=
    Lib.index_first (by simp only [List.length_append]; omega) (Txt.occ_yes _ _ _) (fun j hj => occ8 n (by omega) _ j hj)
  have hc : Lib.cut (headL n h) wH = (wB ++ Lib.itoa n, Lib.itoa h, true) := by
    unfold Lib.cut headL
    rw [hi, if_pos (by omega), Int.toNat_natCast]
    have e1 : (wB ++ Lib.itoa n ++ wH ++ Lib.itoa h).take (wB ++ Lib.itoa n).length = wB ++ Lib.itoa n := by rw [List.append_assoc, List.take_left]
    have e2 : (wB ++ Lib.itoa n ++ wH ++ Lib.itoa h).drop ((wB ++ Lib.itoa n).length + wH.length) = Lib.itoa h := by rw [← List.length_append, List.drop_left]
    rw [e1, e2]
  unfold strings_Cut.f cutL
  rw [if_pos (by rw [B_size]; omega), kH, B_data, B_data, hc]
theorem rb_text {n h : Int} {ws : List S25} (v : VB n h ws) : Evt fun k => impl_ReadBulletin.f k (B (sealL (bodyL n h ws))) = some (n, h, ws, true) := by
  obtain ⟨b35, bl, bs⟩ := body_ok v
  obtain ⟨t, et, hs⟩ := body_trim v
  have hv := ver_impl_seal (bodyL n h ws) b35 bs
  obtain ⟨hn, hh, hc⟩ := v
  have v : VB n h ws := ⟨hn, hh, hc⟩
  have tl : t.length ≤ 700 := by have := congrArg List.length et; simp at this; omega
  have w12 := hc.1.1
  have sz : ∀ n : Int, 0 ≤ n → n < 1000 → (B (Lib.itoa n)).size ≤ 281474976710656 := fun n h0 h1 => by have := itoa_le n h0 h1; rw [B_size]; omega
  have r2 := fun k => read2 k (B (Lib.itoa n)) (B (Lib.itoa h)) (sz n (by omega) (by omega)) (sz h (by omega) (by omega))
  rw [pInt_itoa n (by omega) (by omega), pInt_itoa h (by omega) (by omega)] at r2
  have main : Evt fun k => impl_ReadBulletin.l0 k (B (sealL (bodyL n h ws))) ((ws.map lineS).map B) (((ws.map lineS).map B).length : Int) 0 n h [] = some (n, h, ws, true) := by
    have len : ((ws.map lineS).map B).length = ws.length := by simp
    refine evt_loop0 ((ws.map lineS).map B).length (fun k (a : List S25) i => impl_ReadBulletin.l0 k _ ((ws.map lineS).map B) (((ws.map lineS).map B).length : Int) i n h a) _ (fun i a => a = ws.take i) ?_ ?_ [] (by simp)
    · rintro i a hi rfl
      have hi' : i < ws.length := by omega
      have vx := hc.1.2.1 i hi'
      have ex : rdOf ByteArray.empty ((ws.map lineS).map B) (i : Int) = B (lineS (ws.getD i z25)) := by
        show ((ws.map lineS).map B).getD (i : Int).toNat _ = _
        rw [Int.toNat_natCast, getD_lt _ _ _ hi, List.getElem_map, List.getElem_map, getD_lt _ _ _ hi']
      have ep : impl_ParseWarningLine.f (B (lineS (ws.getD i z25))) = _ := pw_line vx
      refine .inl ⟨_, rfl, 1, Evt.all fun k => ?_⟩
      show impl_ReadBulletin.l0 (k + 1) _ ((ws.map lineS).map B) (((ws.map lineS).map B).length : Int) (i : Int) n h (ws.take i) = _
      rw [impl_ReadBulletin.l0, if_pos (by omega), if_pos (by omega), if_pos (by omega), ex, ep, Option.bind_some, if_pos rfl, if_pos (by rw [List.length_take]; omega), wrap_id (by omega) (by omega), take_snoc ws i hi']
    · rintro a rfl
      rw [len, List.take_length]
      obtain ⟨b, hb, hB⟩ := validB_impl n h ws (by omega)
      obtain rfl : b = true := hb.2 v
      refine Evt.succ ((hB.and (text_impl v)).mono fun k hk => ?_)
      show impl_ReadBulletin.l0 (k + 1) _ ((ws.map lineS).map B) (ws.length : Int) (ws.length : Int) n h ws = _
      rw [impl_ReadBulletin.l0, if_neg (by omega), hk.1, Option.bind_some, if_pos rfl, hk.2, Option.bind_some, if_pos rfl]
  refine Evt.add 4 (((hv.shift.shift.shift.shift).and main.shift.shift.shift).mono fun k hk => ?_)
  show impl_ReadBulletin.f (k + 4) _ = _
  unfold impl_ReadBulletin.f
  rw [hk.1, Option.bind_some, if_pos rfl, et, suf_yes t (by omega), Option.bind_some, ← et]
  show impl_ReadBulletin.j0 (k + 3 + 1) _ _ false = _
  have ln : ((headL n h :: ws.map lineS).map B).length = ws.length + 1 := by simp
  rw [impl_ReadBulletin.j0, if_neg (by simp), et, trim_suf t (by omega), ← et, Option.bind_some, split10 t (by omega), Option.bind_some, hs, if_pos (by omega), show rdOf ByteArray.empty ((headL n h :: ws.map lineS).map B) 0 = B (headL n h) from rfl, head_cut n h hn hh, Option.bind_some, pre_yes, Option.bind_some, r2 k, Option.bind_some]
  dsimp only
  simp only [Bool.and_self, if_true]
  rw [if_pos (by simp), if_pos (by simp), if_pos (by omega), Option.bind_some]
  exact hk.2
/-! ### the law's own reader of bulletins -/
theorem sbl_total (s : ByteArray) (lines : List ByteArray) (n h : Int) (hl : lines.length ≤ 14) (hp : 1 ≤ lines.length) (hz : ∀ x ∈ lines, x.size ≤ 1000000) : ∀ (d i : Nat) (ws : List S25), i + d + 1 = lines.length → ws.length ≤ i →
    ∃ r, GB s r ∧ Evt fun k => spec_l17Bulletin.l0 k s lines (i : Int) 0 0 n h ws = some r
  | 0, i, ws, e, hw => by
    have u : wrap64 ((lines.length : Int) - 1) = (lines.length : Int) - 1 := wrap_id (by omega) (by omega)
    obtain ⟨b, hb, hB⟩ := validB_spec n h ws
    cases b with
    | false =>
      refine ⟨_, GB.zero s, Evt.succ (hB.mono fun k hk => ?_)⟩
      show spec_l17Bulletin.l0 (k + 1) s lines (i : Int) 0 0 n h ws = _
      rw [spec_l17Bulletin.l0, u, if_neg (by omega), hk, Option.bind_some, if_neg (by simp)]
    | true =>
      have v := hb.1 rfl
      have ht := text_spec v
      by_cases e : (B (sealL (bodyL n h ws))).toList = s.toList
      · refine ⟨_, GB.yes v e, Evt.succ ((hB.and ht).mono fun k hk => ?_)⟩
        show spec_l17Bulletin.l0 (k + 1) s lines (i : Int) 0 0 n h ws = _
        rw [spec_l17Bulletin.l0, u, if_neg (by omega), hk.1, Option.bind_some, if_pos rfl, hk.2, Option.bind_some, if_pos e]
      · refine ⟨_, GB.zero s, Evt.succ ((hB.and ht).mono fun k hk => ?_)⟩
        show spec_l17Bulletin.l0 (k + 1) s lines (i : Int) 0 0 n h ws = _
        rw [spec_l17Bulletin.l0, u, if_neg (by omega), hk.1, Option.bind_some, if_pos rfl, hk.2, Option.bind_some, if_neg e]
  | d + 1, i, ws, e, hw => by
    have u : wrap64 ((lines.length : Int) - 1) = (lines.length : Int) - 1 := wrap_id (by omega) (by omega)
    obtain ⟨x, hx, ex⟩ := rdOf_nat lines i (by omega)
    obtain ⟨⟨b0, b1, b2, b3, b4, b5, ok⟩, _, hP⟩ := parse_total x (hz x hx)
    cases ok with
    | false =>
      refine ⟨_, GB.zero s, Evt.succ (hP.mono fun k hk => ?_)⟩
      show spec_l17Bulletin.l0 (k + 1) s lines (i : Int) 0 0 n h ws = _
      rw [spec_l17Bulletin.l0, u, if_pos (by omega), if_pos (by omega), if_pos (by omega), ex, hk, Option.bind_some, if_neg (by simp)]
    | true =>
      obtain ⟨r, g, hr⟩ := sbl_total s lines n h hl hp hz d (i + 1) (ws ++ [⟨b0, b1, b2, b3, b4, b5⟩]) (by omega) (by simp; omega)
      refine ⟨r, g, Evt.succ ((hP.and hr).mono fun k hk => ?_)⟩
      show spec_l17Bulletin.l0 (k + 1) s lines (i : Int) 0 0 n h ws = _
      rw [spec_l17Bulletin.l0, u, if_pos (by omega), if_pos (by omega), if_pos (by omega), ex, hk.1, Option.bind_some, if_pos rfl, if_pos (by omega), wrap_id (by omega) (by omega)]
      exact hk.2
theorem sb_zero (s : ByteArray) (l : List ByteArray) : Evt fun k => spec_l17Bulletin.j0 k s l true 0 0 = some (0, 0, [], false) := Evt.succ (Evt.all fun k => by show spec_l17Bulletin.j0 (k + 1) s l true 0 0 = _; rw [spec_l17Bulletin.j0, if_pos rfl])
theorem sb_j0 (s : ByteArray) (t : List UInt8) (ht : t.length ≤ 4000) (h2 : 2 ≤ (Txt.splitOn 10 t).length) : ∃ r, GB s r ∧ Evt fun k => spec_l17Bulletin.j0 k s ((Txt.splitOn 10 t).map B) false 0 0 = some r := by
  have pos := split_pos 10 t
  obtain ⟨p, e0, hp⟩ := rd_split 10 t 0 pos
  have hsp := splitS (B p) 32 (by rw [B_size]; omega)
  rw [B_data] at hsp
  have e32 : (32 : Int) = (((32 : UInt8).toNat : Nat) : Int) := rfl
  have ln : (((Txt.splitOn 10 t).map B).length : Int) = ((Txt.splitOn 10 t).length : Int) := by rw [List.length_map]
  by_cases h5 : (((Txt.splitOn 32 p).map B).length : Int) = 5
  · obtain ⟨⟨n, a⟩, R1⟩ := read_tot (rdOf ByteArray.empty ((Txt.splitOn 32 p).map B) 1)
    obtain ⟨⟨h, b⟩, R4⟩ := read_tot (rdOf ByteArray.empty ((Txt.splitOn 32 p).map B) 4)
    obtain ⟨K, hK⟩ := hsp.and (R1.and R4)
    have go : ∀ k, K ≤ k → spec_l17Bulletin.j0 (k + 1) s ((Txt.splitOn 10 t).map B) false 0 0 = _ := fun k hk => by
      obtain ⟨k1, k2, k3⟩ := hK k hk
      rw [spec_l17Bulletin.j0, if_neg (by simp), if_pos (by omega), show (rdOf ByteArray.empty ((Txt.splitOn 10 t).map B) 0) = B p from e0, e32, k1, Option.bind_some, if_pos h5, if_pos (by omega), k2, Option.bind_some, if_pos (by omega), k3, Option.bind_some, Option.bind_some]
    have zero : ∀ y : List S25, Evt fun k => spec_l17Bulletin.j1 k s ((Txt.splitOn 10 t).map B) true 0 0 n h y = some (0, 0, [], false) := fun y => Evt.succ (Evt.all fun k => by
      show spec_l17Bulletin.j1 (k + 1) s ((Txt.splitOn 10 t).map B) true 0 0 n h y = _
      rw [spec_l17Bulletin.j1, if_pos rfl])
    obtain ⟨Z, hZ⟩ := zero []
    cases a with
    | false => exact ⟨_, GB.zero s, Evt.succ ⟨K + Z, fun k hk => by show spec_l17Bulletin.j0 (k + 1) s ((Txt.splitOn 10 t).map B) false 0 0 = _; rw [go k (by omega), if_neg (by simp)]; exact hZ k (by omega)⟩⟩
    | true =>
    cases b with
    | false => exact ⟨_, GB.zero s, Evt.succ ⟨K + Z, fun k hk => by show spec_l17Bulletin.j0 (k + 1) s ((Txt.splitOn 10 t).map B) false 0 0 = _; rw [go k (by omega), if_pos rfl, if_neg (by simp)]; exact hZ k (by omega)⟩⟩
    | true =>
    by_cases c : (((Txt.splitOn 10 t).map B).length : Int) > 14
    · refine ⟨_, GB.zero s, Evt.succ ⟨K + Z, fun k hk => ?_⟩⟩
      show spec_l17Bulletin.j0 (k + 1) s ((Txt.splitOn 10 t).map B) false 0 0 = _
      rw [go k (by omega), if_pos rfl, if_pos rfl, decide_eq_true c]
      exact hZ k (by omega)
    · obtain ⟨r, g, M, hr⟩ := sbl_total s ((Txt.splitOn 10 t).map B) n h (by omega) (by omega) (fun x hx => by
        obtain ⟨y, hy, rfl⟩ := List.mem_map.1 hx
        have := splitOn_len 10 t y hy
        rw [B_size]; omega) (((Txt.splitOn 10 t).map B).length - 2) 1 [] (by omega) (by simp)
      refine ⟨r, g, Evt.add 2 ⟨K + M, fun k hk => ?_⟩⟩
      show spec_l17Bulletin.j0 (k + 1 + 1) s ((Txt.splitOn 10 t).map B) false 0 0 = _
      rw [go (k + 1) (by omega), if_pos rfl, if_pos rfl, decide_eq_false c]
      show spec_l17Bulletin.j1 (k + 1) s ((Txt.splitOn 10 t).map B) false 0 0 n h [] = _
      rw [spec_l17Bulletin.j1, if_neg (by simp)]
      exact hr k (by omega)
  · refine ⟨_, GB.zero s, Evt.succ (hsp.mono fun k hk => ?_)⟩
    show spec_l17Bulletin.j0 (k + 1) s ((Txt.splitOn 10 t).map B) false 0 0 = _
    rw [spec_l17Bulletin.j0, if_neg (by simp), if_pos (by omega), show (rdOf ByteArray.empty ((Txt.splitOn 10 t).map B) 0) = B p from e0, e32, hk, Option.bind_some, if_neg h5]
theorem sb_total (s : ByteArray) (hs : s.size ≤ 1048576) : ∃ r, GB s r ∧ Evt fun k => spec_l17Bulletin.f k s = some r := by
  obtain ⟨⟨t, ok⟩, g, hv⟩ := ver_spec s hs
  have e10 : (10 : Int) = (((10 : UInt8).toNat : Nat) : Int) := rfl
  cases ok with
  | false =>
    obtain rfl : t = ⟨#[]⟩ := g.2 rfl
    have hsp := splitS (B []) 10 (by decide)
    rw [B_data] at hsp
    refine ⟨_, GB.zero s, ((hv.and hsp).and (sb_zero s ((Txt.splitOn 10 []).map B))).mono fun k hk => ?_⟩
    unfold spec_l17Bulletin.f
    rw [hk.1.1, Option.bind_some]
    show (spec_l1Split.f k (B []) 10).bind _ = _
    rw [e10, hk.1.2, Option.bind_some, if_neg (by simp)]
    exact hk.2
  | true =>
    obtain ⟨l, e, _, h4, _⟩ := g.1 rfl
    have hl := sealL_len l
    dsimp only at e
    subst e
    have hsp := splitS (B l) 10 (by rw [B_size]; omega)
    rw [B_data] at hsp
    by_cases h2 : (((Txt.splitOn 10 l).map B).length : Int) < 2
    · refine ⟨_, GB.zero s, ((hv.and hsp).and (sb_zero s ((Txt.splitOn 10 l).map B))).mono fun k hk => ?_⟩
      unfold spec_l17Bulletin.f
      rw [hk.1.1, Option.bind_some, e10, hk.1.2, Option.bind_some, if_pos rfl, decide_eq_true h2]
      exact hk.2
    · obtain ⟨r, gr, hr⟩ := sb_j0 s l (by omega) (by rw [List.length_map] at h2; omega)
      refine ⟨r, gr, ((hv.and hsp).and hr).mono fun k hk => ?_⟩
      unfold spec_l17Bulletin.f
      rw [hk.1.1, Option.bind_some, e10, hk.1.2, Option.bind_some, if_pos rfl, decide_eq_false h2]
      exact hk.2
theorem head_words (n h : Int) (hn : 1 ≤ n ∧ n ≤ 999) (hh : 0 ≤ h ∧ h ≤ 240) : Txt.splitOn 32 (headL n h) = [[98, 117, 108, 108, 101, 116, 105, 110], Lib.itoa n, [97, 116], [104, 111, 117, 114], Lib.itoa h] := by
  have m0 := Txt.not_mem_itoa (n := n) (by omega) 32 (by decide)
  have m3 := Txt.not_mem_itoa (n := h) (by omega) 32 (by decide)
  have el : headL n h = [98, 117, 108, 108, 101, 116, 105, 110] ++ 32 :: (Lib.itoa n ++ 32 :: ([97, 116] ++ 32 :: ([104, 111, 117, 114] ++ 32 :: Lib.itoa h))) := by
    unfold headL wB wH
    simp only [List.append_assoc, List.cons_append, List.nil_append]
  rw [el, Txt.splitOn_at 32 _ _ (by decide), Txt.splitOn_at 32 _ _ m0, Txt.splitOn_at 32 _ _ (by decide), Txt.splitOn_at 32 _ _ (by decide), Txt.splitOn_none 32 _ m3]
theorem sbl_text {n h : Int} {ws : List S25} (v : VB n h ws) (s : ByteArray) (hs : s = B (sealL (bodyL n h ws))) (lines : List ByteArray) (hl : lines = (headL n h :: (ws.map lineS ++ [[]])).map B) : ∀ (d i : Nat), i + d = ws.length →
    Evt fun k => spec_l17Bulletin.l0 k s lines ((i + 1 : Nat) : Int) 0 0 n h (ws.take i) = some (n, h, ws, true)
  | 0, i, e => by
    obtain rfl : i = ws.length := by omega
    have w12 := v.2.2.1.1
    have len : lines.length = ws.length + 2 := by rw [hl]; simp
    have u : wrap64 ((lines.length : Int) - 1) = (lines.length : Int) - 1 := wrap_id (by omega) (by omega)
    obtain ⟨b, hb, hB⟩ := validB_spec n h ws
    obtain rfl : b = true := hb.2 v
    rw [List.take_length]
    refine Evt.succ ((hB.and (text_spec v)).mono fun k hk => ?_)
    show spec_l17Bulletin.l0 (k + 1) s lines ((ws.length + 1 : Nat) : Int) 0 0 n h ws = _
    rw [spec_l17Bulletin.l0, u, if_neg (by omega), hk.1, Option.bind_some, if_pos rfl, hk.2, Option.bind_some, hs, if_pos rfl]
  | d + 1, i, e => by
    have w12 := v.2.2.1.1
    have len : lines.length = ws.length + 2 := by rw [hl]; simp
    have u : wrap64 ((lines.length : Int) - 1) = (lines.length : Int) - 1 := wrap_id (by omega) (by omega)
    have hi : i < ws.length := by omega
    have vx := v.2.2.1.2.1 i hi
    have ex : rdOf ByteArray.empty lines ((i + 1 : Nat) : Int) = B (lineS (ws.getD i z25)) := by
      show lines.getD (((i + 1 : Nat) : Int)).toNat _ = _
      rw [Int.toNat_natCast, getD_lt _ _ _ (by omega)]
      have : lines[i + 1]? = some (B (lineS (ws.getD i z25))) := by
        rw [hl, List.map_cons, List.getElem?_cons_succ, List.getElem?_map, List.getElem?_append_left (by simpa using hi), List.getElem?_map, List.getElem?_eq_getElem hi, getD_lt _ _ _ hi]; rfl
      rw [List.getElem?_eq_getElem (by omega)] at this
      exact Option.some.inj this
    have ih := sbl_text v s hs lines hl d (i + 1) (by omega)
    have hp := parse_line vx
    rw [show lineL (ws.getD i z25).f0 (ws.getD i z25).f1 (ws.getD i z25).f2 (ws.getD i z25).f3 (ws.getD i z25).f4 (ws.getD i z25).f5 = lineS (ws.getD i z25) from rfl] at hp
    refine Evt.succ ((hp.and ih).mono fun k hk => ?_)
    show spec_l17Bulletin.l0 (k + 1) s lines ((i + 1 : Nat) : Int) 0 0 n h (ws.take i) = _
    rw [spec_l17Bulletin.l0, u, if_pos (by omega), if_pos (by omega), if_pos (by omega), ex, hk.1, Option.bind_some, if_pos rfl, if_pos (by rw [List.length_take]; omega), wrap_id (by omega) (by omega)]
    have e2 := hk.2
    rw [take_snoc ws i hi] at e2
    exact e2
theorem sb_text {n h : Int} {ws : List S25} (v : VB n h ws) : Evt fun k => spec_l17Bulletin.f k (B (sealL (bodyL n h ws))) = some (n, h, ws, true) := by
  obtain ⟨b35, bl, bs⟩ := body_ok v
  have hv := ver_spec_seal (bodyL n h ws) b35 bs
  have hsp := splitS (B (bodyL n h ws)) 10 (by rw [B_size]; omega)
  rw [B_data, body_split v] at hsp
  have hle := head_le n h v.1 v.2.1
  have hsq := splitS (B (headL n h)) 32 (by rw [B_size]; omega)
  rw [B_data, head_words n h v.1 v.2.1] at hsq
  have w12 := v.2.2.1.1
  have main := sbl_text v _ rfl _ rfl ws.length 0 (by omega)
  have v1 := v.1
  have v2 := v.2.1
  refine Evt.add 2 (((((hv.shift.shift).and hsp.shift.shift).and (hsq.shift)).and (((read_itoa n (by omega) (by omega)).shift).and ((read_itoa h (by omega) (by omega)).shift))).and main |>.mono fun k hk => ?_)
  obtain ⟨⟨⟨⟨k1, k2⟩, k3⟩, k4, k5⟩, k6⟩ := hk
  have ln : ((headL n h :: (ws.map lineS ++ [[]])).map B).length = ws.length + 2 := by simp
  show spec_l17Bulletin.f (k + 1 + 1) _ = _
  unfold spec_l17Bulletin.f
  rw [k1, Option.bind_some, show (10 : Int) = (((10 : UInt8).toNat : Nat) : Int) from rfl, k2, Option.bind_some, if_pos rfl, decide_eq_false (by omega), spec_l17Bulletin.j0, if_neg (by simp), if_pos (by omega), show rdOf ByteArray.empty ((headL n h :: (ws.map lineS ++ [[]])).map B) 0 = B (headL n h) from rfl, show (32 : Int) = (((32 : UInt8).toNat : Nat) : Int) from rfl, k3, Option.bind_some,
    if_pos (by simp), if_pos (by simp), show rdOf ByteArray.empty ([[98, 117, 108, 108, 101, 116, 105, 110], Lib.itoa n, [97, 116], [104, 111, 117, 114], Lib.itoa h].map B) 1 = B (Lib.itoa n) from rfl, k4, Option.bind_some, if_pos (by simp), show rdOf ByteArray.empty ([[98, 117, 108, 108, 101, 116, 105, 110], Lib.itoa n, [97, 116], [104, 111, 117, 114], Lib.itoa h].map B) 4 = B (Lib.itoa h) from rfl, k5, Option.bind_some, Option.bind_some]
  dsimp only
  rw [if_pos rfl, if_pos rfl, decide_eq_false (by omega), spec_l17Bulletin.j1, if_neg (by simp)]
  exact k6
theorem rb_same (s : ByteArray) (hs : s.size ≤ 1048576) : ∃ r, GB s r ∧ (Evt fun k => impl_ReadBulletin.f k s = some r) ∧ Evt fun k => spec_ReadBulletin.f k s = some r := by
  obtain ⟨r1, g1, h1⟩ := rb_total s hs
  obtain ⟨r2, g2, h2⟩ := sb_total s hs
  have fin : r1 = r2 := by
    obtain ⟨n1, a1, w1, o1⟩ := r1
    obtain ⟨n2, a2, w2, o2⟩ := r2
    have uniq : ∀ {r r' : Int × Int × List S25 × Bool}, (Evt fun k => (some r : Option _) = some r') → r = r' := fun ⟨K, h⟩ => Option.some.inj (h K (Nat.le_refl _))
    cases o1 with
    | true =>
      obtain ⟨v, e⟩ := g1.1 rfl
      dsimp only at v e
      have := sb_text v
      rw [← e] at this
      exact (uniq ((h2.and this).mono fun k hk => hk.1.symm.trans hk.2)).symm
    | false =>
      cases o2 with
      | false => rw [g1.2 rfl, g2.2 rfl]
      | true =>
        obtain ⟨v, e⟩ := g2.1 rfl
        dsimp only at v e
        have := rb_text v
        rw [← e] at this
        exact uniq ((h1.and this).mono fun k hk => hk.1.symm.trans hk.2)
  subst fin
  refine ⟨r1, g1, h1, h2.mono fun k hk => ?_⟩
  unfold spec_ReadBulletin.f
  rw [hk, Option.bind_some]
theorem GB.len {s : ByteArray} {r : Int × Int × List S25 × Bool} (g : GB s r) : r.2.2.1.length ≤ 12 := by
  cases h : r.2.2.2 with
  | true => exact (g.1 h).1.2.2.1.1
  | false => rw [g.2 h]; simp
theorem eqWarningS_self (l : List S25) (hl : l.length ≤ 4503599627370496) : Evt fun k => laws_eqWarningS.f k l l = some true := by
  unfold laws_eqWarningS.f
  simp only [if_true]
  refine evt_loop0 l.length (fun k (_ : Unit) i => laws_eqWarningS.l0 k l l i) true (fun _ _ => True) ?_ ?_ () trivial
  · intro i s hi _
    refine .inl ⟨(), trivial, 1, Evt.all fun k => ?_⟩
    show laws_eqWarningS.l0 (k + 1) l l (i : Int) = _
    simp only [laws_eqWarningS.l0, laws_eqWarning.f]
    rw [if_pos (by omega), if_pos (by omega), if_pos (by omega), wrap_id (by omega) (by omega)]
    simp
  · intro s _
    refine Evt.succ (Evt.all fun k => ?_)
    show laws_eqWarningS.l0 (k + 1) l l (l.length : Int) = _
    simp only [laws_eqWarningS.l0]
    rw [if_neg (by omega)]
def mk_Warning (a : Int) (j : Nat) : S25 := ⟨a + 6 * (j : Int), a + 6 * (j : Int) + 1, a + 6 * (j : Int) + 1 + 1, a + 6 * (j : Int) + 1 + 1 + 1, a + 6 * (j : Int) + 1 + 1 + 1 + 1, a + 6 * (j : Int) + 1 + 1 + 1 + 1 + 1⟩
def marked_Warning (a : Int) (n : Nat) : List S25 := (List.range n).map (mk_Warning a)
theorem marked_Warning_len (a : Int) (n : Nat) : (marked_Warning a n).length = n := by simp [marked_Warning]
theorem marked_Warning_get (a : Int) (n j : Nat) (h : j < n) : (marked_Warning a n).getD j z25 = mk_Warning a j := by
  rw [getD_lt _ _ _ (by simpa [marked_Warning] using h)]; simp [marked_Warning]
theorem markWarningS_ev (l : List S25) (a : Int) (ha : 0 ≤ a ∧ a ≤ 1000000000000) (hl : l.length ≤ 1000000000000) : Evt fun k => laws_markWarningS.f k l a = some (a + 6 * l.length, marked_Warning a l.length) := by
  unfold laws_markWarningS.f
  refine evt_loop0 l.length (fun k (s : List S25 × Int) i => laws_markWarningS.l0 k s.1 s.2 i) _ (fun i s => s.1.length = l.length ∧ s.2 = a + 6 * i ∧ ∀ j, j < i → s.1.getD j z25 = mk_Warning a j) ?_ ?_ (l, a) ⟨rfl, by simp, fun j hj => by omega⟩
  · rintro i ⟨s, x⟩ hi ⟨h1, h2, h3⟩
    simp only at h1 h2 h3
    refine .inl ⟨(s.set i (mk_Warning a i), x + 1 + 1 + 1 + 1 + 1 + 1), ⟨by simpa using h1, by simp only; omega, fun j hj => ?_⟩, 1, Evt.all fun k => ?_⟩
    · simp only
      by_cases e : j = i
      · subst e; rw [getD_set_self _ _ _ _ (by omega)]
      · rw [getD_set_ne _ _ _ _ _ (by omega)]; exact h3 j (by omega)
    · show laws_markWarningS.l0 (k + 1) s x (i : Int) = laws_markWarningS.l0 k (s.set i (mk_Warning a i)) (x + 1 + 1 + 1 + 1 + 1 + 1) ((i : Int) + 1)
      have w1 : wrap64 (x + 1) = x + 1 := wrap_id (by omega) (by omega)
      have w2 : wrap64 (x + 1 + 1) = x + 1 + 1 := wrap_id (by omega) (by omega)
      have w3 : wrap64 (x + 1 + 1 + 1) = x + 1 + 1 + 1 := wrap_id (by omega) (by omega)
      have w4 : wrap64 (x + 1 + 1 + 1 + 1) = x + 1 + 1 + 1 + 1 := wrap_id (by omega) (by omega)
      have w5 : wrap64 (x + 1 + 1 + 1 + 1 + 1) = x + 1 + 1 + 1 + 1 + 1 := wrap_id (by omega) (by omega)
      have w6 : wrap64 (x + 1 + 1 + 1 + 1 + 1 + 1) = x + 1 + 1 + 1 + 1 + 1 + 1 := wrap_id (by omega) (by omega)
      simp only [laws_markWarningS.l0, Option.bind_some]
      rw [if_pos (by omega), if_pos (by omega), wrap_id (x := (i : Int) + 1) (by omega) (by omega)]
      simp only [w1, w2, w3, w4, w5, w6, rd_T25, Int.toNat_natCast, getD_set_self _ _ _ _ (show i < s.length by omega), List.set_set]
      subst h2
      rfl
  · rintro ⟨s, x⟩ ⟨h1, h2, h3⟩
    simp only at h1 h2 h3
    refine Evt.succ (Evt.all fun k => ?_)
    show laws_markWarningS.l0 (k + 1) s x (l.length : Int) = _
    simp only [laws_markWarningS.l0]
    rw [if_neg (by omega), h2]
    refine congrArg some (Prod.ext rfl (list_ext_getD _ _ z25 (by rw [marked_Warning_len]; exact h1) (fun j hj => ?_)))
    have hj' : j < l.length := by simp only at hj; omega
    rw [marked_Warning_get _ _ _ hj']; exact h3 j hj'
theorem heldWarningS_ev (n : Nat) (a : Int) (ha : 0 ≤ a ∧ a ≤ 1000000000000) (hl : n ≤ 1000000000000) : Evt fun k => laws_heldWarningS.f k (marked_Warning a n) a = some (a + 6 * n) := by
  unfold laws_heldWarningS.f
  refine evt_loop0 n (fun k (x : Int) i => laws_heldWarningS.l0 k (marked_Warning a n) x i) _ (fun i x => x = a + 6 * i) ?_ ?_ a (by simp)
  · rintro i x hi h2
    refine .inl ⟨x + 1 + 1 + 1 + 1 + 1 + 1, by omega, 1, Evt.all fun k => ?_⟩
    show laws_heldWarningS.l0 (k + 1) (marked_Warning a n) x (i : Int) = _
    have w1 : wrap64 (x + 1) = x + 1 := wrap_id (by omega) (by omega)
    have w2 : wrap64 (x + 1 + 1) = x + 1 + 1 := wrap_id (by omega) (by omega)
    have w3 : wrap64 (x + 1 + 1 + 1) = x + 1 + 1 + 1 := wrap_id (by omega) (by omega)
    have w4 : wrap64 (x + 1 + 1 + 1 + 1) = x + 1 + 1 + 1 + 1 := wrap_id (by omega) (by omega)
    have w5 : wrap64 (x + 1 + 1 + 1 + 1 + 1) = x + 1 + 1 + 1 + 1 + 1 := wrap_id (by omega) (by omega)
    have w6 : wrap64 (x + 1 + 1 + 1 + 1 + 1 + 1) = x + 1 + 1 + 1 + 1 + 1 + 1 := wrap_id (by omega) (by omega)
    simp only [laws_heldWarningS.l0]
    rw [marked_Warning_len, if_pos (by omega), if_pos (by omega), wrap_id (x := (i : Int) + 1) (by omega) (by omega)]
    simp only [w1, w2, w3, w4, w5, w6, rd_T25, Int.toNat_natCast, marked_Warning_get _ _ _ hi]
    subst h2
    simp [mk_Warning]
  · rintro x h2
    refine Evt.succ (Evt.all fun k => ?_)
    show laws_heldWarningS.l0 (k + 1) (marked_Warning a n) x (n : Int) = _
    simp only [laws_heldWarningS.l0]
    rw [marked_Warning_len, if_neg (by omega), h2]
theorem eqB_self (n h : Int) (l : List S25) (hl : l.length ≤ 12) : Evt fun k => laws_eqBulletin.f k n h l n h l = some true := by
  refine (eqWarningS_self l (by omega)).mono fun k hk => ?_
  unfold laws_eqBulletin.f
  rw [if_pos rfl, if_pos rfl, hk, Option.bind_some, if_pos rfl]
theorem markB (n h : Int) (l : List S25) (hl : l.length ≤ 12) : Evt fun k => laws_markBulletin.f k n h l 1 = some (1 + 6 * (l.length : Int), marked_Warning 1 l.length) := by
  refine (markWarningS_ev l 1 (by omega) (by omega)).mono fun k hk => ?_
  unfold laws_markBulletin.f
  rw [hk, Option.bind_some]
theorem heldB (n h : Int) (m : Nat) (hl : m ≤ 12) : Evt fun k => laws_heldBulletin.f k n h (marked_Warning 1 m) 1 = some (1 + 6 * (m : Int)) := by
  refine (heldWarningS_ev m 1 (by omega) (by omega)).mono fun k hk => ?_
  unfold laws_heldBulletin.f
  rw [hk, Option.bind_some, if_neg (by omega)]
theorem fnExactReadBulletin_pure : laws_FnExactReadBulletin.Pure := by
  intro s _
  suffices Evt fun k => laws_FnExactReadBulletin.f k s = some true by
    obtain ⟨K, h⟩ := this
    exact ⟨K, h K (Nat.le_refl _)⟩
  by_cases big : (s.size : Int) > 1048576
  · refine Evt.all fun k => ?_
    unfold laws_FnExactReadBulletin.f
    rw [if_pos big]
  · obtain ⟨⟨n, h, ws, ok⟩, g, hI, hS⟩ := rb_same s (by omega)
    have hl : ws.length ≤ 12 := g.len
    obtain ⟨K1, e1⟩ := hI
    obtain ⟨K2, e2⟩ := hS
    obtain ⟨K3, e3⟩ := eqB_self n h ws hl
    obtain ⟨K4, e4⟩ := markB n h ws hl
    obtain ⟨K5, e5⟩ := heldB n h ws.length hl
    refine Evt.add 2 ⟨K1 + K2 + K3 + K4 + K5, fun k hk => ?_⟩
    show laws_FnExactReadBulletin.f (k + 1 + 1) s = _
    have bb : (ok != ok) = false := by cases ok <;> rfl
    unfold laws_FnExactReadBulletin.f
    rw [if_neg big, e2 _ (by omega), Option.bind_some, e1 _ (by omega), Option.bind_some]
    dsimp only
    rw [e3 _ (by omega), Option.bind_some, if_pos rfl, bb, laws_FnExactReadBulletin.j0, if_neg (by simp), e4 _ (by omega), Option.bind_some]
    dsimp only
    rw [e5 _ (by omega), Option.bind_some, if_neg (by omega), if_pos rfl, e1 _ (by omega), Option.bind_some]
    dsimp only
    rw [e3 _ (by omega), Option.bind_some, if_pos rfl, bb, laws_FnExactReadBulletin.j1, if_neg (by simp), e5 _ (by omega), Option.bind_some, if_neg (by omega), if_pos rfl]
end Go.Proofs.YtlfoojgbiafffaaGreatDoor.XFnExactReadBulletin
