/-
  The pure statement of the law FnBulletins: what its printed function answers is 'true' for every row of bytes. Conditions: the row's own bounds, as the statement lays them.
-/
import Derived.Lib.Split
import Derived.Lib.Join
import Derived.Lib.ItoaNum
import Derived.Lib.AtoiAll
import Derived.Lib.Case
import Derived.Test.YtlfoojgbiafffaaGreatDoorXFnBulletinsD
import Derived.Lib.IndexAny
namespace Txt
open Go Go.Lib
theorem occ_no {c : UInt8} {t pre rest : List UInt8} (h : c ∉ pre) {j : Nat} (hj : j < pre.length) : occAt (pre ++ rest) (c :: t) j = false := by
  rcases Bool.eq_false_or_eq_true (occAt (pre ++ rest) (c :: t) j) with h1 | h1
  · have h2 := occAt_head rfl h1
    rw [List.getElem?_append_left hj] at h2
    exact absurd (List.mem_of_getElem? h2) h
  · exact h1
theorem occ_yes (pre sep rest : List UInt8) : occAt (pre ++ sep ++ rest) sep pre.length = true := by
  unfold occAt
  rw [List.append_assoc, List.drop_left]
  exact List.isPrefixOf_iff_prefix.2 (List.prefix_append _ _)
theorem index_at (pre rest : List UInt8) (c : UInt8) (t : List UInt8) (h : c ∉ pre) : index (pre ++ (c :: t) ++ rest) (c :: t) = pre.length :=
  index_first (by simp <;> omega) (occ_yes _ _ _) (fun j hj => by rw [List.append_assoc]; exact occ_no h hj)
theorem cut_at (pre rest : List UInt8) (c : UInt8) (t : List UInt8) (h : c ∉ pre) : cut (pre ++ (c :: t) ++ rest) (c :: t) = (pre, rest, true) := by
  unfold cut
  rw [index_at pre rest c t h, if_pos (by omega), Int.toNat_natCast]
  have e1 : (pre ++ (c :: t) ++ rest).take pre.length = pre := by rw [List.append_assoc, List.take_left]
  have e2 : (pre ++ (c :: t) ++ rest).drop (pre.length + (c :: t).length) = rest := by
    rw [← List.length_append, List.drop_left]
  rw [e1, e2]
theorem index_miss (s : List UInt8) (c : UInt8) (t : List UInt8) (h : c ∉ s) : index s (c :: t) = -1 :=
  index_none fun j _ => by
    rcases Bool.eq_false_or_eq_true (occAt s (c :: t) j) with h1 | h1
    · exact absurd (List.mem_of_getElem? (occAt_head rfl h1)) h
    · exact h1
def splitOn (c : UInt8) : List UInt8 → List (List UInt8)
  | [] => [[]]
  | x :: r => if x = c then [] :: splitOn c r else
    match splitOn c r with
    | [] => [[x]]
    | p :: q => (x :: p) :: q
theorem splitOn_ne (c : UInt8) (s : List UInt8) : splitOn c s ≠ [] := by
  cases s with
  | nil => simp [splitOn]
  | cons x r =>
    unfold splitOn
    split
    · simp
    · split <;> simp
theorem splitOn_none (c : UInt8) : ∀ (s : List UInt8), c ∉ s → splitOn c s = [s]
  | [], _ => rfl
  | x :: r, h => by
    have h1 : x ≠ c := fun e => h (by simp [e])
    have h2 : c ∉ r := fun e => h (by simp [e])
    unfold splitOn
    rw [if_neg h1, splitOn_none c r h2]
theorem splitOn_at (c : UInt8) : ∀ (pre rest : List UInt8), c ∉ pre → splitOn c (pre ++ c :: rest) = pre :: splitOn c rest
  | [], rest, _ => by simp [splitOn]
  | x :: pre, rest, h => by
    have h1 : x ≠ c := fun e => h (by simp [e])
    have h2 : c ∉ pre := fun e => h (by simp [e])
    rw [List.cons_append, splitOn, if_neg h1, splitOn_at c pre rest h2]
theorem split_first (c : UInt8) (s : List UInt8) : c ∉ s ∨ ∃ pre rest, s = pre ++ c :: rest ∧ c ∉ pre := by
  induction s with
  | nil => left; simp
  | cons x r ih =>
    by_cases h : x = c
    · right; exact ⟨[], r, by simp [h], by simp⟩
    · rcases ih with h1 | ⟨pre, rest, rfl, h2⟩
      · left; simp [h1, Ne.symm h]
      · right; exact ⟨x :: pre, rest, rfl, by simp [h2, Ne.symm h]⟩
theorem splitK_count (c : UInt8) : ∀ (fuel : Nat) (s : List UInt8), s.length < fuel → splitK [c] 0 (countFrom [c] fuel s) s = splitOn c s
  | 0, s, h => by omega
  | fuel + 1, s, h => by
    unfold countFrom
    rcases split_first c s with h1 | ⟨pre, rest, rfl, h1⟩
    · rw [index_miss s c [] h1, if_pos (by rfl), splitOn_none c s h1]; rfl
    · have e := index_at pre rest c [] h1
      simp only [List.append_assoc, List.singleton_append] at e
      have e2 : (pre ++ c :: rest).drop (pre.length + 1) = rest := by
        rw [show pre ++ c :: rest = (pre ++ [c]) ++ rest by simp, show pre.length + 1 = (pre ++ [c]).length by simp, List.drop_left]
      have e3 : (pre ++ c :: rest).take pre.length = pre := by rw [List.take_left]
      have hn : ¬ (((pre.length : Nat) : Int) == -1) = true := by simp
      have ih := splitK_count c fuel rest (by simp at h; omega)
      rw [e, if_neg hn, Int.toNat_natCast, show ([c] : List UInt8).length = 1 from rfl, e2, Nat.add_comm 1, splitK, e, if_neg hn, Int.toNat_natCast, Nat.add_zero, e3, show ([c] : List UInt8).length = 1 from rfl, e2, ih, splitOn_at c pre rest h1]
theorem split_one (c : UInt8) (s : List UInt8) : split s [c] = splitOn c s := splitK_count c _ s (by omega)
theorem dig_of (d : Nat) (h : d < 10) : (UInt8.ofNat (48 + d)).toNat = 48 + d := by
  rw [UInt8.toNat_ofNat']; omega
theorem decDigits_dig (u : Nat) : ∀ c ∈ decDigits u, 48 ≤ c.toNat ∧ c.toNat ≤ 57 := by
  induction u using decDigits.induct with
  | case1 u h =>
    rw [decDigits, dif_pos h]
    intro c hc
    obtain rfl := List.mem_singleton.1 hc
    have := dig_of u h; omega
  | case2 u h ih =>
    rw [decDigits, dif_neg h]
    intro c hc
    rcases List.mem_append.1 hc with h1 | h1
    · exact ih c h1
    · obtain rfl := List.mem_singleton.1 h1
      rw [dig_of _ (by omega)]; omega
theorem decDigits_ne (u : Nat) : decDigits u ≠ [] := by
  rw [decDigits]; split <;> simp
theorem not_mem_dec (u : Nat) (c : UInt8) (h : c.toNat < 48 ∨ 57 < c.toNat) : c ∉ decDigits u := fun hc => by
  have := decDigits_dig u c hc; omega
theorem itoa_nat {n : Int} (h : 0 ≤ n) : itoa n = decDigits n.toNat := by unfold itoa; rw [if_neg (by omega)]
theorem not_mem_itoa {n : Int} (h : 0 ≤ n) (c : UInt8) (hc : c.toNat < 48 ∨ 57 < c.toNat) : c ∉ itoa n := by rw [itoa_nat h]; exact not_mem_dec _ c hc
theorem decDigits_len (u : Nat) (k : Nat) (h : u < 10 ^ (k + 1)) : (decDigits u).length ≤ k + 1 := by
  induction k generalizing u with
  | zero => rw [decDigits, dif_pos (by omega)]; simp
  | succ k ih =>
    rw [decDigits]
    split
    · simp
    · have := ih (u / 10) (by rw [Nat.pow_succ] at h; omega)
      simp; omega
theorem parse_dec (u : Nat) (r : List UInt8) (hu : u < 1000000000000000000) : parseUint10 0 (decDigits u ++ r) = parseUint10 u r := by
  induction u using decDigits.induct generalizing r with
  | case1 u h =>
    rw [decDigits, dif_pos h, List.singleton_append, parseUint10, dig_of u h, if_pos (by omega), if_neg (by omega), if_neg (by omega)]
    congr 1; omega
  | case2 u h ih =>
    rw [decDigits, dif_neg h, List.append_assoc, ih _ (by omega), List.singleton_append, parseUint10, dig_of _ (by omega), if_pos (by omega), if_neg (by omega), if_neg (by omega)]
    congr 1; omega
theorem atoi_itoa {n : Int} (h0 : 0 ≤ n) (h1 : n < 1000000000000000000) : atoiAll (itoa n) = .ok n := by
  obtain ⟨u, rfl⟩ := Int.eq_ofNat_of_zero_le h0
  rw [itoa_nat h0, Int.toNat_natCast]
  have hp := parse_dec u [] (by omega)
  rw [List.append_nil] at hp
  have hd := decDigits_dig u
  cases hl : decDigits u with
  | nil => exact absurd hl (decDigits_ne u)
  | cons c r =>
    rw [hl] at hp hd
    have hc := hd c (by simp)
    unfold atoiAll
    have hm : parseMag (c :: r) = .ok u := by unfold parseMag; rw [if_neg (by simp), hp]; rfl
    simp only
    rw [if_neg (by omega), hm]
    simp only
    rw [if_neg (by omega), if_neg (by omega), if_neg (by omega)]
end Txt
namespace Go.Proofs.YtlfoojgbiafffaaGreatDoor.XFnBulletins
open Go.RowKit Go.Proofs.YtlfoojgbiafffaaGreatDoorW.PrintWords Go.Proofs.YtlfoojgbiafffaaGreatDoorW.PrintLast Go.Proofs.YtlfoojgbiafffaaGreatDoorW.PrintMore
open Go.Proofs.YtlfoojgbiafffaaGreatDoor.Strs
set_option linter.unusedVariables false
set_option linter.unusedSimpArgs false
theorem wrap_id {x : Int} (h0 : -9223372036854775808 ≤ x) (h1 : x ≤ 9223372036854775807) : wrap64 x = x := by unfold wrap64; omega
theorem getD_drop {α : Type} (xs : List α) (z : α) (i : Nat) (h : i < xs.length) : xs.drop i = xs.getD i z :: xs.drop (i + 1) := by
  rw [List.drop_eq_getElem_cons h, List.getD_eq_getElem?_getD, List.getElem?_eq_getElem h]; rfl
def Evt (P : Nat → Prop) : Prop := ∃ K, ∀ k, K ≤ k → P k
theorem Evt.all {P : Nat → Prop} (h : ∀ k, P k) : Evt P := ⟨0, fun k _ => h k⟩
theorem Evt.from {P : Nat → Prop} (K : Nat) (h : ∀ k, K ≤ k → P k) : Evt P := ⟨K, h⟩
theorem Evt.and {P Q : Nat → Prop} (h : Evt P) (g : Evt Q) : Evt fun k => P k ∧ Q k := by
  obtain ⟨K, h⟩ := h
  obtain ⟨M, g⟩ := g
  exact ⟨K + M, fun k hk => ⟨h k (by omega), g k (by omega)⟩⟩
theorem Evt.mono {P Q : Nat → Prop} (h : Evt P) (g : ∀ k, P k → Q k) : Evt Q := by
  obtain ⟨K, h⟩ := h
  exact ⟨K, fun k hk => g k (h k hk)⟩
theorem Evt.succ {Q : Nat → Prop} (h : Evt fun k => Q (k + 1)) : Evt Q := by
  obtain ⟨K, h⟩ := h
  refine ⟨K + 1, fun k hk => ?_⟩
  obtain ⟨m, rfl⟩ : ∃ m, k = m + 1 := ⟨k - 1, by omega⟩
  exact h m (by omega)
theorem Evt.add {Q : Nat → Prop} (c : Nat) (h : Evt fun k => Q (k + c)) : Evt Q := by
  obtain ⟨K, h⟩ := h
  refine ⟨K + c, fun k hk => ?_⟩
  obtain ⟨m, rfl⟩ : ∃ m, k = m + c := ⟨k - c, by omega⟩
  exact h m (by omega)
theorem Evt.shift {Q : Nat → Prop} (h : Evt Q) : Evt fun k => Q (k + 1) := by
  obtain ⟨K, h⟩ := h
  exact ⟨K, fun k hk => h _ (by omega)⟩
theorem Evt.at {P : Nat → Prop} (h : Evt P) : ∃ K, ∀ j, P (K + j) := by
  obtain ⟨K, h⟩ := h
  exact ⟨K, fun j => h _ (by omega)⟩
theorem Evt.pos : Evt fun k => ∃ m, k = m + 1 := ⟨1, fun k hk => ⟨k - 1, by omega⟩⟩
theorem evt_loop {σ ρ : Type} (n : Nat) (L : Nat → σ → Int → Option ρ) (v : ρ) (Inv : Nat → σ → Prop)
    (step : ∀ i s, i < n → Inv i s → (∃ s', Inv (i + 1) s' ∧ ∃ c, Evt fun k => L (k + c) s (i : Int) = L k s' ((i : Int) + 1)) ∨ Evt fun k => L k s (i : Int) = some v)
    (fin : ∀ s, Inv n s → Evt fun k => L k s (n : Int) = some v) :
    ∀ i s, i ≤ n → Inv i s → Evt fun k => L k s (i : Int) = some v := by
  have key : ∀ d i s, i + d = n → Inv i s → Evt fun k => L k s (i : Int) = some v := by
    intro d
    induction d with
    | zero =>
      intro i s hi h
      obtain rfl : i = n := by omega
      exact fin s h
    | succ d ih =>
      intro i s hi h
      rcases step i s (by omega) h with ⟨s', h', c, e⟩ | e
      · have h2 := ih (i + 1) s' (by omega) h'
        rw [show ((i + 1 : Nat) : Int) = (i : Int) + 1 from by omega] at h2
        exact Evt.add c ((e.and h2).mono fun k hk => hk.1.trans hk.2)
      · exact e
  intro i s hi h
  exact key (n - i) i s (by omega) h
theorem evt_loop0 {σ ρ : Type} (n : Nat) (L : Nat → σ → Int → Option ρ) (v : ρ) (Inv : Nat → σ → Prop)
    (step : ∀ i s, i < n → Inv i s → (∃ s', Inv (i + 1) s' ∧ ∃ c, Evt fun k => L (k + c) s (i : Int) = L k s' ((i : Int) + 1)) ∨ Evt fun k => L k s (i : Int) = some v)
    (fin : ∀ s, Inv n s → Evt fun k => L k s (n : Int) = some v) (s : σ) (h0 : Inv 0 s) : Evt fun k => L k s 0 = some v :=
  evt_loop n L v Inv step fin 0 s (Nat.zero_le _) h0
theorem getD_lt {α : Type} (xs : List α) (z : α) (i : Nat) (h : i < xs.length) : xs.getD i z = xs[i] := by
  rw [List.getD_eq_getElem?_getD, List.getElem?_eq_getElem h]; rfl
theorem getD_set_ne {α : Type} (xs : List α) (z v : α) (i j : Nat) (h : i ≠ j) : (xs.set i v).getD j z = xs.getD j z := by
  rw [List.getD_eq_getElem?_getD, List.getElem?_set_ne h, List.getD_eq_getElem?_getD]
theorem evt_loop_ex {σ ρ : Type} (n : Nat) (L : Nat → σ → Int → Option ρ) (R : ρ → Prop) (Inv : Nat → σ → Prop)
    (step : ∀ i s, i < n → Inv i s → (∃ s', Inv (i + 1) s' ∧ ∃ c, Evt fun k => L (k + c) s (i : Int) = L k s' ((i : Int) + 1)) ∨ ∃ v, R v ∧ Evt fun k => L k s (i : Int) = some v)
    (fin : ∀ s, Inv n s → ∃ v, R v ∧ Evt fun k => L k s (n : Int) = some v) (s : σ) (h0 : Inv 0 s) : ∃ v, R v ∧ Evt fun k => L k s 0 = some v := by
  have key : ∀ d i s, i + d = n → Inv i s → ∃ v, R v ∧ Evt fun k => L k s (i : Int) = some v := by
    intro d
    induction d with
    | zero =>
      intro i s hi h
      obtain rfl : i = n := by omega
      exact fin s h
    | succ d ih =>
      intro i s hi h
      rcases step i s (by omega) h with ⟨s', h', c, e⟩ | e
      · obtain ⟨v, hv, h2⟩ := ih (i + 1) s' (by omega) h'
        rw [show ((i + 1 : Nat) : Int) = (i : Int) + 1 from by omega] at h2
        exact ⟨v, hv, Evt.add c ((e.and h2).mono fun k hk => hk.1.trans hk.2)⟩
      · exact e
  exact key n 0 s (by omega) h0
theorem l1In_ok (a b c : Int) : qO.f a b c = some (decide (b ≤ a ∧ a ≤ c)) := by
  unfold qO.f
  split <;> simp <;> omega
theorem within_ok (a b c : Int) : qp.f a b c = some (decide (b ≤ a ∧ a ≤ c)) := by
  unfold qp.f
  split <;> simp <;> omega
def V (a0 a1 a2 a3 a4 a5 : Int) : Prop := (1 ≤ a0 ∧ a0 ≤ 999) ∧ (1 ≤ a1 ∧ a1 ≤ 5) ∧ (1 ≤ a2 ∧ a2 ≤ 3) ∧ (1 ≤ a3 ∧ a3 ≤ 9) ∧ (1 ≤ a5 ∧ a5 ≤ 240) ∧ (0 ≤ a4 ∧ a4 ≤ a5 - 1)
instance (a0 a1 a2 a3 a4 a5 : Int) : Decidable (V a0 a1 a2 a3 a4 a5) := by unfold V; infer_instance
theorem good_ok (a0 a1 a2 a3 a4 a5 : Int) : spec_l14Good.f a0 a1 a2 a3 a4 a5 = some (decide (V a0 a1 a2 a3 a4 a5)) := by
  unfold spec_l14Good.f V
  simp only [l1In_ok, Option.bind_some, decide_eq_true_eq]
  by_cases h0 : 1 ≤ a0 ∧ a0 ≤ 999
  · rw [if_pos h0]
    by_cases h1 : 1 ≤ a1 ∧ a1 ≤ 5
    · rw [if_pos h1]
      by_cases h2 : 1 ≤ a2 ∧ a2 ≤ 3
      · rw [if_pos h2]
        by_cases h3 : 1 ≤ a3 ∧ a3 ≤ 9
        · rw [if_pos h3]
          by_cases h4 : 1 ≤ a5 ∧ a5 ≤ 240
          · rw [if_pos h4, wrap_id (by omega) (by omega)]; simp [h0, h1, h2, h3, h4]
          · rw [if_neg h4]; simp [h4]
        · rw [if_neg h3]; simp [h3]
      · rw [if_neg h2]; simp [h2]
    · rw [if_neg h1]; simp [h1]
  · rw [if_neg h0]; simp [h0]
theorem valid_ok (a0 a1 a2 a3 a4 a5 : Int) : qF.f a0 a1 a2 a3 a4 a5 = some (decide (V a0 a1 a2 a3 a4 a5)) := by
  unfold qF.f V
  simp only [within_ok, Option.bind_some, decide_eq_true_eq]
  by_cases h0 : 1 ≤ a0 ∧ a0 ≤ 999
  · rw [if_pos h0]
    by_cases h1 : 1 ≤ a1 ∧ a1 ≤ 5
    · rw [if_pos h1]
      by_cases h2 : 1 ≤ a2 ∧ a2 ≤ 3
      · rw [if_pos h2]
        by_cases h3 : 1 ≤ a3 ∧ a3 ≤ 9
        · rw [if_pos h3]
          by_cases h4 : a4 ≥ 0
          · rw [if_pos h4]
            by_cases h5 : a4 < a5
            · rw [if_pos h5]; exact congrArg some (decide_eq_decide.2 (by omega))
            · rw [if_neg h5]; exact congrArg some (decide_eq_false (by omega)).symm
          · rw [if_neg h4]; exact congrArg some (decide_eq_false (by omega)).symm
        · rw [if_neg h3]; exact congrArg some (decide_eq_false (by omega)).symm
      · rw [if_neg h2]; exact congrArg some (decide_eq_false (by omega)).symm
    · rw [if_neg h1]; exact congrArg some (decide_eq_false (by omega)).symm
  · rw [if_neg h0]; exact congrArg some (decide_eq_false (by omega)).symm
theorem B_ext {a b : ByteArray} (h : a.data.toList = b.data.toList) : a = b := by
  obtain ⟨a⟩ := a
  obtain ⟨b⟩ := b
  exact congrArg ByteArray.mk (Array.toList_inj.1 h)
theorem B_toList (l : List UInt8) : (B l).toList = l := by
  rw [Lib.toList_data]; rfl
theorem B_data (l : List UInt8) : (B l).data.toList = l := rfl
theorem B_of (s : ByteArray) : B s.data.toList = s := B_ext rfl
theorem B_ext2 (l m : List UInt8) (i j : Nat) (h : m = (l.drop i).take (j - i)) : (B l).extract i j = B m := by
  apply B_ext
  rw [h, B_data, ByteArray.data_extract]
  simp [B, List.extract]
theorem dig10 (d : Int) (h0 : 0 ≤ d) (h1 : d < 10) : (if 0 ≤ d then (if d ≤ (wrap64 (d + 1)) then (if (wrap64 (d + 1)) ≤ 10 then (some ((⟨#[48, 49, 50, 51, 52, 53, 54, 55, 56, 57]⟩ : ByteArray).extract (d : Int).toNat ((wrap64 (d + 1)) : Int).toNat)) else (none)) else (none)) else (none)) = some (B [UInt8.ofNat (48 + d.toNat)]) := by
  rw [wrap_id (by omega) (by omega), if_pos h0, if_pos (by omega), if_pos (by omega)]
  have : d = 0 ∨ d = 1 ∨ d = 2 ∨ d = 3 ∨ d = 4 ∨ d = 5 ∨ d = 6 ∨ d = 7 ∨ d = 8 ∨ d = 9 := by omega
  rcases this with rfl | rfl | rfl | rfl | rfl | rfl | rfl | rfl | rfl | rfl <;> rfl
theorem num_nat (u : Nat) (hu : u < 1000000000000) : Evt fun k => qB.f k (u : Int) = some (B (Lib.decDigits u)) := by
  induction u using Nat.strongRecOn with
  | _ u ih =>
    by_cases h : u < 10
    · refine Evt.succ (Evt.all fun k => ?_)
      show qB.f (k + 1) _ = _
      rw [qB.f, if_neg (by omega), if_pos (by omega), dig10 _ (by omega) (by omega), Lib.decDigits, dif_pos h]; rfl
    · have h2 := ih (u / 10) (by omega) (by omega)
      refine Evt.succ (h2.mono fun k hk => ?_)
      have e1 : Int.tdiv (u : Int) 10 = ((u / 10 : Nat) : Int) := by rw [Int.tdiv_eq_ediv_of_nonneg (by omega)]; omega
      have e2 : Int.tmod (u : Int) 10 = ((u % 10 : Nat) : Int) := by rw [Int.tmod_eq_emod_of_nonneg (by omega)]; omega
      have hl := Txt.decDigits_len (u / 10) 11 (by omega)
      show qB.f (k + 1) _ = _
      rw [qB.f, if_neg (by omega), if_neg (by omega), e1, wrap_id (by omega) (by omega), hk, Option.bind_some, e2]
      have hd := dig10 ((u % 10 : Nat) : Int) (by omega) (by omega)
      rw [wrap_id (by omega) (by omega), if_pos (by omega), if_pos (by omega), if_pos (by omega)] at hd ⊢
      rw [Option.some.inj hd, if_pos (by rw [B_size, B_size]; simp only [List.length_cons, List.length_nil]; omega), B_app]
      conv => rhs; rw [Lib.decDigits, dif_neg h]
      rfl
theorem num_ok (n : Int) (h0 : 0 ≤ n) (h1 : n < 1000000000000) : Evt fun k => qB.f k n = some (B (Lib.itoa n)) := by
  have := num_nat n.toNat (by omega)
  rw [Txt.itoa_nat h0]
  rwa [show ((n.toNat : Nat) : Int) = n by omega] at this
theorem itoa_le (n : Int) (h0 : 0 ≤ n) (h1 : n < 1000) : (Lib.itoa n).length ≤ 3 := by
  rw [Txt.itoa_nat h0]; exact Txt.decDigits_len _ 2 (by omega)
theorem itoa_pos (n : Int) (h0 : 0 ≤ n) : 1 ≤ (Lib.itoa n).length := by
  rw [Txt.itoa_nat h0]
  have := Txt.decDigits_ne n.toNat
  cases h : Lib.decDigits n.toNat with
  | nil => exact absurd h this
  | cons => simp
theorem three {x : Int} (h : 1 ≤ x ∧ x ≤ 3) : x = 1 ∨ x = 2 ∨ x = 3 := by omega
theorem five {x : Int} (h : 1 ≤ x ∧ x ≤ 5) : x = 1 ∨ x = 2 ∨ x = 3 ∨ x = 4 ∨ x = 5 := by omega
theorem slev_ok (x : Int) (h : 1 ≤ x ∧ x ≤ 3) : rdOf ByteArray.empty ([(⟨#[]⟩ : ByteArray), (⟨#[121, 101, 108, 108, 111, 119]⟩ : ByteArray), (⟨#[111, 114, 97, 110, 103, 101]⟩ : ByteArray), (⟨#[114, 101, 100]⟩ : ByteArray)] : List ByteArray) x = B (Lib.toLowerA (levL.getD x.toNat [])) ∧ (Lib.toLowerA (levL.getD x.toNat [])).length ≤ 6 := by
  rcases three h with rfl | rfl | rfl <;> exact ⟨rfl, by decide⟩
theorem stop_ok (x : Int) (h : 1 ≤ x ∧ x ≤ 5) : rdOf ByteArray.empty ([(⟨#[]⟩ : ByteArray), (⟨#[119, 105, 110, 100]⟩ : ByteArray), (⟨#[114, 97, 105, 110]⟩ : ByteArray), (⟨#[115, 110, 111, 119]⟩ : ByteArray), (⟨#[104, 101, 97, 116]⟩ : ByteArray), (⟨#[115, 116, 111, 114, 109]⟩ : ByteArray)] : List ByteArray) x = B (topL.getD x.toNat []) ∧ (topL.getD x.toNat []).length ≤ 5 := by
  rcases five h with rfl | rfl | rfl | rfl | rfl <;> exact ⟨rfl, by decide⟩
theorem line_spec {a0 a1 a2 a3 a4 a5 : Int} (v : V a0 a1 a2 a3 a4 a5) : Evt fun k => qQ.f k a0 a1 a2 a3 a4 a5 = some (B (lineL a0 a1 a2 a3 a4 a5)) := by
  obtain ⟨v0, v1, v2, v3, v5, v4⟩ := v
  obtain ⟨K0, n0⟩ := num_ok a0 (by omega) (by omega)
  obtain ⟨K3, n3⟩ := num_ok a3 (by omega) (by omega)
  obtain ⟨K4, n4⟩ := num_ok a4 (by omega) (by omega)
  obtain ⟨K5, n5⟩ := num_ok a5 (by omega) (by omega)
  have l0 := itoa_le a0 (by omega) (by omega)
  have l3 := itoa_le a3 (by omega) (by omega)
  have l4 := itoa_le a4 (by omega) (by omega)
  have l5 := itoa_le a5 (by omega) (by omega)
  obtain ⟨eL, lL⟩ := slev_ok a2 v2
  obtain ⟨eT, lT⟩ := stop_ok a1 v1
  refine ⟨K0 + K3 + K4 + K5, fun k hk => ?_⟩
  have k1 : (⟨#[58, 32]⟩ : ByteArray) = B [58, 32] := rfl
  have k2 : (⟨#[32]⟩ : ByteArray) = B [32] := rfl
  have k3 : (⟨#[44, 32, 97, 114, 101, 97, 32]⟩ : ByteArray) = B [44, 32, 97, 114, 101, 97, 32] := rfl
  have k4 : (⟨#[44, 32, 104, 111, 117, 114, 115, 32]⟩ : ByteArray) = B [44, 32, 104, 111, 117, 114, 115, 32] := rfl
  have k5 : (⟨#[45]⟩ : ByteArray) = B [45] := rfl
  show qQ.f k a0 a1 a2 a3 a4 a5 = _
  unfold qQ.f spec_l17Levels.f spec_l17Topics.f
  rw [n0 k (by omega), Option.bind_some, if_pos (by rw [B_size]; omega), Option.bind_some, if_pos (by omega), if_pos (by simp only [List.length_cons, List.length_nil]; omega), eL, k1, k2, k3, k4, k5]
  simp only [B_app, B_size]
  rw [if_pos (by simp only [List.length_append, List.length_cons, List.length_nil]; omega), if_pos (by simp only [List.length_append, List.length_cons, List.length_nil]; omega), Option.bind_some, if_pos (by omega), if_pos (by simp only [List.length_cons, List.length_nil]; omega), eT]
  simp only [B_app, B_size]
  rw [if_pos (by simp only [List.length_append, List.length_cons, List.length_nil]; omega), if_pos (by simp only [List.length_append, List.length_cons, List.length_nil]; omega), n3 k (by omega), Option.bind_some]
  simp only [B_app, B_size]
  rw [if_pos (by simp only [List.length_append, List.length_cons, List.length_nil]; omega), if_pos (by simp only [List.length_append, List.length_cons, List.length_nil]; omega), n4 k (by omega), Option.bind_some]
  simp only [B_app, B_size]
  rw [if_pos (by simp only [List.length_append, List.length_cons, List.length_nil]; omega), if_pos (by simp only [List.length_append, List.length_cons, List.length_nil]; omega), n5 k (by omega), Option.bind_some]
  simp only [B_app, B_size]
  rw [if_pos (by simp only [List.length_append, List.length_cons, List.length_nil]; omega)]
  simp only [lineL, List.append_assoc]
theorem line_impl {a0 a1 a2 a3 a4 a5 : Int} (v : V a0 a1 a2 a3 a4 a5) : qP.f a0 a1 a2 a3 a4 a5 = some (B (lineL a0 a1 a2 a3 a4 a5)) := by
  obtain ⟨v0, v1, v2, v3, v5, v4⟩ := v
  unfold qP.f i64
  exact if_pos ⟨by omega, by omega, by omega, by omega, by omega, by omega⟩
theorem V_dec {a0 a1 a2 a3 a4 a5 : Int} (v : V a0 a1 a2 a3 a4 a5) : decide (V a0 a1 a2 a3 a4 a5) = true := decide_eq_true v
theorem levelAt_eq (lv : ByteArray) : levelAt.f lv = some (if Lib.toLowerA [] = lv.data.toList then 0 else if Lib.toLowerA [89, 101, 108, 108, 111, 119] = lv.data.toList then 1 else if Lib.toLowerA [79, 114, 97, 110, 103, 101] = lv.data.toList then 2 else if Lib.toLowerA [82, 101, 100] = lv.data.toList then 3 else -1) := by
  unfold levelAt.f
  have el : ((levL.map B).length : Int) = 4 := rfl
  have step : ∀ (k : Nat) (i : Int) (x : List UInt8), 0 ≤ i → i < 4 → rdOf ByteArray.empty (levL.map B) i = B x →
      ixS.l0 (fun x => (B (Lib.toLowerA x.data.toList)).toList == lv.toList) (k + 1) (levL.map B) i = if Lib.toLowerA x = lv.data.toList then some i else ixS.l0 (fun x => (B (Lib.toLowerA x.data.toList)).toList == lv.toList) k (levL.map B) (i + 1) := by
    intro k i x h0 h1 e
    rw [ixS.l0, el, if_pos h1, if_pos h0, e, B_data, B_toList, Lib.toList_data, wrap_id (by omega) (by omega)]
    by_cases h : Lib.toLowerA x = lv.data.toList
    · rw [if_pos (by simpa using h), if_pos h]
    · rw [if_neg (by simpa using h), if_neg h]
  have s0 := step 5 0 [] (by omega) (by omega) rfl
  have s1 := step 4 1 [89, 101, 108, 108, 111, 119] (by omega) (by omega) rfl
  have s2 := step 3 2 [79, 114, 97, 110, 103, 101] (by omega) (by omega) rfl
  have s3 := step 2 3 [82, 101, 100] (by omega) (by omega) rfl
  have s4 : ixS.l0 (fun x => (B (Lib.toLowerA x.data.toList)).toList == lv.toList) 2 (levL.map B) 4 = some (-1) := by rw [ixS.l0, el, if_neg (by omega)]
  show ixS.l0 _ (5 + 1) _ 0 = _
  rw [s0, show (0 : Int) + 1 = 1 from rfl, s1, show (1 : Int) + 1 = 2 from rfl, s2, show (2 : Int) + 1 = 3 from rfl, s3, show (3 : Int) + 1 = 4 from rfl, s4]
  split
  · rfl
  · split
    · rfl
    · split
      · rfl
      · split <;> rfl
theorem levelAt_tot (lv : ByteArray) : ∃ r, levelAt.f lv = some r ∧ -1 ≤ r ∧ r < 4 := by
  refine ⟨_, levelAt_eq lv, ?_⟩
  repeat' split
  all_goals omega
theorem levelAt_of (x : Int) (h : 1 ≤ x ∧ x ≤ 3) : levelAt.f (B (Lib.toLowerA (levL.getD x.toNat []))) = some x := by
  rw [levelAt_eq]
  rcases three h with rfl | rfl | rfl <;> rfl
theorem topicAt_eq (t : ByteArray) : topicAt.f t = some (if t.data.toList = topL.getD 0 [] then 0 else if t.data.toList = topL.getD 1 [] then 1 else if t.data.toList = topL.getD 2 [] then 2 else if t.data.toList = topL.getD 3 [] then 3 else if t.data.toList = topL.getD 4 [] then 4 else if t.data.toList = topL.getD 5 [] then 5 else -1) := by
  unfold topicAt.f qv.f
  have el : ((topL.map B).length : Int) = 6 := rfl
  rw [el]
  have step : ∀ (k : Nat) (i : Int) (x : List UInt8), 0 ≤ i → i < 6 → rdOf ByteArray.empty (topL.map B) i = B x →
      qv.l0 (k + 1) (topL.map B) t 6 i = if t.data.toList = x then some i else qv.l0 k (topL.map B) t 6 (i + 1) := by
    intro k i x h0 h1 e
    rw [qv.l0, el, if_pos h1, if_pos h0, if_pos h1, e, B_toList, Lib.toList_data, wrap_id (by omega) (by omega)]
  have s0 := step 7 0 (topL.getD 0 []) (by omega) (by omega) rfl
  have s1 := step 6 1 (topL.getD 1 []) (by omega) (by omega) rfl
  have s2 := step 5 2 (topL.getD 2 []) (by omega) (by omega) rfl
  have s3 := step 4 3 (topL.getD 3 []) (by omega) (by omega) rfl
  have s4 := step 3 4 (topL.getD 4 []) (by omega) (by omega) rfl
  have s5 := step 2 5 (topL.getD 5 []) (by omega) (by omega) rfl
  have s6 : qv.l0 2 (topL.map B) t 6 6 = some (-1) := by rw [qv.l0, if_neg (by omega)]
  show qv.l0 (7 + 1) _ _ 6 0 = _
  rw [s0, show (0 : Int) + 1 = 1 from rfl, s1, show (1 : Int) + 1 = 2 from rfl, s2, show (2 : Int) + 1 = 3 from rfl, s3, show (3 : Int) + 1 = 4 from rfl, s4, show (4 : Int) + 1 = 5 from rfl, s5, show (5 : Int) + 1 = 6 from rfl, s6]
  repeat' split
  all_goals rfl
theorem topicAt_tot (t : ByteArray) : ∃ r, topicAt.f t = some r ∧ -1 ≤ r ∧ r < 6 := by
  refine ⟨_, topicAt_eq t, ?_⟩
  repeat' split
  all_goals omega
theorem topicAt_of (x : Int) (h : 1 ≤ x ∧ x ≤ 5) : topicAt.f (B (topL.getD x.toNat [])) = some x := by
  rw [topicAt_eq]
  rcases five h with rfl | rfl | rfl | rfl | rfl <;> rfl
theorem read4 (k : Nat) (s0 s1 s2 s3 : ByteArray) (h0 : s0.size ≤ 281474976710656) (h1 : s1.size ≤ 281474976710656) (h2 : s2.size ≤ 281474976710656) (h3 : s3.size ≤ 281474976710656) :
    qu.f (k + 5) [s0, s1, s2, s3] = some (if ((pIntL s0.data.toList).2 && ((pIntL s1.data.toList).2 && ((pIntL s2.data.toList).2 && (pIntL s3.data.toList).2))) = true then ([(pIntL s0.data.toList).1, (pIntL s1.data.toList).1, (pIntL s2.data.toList).1, (pIntL s3.data.toList).1], true) else ([], false)) := by
  have step : ∀ (k : Nat) (x4 : List Int) (n : Nat) (s : ByteArray), n < 4 → x4.length = 4 → rdOf ByteArray.empty [s0, s1, s2, s3] (n : Int) = s → s.size ≤ 281474976710656 →
      qu.l0 (k + 1) x4 [s0, s1, s2, s3] 4 (n : Int) = if (pIntL s.data.toList).2 = true then qu.l0 k (x4.set n (pIntL s.data.toList).1) [s0, s1, s2, s3] 4 ((n : Int) + 1) else some ([], false) := by
    intro k x4 n s hn h4 e hs
    rw [qu.l0, if_pos (by omega), if_pos (by omega), if_pos (by simp only [List.length_cons, List.length_nil]; omega), e]
    unfold impl_ParseInt.f
    rw [if_pos hs, Option.bind_some]
    by_cases h : (pIntL s.data.toList).2 = true
    · rw [if_pos h, if_pos h, if_pos (by omega), Int.toNat_natCast, wrap_id (by omega) (by omega)]
    · rw [if_neg h, if_neg h]
  unfold qu.f
  rw [if_pos (by simp only [List.length_cons, List.length_nil]; omega), if_pos (by simp only [List.length_cons, List.length_nil]; omega)]
  have e0 : (List.replicate ((([s0, s1, s2, s3] : List ByteArray).length : Int) : Int).toNat (0 : Int)) = [0, 0, 0, 0] := rfl
  have el : (([s0, s1, s2, s3] : List ByteArray).length : Int) = 4 := rfl
  rw [e0, el]
  have t0 := step (k + 4) [0, 0, 0, 0] 0 s0 (by omega) rfl rfl h0
  have t1 := step (k + 3) [(pIntL s0.data.toList).1, 0, 0, 0] 1 s1 (by omega) rfl rfl h1
  have t2 := step (k + 2) [(pIntL s0.data.toList).1, (pIntL s1.data.toList).1, 0, 0] 2 s2 (by omega) rfl rfl h2
  have t3 := step (k + 1) [(pIntL s0.data.toList).1, (pIntL s1.data.toList).1, (pIntL s2.data.toList).1, 0] 3 s3 (by omega) rfl rfl h3
  have t4 : ∀ x, qu.l0 (k + 1) x [s0, s1, s2, s3] 4 4 = some (x, true) := fun x => by rw [qu.l0, if_neg (by omega)]
  refine t0.trans ?_
  cases (pIntL s0.data.toList).2 with
  | false => rfl
  | true =>
    rw [if_pos rfl, Bool.true_and]
    refine t1.trans ?_
    cases (pIntL s1.data.toList).2 with
    | false => rfl
    | true =>
      rw [if_pos rfl, Bool.true_and]
      refine t2.trans ?_
      cases (pIntL s2.data.toList).2 with
      | false => rfl
      | true =>
        rw [if_pos rfl, Bool.true_and]
        refine t3.trans ?_
        cases (pIntL s3.data.toList).2 with
        | false => rfl
        | true => rw [if_pos rfl, if_pos rfl]; exact t4 _
theorem pInt_itoa (n : Int) (h0 : 0 ≤ n) (h1 : n < 1000) : pIntL (B (Lib.itoa n)).data.toList = (n, true) := by
  rw [B_data]
  unfold pIntL
  rw [Txt.atoi_itoa h0 (by omega)]
  simp only
  rw [if_pos ⟨by omega, by omega, trivial⟩]
theorem cut_len (l sep : List UInt8) : (Lib.cut l sep).1.length ≤ l.length ∧ (Lib.cut l sep).2.1.length ≤ l.length := by
  unfold Lib.cut
  split
  · simp; omega
  · simp
theorem cut_some (s sep : ByteArray) (h : s.size < 4294967281) : strings_Cut.f s sep = some (cutL s sep) ∧ (cutL s sep).1.size ≤ s.size ∧ (cutL s sep).2.1.size ≤ s.size := by
  refine ⟨?_, ?_, ?_⟩
  · unfold strings_Cut.f; exact if_pos h
  · have := (cut_len s.data.toList sep.data.toList).1
    show (B _).size ≤ _
    rw [B_size]; simpa using this
  · have := (cut_len s.data.toList sep.data.toList).2
    show (B _).size ≤ _
    rw [B_size]; simpa using this
def Good (code : Int → Int → Int → Int → Int → Int → List UInt8) (s : ByteArray) (r : Int × Int × Int × Int × Int × Int × Bool) : Prop :=
  (r.2.2.2.2.2.2 = true → V r.1 r.2.1 r.2.2.1 r.2.2.2.1 r.2.2.2.2.1 r.2.2.2.2.2.1 ∧ s = B (code r.1 r.2.1 r.2.2.1 r.2.2.2.1 r.2.2.2.2.1 r.2.2.2.2.2.1)) ∧
  (r.2.2.2.2.2.2 = false → r = (0, 0, 0, 0, 0, 0, false))
theorem Good.zero (code) (s : ByteArray) : Good code s (0, 0, 0, 0, 0, 0, false) := ⟨fun h => absurd h (by simp), fun _ => rfl⟩
theorem eq_of_toList {s : ByteArray} {l : List UInt8} (h : (B l).toList = s.toList) : s = B l := by
  rw [B_toList, Lib.toList_data] at h
  exact B_ext h.symm
theorem pw_end (k : Nat) (s t : ByteArray) (x : List Int) (hx : x.length = 4) (l : Int) (b : Bool) : ∃ r, pwRaw.j0 (k + 1) s t x l b = some r ∧ Good lineL s r := by
  rw [pwRaw.j0]
  cases b with
  | true => rw [if_pos rfl]; exact ⟨_, rfl, Good.zero _ _⟩
  | false =>
    obtain ⟨y, hy, _⟩ := topicAt_tot t
    rw [if_neg (by simp), if_pos (by omega), hy, Option.bind_some, if_pos (by omega), if_pos (by omega), if_pos (by omega), valid_ok, Option.bind_some]
    by_cases v : V (rd x 0) y l (rd x 1) (rd x 2) (rd x 3)
    · rw [if_pos (V_dec v), line_impl v, Option.bind_some]
      by_cases e : (B (lineL (rd x 0) y l (rd x 1) (rd x 2) (rd x 3))).toList = s.toList
      · rw [if_pos e]; exact ⟨_, rfl, ⟨fun _ => ⟨v, eq_of_toList e⟩, fun h => absurd h (by simp)⟩⟩
      · rw [if_neg e]; exact ⟨_, rfl, Good.zero _ _⟩
    · rw [if_neg (by simpa using v)]; exact ⟨_, rfl, Good.zero _ _⟩
theorem pw_total (s : ByteArray) (hs : s.size < 4294967281) : ∃ r, impl_ParseWarningLine.f s = some r ∧ Good lineL s r := by
  unfold impl_ParseWarningLine.f pwRaw.f
  obtain ⟨e1, a1, b1⟩ := cut_some s (⟨#[58, 32]⟩ : ByteArray) hs
  rw [e1, Option.bind_some]
  generalize cutL s (⟨#[58, 32]⟩ : ByteArray) = c1 at a1 b1 ⊢
  obtain ⟨e2, a2, b2⟩ := cut_some c1.2.1 (⟨#[32]⟩ : ByteArray) (by omega)
  rw [e2, Option.bind_some]
  generalize cutL c1.2.1 (⟨#[32]⟩ : ByteArray) = c2 at a2 b2 ⊢
  obtain ⟨e3, a3, b3⟩ := cut_some c2.2.1 (⟨#[44, 32, 97, 114, 101, 97, 32]⟩ : ByteArray) (by omega)
  rw [e3, Option.bind_some]
  generalize cutL c2.2.1 (⟨#[44, 32, 97, 114, 101, 97, 32]⟩ : ByteArray) = c3 at a3 b3 ⊢
  obtain ⟨e4, a4, b4⟩ := cut_some c3.2.1 (⟨#[44, 32, 104, 111, 117, 114, 115, 32]⟩ : ByteArray) (by omega)
  rw [e4, Option.bind_some]
  generalize cutL c3.2.1 (⟨#[44, 32, 104, 111, 117, 114, 115, 32]⟩ : ByteArray) = c4 at a4 b4 ⊢
  obtain ⟨e5, a5, b5⟩ := cut_some c4.2.1 (⟨#[45]⟩ : ByteArray) (by omega)
  rw [e5, Option.bind_some]
  generalize cutL c4.2.1 (⟨#[45]⟩ : ByteArray) = c5 at a5 b5 ⊢
  rw [read4 3 c1.1 c4.1 c5.1 c5.2.1 (by omega) (by omega) (by omega) (by omega), Option.bind_some]
  obtain ⟨l, hl, _⟩ := levelAt_tot c2.1
  rw [hl, Option.bind_some]
  split
  · rw [if_pos rfl]; exact pw_end 7 s _ _ rfl _ _
  · rw [if_neg (by simp)]
    rw [pwRaw.j0, if_pos rfl]; exact ⟨_, rfl, Good.zero _ _⟩
theorem cut_B (pre rest : List UInt8) (c : UInt8) (t : List UInt8) (h : c ∉ pre) (hs : (pre ++ (c :: t) ++ rest).length < 4294967281) :
    strings_Cut.f (B (pre ++ (c :: t) ++ rest)) (B (c :: t)) = some (B pre, B rest, true) := by
  unfold strings_Cut.f cutL
  rw [if_pos (by rw [B_size]; exact hs), B_data, B_data, Txt.cut_at pre rest c t h]
theorem low_no (x : Int) (h : 1 ≤ x ∧ x ≤ 3) : (32 : UInt8) ∉ Lib.toLowerA (levL.getD x.toNat []) := by
  rcases three h with rfl | rfl | rfl <;> decide
theorem top_no (x : Int) (h : 1 ≤ x ∧ x ≤ 5) : (44 : UInt8) ∉ topL.getD x.toNat [] := by
  rcases five h with rfl | rfl | rfl | rfl | rfl <;> decide
theorem pw_line {a0 a1 a2 a3 a4 a5 : Int} (v : V a0 a1 a2 a3 a4 a5) : impl_ParseWarningLine.f (B (lineL a0 a1 a2 a3 a4 a5)) = some (a0, a1, a2, a3, a4, a5, true) := by
  have v' := v
  obtain ⟨v0, v1, v2, v3, v5, v4⟩ := v
  have l0 := itoa_le a0 (by omega) (by omega)
  have l3 := itoa_le a3 (by omega) (by omega)
  have l4 := itoa_le a4 (by omega) (by omega)
  have l5 := itoa_le a5 (by omega) (by omega)
  have lL := (slev_ok a2 v2).2
  have lT := (stop_ok a1 v1).2
  have m0 := Txt.not_mem_itoa (n := a0) (by omega) 58 (by decide)
  have m3 := Txt.not_mem_itoa (n := a3) (by omega) 44 (by decide)
  have m4 := Txt.not_mem_itoa (n := a4) (by omega) 45 (by decide)
  have r4 : (Lib.itoa a4 ++ [45] ++ Lib.itoa a5).length < 100 := by simp only [List.length_append, List.length_cons, List.length_nil]; omega
  have r3 : (Lib.itoa a3 ++ [44, 32, 104, 111, 117, 114, 115, 32] ++ (Lib.itoa a4 ++ [45] ++ Lib.itoa a5)).length < 100 := by simp only [List.length_append, List.length_cons, List.length_nil] at *; omega
  have r2 : (topL.getD a1.toNat [] ++ [44, 32, 97, 114, 101, 97, 32] ++ (Lib.itoa a3 ++ [44, 32, 104, 111, 117, 114, 115, 32] ++ (Lib.itoa a4 ++ [45] ++ Lib.itoa a5))).length < 100 := by simp only [List.length_append, List.length_cons, List.length_nil] at *; omega
  have r1 : (Lib.toLowerA (levL.getD a2.toNat []) ++ [32] ++ (topL.getD a1.toNat [] ++ [44, 32, 97, 114, 101, 97, 32] ++ (Lib.itoa a3 ++ [44, 32, 104, 111, 117, 114, 115, 32] ++ (Lib.itoa a4 ++ [45] ++ Lib.itoa a5)))).length < 100 := by simp only [List.length_append, List.length_cons, List.length_nil] at *; omega
  have r0 : (Lib.itoa a0 ++ [58, 32] ++ (Lib.toLowerA (levL.getD a2.toNat []) ++ [32] ++ (topL.getD a1.toNat [] ++ [44, 32, 97, 114, 101, 97, 32] ++ (Lib.itoa a3 ++ [44, 32, 104, 111, 117, 114, 115, 32] ++ (Lib.itoa a4 ++ [45] ++ Lib.itoa a5))))).length < 100 := by simp only [List.length_append, List.length_cons, List.length_nil] at *; omega
  have el : lineL a0 a1 a2 a3 a4 a5 = Lib.itoa a0 ++ [58, 32] ++ (Lib.toLowerA (levL.getD a2.toNat []) ++ [32] ++ (topL.getD a1.toNat [] ++ [44, 32, 97, 114, 101, 97, 32] ++ (Lib.itoa a3 ++ [44, 32, 104, 111, 117, 114, 115, 32] ++ (Lib.itoa a4 ++ [45] ++ Lib.itoa a5)))) := by simp only [lineL, List.append_assoc]
  have c0 := cut_B (Lib.itoa a0) _ 58 [32] m0 (Nat.lt_trans r0 (by omega))
  have c1 := cut_B (Lib.toLowerA (levL.getD a2.toNat [])) _ 32 [] (low_no a2 v2) (Nat.lt_trans r1 (by omega))
  have c2 := cut_B (topL.getD a1.toNat []) _ 44 [32, 97, 114, 101, 97, 32] (top_no a1 v1) (Nat.lt_trans r2 (by omega))
  have c3 := cut_B (Lib.itoa a3) _ 44 [32, 104, 111, 117, 114, 115, 32] m3 (Nat.lt_trans r3 (by omega))
  have c4 := cut_B (Lib.itoa a4) _ 45 [] m4 (Nat.lt_trans r4 (by omega))
  have sz : ∀ n : Int, 0 ≤ n → n < 1000 → (B (Lib.itoa n)).size ≤ 281474976710656 := fun n h0 h1 => by have := itoa_le n h0 h1; rw [B_size]; omega
  unfold impl_ParseWarningLine.f pwRaw.f
  rw [el]
  rw [show (⟨#[58, 32]⟩ : ByteArray) = B [58, 32] from rfl, c0, Option.bind_some]
  dsimp only
  rw [show (⟨#[32]⟩ : ByteArray) = B [32] from rfl, c1, Option.bind_some]
  dsimp only
  rw [show (⟨#[44, 32, 97, 114, 101, 97, 32]⟩ : ByteArray) = B [44, 32, 97, 114, 101, 97, 32] from rfl, c2, Option.bind_some]
  dsimp only
  rw [show (⟨#[44, 32, 104, 111, 117, 114, 115, 32]⟩ : ByteArray) = B [44, 32, 104, 111, 117, 114, 115, 32] from rfl, c3, Option.bind_some]
  dsimp only
  rw [show (⟨#[45]⟩ : ByteArray) = B [45] from rfl, c4, Option.bind_some]
  dsimp only
  rw [read4 3 _ _ _ _ (sz a0 (by omega) (by omega)) (sz a3 (by omega) (by omega)) (sz a4 (by omega) (by omega)) (sz a5 (by omega) (by omega)), pInt_itoa a0 (by omega) (by omega), pInt_itoa a3 (by omega) (by omega), pInt_itoa a4 (by omega) (by omega), pInt_itoa a5 (by omega) (by omega)]
  simp only [Bool.and_self, if_true, Option.bind_some]
  rw [levelAt_of a2 v2, Option.bind_some]
  rw [show decide (a2 < 1) = false from decide_eq_false (by omega), pwRaw.j0, if_neg (by simp), if_pos (by simp), topicAt_of a1 v1, Option.bind_some, if_pos (by simp), if_pos (by simp), if_pos (by simp)]
  have q0 : rd [a0, a3, a4, a5] 0 = a0 := rfl
  have q1 : rd [a0, a3, a4, a5] 1 = a3 := rfl
  have q2 : rd [a0, a3, a4, a5] 2 = a4 := rfl
  have q3 : rd [a0, a3, a4, a5] 3 = a5 := rfl
  rw [q0, q1, q2, q3, valid_ok, Option.bind_some, if_pos (V_dec v'), line_impl v', Option.bind_some, el, if_pos rfl]
theorem splitOn_len (c : UInt8) : ∀ (s : List UInt8) (x : List UInt8), x ∈ Txt.splitOn c s → x.length ≤ s.length
  | [], x, h => by simp [Txt.splitOn] at h; simp [h]
  | y :: r, x, h => by
    unfold Txt.splitOn at h
    split at h
    · rcases List.mem_cons.1 h with rfl | h
      · simp
      · have := splitOn_len c r x h; simp; omega
    · split at h
      · rw [List.mem_singleton] at h; subst h; simp
      · rename_i p q e
        have ih := splitOn_len c r
        rw [e] at ih
        rcases List.mem_cons.1 h with rfl | h
        · have := ih p (by simp); simp; omega
        · have := ih x (by simp [h]); simp; omega
theorem splitB_eq (s : ByteArray) (c : UInt8) : Lib.splitB (B [c]) 0 (Lib.countB s (B [c])) s = (Txt.splitOn c s.data.toList).map B := by
  have h := Lib.splitB_data (B [c]) 0 (Lib.countB s (B [c])) s
  have h2 : Lib.splitK (B [c]).data.toList 0 (Lib.countB s (B [c])) s.data.toList = Txt.splitOn c s.data.toList := Txt.split_one c s.data.toList
  rw [h2] at h
  rw [← h, List.map_map]
  have : (B ∘ fun x : ByteArray => x.data.toList) = id := by funext x; exact B_of x
  rw [this, List.map_id]
theorem bt_B (l : List UInt8) (i : Nat) (h : i < l.length) : bt (B l) (i : Int) = ((l.getD i 0).toNat : Int) := by
  unfold bt
  rw [dif_pos (show ((i : Int)).toNat < (B l).size by rw [B_size]; simpa using h), List.getD_eq_getElem?_getD, List.getElem?_eq_getElem h]
  rfl
theorem splitB_step (l : List UInt8) (c : UInt8) (i j : Nat) (hj : j ≤ i) (hi : i < l.length) (hno : ∀ m, j ≤ m → m < i → l.getD m 0 ≠ c) (hc : l.getD i 0 = c) :
    Txt.splitOn c (l.drop j) = ((l.drop j).take (i - j)) :: Txt.splitOn c (l.drop (i + 1)) := by
  have e : l.drop j = (l.drop j).take (i - j) ++ c :: l.drop (i + 1) := by
    conv => lhs; rw [← List.take_append_drop (i - j) (l.drop j)]
    rw [List.drop_drop, show j + (i - j) = i by omega, List.drop_eq_getElem_cons hi]
    rw [List.getD_eq_getElem?_getD, List.getElem?_eq_getElem hi] at hc
    rw [← hc]; rfl
  have hn : c ∉ (l.drop j).take (i - j) := by
    intro hm
    obtain ⟨m, hm1, hm2⟩ := List.getElem_of_mem hm
    rw [List.length_take, List.length_drop] at hm1
    have := hno (j + m) (by omega) (by omega)
    rw [List.getD_eq_getElem?_getD, List.getElem?_eq_getElem (by omega)] at this
    apply this
    rw [List.getElem_take, List.getElem_drop] at hm2
    exact hm2
  conv => lhs; rw [e]
  exact Txt.splitOn_at c _ _ hn
theorem splitS (s : ByteArray) (c : UInt8) (hs : s.size ≤ 1048576) : Evt fun k => qG.f k s (c.toNat : Int) = some ((Txt.splitOn c s.data.toList).map B) := by
  obtain ⟨l, rfl⟩ : ∃ l, s = B l := ⟨_, (B_of s).symm⟩
  rw [B_data]
  rw [B_size] at hs
  unfold qG.f
  refine evt_loop0 l.length (fun k (q : List ByteArray × Nat) i => qG.l0 k (B l) (c.toNat : Int) q.1 (q.2 : Int) i) _
    (fun i q => q.2 ≤ i ∧ q.1.length ≤ i ∧ (∀ m, q.2 ≤ m → m < i → l.getD m 0 ≠ c) ∧ q.1 ++ (Txt.splitOn c (l.drop q.2)).map B = (Txt.splitOn c l).map B) ?_ ?_ ([], 0) ⟨by simp, by simp, by intro m _ h; omega, by simp⟩
  · rintro i ⟨acc, j⟩ hi ⟨h1, h2, h3, h4⟩
    dsimp only at h1 h2 h3 h4
    have hb := bt_B l i hi
    by_cases h : l.getD i 0 = c
    · refine .inl ⟨(acc ++ [B ((l.drop j).take (i - j))], i + 1), ⟨Nat.le_refl _, by simp; omega, by intro m a b; omega, ?_⟩, 1, Evt.all fun k => ?_⟩
      · dsimp only
        rw [splitB_step l c i j h1 hi h3 h] at h4
        simpa using h4
      · show qG.l0 (k + 1) (B l) (c.toNat : Int) acc (j : Int) (i : Int) = _
        rw [qG.l0, if_pos (by rw [B_size]; omega), if_pos (by omega), hb, if_pos (by rw [h]), if_pos (by omega), if_pos (by omega), if_pos (by rw [B_size]; omega), if_pos (by omega), wrap_id (by omega) (by omega), Int.toNat_natCast, Int.toNat_natCast, B_ext2 l _ j i rfl]
        rfl
    · refine .inl ⟨(acc, j), ⟨by dsimp only; omega, by dsimp only; omega, ?_, h4⟩, 1, Evt.all fun k => ?_⟩
      · intro m a b
        by_cases e : m = i
        · rw [e]; exact h
        · exact h3 m a (by omega)
      · show qG.l0 (k + 1) (B l) (c.toNat : Int) acc (j : Int) (i : Int) = _
        rw [qG.l0, if_pos (by rw [B_size]; omega), if_pos (by omega), hb, if_neg (fun e => h (UInt8.toNat_inj.1 (by omega))), wrap_id (by omega) (by omega)]
  · rintro ⟨acc, j⟩ ⟨h1, h2, h3, h4⟩
    dsimp only at h1 h2 h3 h4
    refine Evt.succ (Evt.all fun k => ?_)
    show qG.l0 (k + 1) (B l) (c.toNat : Int) acc (j : Int) (l.length : Int) = _
    have hn : c ∉ l.drop j := by
      intro hm
      obtain ⟨m, hm1, hm2⟩ := List.getElem_of_mem hm
      rw [List.length_drop] at hm1
      have := h3 (j + m) (by omega) (by omega)
      rw [List.getD_eq_getElem?_getD, List.getElem?_eq_getElem (by omega)] at this
      apply this
      rw [List.getElem_drop] at hm2
      exact hm2
    rw [Txt.splitOn_none _ _ hn] at h4
    rw [qG.l0, if_neg (by rw [B_size]; omega), if_pos (by omega), if_pos (by rw [B_size]; omega), if_pos (by omega), Int.toNat_natCast, B_size, B_ext2 l (l.drop j) j l.length (by rw [List.take_of_length_le (by simp)]), ← h4]
    rfl
theorem u64_range (x : Int) : 0 ≤ IntKind.u64.wrap x ∧ IntKind.u64.wrap x ≤ 18446744073709551615 := by
  simp [IntKind.wrap, IntKind.signed, IntKind.bits]; omega
theorem and255 (x : Int) : 0 ≤ wrap64 (Go.bits .and .u64 (IntKind.u64.wrap x / 1099511627776) 255) ∧ wrap64 (Go.bits .and .u64 (IntKind.u64.wrap x / 1099511627776) 255) ≤ 255 := by
  obtain ⟨h0, h1⟩ := u64_range x
  obtain ⟨y, hy⟩ : ∃ y, y = IntKind.u64.wrap x / 1099511627776 := ⟨_, rfl⟩
  rw [← hy]
  have h := bits_and_u64_nat y.toNat 255 (by omega) (by omega)
  have e : ((y.toNat : Nat) : Int) = y := by omega
  have h2 : bits BinOp.and IntKind.u64 y 255 = ((y.toNat &&& 255 : Nat) : Int) := by rw [← e]; exact h
  have h3 : y.toNat &&& 255 ≤ 255 := Nat.and_le_right
  rw [show Go.bits .and .u64 y 255 = bits BinOp.and IntKind.u64 y 255 from rfl, h2, wrap_id (by omega) (by omega)]
  omega
theorem next_ok (l : List Int) (hb : ∀ x ∈ l, 0 ≤ x ∧ x ≤ 255) (p s : Int) (h0 : 0 ≤ p) (h1 : p ≤ 4611686018427387904) : ∃ v s', spec_l1Cur_next.f l p s = some (v, p + 1, s') ∧ 0 ≤ v ∧ v ≤ 255 := by
  unfold spec_l1Cur_next.f
  have e : wrap64 (p + 1) = p + 1 := wrap_id (by omega) (by omega)
  by_cases c : p < (l.length : Int)
  · have hm : rd l p ∈ l := by
      have : rd l p = l.getD p.toNat 0 := by simp [rd]
      rw [this, List.getD_eq_getElem?_getD, List.getElem?_eq_getElem (by omega), Option.getD_some]
      exact List.getElem_mem _
    obtain ⟨b0, b1⟩ := hb _ hm
    rw [if_pos c, if_pos h0, e, if_pos (by omega)]
    exact ⟨_, _, rfl, by rw [wrap_id (by omega) (by omega)]; exact ⟨b0, b1⟩⟩
  · rw [if_neg c, e, if_neg (by omega)]
    exact ⟨_, _, rfl, and255 _⟩
theorem tmod_range (x a : Int) (h0 : 0 ≤ x) (ha : 1 ≤ a) : 0 ≤ Int.tmod x a ∧ Int.tmod x a < a := ⟨Int.tmod_nonneg a h0, Int.tmod_lt_of_pos x (by omega)⟩
theorem pick_ok (l : List Int) (hb : ∀ x ∈ l, 0 ≤ x ∧ x ≤ 255) (p s a : Int) (h0 : 0 ≤ p) (h1 : p ≤ 4611686018427387000) (ha : 1 ≤ a) :
    ∃ v p' s', qb.f l p s a = some (v, p', s') ∧ p ≤ p' ∧ p' ≤ p + 2 ∧ 0 ≤ v ∧ v < a := by
  unfold qb.f
  by_cases c : a ≤ 1
  · rw [if_pos c]; exact ⟨0, p, s, rfl, by omega, by omega, by omega, by omega⟩
  · obtain ⟨v, s1, e1, v0, v1⟩ := next_ok l hb p s h0 (by omega)
    rw [if_neg c, e1, Option.bind_some]
    by_cases c2 : a > 200
    · obtain ⟨u, s2, e2, u0, u1⟩ := next_ok l hb (p + 1) s1 (by omega) (by omega)
      rw [if_pos c2]; dsimp only; rw [e2, Option.bind_some, if_neg (by omega)]
      have q : 0 ≤ wrap64 (wrap64 (v * 256) + u) := by rw [wrap_id (x := v * 256) (by omega) (by omega), wrap_id (by omega) (by omega)]; omega
      exact ⟨_, _, _, rfl, by dsimp only; omega, by dsimp only; omega, tmod_range _ a q ha⟩
    · rw [if_neg c2, if_neg (by omega)]
      exact ⟨_, _, _, rfl, by dsimp only; omega, by dsimp only; omega, tmod_range _ a v0 ha⟩
theorem one_ok (l : List Int) (hb : ∀ x ∈ l, 0 ≤ x ∧ x ≤ 255) (p s a : Int) (h0 : 0 ≤ p) (h1 : p ≤ 4611686018427387000) (ha : 1 ≤ a) :
    ∃ b p' s', qC.f l p s a = some (b, p', s') ∧ p ≤ p' ∧ p' ≤ p + 2 := by
  obtain ⟨v, p', s', e, q0, q1, _, _⟩ := pick_ok l hb p s a h0 h1 ha
  unfold qC.f
  rw [e]; exact ⟨_, _, _, rfl, q0, q1⟩
theorem among_ok (l : List Int) (hb : ∀ x ∈ l, 0 ≤ x ∧ x ≤ 255) (p s : Int) (h0 : 0 ≤ p) (h1 : p ≤ 4611686018427387000) (xs : List Int) (hx : 1 ≤ xs.length) :
    ∃ v p' s', qy.f l p s xs = some (v, p', s') ∧ p ≤ p' ∧ p' ≤ p + 2 ∧ v ∈ xs := by
  obtain ⟨v, p', s', e, q0, q1, v0, v1⟩ := pick_ok l hb p s (xs.length : Int) h0 h1 (by omega)
  unfold qy.f
  rw [e, Option.bind_some, if_pos v0, if_pos v1]
  refine ⟨_, _, _, rfl, q0, q1, ?_⟩
  have : rd xs v = xs.getD v.toNat 0 := by simp [rd]
  dsimp only
  rw [this, List.getD_eq_getElem?_getD, List.getElem?_eq_getElem (by omega), Option.getD_some]
  exact List.getElem_mem _
theorem bytes_of (l : List Int) (h : ∀ x ∈ l, (Lit.int .u8 x).wf = true) : ∀ x ∈ l, 0 ≤ x ∧ x ≤ 255 := by
  intro x hx
  have := h x hx
  simpa [Lit.wf, IntKind.min, IntKind.max, IntKind.signed, IntKind.bits] using this
def VS (x : S25) : Prop := V x.f0 x.f1 x.f2 x.f3 x.f4 x.f5
def meetS (a b : S25) : Prop := a.f1 = b.f1 ∧ a.f3 = b.f3 ∧ a.f4 < b.f5 ∧ b.f4 < a.f5
def AreW (l : List S25) : Prop := l.length ≤ 12 ∧ (∀ i, i < l.length → VS (l.getD i z25)) ∧ ∀ i, 0 < i → i < l.length → (l.getD (i - 1) z25).f0 < (l.getD i z25).f0
def NoMeet (l : List S25) : Prop := ∀ i j, j < i → i < l.length → ¬ meetS (l.getD j z25) (l.getD i z25)
def ConsL (l : List S25) : Prop := AreW l ∧ NoMeet l
theorem rdT (l : List S25) (i : Nat) : qa l (i : Int) = l.getD i z25 := by unfold qa; rw [Int.toNat_natCast]
theorem rdT1 (l : List S25) (i : Nat) (h : 0 < i) (h2 : i ≤ 1000000000) : qa l (wrap64 ((i : Int) - 1)) = l.getD (i - 1) z25 ∧ 0 ≤ wrap64 ((i : Int) - 1) ∧ wrap64 ((i : Int) - 1) = ((i - 1 : Nat) : Int) := by
  have e : wrap64 ((i : Int) - 1) = ((i - 1 : Nat) : Int) := by rw [wrap_id (by omega) (by omega)]; omega
  rw [e]
  exact ⟨rdT l (i - 1), by omega, rfl⟩
theorem validS (x : S25) : qF.f x.f0 x.f1 x.f2 x.f3 x.f4 x.f5 = some (decide (V x.f0 x.f1 x.f2 x.f3 x.f4 x.f5)) := valid_ok _ _ _ _ _ _
theorem areW_ok (l : List S25) (hl : l.length ≤ 1000000000) : ∃ b, (b = true ↔ AreW l) ∧ Evt fun k => qo.f k l = some b := by
  unfold qo.f
  refine evt_loop_ex l.length (fun k (_ : Unit) i => qo.l0 k l l (l.length : Int) i) (fun b => b = true ↔ AreW l)
    (fun i _ => (∀ j, j < i → VS (l.getD j z25)) ∧ ∀ j, 0 < j → j < i → (l.getD (j - 1) z25).f0 < (l.getD j z25).f0) ?_ ?_ () ⟨fun j h => by omega, fun j _ h => by omega⟩
  · rintro i _ hi ⟨h1, h2⟩
    by_cases v : VS (l.getD i z25)
    · have hd : decide (V (l.getD i z25).f0 (l.getD i z25).f1 (l.getD i z25).f2 (l.getD i z25).f3 (l.getD i z25).f4 (l.getD i z25).f5) = true := decide_eq_true v
      rcases Nat.eq_zero_or_pos i with h0 | h0
      · refine .inl ⟨(), ⟨fun j hj => ?_, fun j h3 hj => by omega⟩, 1, Evt.all fun k => ?_⟩
        · obtain rfl : j = i := by omega
          exact v
        · show qo.l0 (k + 1) l l (l.length : Int) (i : Int) = _
          rw [qo.l0, if_pos (by omega), if_pos (by omega), if_pos (by omega), rdT, validS, Option.bind_some, if_pos hd, if_neg (by omega), wrap_id (by omega) (by omega)]
      · obtain ⟨e1, e2, e3⟩ := rdT1 l i h0 (by omega)
        by_cases c : (l.getD (i - 1) z25).f0 ≥ (l.getD i z25).f0
        · refine .inr ⟨false, ⟨fun h => (by cases h), fun h => ?_⟩, Evt.succ (Evt.all fun k => ?_)⟩
          · have := h.2.2 i h0 hi; omega
          · show qo.l0 (k + 1) l l (l.length : Int) (i : Int) = _
            rw [qo.l0, if_pos (by omega), if_pos (by omega), if_pos (by omega), rdT, validS, Option.bind_some, if_pos hd, if_pos (by omega), if_pos e2, if_pos (by omega), e1, if_pos c]
        · refine .inl ⟨(), ⟨fun j hj => ?_, fun j h3 hj => ?_⟩, 1, Evt.all fun k => ?_⟩
          · by_cases e : j = i
            · subst e; exact v
            · exact h1 j (by omega)
          · by_cases e : j = i
            · subst e; omega
            · exact h2 j h3 (by omega)
          · show qo.l0 (k + 1) l l (l.length : Int) (i : Int) = _
            rw [qo.l0, if_pos (by omega), if_pos (by omega), if_pos (by omega), rdT, validS, Option.bind_some, if_pos hd, if_pos (by omega), if_pos e2, if_pos (by omega), e1, if_neg c, wrap_id (x := (i : Int) + 1) (by omega) (by omega)]
    · refine .inr ⟨false, ⟨fun h => (by cases h), fun h => absurd (h.2.1 i hi) v⟩, Evt.succ (Evt.all fun k => ?_)⟩
      show qo.l0 (k + 1) l l (l.length : Int) (i : Int) = _
      rw [qo.l0, if_pos (by omega), if_pos (by omega), if_pos (by omega), rdT, validS, Option.bind_some, if_neg (fun h_ => v (show V _ _ _ _ _ _ from of_decide_eq_true h_))]
  · rintro _ ⟨h1, h2⟩
    refine ⟨decide ((l.length : Int) ≤ 12), ?_, Evt.succ (Evt.all fun k => ?_)⟩
    · rw [decide_eq_true_iff]
      exact ⟨fun h => ⟨by omega, h1, h2⟩, fun h => by have := h.1; omega⟩
    · show qo.l0 (k + 1) l l (l.length : Int) (l.length : Int) = _
      rw [qo.l0, if_neg (by omega)]
theorem meets_iff (w x : S25) : meets w.f0 w.f1 w.f2 w.f3 w.f4 w.f5 x = true ↔ meetS x w := by
  unfold meets impl_doMeet.f meetS
  by_cases h1 : w.f1 = x.f1
  · by_cases h2 : w.f3 = x.f3
    · by_cases h3 : w.f4 < x.f5
      · rw [if_pos h1, if_pos h2, if_pos h3, Option.getD_some, decide_eq_true_iff]
        exact ⟨fun h => ⟨h1.symm, h2.symm, h, h3⟩, fun h => h.2.2.1⟩
      · rw [if_pos h1, if_pos h2, if_neg h3]; simp [h3]
    · rw [if_pos h1, if_neg h2]; simp [Ne.symm h2]
  · rw [if_neg h1]; simp [Ne.symm h1]
theorem ixW_ok (p : S25 → Bool) (l : List S25) (hl : l.length ≤ 1000000000) : ∀ (d i : Nat), i + d = l.length → ∃ r, ixW.l0 p (d + 1) l (i : Int) = some r ∧ (0 ≤ r ↔ ∃ j, i ≤ j ∧ j < l.length ∧ p (l.getD j z25) = true)
  | 0, i, h => ⟨-1, by rw [ixW.l0, if_neg (by omega)], by constructor
                                                          · intro h; omega
                                                          · rintro ⟨j, _, _, _⟩; omega⟩
  | d + 1, i, h => by
    by_cases c : p (l.getD i z25) = true
    · refine ⟨(i : Int), by rw [ixW.l0, if_pos (by omega), if_pos (by omega), rdT, if_pos c], ⟨fun _ => ⟨i, Nat.le_refl _, by omega, c⟩, fun _ => by omega⟩⟩
    · obtain ⟨r, e, hr⟩ := ixW_ok p l hl d (i + 1) (by omega)
      refine ⟨r, by rw [ixW.l0, if_pos (by omega), if_pos (by omega), rdT, if_neg c, wrap_id (by omega) (by omega)]; exact e, hr.trans ⟨?_, ?_⟩⟩
      · rintro ⟨j, h1, h2, h3⟩; exact ⟨j, by omega, h2, h3⟩
      · rintro ⟨j, h1, h2, h3⟩
        refine ⟨j, ?_, h2, h3⟩
        rcases Nat.eq_or_lt_of_le h1 with rfl | h4
        · exact absurd h3 c
        · exact h4
theorem contains_ok (l : List S25) (hl : l.length ≤ 1000000000) (i : Nat) (hi : i ≤ l.length) (w : S25) : ∃ b, slices_ContainsFunc_Warning.f (l.take i) w.f0 w.f1 w.f2 w.f3 w.f4 w.f5 = some b ∧ (b = true ↔ ∃ j, j < i ∧ meetS (l.getD j z25) w) := by
  have hlen : (l.take i).length = i := by simp; omega
  obtain ⟨r, e, hr⟩ := ixW_ok (meets w.f0 w.f1 w.f2 w.f3 w.f4 w.f5) (l.take i) (by omega) (l.take i).length 0 (by omega)
  refine ⟨decide (r ≥ 0), ?_, ?_⟩
  · unfold slices_ContainsFunc_Warning.f
    rw [show ((0 : Nat) : Int) = 0 from rfl] at e
    rw [e, Option.bind_some]
  · rw [decide_eq_true_iff]
    refine Iff.trans (show r ≥ 0 ↔ _ from hr) ⟨?_, ?_⟩
    · rintro ⟨j, _, h2, h3⟩
      rw [hlen] at h2
      rw [List.getD_eq_getElem?_getD, List.getElem?_take_of_lt h2, ← List.getD_eq_getElem?_getD] at h3
      exact ⟨j, h2, (meets_iff _ _).1 h3⟩
    · rintro ⟨j, h2, h3⟩
      refine ⟨j, Nat.zero_le _, by omega, ?_⟩
      rw [List.getD_eq_getElem?_getD, List.getElem?_take_of_lt h2, ← List.getD_eq_getElem?_getD]
      exact (meets_iff _ _).2 h3
theorem cons_ok (l : List S25) (hl : l.length ≤ 1000000000) : ∃ b, (b = true ↔ ConsL l) ∧ Evt fun k => qx.f k l = some b := by
  obtain ⟨a, ha, hA⟩ := areW_ok l hl
  cases a with
  | false =>
    refine ⟨false, ⟨fun h => (by cases h), fun h => (by have := ha.2 h.1; cases this)⟩, hA.mono fun k hk => ?_⟩
    unfold qx.f
    rw [hk, Option.bind_some, if_neg (by simp)]
  | true =>
    have hw := ha.1 rfl
    have := evt_loop_ex l.length (fun k (_ : Unit) i => qx.l0 k l l (l.length : Int) i) (fun b => b = true ↔ NoMeet l) (fun i _ => ∀ a b, b < a → a < i → ¬ meetS (l.getD b z25) (l.getD a z25)) ?_ ?_ () (fun a b _ h => by omega)
    · obtain ⟨b, hb, hB⟩ := this
      refine ⟨b, hb.trans ⟨fun h => ⟨hw, h⟩, fun h => h.2⟩, (hA.and hB).mono fun k hk => ?_⟩
      unfold qx.f
      rw [hk.1, Option.bind_some, if_pos rfl]
      exact hk.2
    · rintro i _ hi h
      obtain ⟨b, e, hb⟩ := contains_ok l hl i (by omega) (l.getD i z25)
      cases b with
      | true =>
        obtain ⟨j, h1, h2⟩ := hb.1 rfl
        refine .inr ⟨false, ⟨fun h => (by cases h), fun h => absurd h2 (h i j h1 hi)⟩, Evt.succ (Evt.all fun k => ?_)⟩
        show qx.l0 (k + 1) l l (l.length : Int) (i : Int) = _
        rw [qx.l0, if_pos (by omega), if_pos (by omega), if_pos (by omega), if_pos (by omega), Int.toNat_natCast, rdT, e, Option.bind_some, if_pos rfl]
      | false =>
        refine .inl ⟨(), fun a b h1 h2 => ?_, 1, Evt.all fun k => ?_⟩
        · by_cases e2 : a = i
          · subst e2
            intro hm
            have := hb.2 ⟨b, h1, hm⟩
            cases this
          · exact h a b h1 (by omega)
        · show qx.l0 (k + 1) l l (l.length : Int) (i : Int) = _
          rw [qx.l0, if_pos (by omega), if_pos (by omega), if_pos (by omega), if_pos (by omega), Int.toNat_natCast, rdT, e, Option.bind_some, if_neg (by simp), wrap_id (by omega) (by omega)]
    · rintro _ h
      refine ⟨true, ⟨fun _ => fun a b h1 h2 => h a b h1 h2, fun _ => rfl⟩, Evt.succ (Evt.all fun k => ?_)⟩
      show qx.l0 (k + 1) l l (l.length : Int) (l.length : Int) = _
      rw [qx.l0, if_neg (by omega)]
theorem smeet (a b : S25) : ∃ r, spec_l14Meet.f a.f0 a.f1 a.f2 a.f3 a.f4 a.f5 b.f0 b.f1 b.f2 b.f3 b.f4 b.f5 = some r ∧ (r = true ↔ meetS a b) := by
  unfold spec_l14Meet.f meetS
  by_cases h1 : a.f1 = b.f1
  · by_cases h2 : a.f3 = b.f3
    · by_cases h3 : a.f4 < b.f5
      · rw [if_pos h1, if_pos h2, if_pos h3]; exact ⟨_, rfl, by simp [h1, h2, h3]⟩
      · rw [if_pos h1, if_pos h2, if_neg h3]; exact ⟨_, rfl, by simp [h3]⟩
    · rw [if_pos h1, if_neg h2]; exact ⟨_, rfl, by simp [h2]⟩
  · rw [if_neg h1]; exact ⟨_, rfl, by simp [h1]⟩
theorem sl1_no (l : List S25) (hl : l.length ≤ 100) (i : Nat) (hi : i < l.length) (h : ∀ j, j < i → ¬ meetS (l.getD j z25) (l.getD i z25)) (k : Nat) : ∀ (d j : Nat), j + d = i → qj.l1 (k + d + 1) l (i : Int) (j : Int) = qj.l0 k l ((i : Int) + 1)
  | 0, j, e => by
    show qj.l1 (k + 1) l (i : Int) (j : Int) = _
    rw [qj.l1, if_neg (by omega), wrap_id (by omega) (by omega)]
  | d + 1, j, e => by
    have ih := sl1_no l hl i hi h k d (j + 1) (by omega)
    obtain ⟨r, e1, hr⟩ := smeet (l.getD j z25) (l.getD i z25)
    have hr' : ¬ r = true := fun hq => h j (by omega) (hr.1 hq)
    show qj.l1 (k + d + 1 + 1) l (i : Int) (j : Int) = _
    rw [qj.l1, if_pos (by omega), if_pos (by omega), if_pos (by omega), if_pos (by omega), if_pos (by omega), rdT, rdT, e1, Option.bind_some, if_neg hr', wrap_id (by omega) (by omega)]
    exact ih
theorem sl1_yes (l : List S25) (hl : l.length ≤ 100) (i : Nat) (hi : i < l.length) (j0 : Nat) (hj0 : j0 < i) (h : meetS (l.getD j0 z25) (l.getD i z25)) : ∀ (d j : Nat), j + d = j0 → Evt fun k => qj.l1 k l (i : Int) (j : Int) = some false
  | 0, j, e => by
    obtain rfl : j = j0 := by omega
    obtain ⟨r, e1, hr⟩ := smeet (l.getD j z25) (l.getD i z25)
    refine Evt.succ (Evt.all fun k => ?_)
    show qj.l1 (k + 1) l (i : Int) (j : Int) = _
    rw [qj.l1, if_pos (by omega), if_pos (by omega), if_pos (by omega), if_pos (by omega), if_pos (by omega), rdT, rdT, e1, Option.bind_some, if_pos (hr.2 h)]
  | d + 1, j, e => by
    have ih := sl1_yes l hl i hi j0 hj0 h d (j + 1) (by omega)
    obtain ⟨r, e1, hr⟩ := smeet (l.getD j z25) (l.getD i z25)
    refine Evt.succ (ih.mono fun k hk => ?_)
    show qj.l1 (k + 1) l (i : Int) (j : Int) = _
    rw [qj.l1, if_pos (by omega), if_pos (by omega), if_pos (by omega), if_pos (by omega), if_pos (by omega), rdT, rdT, e1, Option.bind_some]
    split
    · rfl
    · rw [wrap_id (by omega) (by omega)]; exact hk
theorem slist_ok (l : List S25) : ∃ b, (b = true ↔ ConsL l) ∧ Evt fun k => qj.f k l = some b := by
  unfold qj.f
  by_cases hl : (l.length : Int) > 12
  · refine ⟨false, ⟨fun h => (by cases h), fun h => by have := h.1.1; omega⟩, Evt.all fun k => ?_⟩
    rw [if_pos hl]
  · simp only [if_neg hl]
    refine evt_loop_ex l.length (fun k (_ : Unit) i => qj.l0 k l i) (fun b => b = true ↔ ConsL l)
      (fun i _ => (∀ j, j < i → VS (l.getD j z25)) ∧ (∀ j, 0 < j → j < i → (l.getD (j - 1) z25).f0 < (l.getD j z25).f0) ∧ ∀ a b, b < a → a < i → ¬ meetS (l.getD b z25) (l.getD a z25)) ?_ ?_ () ⟨fun j h => by omega, fun j _ h => by omega, fun a b _ h => by omega⟩
    · rintro i _ hi ⟨h1, h2, h3⟩
      have good : spec_l14Good.f (l.getD i z25).f0 (l.getD i z25).f1 (l.getD i z25).f2 (l.getD i z25).f3 (l.getD i z25).f4 (l.getD i z25).f5 = _ := good_ok _ _ _ _ _ _
      by_cases v : VS (l.getD i z25)
      · have hd : decide (V (l.getD i z25).f0 (l.getD i z25).f1 (l.getD i z25).f2 (l.getD i z25).f3 (l.getD i z25).f4 (l.getD i z25).f5) = true := decide_eq_true v
        have no : (0 < i → ¬ (l.getD (i - 1) z25).f0 < (l.getD i z25).f0) → 0 < i → (∃ b, (b = true ↔ ConsL l) ∧ Evt fun k => qj.l0 k l (i : Int) = some b) := by
          intro c h0
          obtain ⟨e1, e2, e3⟩ := rdT1 l i h0 (by omega)
          have c' := c h0
          refine ⟨false, ⟨fun h => (by cases h), fun h => absurd (h.1.2.2 i h0 hi) c'⟩, Evt.add 2 (Evt.all fun k => ?_)⟩
          show qj.l0 (k + 1 + 1) l (i : Int) = _
          rw [qj.l0, if_pos (by omega), if_pos (by omega), rdT, good, Option.bind_some, if_pos hd, if_pos (by omega), if_pos e2, if_pos (by omega), e1, qj.j1, if_pos (decide_eq_true (by omega))]
        have main : (0 < i → (l.getD (i - 1) z25).f0 < (l.getD i z25).f0) → ∀ k, qj.l0 (k + 1 + 1) l (i : Int) = qj.l1 k l (i : Int) 0 := by
          intro c k
          rcases Nat.eq_zero_or_pos i with h0 | h0
          · rw [qj.l0, if_pos (by omega), if_pos (by omega), rdT, good, Option.bind_some, if_pos hd, if_neg (by omega), qj.j1, if_neg (by simp)]
          · obtain ⟨e1, e2, e3⟩ := rdT1 l i h0 (by omega)
            have c' := c h0
            rw [qj.l0, if_pos (by omega), if_pos (by omega), rdT, good, Option.bind_some, if_pos hd, if_pos (by omega), if_pos e2, if_pos (by omega), e1, qj.j1, if_neg (fun h_ => by have := of_decide_eq_true h_; omega)]
        by_cases c : 0 < i → (l.getD (i - 1) z25).f0 < (l.getD i z25).f0
        · by_cases m : ∃ j, j < i ∧ meetS (l.getD j z25) (l.getD i z25)
          · obtain ⟨j, hj, hm⟩ := m
            refine .inr ⟨false, ⟨fun h => (by cases h), fun h => absurd hm (h.2 i j hj hi)⟩, Evt.add 2 ((sl1_yes l (by omega) i hi j hj hm j 0 (by omega)).mono fun k hk => ?_)⟩
            show qj.l0 (k + 1 + 1) l (i : Int) = _
            rw [main c k]; exact hk
          · have m' : ∀ j, j < i → ¬ meetS (l.getD j z25) (l.getD i z25) := fun j hj hm => m ⟨j, hj, hm⟩
            refine .inl ⟨(), ⟨fun j hj => ?_, fun j h4 hj => ?_, fun a b h4 hj => ?_⟩, i + 1 + 2, Evt.all fun k => ?_⟩
            · by_cases e : j = i
              · subst e; exact v
              · exact h1 j (by omega)
            · by_cases e : j = i
              · subst e; exact c h4
              · exact h2 j h4 (by omega)
            · by_cases e : a = i
              · subst e; exact m' b h4
              · exact h3 a b h4 (by omega)
            · show qj.l0 (k + i + 1 + 1 + 1) l (i : Int) = _
              rw [main c]
              exact sl1_no l (by omega) i hi m' k i 0 (by omega)
        · have h0 : 0 < i := by
            rcases Nat.eq_zero_or_pos i with h0 | h0
            · exact absurd (fun h => by omega) c
            · exact h0
          exact .inr (no (fun h hlt => c fun _ => hlt) h0)
      · refine .inr ⟨false, ⟨fun h => (by cases h), fun h => absurd (h.1.2.1 i hi) v⟩, Evt.add 2 (Evt.all fun k => ?_)⟩
        show qj.l0 (k + 1 + 1) l (i : Int) = _
        rw [qj.l0, if_pos (by omega), if_pos (by omega), rdT, good, Option.bind_some, if_neg (fun h_ => v (show V _ _ _ _ _ _ from of_decide_eq_true h_)), qj.j1, if_pos rfl]
    · rintro _ ⟨h1, h2, h3⟩
      refine ⟨true, ⟨fun _ => ⟨⟨by omega, h1, h2⟩, h3⟩, fun _ => rfl⟩, Evt.succ (Evt.all fun k => ?_)⟩
      show qj.l0 (k + 1) l (l.length : Int) = _
      rw [qj.l0, if_neg (by omega)]
theorem has35 (l : List UInt8) : decide (0 ≤ Lib.indexByte l 35) = decide (35 ∈ l) := by
  rw [← Lib.contains_iff_indexByte]
  by_cases h : (35 : UInt8) ∈ l
  · rw [decide_eq_true h]; simpa using h
  · rw [decide_eq_false h]; simpa using h
def sumG (a : Int) (c : UInt8) : Int := Int.tmod (41 * a + (c.toNat : Int) + 1) 999979
def sumL (l : List UInt8) : Int := l.foldl sumG 7
theorem sumG_ok (a : Int) (c : UInt8) (h : 0 ≤ a ∧ a < 999979) : 0 ≤ sumG a c ∧ sumG a c < 999979 := by
  unfold sumG
  rw [Int.tmod_eq_emod_of_nonneg (by omega)]
  omega
theorem sumF_ok : ∀ (l : List UInt8) (a : Int), 0 ≤ a ∧ a < 999979 → 0 ≤ l.foldl sumG a ∧ l.foldl sumG a < 999979
  | [], a, h => h
  | c :: r, a, h => sumF_ok r (sumG a c) (sumG_ok a c h)
theorem sumL_ok (l : List UInt8) : 0 ≤ sumL l ∧ sumL l < 999979 := sumF_ok l 7 (by omega)
theorem sumG_wrap (l : List UInt8) (i : Nat) (hi : i < l.length) (a : Int) (h : 0 ≤ a ∧ a < 999979) : Int.tmod (wrap64 ((wrap64 ((wrap64 (41 * a)) + (wrap64 (bt (B l) (i : Int))))) + 1)) 999979 = sumG a (l.getD i 0) := by
  have hc : ((l.getD i 0).toNat : Int) < 256 := by have := (l.getD i 0).toNat_lt; omega
  rw [bt_B l i hi, wrap_id (x := 41 * a) (by omega) (by omega), wrap_id (x := ((l.getD i 0).toNat : Int)) (by omega) (by omega), wrap_id (x := 41 * a + ((l.getD i 0).toNat : Int)) (by omega) (by omega), wrap_id (by omega) (by omega)]
  rfl
theorem sum_spec (l : List UInt8) (hl : l.length ≤ 2000000) : Evt fun k => qS.f k (B l) = some (sumL l) := by
  unfold qS.f
  refine evt_loop0 l.length (fun k a i => qS.l0 k (B l) a i) (sumL l) (fun i a => (0 ≤ a ∧ a < 999979) ∧ (l.drop i).foldl sumG a = sumL l) ?_ ?_ 7 ⟨by omega, rfl⟩
  · rintro i a hi ⟨h1, h2⟩
    refine .inl ⟨sumG a (l.getD i 0), ⟨sumG_ok _ _ h1, by rw [getD_drop l 0 i hi] at h2; exact h2⟩, 1, Evt.all fun k => ?_⟩
    show qS.l0 (k + 1) (B l) a (i : Int) = _
    rw [qS.l0, if_pos (by rw [B_size]; omega), if_pos (by omega), sumG_wrap l i hi a h1, wrap_id (by omega) (by omega)]
  · rintro a ⟨h1, h2⟩
    rw [List.drop_of_length_le (Nat.le_refl _)] at h2
    refine Evt.succ (Evt.all fun k => ?_)
    show qS.l0 (k + 1) (B l) a (l.length : Int) = _
    rw [qS.l0, if_neg (by rw [B_size]; omega), ← h2]; rfl
theorem sum_impl (l : List UInt8) (hl : l.length ≤ 2000000) : Evt fun k => qK.f k (B l) = some (sumL l) := by
  unfold qK.f
  refine evt_loop0 l.length (fun k a i => qK.l0 k (B l) a i) (sumL l) (fun i a => (0 ≤ a ∧ a < 999979) ∧ (l.drop i).foldl sumG a = sumL l) ?_ ?_ 7 ⟨by omega, rfl⟩
  · rintro i a hi ⟨h1, h2⟩
    refine .inl ⟨sumG a (l.getD i 0), ⟨sumG_ok _ _ h1, by rw [getD_drop l 0 i hi] at h2; exact h2⟩, 1, Evt.all fun k => ?_⟩
    show qK.l0 (k + 1) (B l) a (i : Int) = _
    rw [qK.l0, if_pos (by rw [B_size]; omega), if_pos (by omega), sumG_wrap l i hi a h1, wrap_id (by omega) (by omega)]
  · rintro a ⟨h1, h2⟩
    rw [List.drop_of_length_le (Nat.le_refl _)] at h2
    refine Evt.succ (Evt.all fun k => ?_)
    show qK.l0 (k + 1) (B l) a (l.length : Int) = _
    rw [qK.l0, if_neg (by rw [B_size]; omega), ← h2]; rfl
def sealL (l : List UInt8) : List UInt8 := l ++ [35] ++ Lib.itoa (sumL l)
theorem sum_len (l : List UInt8) : (Lib.itoa (sumL l)).length ≤ 20 := itoa_len _ (by have := sumL_ok l; unfold i64; omega)
theorem k35 : (⟨#[35]⟩ : ByteArray) = B [35] := rfl
theorem seal_spec (l : List UInt8) (hl : l.length ≤ 2000000) : Evt fun k => qV.f k (B l) = some (B (sealL l)) := by
  have h := sumL_ok l
  have hn := sum_len l
  refine ((sum_spec l hl).and (num_ok (sumL l) h.1 (by omega))).mono fun k hk => ?_
  unfold qV.f
  rw [if_pos (by rw [B_size]; omega), hk.1, Option.bind_some, hk.2, Option.bind_some, k35, B_app, B_app, if_pos (by rw [B_size, B_size, List.length_append]; simp only [List.length_cons, List.length_nil]; omega)]
  rfl
theorem app_impl (l : List UInt8) (hl : l.length ≤ 2000000) : Evt fun k => qw.f k (B l) = some (if l.length ≤ 4000 ∧ 35 ∉ l ∧ (sealL l).length ≤ 4000 then (B (sealL l), true) else (⟨#[]⟩, false)) := by
  have h := sumL_ok l
  have hn := sum_len l
  have yes : Evt fun k => qw.j0 k (B l) true = some (⟨#[]⟩, false) := Evt.succ (Evt.all fun k => by show qw.j0 (k + 1) (B l) true = _; rw [qw.j0, if_pos rfl])
  by_cases h1 : l.length ≤ 4000
  · by_cases h2 : (35 : UInt8) ∈ l
    · refine yes.mono fun k hk => ?_
      unfold qw.f strings_Contains.f
      rw [if_neg (by rw [B_size]; omega), if_pos rfl, Option.bind_some, B_data, has35, decide_eq_true h2, hk, if_neg (fun q => q.2.1 h2)]
    · refine Evt.succ ((sum_impl l hl).mono fun k hk => ?_)
      have e : strconv_Itoa.f (sumL l) = some (B (Lib.itoa (sumL l))) := by unfold strconv_Itoa.f; exact if_pos ⟨by omega, by omega⟩
      have es : sealL l = (l ++ [35]) ++ Lib.itoa (sumL l) := rfl
      show qw.f (k + 1) (B l) = _
      unfold qw.f strings_Contains.f
      rw [if_neg (by rw [B_size]; omega), if_pos rfl, Option.bind_some, B_data, has35, decide_eq_false h2, qw.j0, if_neg (by simp), if_pos (by rw [B_size]; omega), hk, Option.bind_some, e, Option.bind_some, k35, B_app, B_app,
        if_pos (by rw [B_size, B_size, List.length_append]; simp only [List.length_cons, List.length_nil]; omega), ← es, B_size]
      by_cases h3 : (sealL l).length ≤ 4000
      · rw [if_neg (by omega), if_pos ⟨h1, h2, h3⟩]
      · rw [if_pos (by omega), if_neg (fun q => h3 q.2.2)]
  · refine yes.mono fun k hk => ?_
    unfold qw.f
    rw [if_pos (by rw [B_size]; omega), hk, if_neg (fun q => h1 q.1)]
def VG (s : ByteArray) (r : ByteArray × Bool) : Prop := (r.2 = true → ∃ l, r.1 = B l ∧ s = B (sealL l) ∧ (sealL l).length ≤ 4000 ∧ 35 ∉ l) ∧ (r.2 = false → r.1 = ⟨#[]⟩)
theorem sealL_len (l : List UInt8) : l.length + 1 ≤ (sealL l).length := by unfold sealL; simp only [List.length_append, List.length_cons, List.length_nil]; omega
theorem ver_impl (s : ByteArray) (hs : s.size ≤ 1048576) : ∃ r, VG s r ∧ Evt fun k => qL.f k s = some r := by
  obtain ⟨l, rfl⟩ : ∃ l, s = B l := ⟨_, (B_of s).symm⟩
  rw [B_size] at hs
  have hc : strings_Cut.f (B l) (⟨#[35]⟩ : ByteArray) = some (B (Lib.cut l [35]).1, B (Lib.cut l [35]).2.1, (Lib.cut l [35]).2.2) := by unfold strings_Cut.f cutL; rw [if_pos (by rw [B_size]; omega)]; rfl
  have hlen := (cut_len l [35]).1
  generalize Lib.cut l [35] = c at hc hlen
  obtain ⟨t, rest, found⟩ := c
  have ha := app_impl t (by dsimp only at hlen; omega)
  dsimp only at hc
  have zero : VG (B l) (⟨#[]⟩, false) := ⟨fun h => (by cases h), fun _ => rfl⟩
  cases found with
  | false =>
    refine ⟨_, zero, ha.mono fun k hk => ?_⟩
    unfold qL.f
    rw [hc, Option.bind_some, hk, Option.bind_some, if_neg (by simp)]
  | true =>
    by_cases q : t.length ≤ 4000 ∧ 35 ∉ t ∧ (sealL t).length ≤ 4000
    · simp only [if_pos q] at ha
      by_cases e : (B (sealL t)).toList = (B l).toList
      · refine ⟨(B t, true), ⟨fun _ => ⟨t, rfl, eq_of_toList e |>.trans rfl, q.2.2, q.2.1⟩, fun h => (by cases h)⟩, ha.mono fun k hk => ?_⟩
        unfold qL.f
        rw [hc, Option.bind_some, hk, Option.bind_some, if_pos rfl, if_pos rfl, if_pos e]
      · refine ⟨_, zero, ha.mono fun k hk => ?_⟩
        unfold qL.f
        rw [hc, Option.bind_some, hk, Option.bind_some, if_pos rfl, if_pos rfl, if_neg e]
    · simp only [if_neg q] at ha
      refine ⟨_, zero, ha.mono fun k hk => ?_⟩
      unfold qL.f
      rw [hc, Option.bind_some, hk, Option.bind_some, if_pos rfl, if_neg (by simp)]
theorem ver_impl_seal (l : List UInt8) (h : 35 ∉ l) (hl : (sealL l).length ≤ 4000) : Evt fun k => qL.f k (B (sealL l)) = some (B l, true) := by
  have h0 := sealL_len l
  have hc : strings_Cut.f (B (sealL l)) (⟨#[35]⟩ : ByteArray) = some (B l, B (Lib.itoa (sumL l)), true) := cut_B l (Lib.itoa (sumL l)) 35 [] h (Nat.lt_of_le_of_lt hl (by omega))
  refine (app_impl l (by omega)).mono fun k hk => ?_
  rw [if_pos ⟨by omega, h, hl⟩] at hk
  unfold qL.f
  rw [hc, Option.bind_some, hk, Option.bind_some, if_pos rfl, if_pos rfl, if_pos rfl]
theorem ver_spec_seal (l : List UInt8) (h : 35 ∉ l) (hl : (sealL l).length ≤ 4000) : Evt fun k => spec_VerifyChecksum.f k (B (sealL l)) = some (B l, true) := by
  have h0 := sealL_len l
  have e : Txt.splitOn 35 (sealL l) = l :: Txt.splitOn 35 (Lib.itoa (sumL l)) := by
    unfold sealL
    rw [List.append_assoc]
    exact Txt.splitOn_at 35 l _ h
  have hsp := splitS (B (sealL l)) 35 (by rw [B_size]; omega)
  rw [B_data, e] at hsp
  refine (hsp.and (seal_spec l (by omega))).mono fun k hk => ?_
  obtain ⟨k1, k2⟩ := hk
  unfold spec_VerifyChecksum.f
  rw [if_neg (by rw [B_size]; omega), show (35 : Int) = (((35 : UInt8).toNat : Nat) : Int) from rfl, k1, Option.bind_some, if_pos (by simp only [List.map_cons, List.length_cons]; omega), show rdOf ByteArray.empty ((l :: Txt.splitOn 35 (Lib.itoa (sumL l))).map B) 0 = B l from rfl, k2, Option.bind_some, if_pos rfl]
def lineS (x : S25) : List UInt8 := lineL x.f0 x.f1 x.f2 x.f3 x.f4 x.f5
def tailL : List S25 → List UInt8
  | [] => []
  | x :: r => lineS x ++ [10] ++ tailL r
theorem tailL_app : ∀ a b : List S25, tailL (a ++ b) = tailL a ++ tailL b
  | [], b => rfl
  | x :: r, b => by rw [List.cons_append, tailL, tailL_app r b, tailL]; simp only [List.append_assoc]
def wB : List UInt8 := [98, 117, 108, 108, 101, 116, 105, 110, 32]
def wH : List UInt8 := [32, 97, 116, 32, 104, 111, 117, 114, 32]
def headL (n h : Int) : List UInt8 := wB ++ Lib.itoa n ++ wH ++ Lib.itoa h
def bodyL (n h : Int) (ws : List S25) : List UInt8 := headL n h ++ [10] ++ tailL ws
def VB (n h : Int) (ws : List S25) : Prop := (1 ≤ n ∧ n ≤ 999) ∧ (0 ≤ h ∧ h ≤ 240) ∧ ConsL ws
theorem ConsL.all {ws : List S25} (h : ConsL ws) : ∀ x ∈ ws, VS x := by
  intro x hx
  obtain ⟨i, hi, rfl⟩ := List.getElem_of_mem hx
  have := h.1.2.1 i hi
  rwa [getD_lt _ _ _ hi] at this
theorem line_no (c : UInt8) (hc : c = 35 ∨ c = 10) {x : S25} (v : VS x) : c ∉ lineS x := by
  obtain ⟨v0, v1, v2, v3, v5, v4⟩ := v
  have hd : c.toNat < 48 ∨ 57 < c.toNat := by rcases hc with rfl | rfl <;> decide
  have m0 := Txt.not_mem_itoa (n := x.f0) (by omega) c hd
  have m3 := Txt.not_mem_itoa (n := x.f3) (by omega) c hd
  have m4 := Txt.not_mem_itoa (n := x.f4) (by omega) c hd
  have m5 := Txt.not_mem_itoa (n := x.f5) (by omega) c hd
  have ml : c ∉ Lib.toLowerA (levL.getD x.f2.toNat []) := by
    rcases hc with rfl | rfl <;> rcases three v2 with e | e | e <;> rw [e] <;> decide
  have mt : c ∉ topL.getD x.f1.toNat [] := by
    rcases hc with rfl | rfl <;> rcases five v1 with e | e | e | e | e <;> rw [e] <;> decide
  unfold lineS lineL
  simp only [List.mem_append, not_or]
  have k : ∀ l : List UInt8, 35 ∉ l → 10 ∉ l → c ∉ l := fun l h1 h2 => by rcases hc with rfl | rfl <;> assumption
  exact ⟨⟨⟨⟨⟨⟨⟨⟨m0, k _ (by decide) (by decide)⟩, ml⟩, k _ (by decide) (by decide)⟩, mt⟩, k _ (by decide) (by decide)⟩, m3⟩, k _ (by decide) (by decide)⟩, ⟨m4, k _ (by decide) (by decide)⟩, m5⟩
theorem line_le {x : S25} (v : VS x) : (lineS x).length ≤ 50 := by
  obtain ⟨v0, v1, v2, v3, v5, v4⟩ := v
  have l0 := itoa_le x.f0 (by omega) (by omega)
  have l3 := itoa_le x.f3 (by omega) (by omega)
  have l4 := itoa_le x.f4 (by omega) (by omega)
  have l5 := itoa_le x.f5 (by omega) (by omega)
  have lL := (slev_ok x.f2 v2).2
  have lT := (stop_ok x.f1 v1).2
  unfold lineS lineL
  simp only [List.length_append, List.length_cons, List.length_nil]
  omega
theorem tail_le : ∀ ws : List S25, (∀ x ∈ ws, VS x) → (tailL ws).length ≤ 51 * ws.length
  | [], _ => Nat.le_refl _
  | x :: r, h => by
    have := tail_le r fun y hy => h y (by simp [hy])
    have := line_le (h x (by simp))
    rw [tailL]
    simp only [List.length_append, List.length_cons, List.length_nil]
    omega
theorem tail_no35 : ∀ ws : List S25, (∀ x ∈ ws, VS x) → (35 : UInt8) ∉ tailL ws
  | [], _ => by simp [tailL]
  | x :: r, h => by
    have := tail_no35 r fun y hy => h y (by simp [hy])
    have := line_no 35 (.inl rfl) (h x (by simp))
    rw [tailL]
    simp only [List.mem_append, not_or]
    exact ⟨⟨by assumption, by decide⟩, by assumption⟩
theorem head_le (n h : Int) (hn : 1 ≤ n ∧ n ≤ 999) (hh : 0 ≤ h ∧ h ≤ 240) : (headL n h).length ≤ 24 := by
  have l0 := itoa_le n (by omega) (by omega)
  have l3 := itoa_le h (by omega) (by omega)
  unfold headL wB wH
  simp only [List.length_append, List.length_cons, List.length_nil]
  omega
theorem head_no (c : UInt8) (hc : c = 35 ∨ c = 10) (n h : Int) (hn : 1 ≤ n ∧ n ≤ 999) (hh : 0 ≤ h ∧ h ≤ 240) : c ∉ headL n h := by
  have hd : c.toNat < 48 ∨ 57 < c.toNat := by rcases hc with rfl | rfl <;> decide
  have m0 := Txt.not_mem_itoa (n := n) (by omega) c hd
  have m3 := Txt.not_mem_itoa (n := h) (by omega) c hd
  unfold headL
  simp only [List.mem_append, not_or]
  have k : ∀ l : List UInt8, 35 ∉ l → 10 ∉ l → c ∉ l := fun l h1 h2 => by rcases hc with rfl | rfl <;> assumption
  exact ⟨⟨⟨k _ (by decide) (by decide), m0⟩, k _ (by decide) (by decide)⟩, m3⟩
theorem body_ok {n h : Int} {ws : List S25} (v : VB n h ws) : (35 : UInt8) ∉ bodyL n h ws ∧ (bodyL n h ws).length ≤ 700 ∧ (sealL (bodyL n h ws)).length ≤ 4000 := by
  obtain ⟨hn, hh, hc⟩ := v
  have h1 := head_le n h hn hh
  have h2 := tail_le ws hc.all
  have h3 := hc.1.1
  have h4 := sum_len (bodyL n h ws)
  have h5 : (bodyL n h ws).length ≤ 700 := by
    unfold bodyL
    simp only [List.length_append, List.length_cons, List.length_nil]
    omega
  refine ⟨?_, h5, ?_⟩
  · unfold bodyL
    simp only [List.mem_append, not_or]
    exact ⟨⟨head_no 35 (.inl rfl) n h hn hh, by decide⟩, tail_no35 ws hc.all⟩
  · show (bodyL n h ws ++ [35] ++ Lib.itoa (sumL (bodyL n h ws))).length ≤ 4000
    simp only [List.length_append, List.length_cons, List.length_nil] at h5 ⊢
    omega
theorem take_snoc (ws : List S25) (i : Nat) (hi : i < ws.length) : ws.take (i + 1) = ws.take i ++ [ws.getD i z25] := by
  rw [getD_lt _ _ _ hi, List.take_add_one, List.getElem?_eq_getElem hi]; rfl
theorem tail_step (ws : List S25) (i : Nat) (hi : i < ws.length) : tailL (ws.take (i + 1)) = tailL (ws.take i) ++ (lineS (ws.getD i z25) ++ [10]) := by
  rw [take_snoc ws i hi, tailL_app, tailL, tailL, List.append_nil]
theorem take_all {ws : List S25} (h : ∀ x ∈ ws, VS x) (i : Nat) : ∀ x ∈ ws.take i, VS x := fun x hx => h x (List.mem_of_mem_take hx)
theorem kB : (⟨#[98, 117, 108, 108, 101, 116, 105, 110, 32]⟩ : ByteArray) = B wB := rfl
theorem kH : (⟨#[32, 97, 116, 32, 104, 111, 117, 114, 32]⟩ : ByteArray) = B wH := rfl
theorem k10 : (⟨#[10]⟩ : ByteArray) = B [10] := rfl
theorem itoa_f (x : Int) (hx : 0 ≤ x ∧ x < 1000) : strconv_Itoa.f x = some (B (Lib.itoa x)) := by unfold strconv_Itoa.f; exact if_pos ⟨by omega, by omega⟩
theorem wB_len : wB.length = 9 := rfl
theorem wH_len : wH.length = 9 := rfl
theorem text_impl {n h : Int} {ws : List S25} (v : VB n h ws) : Evt fun k => qq.f k n h ws = some (B (sealL (bodyL n h ws))) := by
  obtain ⟨b35, bl, bs⟩ := body_ok v
  obtain ⟨hn, hh, hc⟩ := v
  have ha := hc.all
  have l0 := itoa_le n (by omega) (by omega)
  have l3 := itoa_le h (by omega) (by omega)
  have h1 := head_le n h hn hh
  have h3 := hc.1.1
  have main : Evt fun k => qq.l0 k (B (headL n h ++ [10])) ws (ws.length : Int) 0 = some (B (sealL (bodyL n h ws))) := by
    refine evt_loop0 ws.length (fun k s i => qq.l0 k s ws (ws.length : Int) i) _ (fun i s => s = B (headL n h ++ [10] ++ tailL (ws.take i))) ?_ ?_ _ (by simp [tailL])
    · rintro i s hi rfl
      have v := hc.1.2.1 i hi
      have el : qP.f (ws.getD i z25).f0 (ws.getD i z25).f1 (ws.getD i z25).f2 (ws.getD i z25).f3 (ws.getD i z25).f4 (ws.getD i z25).f5 = some (B (lineS (ws.getD i z25))) := line_impl v
      have hl := line_le v
      have ht := tail_le (ws.take i) (take_all ha i)
      have hti : (ws.take i).length ≤ 12 := by rw [List.length_take]; omega
      refine .inl ⟨_, rfl, 1, Evt.all fun k => ?_⟩
      show qq.l0 (k + 1) _ ws (ws.length : Int) (i : Int) = _
      rw [qq.l0, if_pos (by omega), if_pos (by omega), if_pos (by omega), rdT, el, Option.bind_some, k10, B_app, if_pos (by rw [B_size]; omega), B_app, B_size, B_size, tail_step ws i hi,
        if_pos (by simp only [List.length_append, List.length_cons, List.length_nil] at *; omega), wrap_id (by omega) (by omega)]
      simp only [List.append_assoc]
    · rintro s rfl
      rw [List.take_length]
      have hb : headL n h ++ [10] ++ tailL ws = bodyL n h ws := rfl
      refine Evt.succ ((app_impl (bodyL n h ws) (by omega)).mono fun k hk => ?_)
      rw [if_pos ⟨by omega, b35, bs⟩] at hk
      show qq.l0 (k + 1) _ ws (ws.length : Int) (ws.length : Int) = _
      rw [qq.l0, if_neg (by omega), hb, hk, Option.bind_some]
  refine main.mono fun k hk => ?_
  unfold qq.f
  rw [itoa_f n (by omega), Option.bind_some, if_pos (by rw [B_size]; omega), kB, kH, B_app, if_pos (by rw [B_size, List.length_append, wB_len]; omega), itoa_f h (by omega), Option.bind_some, B_app, if_pos (by rw [B_size, B_size]; simp only [List.length_append, wB_len, wH_len]; omega), B_app,
    if_pos (by rw [B_size]; simp only [List.length_append, wB_len, wH_len]; omega), k10, B_app]
  exact hk
theorem text_spec {n h : Int} {ws : List S25} (v : VB n h ws) : Evt fun k => qA.f k n h ws = some (B (sealL (bodyL n h ws))) := by
  obtain ⟨b35, bl, bs⟩ := body_ok v
  obtain ⟨hn, hh, hc⟩ := v
  have ha := hc.all
  have l0 := itoa_le n (by omega) (by omega)
  have l3 := itoa_le h (by omega) (by omega)
  have h1 := head_le n h hn hh
  have h3 := hc.1.1
  have main : Evt fun k => qA.l0 k (B (headL n h ++ [10])) 0 n h ws = some (B (sealL (bodyL n h ws))) := by
    refine evt_loop0 ws.length (fun k s i => qA.l0 k s i n h ws) _ (fun i s => s = B (headL n h ++ [10] ++ tailL (ws.take i))) ?_ ?_ _ (by simp [tailL])
    · rintro i s hi rfl
      have v := hc.1.2.1 i hi
      have el := line_spec v
      have hl := line_le v
      have ht := tail_le (ws.take i) (take_all ha i)
      have hti : (ws.take i).length ≤ 12 := by rw [List.length_take]; omega
      refine .inl ⟨_, rfl, 1, el.mono fun k hk => ?_⟩
      show qA.l0 (k + 1) _ (i : Int) n h ws = _
      rw [show lineL (ws.getD i z25).f0 (ws.getD i z25).f1 (ws.getD i z25).f2 (ws.getD i z25).f3 (ws.getD i z25).f4 (ws.getD i z25).f5 = lineS (ws.getD i z25) from rfl] at hk
      rw [qA.l0, if_pos (by omega), if_pos (by omega), rdT, hk, Option.bind_some, k10, B_app, B_app, B_size, B_size, B_size, tail_step ws i hi, if_pos (by simp only [List.length_append, List.length_cons, List.length_nil] at *; omega),
        if_pos (by simp only [List.length_append, List.length_cons, List.length_nil] at *; omega), wrap_id (by omega) (by omega)]
      simp only [List.append_assoc]
    · rintro s rfl
      rw [List.take_length]
      have hb : headL n h ++ [10] ++ tailL ws = bodyL n h ws := rfl
      refine Evt.succ ((seal_spec (bodyL n h ws) (by omega)).mono fun k hk => ?_)
      show qA.l0 (k + 1) _ (ws.length : Int) n h ws = _
      rw [qA.l0, if_neg (by omega), hb, hk, Option.bind_some]
  refine ((main.and (num_ok n (by omega) (by omega))).and (num_ok h (by omega) (by omega))).mono fun k hk => ?_
  unfold qA.f
  rw [hk.1.2, Option.bind_some, if_pos (by rw [B_size]; omega), kB, kH, B_app, if_pos (by rw [B_size, List.length_append, wB_len]; omega), hk.2, Option.bind_some, B_app, if_pos (by rw [B_size, B_size]; simp only [List.length_append, wB_len, wH_len]; omega), B_app,
    if_pos (by rw [B_size]; simp only [List.length_append, wB_len, wH_len]; omega), k10, B_app]
  exact hk.1.1
theorem validB_impl (n h : Int) (ws : List S25) (hl : ws.length ≤ 1000000000) : ∃ b, (b = true ↔ VB n h ws) ∧ Evt fun k => qr.f k n h ws = some b := by
  obtain ⟨c, hc, hC⟩ := cons_ok ws hl
  unfold qr.f
  simp only [within_ok, Option.bind_some, decide_eq_true_eq]
  by_cases h1 : 1 ≤ n ∧ n ≤ 999
  · by_cases h2 : 0 ≤ h ∧ h ≤ 240
    · refine ⟨c, hc.trans ⟨fun q => ⟨h1, h2, q⟩, fun q => q.2.2⟩, hC.mono fun k hk => ?_⟩
      rw [if_pos h1, if_pos h2, hk, Option.bind_some]
    · exact ⟨false, ⟨fun q => (by cases q), fun q => absurd q.2.1 h2⟩, Evt.all fun k => by rw [if_pos h1, if_neg h2]⟩
  · exact ⟨false, ⟨fun q => (by cases q), fun q => absurd q.1 h1⟩, Evt.all fun k => by rw [if_neg h1]⟩
theorem validB_spec (n h : Int) (ws : List S25) : ∃ b, (b = true ↔ VB n h ws) ∧ Evt fun k => qN.f k n h ws = some b := by
  obtain ⟨c, hc, hC⟩ := slist_ok ws
  unfold qN.f
  simp only [l1In_ok, Option.bind_some, decide_eq_true_eq]
  by_cases h1 : 1 ≤ n ∧ n ≤ 999
  · by_cases h2 : 0 ≤ h ∧ h ≤ 240
    · refine ⟨c, hc.trans ⟨fun q => ⟨h1, h2, q⟩, fun q => q.2.2⟩, hC.mono fun k hk => ?_⟩
      rw [if_pos h1, if_pos h2, hk, Option.bind_some]
    · exact ⟨false, ⟨fun q => (by cases q), fun q => absurd q.2.1 h2⟩, Evt.all fun k => by rw [if_pos h1, if_neg h2]⟩
  · exact ⟨false, ⟨fun q => (by cases q), fun q => absurd q.1 h1⟩, Evt.all fun k => by rw [if_neg h1]⟩
theorem split_pos (c : UInt8) (l : List UInt8) : 0 < (Txt.splitOn c l).length := List.length_pos_iff.2 (Txt.splitOn_ne c l)
theorem rd_split (c : UInt8) (l : List UInt8) (i : Nat) (hi : i < (Txt.splitOn c l).length) : ∃ p, rdOf ByteArray.empty ((Txt.splitOn c l).map B) (i : Int) = B p ∧ p.length ≤ l.length := by
  refine ⟨(Txt.splitOn c l)[i], ?_, splitOn_len c l _ (List.getElem_mem hi)⟩
  show ((Txt.splitOn c l).map B).getD (i : Int).toNat _ = _
  rw [Int.toNat_natCast, getD_lt _ _ _ (by simpa using hi), List.getElem_map]
def GB (s : ByteArray) (r : Int × Int × List S25 × Bool) : Prop :=
  (r.2.2.2 = true → VB r.1 r.2.1 r.2.2.1 ∧ s = B (sealL (bodyL r.1 r.2.1 r.2.2.1))) ∧ (r.2.2.2 = false → r = (0, 0, [], false))
theorem GB.zero (s : ByteArray) : GB s (0, 0, [], false) := ⟨fun h => absurd h (by simp), fun _ => rfl⟩
theorem GB.yes {s : ByteArray} {n h : Int} {ws : List S25} (v : VB n h ws) (e : (B (sealL (bodyL n h ws))).toList = s.toList) : GB s (n, h, ws, true) := ⟨fun _ => ⟨v, eq_of_toList e⟩, fun h => absurd h (by simp)⟩
theorem splitOn_snoc (c : UInt8) : ∀ s, Txt.splitOn c (s ++ [c]) = Txt.splitOn c s ++ [[]]
  | [] => by simp [Txt.splitOn]
  | x :: r => by
    have ih := splitOn_snoc c r
    rw [List.cons_append]
    by_cases h : x = c
    · rw [Txt.splitOn, if_pos h, ih, Txt.splitOn, if_pos h]; rfl
    · rw [Txt.splitOn, if_neg h, ih, Txt.splitOn, if_neg h]
      cases e : Txt.splitOn c r with
      | nil => exact absurd e (Txt.splitOn_ne c r)
      | cons p q => rfl
theorem splitOn_count (c : UInt8) : ∀ s, (Txt.splitOn c s).length ≤ s.length + 1
  | [] => by simp [Txt.splitOn]
  | x :: r => by
    have ih := splitOn_count c r
    by_cases h : x = c
    · rw [Txt.splitOn, if_pos h]; simp; omega
    · rw [Txt.splitOn, if_neg h]
      cases e : Txt.splitOn c r with
      | nil => simp
      | cons p q => rw [e] at ih; simp at ih ⊢; omega
theorem tail_split : ∀ ws : List S25, (∀ x ∈ ws, VS x) → Txt.splitOn 10 (tailL ws) = ws.map lineS ++ [[]]
  | [], _ => rfl
  | x :: r, h => by
    have := tail_split r fun y hy => h y (by simp [hy])
    rw [tailL, List.append_assoc, List.singleton_append, Txt.splitOn_at 10 _ _ (line_no 10 (.inr rfl) (h x (by simp))), this]; rfl
theorem body_split {n h : Int} {ws : List S25} (v : VB n h ws) : Txt.splitOn 10 (bodyL n h ws) = headL n h :: (ws.map lineS ++ [[]]) := by
  unfold bodyL
  rw [List.append_assoc, List.singleton_append, Txt.splitOn_at 10 _ _ (head_no 10 (.inr rfl) n h v.1 v.2.1), tail_split ws v.2.2.all]
theorem tail_end : ∀ ws : List S25, tailL ws = [] ∨ ∃ t, tailL ws = t ++ [10]
  | [] => .inl rfl
  | x :: r => by
    rw [tailL]
    rcases tail_end r with e | ⟨t, e⟩
    · rw [e]; exact .inr ⟨lineS x, by simp⟩
    · rw [e]; exact .inr ⟨lineS x ++ [10] ++ t, by simp⟩
theorem body_trim {n h : Int} {ws : List S25} (v : VB n h ws) : ∃ t, bodyL n h ws = t ++ [10] ∧ Txt.splitOn 10 t = headL n h :: ws.map lineS := by
  obtain ⟨t, e⟩ : ∃ t, bodyL n h ws = t ++ [10] := by
    unfold bodyL
    rcases tail_end ws with e | ⟨t, e⟩
    · rw [e]; exact ⟨headL n h, by simp⟩
    · rw [e]; exact ⟨headL n h ++ [10] ++ t, by simp⟩
  refine ⟨t, e, ?_⟩
  have h1 := body_split v
  rw [e, splitOn_snoc, ← List.cons_append] at h1
  exact List.append_cancel_right h1
theorem ext_last (t : List UInt8) (c : UInt8) : (B (t ++ [c])).extract t.length (B (t ++ [c])).size = B [c] := B_ext2 _ _ _ _ (by rw [B_size]; simp)
theorem hs_in (t : List UInt8) (c : UInt8) (hl : t.length ≤ 1000000) : stringslite_HasSuffix.f (B (t ++ [c])) (⟨#[10]⟩ : ByteArray) = some (decide (c = 10)) := by
  have e1 : (((⟨#[10]⟩ : ByteArray)).size : Int) = 1 := rfl
  have e2 : ((B (t ++ [c])).size : Int) = (t.length : Int) + 1 := by rw [B_size, List.length_append]; simp
  have e3 : wrap64 (((B (t ++ [c])).size : Int) - 1) = (t.length : Int) := by rw [e2, wrap_id (by omega) (by omega)]; omega
  unfold stringslite_HasSuffix.f
  rw [e1, if_pos (by omega), e3, if_pos (by omega), if_pos (by omega), Int.toNat_natCast, ext_last, k10, B_toList, B_toList]
  by_cases h : c = 10
  · subst h; rfl
  · rw [decide_eq_false h]; simpa using h
theorem has_suf (l : List UInt8) (hl : l.length ≤ 1000000) : ∃ b, strings_HasSuffix.f (B l) (⟨#[10]⟩ : ByteArray) = some b ∧ (b = true → ∃ t, l = t ++ [10]) := by
  rcases List.eq_nil_or_concat l with rfl | ⟨t, c, rfl⟩
  · exact ⟨false, rfl, fun h => by cases h⟩
  · rw [List.concat_eq_append] at hl ⊢
    refine ⟨decide (c = 10), ?_, fun h => ⟨t, by rw [of_decide_eq_true h]⟩⟩
    unfold strings_HasSuffix.f
    rw [hs_in t c (by simp at hl; omega), Option.bind_some]
theorem suf_yes (t : List UInt8) (hl : t.length ≤ 1000000) : strings_HasSuffix.f (B (t ++ [10])) (⟨#[10]⟩ : ByteArray) = some true := by
  unfold strings_HasSuffix.f
  rw [hs_in t 10 hl, Option.bind_some]; rfl
theorem trim_suf (t : List UInt8) (hl : t.length ≤ 1000000) : strings_TrimSuffix.f (B (t ++ [10])) (⟨#[10]⟩ : ByteArray) = some (B t) := by
  have e1 : (((⟨#[10]⟩ : ByteArray)).size : Int) = 1 := rfl
  have e2 : ((B (t ++ [10])).size : Int) = (t.length : Int) + 1 := by rw [B_size, List.length_append]; simp
  have e3 : wrap64 (((B (t ++ [10])).size : Int) - 1) = (t.length : Int) := by rw [e2, wrap_id (by omega) (by omega)]; omega
  unfold strings_TrimSuffix.f stringslite_TrimSuffix.f
  rw [hs_in t 10 hl, Option.bind_some, if_pos (by simp), e1, e3, if_pos (by omega), if_pos (by omega), Int.toNat_natCast, Option.bind_some, B_ext2 (t ++ [10]) t 0 t.length (by simp)]
theorem pre_tot (s : ByteArray) (hs : s.size ≤ 1000000) : ∃ r, strings_TrimPrefix.f s (⟨#[98, 117, 108, 108, 101, 116, 105, 110, 32]⟩ : ByteArray) = some r ∧ r.size ≤ s.size := by
  have e1 : (((⟨#[98, 117, 108, 108, 101, 116, 105, 110, 32]⟩ : ByteArray)).size : Int) = 9 := rfl
  unfold strings_TrimPrefix.f stringslite_TrimPrefix.f stringslite_HasPrefix.f
  rw [e1]
  by_cases h : (s.size : Int) ≥ 9
  · rw [if_pos h, if_pos (by omega), if_pos (by omega), Option.bind_some]
    split
    · exact ⟨_, rfl, by rw [ByteArray.size_extract]; omega⟩
    · exact ⟨s, rfl, Nat.le_refl _⟩
  · rw [if_neg h, Option.bind_some, if_neg (by simp)]
    exact ⟨s, rfl, Nat.le_refl _⟩
theorem pre_yes (l : List UInt8) : strings_TrimPrefix.f (B (wB ++ l)) (⟨#[98, 117, 108, 108, 101, 116, 105, 110, 32]⟩ : ByteArray) = some (B l) := by
  have e1 : (((⟨#[98, 117, 108, 108, 101, 116, 105, 110, 32]⟩ : ByteArray)).size : Int) = 9 := rfl
  have e2 : ((B (wB ++ l)).size : Int) = 9 + (l.length : Int) := by rw [B_size, List.length_append, wB_len]; omega
  have e3 : (B (wB ++ l)).extract 0 ((9 : Int)).toNat = B wB := B_ext2 _ _ _ _ (by rfl)
  have e4 : (B (wB ++ l)).extract ((9 : Int)).toNat (B (wB ++ l)).size = B l := B_ext2 _ _ _ _ (by rw [B_size]; show l = (l).take _; rw [List.length_append, wB_len, show 9 + l.length - (9 : Int).toNat = l.length from by simp, List.take_length])
  unfold strings_TrimPrefix.f stringslite_TrimPrefix.f stringslite_HasPrefix.f
  rw [e1, if_pos (by omega), if_pos (by omega), if_pos (by omega), e3, kB, Option.bind_some, if_pos (by simp), if_pos (by omega), if_pos (by omega), e4, Option.bind_some]
theorem read2 (k : Nat) (s0 s1 : ByteArray) (h0 : s0.size ≤ 281474976710656) (h1 : s1.size ≤ 281474976710656) :
    qu.f (k + 3) [s0, s1] = some (if ((pIntL s0.data.toList).2 && (pIntL s1.data.toList).2) = true then ([(pIntL s0.data.toList).1, (pIntL s1.data.toList).1], true) else ([], false)) := by
  have step : ∀ (k : Nat) (x4 : List Int) (n : Nat) (s : ByteArray), n < 2 → x4.length = 2 → rdOf ByteArray.empty [s0, s1] (n : Int) = s → s.size ≤ 281474976710656 →
      qu.l0 (k + 1) x4 [s0, s1] 2 (n : Int) = if (pIntL s.data.toList).2 = true then qu.l0 k (x4.set n (pIntL s.data.toList).1) [s0, s1] 2 ((n : Int) + 1) else some ([], false) := by
    intro k x4 n s hn h4 e hs
    rw [qu.l0, if_pos (by omega), if_pos (by omega), if_pos (by simp only [List.length_cons, List.length_nil]; omega), e]
    unfold impl_ParseInt.f
    rw [if_pos hs, Option.bind_some]
    by_cases h : (pIntL s.data.toList).2 = true
    · rw [if_pos h, if_pos h, if_pos (by omega), Int.toNat_natCast, wrap_id (by omega) (by omega)]
    · rw [if_neg h, if_neg h]
  unfold qu.f
  rw [if_pos (by simp only [List.length_cons, List.length_nil]; omega), if_pos (by simp only [List.length_cons, List.length_nil]; omega)]
  have e0 : (List.replicate ((([s0, s1] : List ByteArray).length : Int) : Int).toNat (0 : Int)) = [0, 0] := rfl
  have el : (([s0, s1] : List ByteArray).length : Int) = 2 := rfl
  rw [e0, el]
  have t0 := step (k + 2) [0, 0] 0 s0 (by omega) rfl rfl h0
  have t1 := step (k + 1) [(pIntL s0.data.toList).1, 0] 1 s1 (by omega) rfl rfl h1
  have t4 : ∀ x, qu.l0 (k + 1) x [s0, s1] 2 2 = some (x, true) := fun x => by rw [qu.l0, if_neg (by omega)]
  refine t0.trans ?_
  cases (pIntL s0.data.toList).2 with
  | false => rfl
  | true =>
    rw [if_pos rfl, Bool.true_and]
    refine t1.trans ?_
    cases (pIntL s1.data.toList).2 with
    | false => rfl
    | true => rw [if_pos rfl, if_pos rfl]; exact t4 _
theorem rdOf_nat (l : List ByteArray) (i : Nat) (hi : i < l.length) : ∃ x ∈ l, rdOf ByteArray.empty l (i : Int) = x :=
  ⟨l[i], List.getElem_mem hi, by show l.getD (i : Int).toNat _ = _; rw [Int.toNat_natCast, getD_lt _ _ _ hi]⟩
theorem rbl_total (s : ByteArray) (lines : List ByteArray) (n h : Int) (hl : lines.length ≤ 1000000) (hz : ∀ x ∈ lines, x.size ≤ 1000000) : ∃ r, GB s r ∧ Evt fun k => qh.l0 k s lines (lines.length : Int) 0 n h [] = some r := by
  refine evt_loop_ex lines.length (fun k (ws : List S25) i => qh.l0 k s lines (lines.length : Int) i n h ws) (GB s) (fun i ws => ws.length ≤ i) ?_ ?_ [] (by simp)
  · rintro i ws hi hw
    obtain ⟨x, hx, ex⟩ := rdOf_nat lines i hi
    obtain ⟨⟨b0, b1, b2, b3, b4, b5, ok⟩, e, _⟩ := pw_total x (by have := hz x hx; omega)
    cases ok with
    | false =>
      refine .inr ⟨_, GB.zero s, Evt.succ (Evt.all fun k => ?_)⟩
      show qh.l0 (k + 1) s lines (lines.length : Int) (i : Int) n h ws = _
      rw [qh.l0, if_pos (by omega), if_pos (by omega), if_pos (by omega), ex, e, Option.bind_some, if_neg (by simp)]
    | true =>
      refine .inl ⟨ws ++ [⟨b0, b1, b2, b3, b4, b5⟩], by simp; omega, 1, Evt.all fun k => ?_⟩
      show qh.l0 (k + 1) s lines (lines.length : Int) (i : Int) n h ws = _
      rw [qh.l0, if_pos (by omega), if_pos (by omega), if_pos (by omega), ex, e, Option.bind_some, if_pos rfl, if_pos (by omega), wrap_id (by omega) (by omega)]
  · rintro ws hw
    obtain ⟨b, hb, hB⟩ := validB_impl n h ws (by omega)
    cases b with
    | false =>
      refine ⟨_, GB.zero s, Evt.succ (hB.mono fun k hk => ?_)⟩
      show qh.l0 (k + 1) s lines (lines.length : Int) (lines.length : Int) n h ws = _
      rw [qh.l0, if_neg (by omega), hk, Option.bind_some, if_neg (by simp)]
    | true =>
      have v := hb.1 rfl
      have ht := text_impl v
      by_cases e : (B (sealL (bodyL n h ws))).toList = s.toList
      · refine ⟨_, GB.yes v e, Evt.succ ((hB.and ht).mono fun k hk => ?_)⟩
        show qh.l0 (k + 1) s lines (lines.length : Int) (lines.length : Int) n h ws = _
        rw [qh.l0, if_neg (by omega), hk.1, Option.bind_some, if_pos rfl, hk.2, Option.bind_some, if_pos e]
      · refine ⟨_, GB.zero s, Evt.succ ((hB.and ht).mono fun k hk => ?_)⟩
        show qh.l0 (k + 1) s lines (lines.length : Int) (lines.length : Int) n h ws = _
        rw [qh.l0, if_neg (by omega), hk.1, Option.bind_some, if_pos rfl, hk.2, Option.bind_some, if_neg e]
theorem split10 (l : List UInt8) (h : l.length < 4294967281) : strings_Split.f (B l) (⟨#[10]⟩ : ByteArray) = some ((Txt.splitOn 10 l).map B) := by
  unfold strings_Split.f
  rw [if_pos ⟨by rw [B_size]; exact h, by decide⟩]
  exact congrArg some (splitB_eq (B l) 10)
theorem rb_j0 (s : ByteArray) (t : List UInt8) (ht : t.length ≤ 4000) : ∃ r, GB s r ∧ Evt fun k => qh.j0 k s (B (t ++ [10])) false = some r := by
  have len := splitOn_count 10 t
  have pos := split_pos 10 t
  obtain ⟨p, e0, hp⟩ := rd_split 10 t 0 pos
  obtain ⟨c1, c2, c3⟩ := cut_some (B p) (⟨#[32, 97, 116, 32, 104, 111, 117, 114, 32]⟩ : ByteArray) (by rw [B_size]; omega)
  rw [B_size] at c2 c3
  generalize cutL (B p) (⟨#[32, 97, 116, 32, 104, 111, 117, 114, 32]⟩ : ByteArray) = c at c1 c2 c3
  obtain ⟨u, hu, zu⟩ := pre_tot c.1 (by omega)
  have r2 := fun k => read2 k u c.2.1 (by omega) (by omega)
  have ln : (((Txt.splitOn 10 t).map B).length : Int) = ((Txt.splitOn 10 t).length : Int) := by rw [List.length_map]
  by_cases q : ((pIntL u.data.toList).2 && (pIntL c.2.1.data.toList).2) = true
  · simp only [if_pos q] at r2
    obtain ⟨r, g, hr⟩ := rbl_total s (((Txt.splitOn 10 t).map B).drop 1) (pIntL u.data.toList).1 (pIntL c.2.1.data.toList).1 (by rw [List.length_drop, List.length_map]; omega) (fun x hx => by
      obtain ⟨y, hy, rfl⟩ := List.mem_map.1 (List.mem_of_mem_drop hx)
      have := splitOn_len 10 t y hy
      rw [B_size]; omega)
    refine ⟨r, g, Evt.add 4 (hr.shift.shift.shift.mono fun k hk => ?_)⟩
    show qh.j0 (k + 3 + 1) s (B (t ++ [10])) false = _
    rw [qh.j0, if_neg (by simp), trim_suf t (by omega), Option.bind_some, split10 t (by omega), Option.bind_some, if_pos (by omega), show (0 : Int) = ((0 : Nat) : Int) from rfl, e0, c1, Option.bind_some, hu, Option.bind_some, r2 k, Option.bind_some, if_pos rfl]
    dsimp only
    rw [if_pos (by simp only [List.length_cons, List.length_nil]; omega), if_pos (by simp only [List.length_cons, List.length_nil]; omega), if_pos (by omega), Option.bind_some]
    exact hk
  · simp only [if_neg q] at r2
    refine ⟨_, GB.zero s, Evt.add 4 (Evt.all fun k => ?_)⟩
    show qh.j0 (k + 3 + 1) s (B (t ++ [10])) false = _
    rw [qh.j0, if_neg (by simp), trim_suf t (by omega), Option.bind_some, split10 t (by omega), Option.bind_some, if_pos (by omega), show (0 : Int) = ((0 : Nat) : Int) from rfl, e0, c1, Option.bind_some, hu, Option.bind_some, r2 k, Option.bind_some, if_neg (by simp)]
theorem rb_zero (s t : ByteArray) : Evt fun k => qh.j0 k s t true = some (0, 0, [], false) := Evt.succ (Evt.all fun k => by show qh.j0 (k + 1) s t true = _; rw [qh.j0, if_pos rfl])
theorem rb_total (s : ByteArray) (hs : s.size ≤ 1048576) : ∃ r, GB s r ∧ Evt fun k => qh.f k s = some r := by
  obtain ⟨⟨t, ok⟩, g, hv⟩ := ver_impl s hs
  cases ok with
  | false =>
    refine ⟨_, GB.zero s, (hv.and (rb_zero s t)).mono fun k hk => ?_⟩
    unfold qh.f
    rw [hk.1, Option.bind_some, if_neg (by simp)]; exact hk.2
  | true =>
    obtain ⟨l, e, _, h4, _⟩ := g.1 rfl
    have hl := sealL_len l
    dsimp only at e
    subst e
    obtain ⟨b, hb, hB⟩ := has_suf l (by omega)
    cases b with
    | false =>
      refine ⟨_, GB.zero s, (hv.and (rb_zero s (B l))).mono fun k hk => ?_⟩
      unfold qh.f
      rw [hk.1, Option.bind_some, if_pos rfl, hb, Option.bind_some]; exact hk.2
    | true =>
      obtain ⟨t, rfl⟩ := hB rfl
      obtain ⟨r, gr, hr⟩ := rb_j0 s t (by simp at hl; omega)
      refine ⟨r, gr, (hv.and hr).mono fun k hk => ?_⟩
      unfold qh.f
      rw [hk.1, Option.bind_some, if_pos rfl, hb, Option.bind_some]; exact hk.2
theorem occ8 (n : Int) (hn : 0 ≤ n) (rest : List UInt8) (j : Nat) (hj : j < (wB ++ Lib.itoa n).length) : Lib.occAt (wB ++ Lib.itoa n ++ wH ++ rest) wH j = false := by
  rcases Bool.eq_false_or_eq_true (Lib.occAt (wB ++ Lib.itoa n ++ wH ++ rest) wH j) with h1 | h1
  · exfalso
    have h2 := Lib.occAt_head (c := 32) rfl h1
    rw [List.append_assoc, List.getElem?_append_left hj] at h2
    have h3 : j = 8 := by
      rcases Nat.lt_or_ge j 9 with h | h
      · rw [List.getElem?_append_left (by rw [wB_len]; exact h)] at h2
        have : j = 0 ∨ j = 1 ∨ j = 2 ∨ j = 3 ∨ j = 4 ∨ j = 5 ∨ j = 6 ∨ j = 7 ∨ j = 8 := by omega
        rcases this with rfl | rfl | rfl | rfl | rfl | rfl | rfl | rfl | rfl
        all_goals first | rfl | exact absurd h2 (by decide)
      · rw [List.getElem?_append_right (by rw [wB_len]; exact h)] at h2
        exact absurd (List.mem_of_getElem? h2) (Txt.not_mem_itoa hn 32 (by decide))
    subst h3
    have hp := itoa_pos n hn
    have hd : ∀ c ∈ Lib.itoa n, c ≠ 97 := fun c hc e => by subst e; exact Txt.not_mem_itoa hn 97 (by decide) hc
    cases hi : Lib.itoa n with
    | nil => rw [hi] at hp; simp at hp
    | cons d q =>
      rw [hi] at h1 hd
      have h97 := hd d (by simp)
      have e : (wB ++ (d :: q) ++ wH ++ rest).drop 8 = 32 :: d :: (q ++ wH ++ rest) := by simp [wB]
      unfold Lib.occAt at h1
      rw [e] at h1
      simp [wH, Ne.symm h97] at h1
  · exact h1
theorem head_cut (n h : Int) (hn : 1 ≤ n ∧ n ≤ 999) (hh : 0 ≤ h ∧ h ≤ 240) : strings_Cut.f (B (headL n h)) (⟨#[32, 97, 116, 32, 104, 111, 117, 114, 32]⟩ : ByteArray) = some (B (wB ++ Lib.itoa n), B (Lib.itoa h), true) := by
  have hle := head_le n h hn hh
  have hi : Lib.index (wB ++ Lib.itoa n ++ wH ++ Lib.itoa h) wH = ((wB ++ Lib.itoa n).length : Int) :=
    Lib.index_first (by simp only [List.length_append]; omega) (Txt.occ_yes _ _ _) (fun j hj => occ8 n (by omega) _ j hj)
  have hc : Lib.cut (headL n h) wH = (wB ++ Lib.itoa n, Lib.itoa h, true) := by
    unfold Lib.cut headL
    rw [hi, if_pos (by omega), Int.toNat_natCast]
    have e1 : (wB ++ Lib.itoa n ++ wH ++ Lib.itoa h).take (wB ++ Lib.itoa n).length = wB ++ Lib.itoa n := by rw [List.append_assoc, List.take_left]
    have e2 : (wB ++ Lib.itoa n ++ wH ++ Lib.itoa h).drop ((wB ++ Lib.itoa n).length + wH.length) = Lib.itoa h := by rw [← List.length_append, List.drop_left]
    rw [e1, e2]
  unfold strings_Cut.f cutL
  rw [if_pos (by rw [B_size]; omega), kH, B_data, B_data, hc]
theorem rb_text {n h : Int} {ws : List S25} (v : VB n h ws) : Evt fun k => qh.f k (B (sealL (bodyL n h ws))) = some (n, h, ws, true) := by
  obtain ⟨b35, bl, bs⟩ := body_ok v
  obtain ⟨t, et, hs⟩ := body_trim v
  have hv := ver_impl_seal (bodyL n h ws) b35 bs
  obtain ⟨hn, hh, hc⟩ := v
  have v : VB n h ws := ⟨hn, hh, hc⟩
  have tl : t.length ≤ 700 := by have := congrArg List.length et; simp at this; omega
  have w12 := hc.1.1
  have sz : ∀ n : Int, 0 ≤ n → n < 1000 → (B (Lib.itoa n)).size ≤ 281474976710656 := fun n h0 h1 => by have := itoa_le n h0 h1; rw [B_size]; omega
  have r2 := fun k => read2 k (B (Lib.itoa n)) (B (Lib.itoa h)) (sz n (by omega) (by omega)) (sz h (by omega) (by omega))
  rw [pInt_itoa n (by omega) (by omega), pInt_itoa h (by omega) (by omega)] at r2
  have main : Evt fun k => qh.l0 k (B (sealL (bodyL n h ws))) ((ws.map lineS).map B) (((ws.map lineS).map B).length : Int) 0 n h [] = some (n, h, ws, true) := by
    have len : ((ws.map lineS).map B).length = ws.length := by simp
    refine evt_loop0 ((ws.map lineS).map B).length (fun k (a : List S25) i => qh.l0 k _ ((ws.map lineS).map B) (((ws.map lineS).map B).length : Int) i n h a) _ (fun i a => a = ws.take i) ?_ ?_ [] (by simp)
    · rintro i a hi rfl
      have hi' : i < ws.length := by omega
      have vx := hc.1.2.1 i hi'
      have ex : rdOf ByteArray.empty ((ws.map lineS).map B) (i : Int) = B (lineS (ws.getD i z25)) := by
        show ((ws.map lineS).map B).getD (i : Int).toNat _ = _
        rw [Int.toNat_natCast, getD_lt _ _ _ hi, List.getElem_map, List.getElem_map, getD_lt _ _ _ hi']
      have ep : impl_ParseWarningLine.f (B (lineS (ws.getD i z25))) = _ := pw_line vx
      refine .inl ⟨_, rfl, 1, Evt.all fun k => ?_⟩
      show qh.l0 (k + 1) _ ((ws.map lineS).map B) (((ws.map lineS).map B).length : Int) (i : Int) n h (ws.take i) = _
      rw [qh.l0, if_pos (by omega), if_pos (by omega), if_pos (by omega), ex, ep, Option.bind_some, if_pos rfl, if_pos (by rw [List.length_take]; omega), wrap_id (by omega) (by omega), take_snoc ws i hi']
    · rintro a rfl
      rw [len, List.take_length]
      obtain ⟨b, hb, hB⟩ := validB_impl n h ws (by omega)
      obtain rfl : b = true := hb.2 v
      refine Evt.succ ((hB.and (text_impl v)).mono fun k hk => ?_)
      show qh.l0 (k + 1) _ ((ws.map lineS).map B) (ws.length : Int) (ws.length : Int) n h ws = _
      rw [qh.l0, if_neg (by omega), hk.1, Option.bind_some, if_pos rfl, hk.2, Option.bind_some, if_pos rfl]
  refine Evt.add 4 (((hv.shift.shift.shift.shift).and main.shift.shift.shift).mono fun k hk => ?_)
  show qh.f (k + 4) _ = _
  unfold qh.f
  rw [hk.1, Option.bind_some, if_pos rfl, et, suf_yes t (by omega), Option.bind_some, ← et]
  show qh.j0 (k + 3 + 1) _ _ false = _
  have ln : ((headL n h :: ws.map lineS).map B).length = ws.length + 1 := by simp
  rw [qh.j0, if_neg (by simp), et, trim_suf t (by omega), ← et, Option.bind_some, split10 t (by omega), Option.bind_some, hs, if_pos (by omega), show rdOf ByteArray.empty ((headL n h :: ws.map lineS).map B) 0 = B (headL n h) from rfl, head_cut n h hn hh, Option.bind_some, pre_yes, Option.bind_some, r2 k, Option.bind_some]
  dsimp only
  simp only [Bool.and_self, if_true]
  rw [if_pos (by simp), if_pos (by simp), if_pos (by omega), Option.bind_some]
  exact hk.2
theorem warn_at (l : List Int) (hb : ∀ x ∈ l, 0 ≤ x ∧ x ≤ 255) (p s : Int) (h0 : 0 ≤ p) (h1 : p ≤ 1000000) : ∃ a0 a1 a2 a3 a4 a5 p' s', spec_l1Cur_warning.f l p s = some (a0, a1, a2, a3, a4, a5, p', s') ∧ p ≤ p' ∧ p' ≤ p + 16 := by
  unfold spec_l1Cur_warning.f
  obtain ⟨v1, p1, s1, e1, x1, y1, z1, u1⟩ := pick_ok l hb p s 30 (by omega) (by omega) (by omega)
  obtain ⟨v2, p2, s2, e2, x2, y2, z2, u2⟩ := pick_ok l hb p1 s1 9 (by omega) (by omega) (by omega)
  obtain ⟨v3, p3, s3, e3, x3, y3, z3, u3⟩ := pick_ok l hb p2 s2 3 (by omega) (by omega) (by omega)
  obtain ⟨v4, p4, s4, e4, x4, y4, z4, u4⟩ := pick_ok l hb p3 s3 3 (by omega) (by omega) (by omega)
  obtain ⟨v5, p5, s5, e5, x5, y5, z5, u5⟩ := pick_ok l hb p4 s4 3 (by omega) (by omega) (by omega)
  obtain ⟨v6, p6, s6, e6, x6, y6, z6, u6⟩ := pick_ok l hb p5 s5 12 (by omega) (by omega) (by omega)
  obtain ⟨v7, p7, s7, e7, x7, y7, z7, u7⟩ := pick_ok l hb p6 s6 24 (by omega) (by omega) (by omega)
  obtain ⟨w0, q0, t0, f0, g0, h0', _⟩ := among_ok l hb p7 s7 (by omega) (by omega) [0, 999, 1000] (by decide)
  obtain ⟨w1, q1, t1, f1, g1, h1', _⟩ := among_ok l hb p7 s7 (by omega) (by omega) [0, 5, 6] (by decide)
  obtain ⟨w2, q2, t2, f2, g2, h2, _⟩ := among_ok l hb p7 s7 (by omega) (by omega) [0, 4] (by decide)
  obtain ⟨w3, q3, t3, f3, g3, h3, _⟩ := among_ok l hb p7 s7 (by omega) (by omega) [0, 9, 10] (by decide)
  obtain ⟨w4, q4, t4, f4, g4, h4, _⟩ := among_ok l hb p7 s7 (by omega) (by omega) [v1, 240, 241] (by simp)
  rw [e1, Option.bind_some]; dsimp only
  rw [e2, Option.bind_some]; dsimp only
  rw [e3, Option.bind_some]; dsimp only
  rw [e4, Option.bind_some]; dsimp only
  rw [e5, Option.bind_some]; dsimp only
  rw [e6, Option.bind_some]; dsimp only
  rw [e7, Option.bind_some]; dsimp only
  have fin : ∀ {x : Option (Int × Int × Int × Int × Int × Int × Int × Int)} (a0 a1 a2 a3 a4 a5 p' s' : Int), x = some (a0, a1, a2, a3, a4, a5, p', s') → p ≤ p' ∧ p' ≤ p + 16 → ∃ a0 a1 a2 a3 a4 a5 p' s', x = some (a0, a1, a2, a3, a4, a5, p', s') ∧ p ≤ p' ∧ p' ≤ p + 16 := fun a0 a1 a2 a3 a4 a5 p' s' e h => ⟨a0, a1, a2, a3, a4, a5, p', s', e, h⟩
  by_cases k0 : v7 = 0
  · rw [if_pos k0, f0, Option.bind_some]; exact fin _ _ _ _ _ _ q0 _ rfl ⟨by omega, by omega⟩
  · rw [if_neg k0]
    by_cases k1 : v7 = 1
    · rw [if_pos k1, f1, Option.bind_some]; exact fin _ _ _ _ _ _ q1 _ rfl ⟨by omega, by omega⟩
    · rw [if_neg k1]
      by_cases k2 : v7 = 2
      · rw [if_pos k2, f2, Option.bind_some]; exact fin _ _ _ _ _ _ q2 _ rfl ⟨by omega, by omega⟩
      · rw [if_neg k2]
        by_cases k3 : v7 = 3
        · rw [if_pos k3, f3, Option.bind_some]; exact fin _ _ _ _ _ _ q3 _ rfl ⟨by omega, by omega⟩
        · rw [if_neg k3]
          by_cases k4 : v7 = 4
          · rw [if_pos k4, f4, Option.bind_some]; exact fin _ _ _ _ _ _ q4 _ rfl ⟨by omega, by omega⟩
          · rw [if_neg k4]; exact fin _ _ _ _ _ _ p7 _ rfl ⟨by omega, by omega⟩
theorem warns1 (l : List Int) (hb : ∀ x ∈ l, 0 ≤ x ∧ x ≤ 255) : ∀ (d i : Nat) (xs : List S25) (p s : Int), i + d = 14 → xs.length ≤ 1000 → 0 ≤ p → p + 2 * d ≤ 900000 →
    ∃ r : List S25 × Int × Int, (r.1.length ≤ xs.length + d ∧ p ≤ r.2.1 ∧ r.2.1 ≤ p + 2 * d + 2) ∧ Evt fun k => qm.l1 k xs (i : Int) l p s = some r := by
  intro d
  induction d with
  | zero =>
    intro i xs p s hi hx h0 h1
    obtain ⟨v, p1, s1, e1, x1, y1, z1, u1⟩ := pick_ok l hb p s 2 (by omega) (by omega) (by omega)
    refine ⟨(xs, p1, s1), ⟨by dsimp only; omega, by dsimp only; omega, by dsimp only; omega⟩, Evt.succ (Evt.all fun k => ?_)⟩
    show qm.l1 (k + 1) xs (i : Int) l p s = _
    rw [qm.l1, e1, Option.bind_some]; dsimp only
    by_cases c : (xs.length : Int) < wrap64 (12 + v)
    · rw [if_pos c, if_neg (by omega)]
    · rw [if_neg c]
  | succ d ih =>
    intro i xs p s hi hx h0 h1
    obtain ⟨v, p1, s1, e1, x1, y1, z1, u1⟩ := pick_ok l hb p s 2 (by omega) (by omega) (by omega)
    by_cases c : (xs.length : Int) < wrap64 (12 + v)
    · obtain ⟨r, ⟨g1, g2, g3⟩, e⟩ := ih (i + 1) (xs ++ [⟨wrap64 (100 + (i : Int)), 5, 1, 9, wrap64 (10 * (i : Int)), wrap64 ((wrap64 (10 * (i : Int))) + 5)⟩]) p1 s1 (by omega) (by rw [List.length_append, List.length_singleton]; rw [wrap_id (by omega) (by omega)] at c; omega) (by omega) (by omega)
      rw [List.length_append, List.length_singleton] at g1
      refine ⟨r, ⟨by omega, by omega, by omega⟩, Evt.succ (e.mono fun k hk => ?_)⟩
      show qm.l1 (k + 1) xs (i : Int) l p s = _
      rw [qm.l1, e1, Option.bind_some]; dsimp only
      rw [if_pos c, if_pos (by omega), Option.bind_some, if_pos (by rw [List.length_singleton]; omega), wrap_id (x := (i : Int) + 1) (by omega) (by omega)]
      exact hk
    · refine ⟨(xs, p1, s1), ⟨by dsimp only; omega, by dsimp only; omega, by dsimp only; omega⟩, Evt.succ (Evt.all fun k => ?_)⟩
      show qm.l1 (k + 1) xs (i : Int) l p s = _
      rw [qm.l1, e1, Option.bind_some]; dsimp only
      rw [if_neg c]
theorem warns0 (l : List Int) (hb : ∀ x ∈ l, 0 ≤ x ∧ x ≤ 255) : ∀ (d : Nat) (xs : List S25) (a p s : Int), d ≤ 100 → xs.length + d ≤ 200 → 0 ≤ p → p + 18 * d ≤ 800000 →
    ∃ r : List S25 × Int × Int, (r.1.length ≤ xs.length + d + 14 ∧ p ≤ r.2.1 ∧ r.2.1 ≤ p + 18 * d + 40) ∧ Evt fun k => qm.l0 k xs a (d : Int) l p s = some r := by
  intro d
  induction d with
  | zero =>
    intro xs a p s hd hx h0 h1
    obtain ⟨v, p1, s1, e1, x1, y1, z1, u1⟩ := pick_ok l hb p s 24 (by omega) (by omega) (by omega)
    by_cases c0 : v = 0
    · obtain ⟨a0, a1, a2, a3, a4, a5, q, t, f, g1, g2⟩ := warn_at l hb p1 s1 (by omega) (by omega)
      refine ⟨(xs ++ [⟨a0, a1, a2, a3, a4, a5⟩], q, t), ⟨by simp, by dsimp only; omega, by dsimp only; omega⟩, Evt.succ (Evt.all fun k => ?_)⟩
      show qm.l0 (k + 1) xs a ((0 : Nat) : Int) l p s = _
      rw [qm.l0, if_neg (by omega), e1, Option.bind_some]; dsimp only
      rw [if_pos c0, f, Option.bind_some]; dsimp only
      rw [Option.bind_some, if_pos (by rw [List.length_singleton]; omega)]
    · by_cases c1 : v = 1
      · obtain ⟨r, ⟨g1, g2, g3⟩, e⟩ := warns1 l hb 14 0 xs p1 s1 (by omega) (by omega) (by omega) (by omega)
        refine ⟨r, ⟨by omega, by omega, by omega⟩, Evt.succ (e.mono fun k hk => ?_)⟩
        show qm.l0 (k + 1) xs a ((0 : Nat) : Int) l p s = _
        rw [qm.l0, if_neg (by omega), e1, Option.bind_some]; dsimp only
        rw [if_neg c0, if_pos c1]; exact hk
      · refine ⟨(xs, p1, s1), ⟨by dsimp only; omega, by dsimp only; omega, by dsimp only; omega⟩, Evt.succ (Evt.all fun k => ?_)⟩
        show qm.l0 (k + 1) xs a ((0 : Nat) : Int) l p s = _
        rw [qm.l0, if_neg (by omega), e1, Option.bind_some]; dsimp only
        rw [if_neg c0, if_neg c1]
  | succ d ih =>
    intro xs a p s hd hx h0 h1
    obtain ⟨a0, a1, a2, a3, a4, a5, q, t, f, g1, g2⟩ := warn_at l hb p s (by omega) (by omega)
    obtain ⟨v, p1, s1, e1, x1, y1, z1, u1⟩ := pick_ok l hb q t 2 (by omega) (by omega) (by omega)
    have hw : wrap64 (((d + 1 : Nat) : Int) - 1) = (d : Int) := by rw [wrap_id (by omega) (by omega)]; omega
    obtain ⟨b, hbb, eb⟩ := slist_ok (xs ++ [⟨wrap64 ((wrap64 (a + 1)) + v), a1, a2, a3, a4, a5⟩])
    have run : ∀ (r : List S25 × Int × Int), (Evt fun k => (if b = true then (qm.l0 k (xs ++ [⟨wrap64 ((wrap64 (a + 1)) + v), a1, a2, a3, a4, a5⟩]) (wrap64 ((wrap64 (a + 1)) + v)) (d : Int) l p1 s1) else (qm.l0 k xs (wrap64 ((wrap64 (a + 1)) + v)) (d : Int) l p1 s1)) = some r) → Evt fun k => qm.l0 k xs a ((d + 1 : Nat) : Int) l p s = some r := by
      intro r hr
      refine Evt.succ ((eb.and hr).mono fun k hk => ?_)
      obtain ⟨k1, k2⟩ := hk
      show qm.l0 (k + 1) xs a ((d + 1 : Nat) : Int) l p s = _
      rw [qm.l0, if_pos (by omega), f, Option.bind_some]; dsimp only
      rw [e1, Option.bind_some]; dsimp only
      rw [Option.bind_some, if_pos (by simp only [List.length_nil]; omega), Option.bind_some, Option.bind_some, if_pos (by simp only [List.nil_append, List.length_singleton]; omega), Option.bind_some, List.nil_append, k1, Option.bind_some, hw]
      exact k2
    by_cases cb : b = true
    · obtain ⟨r, ⟨g3, g4, g5⟩, e⟩ := ih (xs ++ [⟨wrap64 ((wrap64 (a + 1)) + v), a1, a2, a3, a4, a5⟩]) (wrap64 ((wrap64 (a + 1)) + v)) p1 s1 (by omega) (by rw [List.length_append, List.length_singleton]; omega) (by omega) (by omega)
      rw [List.length_append, List.length_singleton] at g3
      exact ⟨r, ⟨by omega, by omega, by omega⟩, run r (e.mono fun k hk => by rw [if_pos cb]; exact hk)⟩
    · obtain ⟨r, ⟨g3, g4, g5⟩, e⟩ := ih xs (wrap64 ((wrap64 (a + 1)) + v)) p1 s1 (by omega) (by omega) (by omega) (by omega)
      exact ⟨r, ⟨by omega, by omega, by omega⟩, run r (e.mono fun k hk => by rw [if_neg cb]; exact hk)⟩
theorem warns (l : List Int) (hb : ∀ x ∈ l, 0 ≤ x ∧ x ≤ 255) (p s : Int) (h0 : 0 ≤ p) (h1 : p ≤ 700000) :
    ∃ r : List S25 × Int × Int, (r.1.length ≤ 21 ∧ p ≤ r.2.1 ∧ r.2.1 ≤ p + 200) ∧ Evt fun k => qm.f k l p s = some r := by
  obtain ⟨v, p1, s1, e1, x1, y1, z1, u1⟩ := pick_ok l hb p s 7 (by omega) (by omega) (by omega)
  obtain ⟨r, ⟨g1, g2, g3⟩, e⟩ := warns0 l hb v.toNat [] 0 p1 s1 (by omega) (by simp only [List.length_nil]; omega) (by omega) (by omega)
  simp only [List.length_nil] at g1
  refine ⟨r, ⟨by omega, by omega, by omega⟩, e.mono fun k hk => ?_⟩
  unfold qm.f
  rw [e1, Option.bind_some]; dsimp only
  rw [show (v.toNat : Int) = v from by omega] at hk
  exact hk
theorem bull (l : List Int) (hb : ∀ x ∈ l, 0 ≤ x ∧ x ≤ 255) (p s : Int) (h0 : 0 ≤ p) (h1 : p ≤ 600000) :
    ∃ r : Int × Int × List S25 × Int × Int, (r.2.2.1.length ≤ 21 ∧ p ≤ r.2.2.2.1 ∧ r.2.2.2.1 ≤ p + 220) ∧ Evt fun k => qE.f k l p s = some r := by
  obtain ⟨v1, p1, s1, e1, x1, y1, z1, u1⟩ := pick_ok l hb p s 9 (by omega) (by omega) (by omega)
  obtain ⟨v2, p2, s2, e2, x2, y2, z2, u2⟩ := pick_ok l hb p1 s1 30 (by omega) (by omega) (by omega)
  obtain ⟨⟨ws, p3, s3⟩, ⟨g1, g2, g3⟩, e3⟩ := warns l hb p2 s2 (by omega) (by omega)
  dsimp only at g1 g2 g3
  obtain ⟨v4, p4, s4, e4, x4, y4, z4, u4⟩ := pick_ok l hb p3 s3 24 (by omega) (by omega) (by omega)
  obtain ⟨w0, q0, t0, f0, i0, j0, _⟩ := among_ok l hb p4 s4 (by omega) (by omega) [0, 999, 1000] (by decide)
  obtain ⟨w1, q1, t1, f1, i1, j1, _⟩ := among_ok l hb p4 s4 (by omega) (by omega) [(-1), 240, 241] (by decide)
  have go : ∀ (r : Int × Int × List S25 × Int × Int), (r.2.2.1.length ≤ 21 ∧ p ≤ r.2.2.2.1 ∧ r.2.2.2.1 ≤ p + 220) → (if v4 = 0 then some (w0, v2, ws, q0, t0) else if v4 = 1 then some (wrap64 (1 + v1), w1, ws, q1, t1) else some (wrap64 (1 + v1), v2, ws, p4, s4)) = some r → ∃ r : Int × Int × List S25 × Int × Int, (r.2.2.1.length ≤ 21 ∧ p ≤ r.2.2.2.1 ∧ r.2.2.2.1 ≤ p + 220) ∧ Evt fun k => qE.f k l p s = some r := by
    intro r hr he
    refine ⟨r, hr, e3.mono fun k hk => ?_⟩
    unfold qE.f
    rw [e1, Option.bind_some]; dsimp only
    rw [e2, Option.bind_some]; dsimp only
    rw [hk, Option.bind_some]; dsimp only
    rw [e4, Option.bind_some]; dsimp only
    rw [f0, f1, Option.bind_some, Option.bind_some]
    exact he
  by_cases c0 : v4 = 0
  · exact go (w0, v2, ws, q0, t0) ⟨by (try dsimp only); omega, by (try dsimp only); omega, by (try dsimp only); omega⟩ (if_pos c0)
  · by_cases c1 : v4 = 1
    · exact go (wrap64 (1 + v1), w1, ws, q1, t1) ⟨by (try dsimp only); omega, by (try dsimp only); omega, by (try dsimp only); omega⟩ (by rw [if_neg c0, if_pos c1])
    · exact go (wrap64 (1 + v1), v2, ws, p4, s4) ⟨by (try dsimp only); omega, by (try dsimp only); omega, by (try dsimp only); omega⟩ (by rw [if_neg c0, if_neg c1])
theorem drawB (l : List Int) (hb : ∀ x ∈ l, 0 ≤ x ∧ x ≤ 255) : ∃ r : Int × Int × List S25, r.2.2.length ≤ 21 ∧ Evt fun k => spec_DrawFormatBulletin.f k l = some r := by
  obtain ⟨⟨n, h, ws, p, s⟩, ⟨g1, _, _⟩, e⟩ := bull l hb 0 0 (by omega) (by omega)
  refine ⟨(n, h, ws), g1, e.mono fun k hk => ?_⟩
  unfold spec_DrawFormatBulletin.f spec_DrawIsValidBulletin.f
  rw [hk]; rfl
theorem one_at (l : List Int) (hb : ∀ x ∈ l, 0 ≤ x ∧ x ≤ 255) (p s a : Int) (h0 : 0 ≤ p) (h1 : p ≤ 1000000) (ha : 1 ≤ a) : ∃ b p' s', qC.f l p s a = some (b, p', s') ∧ p ≤ p' ∧ p' ≤ p + 2 := one_ok l hb p s a h0 (by omega) ha
theorem spoilt_at (l : List Int) (hb : ∀ x ∈ l, 0 ≤ x ∧ x ≤ 255) (p s : Int) (h0 : 0 ≤ p) (h1 : p ≤ 1000) (a b : ByteArray) (ha : a.size ≤ 1000) (hbs : 1 ≤ b.size ∧ b.size ≤ 100) :
    ∃ r p' s', spec_l1Cur_spoilt.f l p s a b = some (r, p', s') ∧ r.size ≤ 3000 ∧ p ≤ p' ∧ p' ≤ p + 6 := by
  unfold spec_l1Cur_spoilt.f
  by_cases he : a.toList = ([] : List UInt8)
  · rw [if_pos he, if_pos (by omega), if_pos (by omega)]
    exact ⟨_, _, _, rfl, by rw [ByteArray.size_extract]; omega, by omega, by omega⟩
  · have hp : 1 ≤ a.size := by
      rcases Nat.eq_zero_or_pos a.size with h | h
      · exact absurd (by rw [Lib.toList_data]; exact List.eq_nil_of_length_eq_zero (by simpa using h)) he
      · exact h
    obtain ⟨i, p1, s1, e1, x1, y1, z1, u1⟩ := pick_ok l hb p s (a.size : Int) h0 (by omega) (by omega)
    obtain ⟨j, p2, s2, e2, x2, y2, z2, u2⟩ := pick_ok l hb p1 s1 (b.size : Int) (by omega) (by omega) (by omega)
    obtain ⟨k, p3, s3, e3, x3, y3, z3, u3⟩ := pick_ok l hb p2 s2 3 (by omega) (by omega) (by omega)
    have c1 : ((b.extract j.toNat b.size).extract 0 1).size = 1 := by simp only [ByteArray.size_extract]; omega
    have c0 : (1 : Int) ≤ ((b.extract j.toNat b.size).size : Int) := by simp only [ByteArray.size_extract]; omega
    have c2 : (a.extract 0 i.toNat).size ≤ 1000 := by simp only [ByteArray.size_extract]; omega
    have c3 : ∀ m, (a.extract m a.size).size ≤ 1000 := fun m => by simp only [ByteArray.size_extract]; omega
    have w : wrap64 (i + 1) = i + 1 := wrap_id (by omega) (by omega)
    have c4 := c3 i.toNat
    have c5 := c3 (i + 1).toNat
    have b0 : p ≤ p3 := by omega
    have b1 : p3 ≤ p + 6 := by omega
    rw [if_neg he, e1, Option.bind_some]; dsimp only
    rw [e2, Option.bind_some]; dsimp only
    rw [if_pos z2, if_pos (by omega), if_pos (by omega), if_pos c0, e3, Option.bind_some]; dsimp only
    rw [w]
    by_cases k0 : k = 0
    · rw [if_pos k0, if_pos z1, if_pos (by omega), if_pos (by omega), if_pos (by rw [ByteArray.size_append]; omega)]
      exact ⟨_, _, _, rfl, by simp only [ByteArray.size_append]; omega, b0, b1⟩
    · rw [if_neg k0]
      by_cases k1 : k = 1
      · rw [if_pos k1, if_pos z1, if_pos (by omega), if_pos (by omega), if_pos (by omega), if_pos (by omega), if_pos (by rw [ByteArray.size_append]; omega)]
        exact ⟨_, _, _, rfl, by simp only [ByteArray.size_append]; omega, b0, b1⟩
      · rw [if_neg k1, if_pos z1, if_pos (by omega), if_pos (by omega), if_pos (by omega), if_pos (by omega)]
        exact ⟨_, _, _, rfl, by simp only [ByteArray.size_append]; omega, b0, b1⟩
theorem stands_tot (s : ByteArray) (c : Int) (hs : s.size ≤ 1000000) : ∃ b, Evt fun k => qI.f k s c = some b := by
  have go : ∀ (d i : Nat), i + d = s.size → ∃ b, Evt fun k => qI.l0 k s c (i : Int) = some b := by
    intro d
    induction d with
    | zero =>
      intro i hi
      refine ⟨false, Evt.succ (Evt.all fun k => ?_)⟩
      show qI.l0 (k + 1) s c (i : Int) = _
      rw [qI.l0, if_neg (by omega)]
    | succ d ih =>
      intro i hi
      by_cases h : bt s (i : Int) = c
      · refine ⟨true, Evt.succ (Evt.all fun k => ?_)⟩
        show qI.l0 (k + 1) s c (i : Int) = _
        rw [qI.l0, if_pos (by omega), if_pos (by omega), if_pos h]
      · obtain ⟨b, e⟩ := ih (i + 1) (by omega)
        refine ⟨b, Evt.succ (e.mono fun k hk => ?_)⟩
        show qI.l0 (k + 1) s c (i : Int) = _
        rw [qI.l0, if_pos (by omega), if_pos (by omega), if_neg h, wrap_id (x := (i : Int) + 1) (by omega) (by omega)]
        exact hk
  exact go s.size 0 (by omega)
theorem read_j (l : List Int) (hb : ∀ x ∈ l, 0 ≤ x ∧ x ≤ 255) (p s : Int) (h0 : 0 ≤ p) (h1 : p ≤ 500) {n h : Int} {ws : List S25} (v : VB n h ws) :
    ∃ r, r.size ≤ 1048576 ∧ Evt fun k => qz.j0 k l p s n h ws = some r := by
  obtain ⟨n35, le7, le4⟩ := body_ok v
  obtain ⟨b1, p1, s1, e1, x1, y1⟩ := one_at l hb p s 4 h0 (by omega) (by omega)
  obtain ⟨r2, p2, s2, e2, z2, x2, y2⟩ := spoilt_at l hb p1 s1 (by omega) (by omega) (B (bodyL n h ws)) (⟨#[49, 32, 97, 10, 58]⟩ : ByteArray) (by rw [B_size]; omega) ⟨by decide, by decide⟩
  obtain ⟨b3, p3, s3, e3, x3, y3⟩ := one_at l hb p2 s2 2 (by omega) (by omega) (by omega)
  obtain ⟨b4, e4⟩ := stands_tot r2 35 (by omega)
  have e5 := seal_spec r2.data.toList (by have q : r2.data.toList.length = r2.size := (by simp); omega)
  rw [B_of] at e5
  have z5 : (B (sealL r2.data.toList)).size ≤ 1048576 := by
    rw [B_size]; unfold sealL
    have := sum_len r2.data.toList
    have : r2.data.toList.length = r2.size := by simp
    simp only [List.length_append, List.length_singleton]; omega
  have z0 : (B (sealL (bodyL n h ws))).size ≤ 1048576 := by rw [B_size]; omega
  have go : ∀ r : ByteArray, r.size ≤ 1048576 → (if b1 = true then (if b3 = true then (if b4 = true then some r2 else some (B (sealL r2.data.toList))) else some r2) else some (B (sealL (bodyL n h ws)))) = some r → ∃ r, r.size ≤ 1048576 ∧ Evt fun k => qz.j0 k l p s n h ws = some r := by
    intro r hr he
    refine ⟨r, hr, Evt.succ (((text_spec v).and ((ver_spec_seal _ n35 le4).and (e4.and e5))).mono fun k hk => ?_)⟩
    obtain ⟨k1, k2, k3, k4⟩ := hk
    show qz.j0 (k + 1) l p s n h ws = _
    rw [qz.j0, k1, Option.bind_some, e1, Option.bind_some]; dsimp only
    rw [k2, Option.bind_some]; dsimp only
    rw [e2, Option.bind_some]; dsimp only
    rw [e3, Option.bind_some]; dsimp only
    rw [k3, Option.bind_some, k4, Option.bind_some]
    exact he
  by_cases c1 : b1 = true
  · by_cases c3 : b3 = true
    · by_cases c4 : b4 = true
      · exact go r2 (by omega) (by rw [if_pos c1, if_pos c3, if_pos c4])
      · exact go _ z5 (by rw [if_pos c1, if_pos c3, if_neg c4])
    · exact go r2 (by omega) (by rw [if_pos c1, if_neg c3])
  · exact go _ z0 (by rw [if_neg c1])
theorem cons_nil : ConsL [] := ⟨⟨by simp, fun i hi => absurd hi (by simp), fun i _ hi => absurd hi (by simp)⟩, fun i j _ hi => absurd hi (by simp)⟩
theorem drawR (l : List Int) (hb : ∀ x ∈ l, 0 ≤ x ∧ x ≤ 255) : ∃ r, r.size ≤ 1048576 ∧ Evt fun k => qz.f k l = some r := by
  obtain ⟨⟨n, h, ws, p, s⟩, ⟨g1, g2, g3⟩, e⟩ := bull l hb 0 0 (by omega) (by omega)
  dsimp only at g1 g2 g3
  obtain ⟨b, hv, ev⟩ := validB_spec n h ws
  by_cases c : b = true
  · obtain ⟨r, hr, er⟩ := read_j l hb p s (by omega) (by omega) (hv.1 c)
    refine ⟨r, hr, (e.and (ev.and er)).mono fun k hk => ?_⟩
    obtain ⟨k1, k2, k3⟩ := hk
    unfold qz.f
    rw [k1, Option.bind_some]; dsimp only
    rw [k2, Option.bind_some, if_pos c]; exact k3
  · obtain ⟨r, hr, er⟩ := read_j l hb p s (by omega) (by omega) (n := 1) (h := 0) (ws := []) ⟨by omega, by omega, cons_nil⟩
    refine ⟨r, hr, (e.and (ev.and er)).mono fun k hk => ?_⟩
    obtain ⟨k1, k2, k3⟩ := hk
    unfold qz.f
    rw [k1, Option.bind_some]; dsimp only
    rw [k2, Option.bind_some, if_neg c]; exact k3
theorem chg3 (l : List Int) (hb : ∀ x ∈ l, 0 ≤ x ∧ x ≤ 255) (p s : Int) (h0 : 0 ≤ p) (h1 : p ≤ 400000) (a b c d : Int) (xs ys : List S25) (hx : xs.length ≤ 21) (hy : ys.length ≤ 21) :
    ∃ r : Int × Int × List S25 × Int × Int × List S25, (r.2.2.1.length ≤ 21 ∧ r.2.2.2.2.2.length ≤ 21) ∧ Evt fun k => qc.j3 k l p s a b xs c d ys = some r := by
  obtain ⟨b1, p1, s1, e1, x1, y1⟩ := one_at l hb p s 3 h0 (by omega) (by omega)
  by_cases c1 : b1 = true
  · obtain ⟨⟨n, h, ws, p2, s2⟩, ⟨g1, g2, g3⟩, e⟩ := bull l hb p1 s1 (by omega) (by omega)
    refine ⟨(a, b, xs, n, h, ws), ⟨hx, g1⟩, Evt.succ (e.mono fun k hk => ?_)⟩
    show qc.j3 (k + 1) l p s a b xs c d ys = _
    rw [qc.j3, e1, Option.bind_some]; dsimp only
    rw [if_pos c1, hk]; rfl
  · refine ⟨(a, b, xs, c, d, ys), ⟨hx, hy⟩, Evt.succ (Evt.all fun k => ?_)⟩
    show qc.j3 (k + 1) l p s a b xs c d ys = _
    rw [qc.j3, e1, Option.bind_some]; dsimp only
    rw [if_neg c1]
theorem chg2 (l : List Int) (hb : ∀ x ∈ l, 0 ≤ x ∧ x ≤ 255) (q : Bool) (p s : Int) (h0 : 0 ≤ p) (h1 : p ≤ 400000) (a b c d : Int) (xs ys : List S25) (hx : xs.length ≤ 21) (hy : ys.length ≤ 21) (hq : q = true → 1 ≤ ys.length) :
    ∃ r : Int × Int × List S25 × Int × Int × List S25, (r.2.2.1.length ≤ 21 ∧ r.2.2.2.2.2.length ≤ 21) ∧ Evt fun k => qc.j2 k q l p s a b xs c d ys = some r := by
  by_cases c1 : q = true
  · obtain ⟨r, hr, e⟩ := chg3 l hb p s h0 h1 a b c d xs (ys.drop (1 : Int).toNat) hx (by rw [List.length_drop]; omega)
    refine ⟨r, hr, Evt.succ (e.mono fun k hk => ?_)⟩
    show qc.j2 (k + 1) q l p s a b xs c d ys = _
    rw [qc.j2, if_pos c1, if_pos (by have := hq c1; omega)]; exact hk
  · obtain ⟨r, hr, e⟩ := chg3 l hb p s h0 h1 a b c d xs ys hx hy
    refine ⟨r, hr, Evt.succ (e.mono fun k hk => ?_)⟩
    show qc.j2 (k + 1) q l p s a b xs c d ys = _
    rw [qc.j2, if_neg c1]; exact hk
theorem chg1 (l : List Int) (hb : ∀ x ∈ l, 0 ≤ x ∧ x ≤ 255) (p s : Int) (h0 : 0 ≤ p) (h1 : p ≤ 300000) (a b c d : Int) (xs ys : List S25) (hx : xs.length ≤ 21) (hy : ys.length ≤ 21) :
    ∃ r : Int × Int × List S25 × Int × Int × List S25, (r.2.2.1.length ≤ 21 ∧ r.2.2.2.2.2.length ≤ 21) ∧ Evt fun k => qc.j1 k l p s a b xs c d ys = some r := by
  by_cases c1 : (ys.length : Int) > 0
  · obtain ⟨b1, p1, s1, e1, x1, y1⟩ := one_at l hb p s 3 h0 (by omega) (by omega)
    obtain ⟨r, hr, e⟩ := chg2 l hb b1 p1 s1 (by omega) (by omega) a b c d xs ys hx hy (fun _ => by omega)
    refine ⟨r, hr, Evt.succ (e.mono fun k hk => ?_)⟩
    show qc.j1 (k + 1) l p s a b xs c d ys = _
    rw [qc.j1, if_pos c1, e1, Option.bind_some]; exact hk
  · obtain ⟨r, hr, e⟩ := chg2 l hb false p s h0 (by omega) a b c d xs ys hx hy (fun h => absurd h (by decide))
    refine ⟨r, hr, Evt.succ (e.mono fun k hk => ?_)⟩
    show qc.j1 (k + 1) l p s a b xs c d ys = _
    rw [qc.j1, if_neg c1]; exact hk
theorem chg0 (l : List Int) (hb : ∀ x ∈ l, 0 ≤ x ∧ x ≤ 255) (q : Bool) (p s : Int) (h0 : 0 ≤ p) (h1 : p ≤ 200000) (a b c d : Int) (xs ys : List S25) (hx : xs.length ≤ 21) (hy : ys.length ≤ 21) (hq : q = true → 1 ≤ ys.length) :
    ∃ r : Int × Int × List S25 × Int × Int × List S25, (r.2.2.1.length ≤ 21 ∧ r.2.2.2.2.2.length ≤ 21) ∧ Evt fun k => qc.j0 k q l p s a b xs c d ys = some r := by
  by_cases c1 : q = true
  · obtain ⟨v, p1, s1, e1, x1, y1, z1, u1⟩ := pick_ok l hb p s (ys.length : Int) h0 (by omega) (by have := hq c1; omega)
    obtain ⟨r, hr, e⟩ := chg1 l hb p1 s1 (by omega) (by omega) a b c d xs (ys.set v.toNat (⟨(qa ys v).f0, (qa ys v).f1, wrap64 (1 + (Int.tmod ((qa ys v).f2) 3)), (qa ys v).f3, (qa ys v).f4, (qa ys v).f5⟩ : S25)) hx (by rw [List.length_set]; exact hy)
    refine ⟨r, hr, Evt.succ (e.mono fun k hk => ?_)⟩
    show qc.j0 (k + 1) q l p s a b xs c d ys = _
    rw [qc.j0, if_pos c1, e1, Option.bind_some]; dsimp only
    rw [if_pos z1, if_pos u1]; exact hk
  · obtain ⟨r, hr, e⟩ := chg1 l hb p s h0 (by omega) a b c d xs ys hx hy
    refine ⟨r, hr, Evt.succ (e.mono fun k hk => ?_)⟩
    show qc.j0 (k + 1) q l p s a b xs c d ys = _
    rw [qc.j0, if_neg c1]; exact hk
theorem drawC (l : List Int) (hb : ∀ x ∈ l, 0 ≤ x ∧ x ≤ 255) : ∃ r : Int × Int × List S25 × Int × Int × List S25, (r.2.2.1.length ≤ 21 ∧ r.2.2.2.2.2.length ≤ 21) ∧ Evt fun k => qc.f k l = some r := by
  obtain ⟨⟨n, h, ws, p, s⟩, ⟨g1, g2, g3⟩, e⟩ := bull l hb 0 0 (by omega) (by omega)
  dsimp only at g1 g2 g3
  by_cases c : (ws.length : Int) > 0
  · obtain ⟨b1, p1, s1, e1, x1, y1⟩ := one_at l hb p s 2 (by omega) (by omega) (by omega)
    obtain ⟨r, hr, er⟩ := chg0 l hb b1 p1 s1 (by omega) (by omega) n h (wrap64 (n + 1)) h ws ws g1 g1 (fun _ => by omega)
    refine ⟨r, hr, (e.and er).mono fun k hk => ?_⟩
    obtain ⟨k1, k2⟩ := hk
    unfold qc.f
    rw [k1, Option.bind_some]; dsimp only
    rw [Option.bind_some, List.nil_append, if_pos (by simp only [List.length_nil]; omega), Option.bind_some, if_pos c, e1, Option.bind_some]
    exact k2
  · obtain ⟨r, hr, er⟩ := chg0 l hb false p s (by omega) (by omega) n h (wrap64 (n + 1)) h ws ws g1 g1 (fun h => absurd h (by decide))
    refine ⟨r, hr, (e.and er).mono fun k hk => ?_⟩
    obtain ⟨k1, k2⟩ := hk
    unfold qc.f
    rw [k1, Option.bind_some]; dsimp only
    rw [Option.bind_some, List.nil_append, if_pos (by simp only [List.length_nil]; omega), Option.bind_some, if_neg c]
    exact k2
def Sm (xs : List S34) : Prop := ∀ x ∈ xs, x.f2.length ≤ 21
theorem Sm.snoc {xs : List S34} (h : Sm xs) {x : S34} (hx : x.f2.length ≤ 21) : Sm (xs ++ [x]) := by
  intro y hy
  rcases List.mem_append.1 hy with h' | h'
  · exact h y h'
  · obtain rfl := List.mem_singleton.1 h'; exact hx
theorem lat1 (l : List Int) (hb : ∀ x ∈ l, 0 ≤ x ∧ x ≤ 255) : ∀ (d i : Nat) (xs : List S34) (p s : Int), i + d = 12 → xs.length + d ≤ 1000 → Sm xs → 0 ≤ p → p + 2 * d ≤ 900000 →
    ∃ r : List S34, (r.length ≤ xs.length + d ∧ Sm r) ∧ Evt fun k => ql.l1 k xs (i : Int) l p s = some r := by
  intro d
  induction d with
  | zero =>
    intro i xs p s hi hx hs h0 h1
    obtain ⟨v, p1, s1, e1, x1, y1, z1, u1⟩ := pick_ok l hb p s 2 (by omega) (by omega) (by omega)
    refine ⟨xs, ⟨by omega, hs⟩, Evt.succ (Evt.all fun k => ?_)⟩
    show ql.l1 (k + 1) xs (i : Int) l p s = _
    rw [ql.l1, e1, Option.bind_some]; dsimp only
    by_cases c : (xs.length : Int) < wrap64 (10 + v)
    · rw [if_pos c, if_neg (by omega)]
    · rw [if_neg c]
  | succ d ih =>
    intro i xs p s hi hx hs h0 h1
    obtain ⟨v, p1, s1, e1, x1, y1, z1, u1⟩ := pick_ok l hb p s 2 (by omega) (by omega) (by omega)
    by_cases c : (xs.length : Int) < wrap64 (10 + v)
    · obtain ⟨r, ⟨g1, g2⟩, e⟩ := ih (i + 1) (xs ++ [⟨wrap64 (100 + (i : Int)), 0, []⟩]) p1 s1 (by omega) (by rw [List.length_append, List.length_singleton]; omega) (hs.snoc (by simp)) (by omega) (by omega)
      rw [List.length_append, List.length_singleton] at g1
      refine ⟨r, ⟨by omega, g2⟩, Evt.succ (e.mono fun k hk => ?_)⟩
      show ql.l1 (k + 1) xs (i : Int) l p s = _
      rw [ql.l1, e1, Option.bind_some]; dsimp only
      rw [if_pos c, if_pos (by omega), if_pos (by omega), wrap_id (x := (i : Int) + 1) (by omega) (by omega)]
      exact hk
    · refine ⟨xs, ⟨by omega, hs⟩, Evt.succ (Evt.all fun k => ?_)⟩
      show ql.l1 (k + 1) xs (i : Int) l p s = _
      rw [ql.l1, e1, Option.bind_some]; dsimp only
      rw [if_neg c]
theorem lat0 (l : List Int) (hb : ∀ x ∈ l, 0 ≤ x ∧ x ≤ 255) : ∀ (d : Nat) (xs : List S34) (p s : Int), xs.length + d ≤ 100 → Sm xs → 0 ≤ p → p + 220 * d ≤ 400000 →
    ∃ r : List S34, (r.length ≤ xs.length + d + 12 ∧ Sm r) ∧ Evt fun k => ql.l0 k xs (d : Int) l p s = some r := by
  intro d
  induction d with
  | zero =>
    intro xs p s hx hs h0 h1
    obtain ⟨b, p1, s1, e1, x1, y1⟩ := one_at l hb p s 24 (by omega) (by omega) (by omega)
    by_cases c : b = true
    · obtain ⟨r, ⟨g1, g2⟩, e⟩ := lat1 l hb 12 0 xs p1 s1 (by omega) (by omega) hs (by omega) (by omega)
      refine ⟨r, ⟨by omega, g2⟩, Evt.succ (e.mono fun k hk => ?_)⟩
      show ql.l0 (k + 1) xs ((0 : Nat) : Int) l p s = _
      rw [ql.l0, if_neg (by omega), e1, Option.bind_some]; dsimp only
      rw [if_pos c]; exact hk
    · refine ⟨xs, ⟨by omega, hs⟩, Evt.succ (Evt.all fun k => ?_)⟩
      show ql.l0 (k + 1) xs ((0 : Nat) : Int) l p s = _
      rw [ql.l0, if_neg (by omega), e1, Option.bind_some]; dsimp only
      rw [if_neg c]
  | succ d ih =>
    intro xs p s hx hs h0 h1
    obtain ⟨⟨n, h, ws, p1, s1⟩, ⟨g1, g2, g3⟩, e⟩ := bull l hb p s (by omega) (by omega)
    dsimp only at g1 g2 g3
    obtain ⟨r, ⟨i1, i2⟩, er⟩ := ih (xs ++ [⟨n, h, ws⟩]) p1 s1 (by rw [List.length_append, List.length_singleton]; omega) (hs.snoc g1) (by omega) (by omega)
    rw [List.length_append, List.length_singleton] at i1
    refine ⟨r, ⟨by omega, i2⟩, Evt.succ ((e.and er).mono fun k hk => ?_)⟩
    obtain ⟨k1, k2⟩ := hk
    show ql.l0 (k + 1) xs ((d + 1 : Nat) : Int) l p s = _
    rw [ql.l0, if_pos (by omega), k1, Option.bind_some]; dsimp only
    rw [if_pos (by omega), show wrap64 (((d + 1 : Nat) : Int) - 1) = (d : Int) by rw [wrap_id (by omega) (by omega)]; omega]
    exact k2
theorem drawL (l : List Int) (hb : ∀ x ∈ l, 0 ≤ x ∧ x ≤ 255) : ∃ r : List S34, (r.length ≤ 15 ∧ Sm r) ∧ Evt fun k => ql.f k l = some r := by
  obtain ⟨v, p1, s1, e1, x1, y1, z1, u1⟩ := pick_ok l hb 0 0 4 (by omega) (by omega) (by omega)
  obtain ⟨r, ⟨g1, g2⟩, e⟩ := lat0 l hb v.toNat [] p1 s1 (by simp only [List.length_nil]; omega) (fun x hx => absurd hx (by simp)) (by omega) (by omega)
  simp only [List.length_nil] at g1
  refine ⟨r, ⟨by omega, g2⟩, e.mono fun k hk => ?_⟩
  unfold ql.f
  rw [e1, Option.bind_some]; dsimp only
  rw [show (v.toNat : Int) = v from by omega] at hk
  exact hk
theorem fmt_same (n h : Int) (ws : List S25) (hl : ws.length ≤ 1000000000) :
    (VB n h ws ∧ (Evt fun k => qM.f k n h ws = some (B (sealL (bodyL n h ws)), true)) ∧ Evt fun k => spec_FormatBulletin.f k n h ws = some (B (sealL (bodyL n h ws)), true)) ∨
    (¬ VB n h ws ∧ (Evt fun k => qM.f k n h ws = some (⟨#[]⟩, false)) ∧ Evt fun k => spec_FormatBulletin.f k n h ws = some (⟨#[]⟩, false)) := by
  obtain ⟨b, hb, e⟩ := validB_impl n h ws hl
  obtain ⟨c, hc, f⟩ := validB_spec n h ws
  by_cases v : VB n h ws
  · refine .inl ⟨v, (e.and (text_impl v)).mono fun k hk => ?_, (f.and (text_spec v)).mono fun k hk => ?_⟩
    · obtain ⟨k1, k2⟩ := hk
      unfold qM.f
      rw [k1, Option.bind_some, if_pos (hb.2 v), k2]; rfl
    · obtain ⟨k1, k2⟩ := hk
      unfold spec_FormatBulletin.f
      rw [k1, Option.bind_some, if_pos (hc.2 v), k2]; rfl
  · refine .inr ⟨v, e.mono fun k hk => ?_, f.mono fun k hk => ?_⟩
    · unfold qM.f
      rw [hk, Option.bind_some, if_neg (fun q => v (hb.1 q))]
    · unfold spec_FormatBulletin.f
      rw [hk, Option.bind_some, if_neg (fun q => v (hc.1 q))]
theorem vWarnings_self (l : List S25) (hl : l.length ≤ 1000000) : Evt fun k => qH.f k l l = some true := by
  have go : ∀ (d i : Nat), i + d = l.length → Evt fun k => qH.l0 k l l (i : Int) = some true := by
    intro d
    induction d with
    | zero =>
      intro i hi
      refine Evt.succ (Evt.all fun k => ?_)
      show qH.l0 (k + 1) l l (i : Int) = _
      rw [qH.l0, if_neg (by omega)]
    | succ d ih =>
      intro i hi
      refine Evt.succ ((ih (i + 1) (by omega)).mono fun k hk => ?_)
      show qH.l0 (k + 1) l l (i : Int) = _
      rw [qH.l0, if_pos (by omega), if_pos (by omega), if_pos (by omega), if_neg (by simp), wrap_id (x := (i : Int) + 1) (by omega) (by omega)]
      exact hk
  refine (go l.length 0 (by omega)).mono fun k hk => ?_
  unfold qH.f
  rw [if_pos rfl]; exact hk
theorem vInts_self (l : List Int) (hl : l.length ≤ 1000000) : Evt fun k => qJ.f k l l = some true := by
  have go : ∀ (d i : Nat), i + d = l.length → Evt fun k => qJ.l0 k l l (i : Int) = some true := by
    intro d
    induction d with
    | zero =>
      intro i hi
      refine Evt.succ (Evt.all fun k => ?_)
      show qJ.l0 (k + 1) l l (i : Int) = _
      rw [qJ.l0, if_neg (by omega)]
    | succ d ih =>
      intro i hi
      refine Evt.succ ((ih (i + 1) (by omega)).mono fun k hk => ?_)
      show qJ.l0 (k + 1) l l (i : Int) = _
      rw [qJ.l0, if_pos (by omega), if_pos (by omega), if_pos (by omega), if_pos rfl, wrap_id (x := (i : Int) + 1) (by omega) (by omega)]
      exact hk
  refine (go l.length 0 (by omega)).mono fun k hk => ?_
  unfold qJ.f
  rw [if_pos rfl]; exact hk
theorem vBulletin_self (n h : Int) (l : List S25) (hl : l.length ≤ 1000000) : Evt fun k => laws_vBulletin.f k n h l n h l = some true := by
  refine (vWarnings_self l hl).mono fun k hk => ?_
  unfold laws_vBulletin.f
  rw [if_pos rfl, if_pos rfl, hk]; rfl
def Fnd (A : List S25) (c r : Int) : Prop := (r = -1 ∧ ∀ j, j < A.length → (A.getD j z25).f0 ≠ c) ∨ ∃ j : Nat, r = (j : Int) ∧ j < A.length ∧ (A.getD j z25).f0 = c
theorem find_ix (A : List S25) (c : Int) (hl : A.length ≤ 1000000) : ∀ (d i : Nat), i + d = A.length → (∀ j, j < i → (A.getD j z25).f0 ≠ c) →
    ∃ r, ixW.l0 (fun x => decide (x.f0 = c)) (d + 1) A (i : Int) = some r ∧ l14FindR.l0 (d + 2) A c (i : Int) = some r ∧ Fnd A c r := by
  intro d
  induction d with
  | zero =>
    intro i hi hn
    refine ⟨-1, ?_, ?_, .inl ⟨rfl, fun j hj => hn j (by omega)⟩⟩
    · rw [ixW.l0, if_neg (by omega)]
    · rw [l14FindR.l0, if_neg (by omega)]
  | succ d ih =>
    intro i hi hn
    by_cases q : (A.getD i z25).f0 = c
    · refine ⟨(i : Int), ?_, ?_, .inr ⟨i, rfl, by omega, q⟩⟩
      · rw [ixW.l0, if_pos (by omega), if_pos (by omega), rdT, if_pos (by simpa using q)]
      · rw [l14FindR.l0, if_pos (by omega), if_pos (by omega), rdT, if_pos q]
    · obtain ⟨r, e1, e2, e3⟩ := ih (i + 1) (by omega) (fun j hj => by
        rcases Nat.lt_succ_iff_lt_or_eq.1 hj with h | rfl
        · exact hn j h
        · exact q)
      refine ⟨r, ?_, ?_, e3⟩
      · rw [ixW.l0, if_pos (by omega), if_pos (by omega), rdT, if_neg (by simpa using q), wrap_id (x := (i : Int) + 1) (by omega) (by omega)]; exact e1
      · rw [l14FindR.l0, if_pos (by omega), if_pos (by omega), rdT, if_neg q, wrap_id (x := (i : Int) + 1) (by omega) (by omega)]; exact e2
theorem find_ok (A : List S25) (c : Int) (hl : A.length ≤ 1000000) (hA : ConsL A) : ∃ r, Fnd A c r ∧ (Evt fun k => qT.f k A c = some r) ∧ qU.f A c = some r := by
  obtain ⟨r, e1, e2, e3⟩ := find_ix A c hl A.length 0 (by omega) (fun j hj => absurd hj (by omega))
  obtain ⟨b, hb, e⟩ := cons_ok A (by omega)
  refine ⟨r, e3, e.mono fun k hk => ?_, ?_⟩
  · unfold qT.f slices_IndexFunc_Warning.f
    rw [hk, Option.bind_some, if_pos (hb.2 hA)]
    rw [show ixW.l0 (fun x => decide (x.f0 = c)) (A.length + 1) A 0 = some r from e1]; rfl
  · unfold qU.f l14FindR.f
    exact e2
def NotIn (A : List S25) (x : S25) : Bool := decide (∀ y ∈ A, y.f0 ≠ x.f0)
def notIn (A zs : List S25) : List Int := (zs.filter (NotIn A)).map S25.f0
theorem drop_get (A : List S25) (i : Nat) (h : i < A.length) : A.drop i = A.getD i z25 :: A.drop (i + 1) := by
  rw [List.drop_eq_getElem_cons h, List.getD_eq_getElem?_getD, List.getElem?_eq_getElem h, Option.getD_some]
theorem notIn_le (A zs : List S25) : (notIn A zs).length ≤ zs.length := by
  unfold notIn; rw [List.length_map]; exact List.length_filter_le _ _
theorem fnd_no {A : List S25} {x : S25} {r : Int} (h : Fnd A x.f0 r) (hr : r < 0) : NotIn A x = true := by
  rcases h with ⟨_, h⟩ | ⟨j, rfl, _⟩
  · refine decide_eq_true fun y hy => ?_
    obtain ⟨j, hj, rfl⟩ := List.getElem_of_mem hy
    have := h j hj
    rwa [List.getD_eq_getElem?_getD, List.getElem?_eq_getElem hj, Option.getD_some] at this
  · omega
theorem fnd_yes {A : List S25} {x : S25} {r : Int} (h : Fnd A x.f0 r) (hr : ¬ r < 0) : NotIn A x = false ∧ 0 ≤ r ∧ r < (A.length : Int) := by
  rcases h with ⟨h, _⟩ | ⟨j, rfl, hj, e⟩
  · omega
  · refine ⟨decide_eq_false fun q => ?_, by omega, by omega⟩
    have hm : A.getD j z25 ∈ A := by
      rw [List.getD_eq_getElem?_getD, List.getElem?_eq_getElem hj, Option.getD_some]; exact List.getElem_mem hj
    exact q _ hm e
theorem chg_l1 (A C : List S25) (a b a0 b0 : Int) (hA : A.length ≤ 1000) (hC : C.length ≤ 1000) (hc : ConsL C) (x8 x10 : List Int) : ∀ (d i : Nat) (x9 : List Int), i + d = A.length → x9.length ≤ i →
    (Evt fun k => qg.l1 k x8 x9 x10 A (A.length : Int) (i : Int) a b C = some (x8, x9 ++ notIn C (A.drop i), x10, true)) ∧
    (Evt fun k => qe.l1 k x8 x9 x10 (i : Int) a0 b0 A a b C = some (x8, x9 ++ notIn C (A.drop i), x10, true)) := by
  intro d
  induction d with
  | zero =>
    intro i x9 hi h9
    have e : notIn C (A.drop i) = [] := by rw [List.drop_eq_nil_of_le (by omega)]; rfl
    rw [e, List.append_nil]
    refine ⟨Evt.succ (Evt.all fun k => ?_), Evt.succ (Evt.all fun k => ?_)⟩
    · show qg.l1 (k + 1) x8 x9 x10 A (A.length : Int) (i : Int) a b C = _
      rw [qg.l1, if_neg (by omega)]
    · show qe.l1 (k + 1) x8 x9 x10 (i : Int) a0 b0 A a b C = _
      rw [qe.l1, if_neg (by omega)]
  | succ d ih =>
    intro i x9 hi h9
    obtain ⟨r, hr, e1, e2⟩ := find_ok C (A.getD i z25).f0 (by omega) hc
    have w : wrap64 ((i : Int) + 1) = ((i + 1 : Nat) : Int) := by rw [wrap_id (by omega) (by omega)]; omega
    rw [drop_get A i (by omega)]
    by_cases q : r < 0
    · have en : notIn C (A.getD i z25 :: A.drop (i + 1)) = (A.getD i z25).f0 :: notIn C (A.drop (i + 1)) := by unfold notIn; rw [List.filter_cons_of_pos (fnd_no hr q), List.map_cons]
      obtain ⟨g1, g2⟩ := ih (i + 1) (x9 ++ [(A.getD i z25).f0]) (by omega) (by rw [List.length_append, List.length_singleton]; omega)
      rw [en, show x9 ++ (A.getD i z25).f0 :: notIn C (A.drop (i + 1)) = (x9 ++ [(A.getD i z25).f0]) ++ notIn C (A.drop (i + 1)) by simp]
      refine ⟨Evt.succ ((e1.and g1).mono fun k hk => ?_), Evt.succ (g2.mono fun k hk => ?_)⟩
      · obtain ⟨k1, k2⟩ := hk
        show qg.l1 (k + 1) x8 x9 x10 A (A.length : Int) (i : Int) a b C = _
        rw [qg.l1, if_pos (by omega), if_pos (by omega), if_pos (by omega), rdT, k1, Option.bind_some, if_pos q, if_pos (by omega), w]
        exact k2
      · show qe.l1 (k + 1) x8 x9 x10 (i : Int) a0 b0 A a b C = _
        rw [qe.l1, if_pos (by omega), if_pos (by omega), rdT, e2, Option.bind_some, if_pos q, if_pos (by omega), w]
        exact hk
    · have en : notIn C (A.getD i z25 :: A.drop (i + 1)) = notIn C (A.drop (i + 1)) := by unfold notIn; rw [List.filter_cons_of_neg (by rw [(fnd_yes hr q).1]; decide)]
      obtain ⟨g1, g2⟩ := ih (i + 1) x9 (by omega) (by omega)
      rw [en]
      refine ⟨Evt.succ ((e1.and g1).mono fun k hk => ?_), Evt.succ (g2.mono fun k hk => ?_)⟩
      · obtain ⟨k1, k2⟩ := hk
        show qg.l1 (k + 1) x8 x9 x10 A (A.length : Int) (i : Int) a b C = _
        rw [qg.l1, if_pos (by omega), if_pos (by omega), if_pos (by omega), rdT, k1, Option.bind_some, if_neg q, w]
        exact k2
      · show qe.l1 (k + 1) x8 x9 x10 (i : Int) a0 b0 A a b C = _
        rw [qe.l1, if_pos (by omega), if_pos (by omega), rdT, e2, Option.bind_some, if_neg q, w]
        exact hk
theorem chg_l0 (A C : List S25) (a b a0 b0 : Int) (hA : A.length ≤ 1000) (hC : C.length ≤ 1000) (ha : ConsL A) : ∀ (d i : Nat) (x8 x10 : List Int), i + d = C.length → x8.length ≤ i → x10.length ≤ i →
    ∃ c10 : List Int, c10.length ≤ C.length ∧ (∀ r, (Evt fun k => qg.l1 k (x8 ++ notIn A (C.drop i)) [] c10 A (A.length : Int) 0 a b C = some r) → Evt fun k => qg.l0 k x8 x10 C (C.length : Int) (i : Int) a0 b0 A a b C = some r) ∧
      (∀ r, (Evt fun k => qe.l1 k (x8 ++ notIn A (C.drop i)) [] c10 0 a0 b0 A a b C = some r) → Evt fun k => qe.l0 k x8 [] x10 (i : Int) a0 b0 A a b C = some r) := by
  intro d
  induction d with
  | zero =>
    intro i x8 x10 hi h8 h10
    have e : notIn A (C.drop i) = [] := by rw [List.drop_eq_nil_of_le (by omega)]; rfl
    rw [e, List.append_nil]
    refine ⟨x10, by omega, fun r hr => Evt.succ (hr.mono fun k hk => ?_), fun r hr => Evt.succ (hr.mono fun k hk => ?_)⟩
    · show qg.l0 (k + 1) x8 x10 C (C.length : Int) (i : Int) a0 b0 A a b C = _
      rw [qg.l0, if_neg (by omega)]; exact hk
    · show qe.l0 (k + 1) x8 [] x10 (i : Int) a0 b0 A a b C = _
      rw [qe.l0, if_neg (by omega)]; exact hk
  | succ d ih =>
    intro i x8 x10 hi h8 h10
    obtain ⟨r, hr, e1, e2⟩ := find_ok A (C.getD i z25).f0 (by omega) ha
    have w : wrap64 ((i : Int) + 1) = ((i + 1 : Nat) : Int) := by rw [wrap_id (by omega) (by omega)]; omega
    rw [drop_get C i (by omega)]
    by_cases q : r < 0
    · have en : notIn A (C.getD i z25 :: C.drop (i + 1)) = (C.getD i z25).f0 :: notIn A (C.drop (i + 1)) := by unfold notIn; rw [List.filter_cons_of_pos (fnd_no hr q), List.map_cons]
      obtain ⟨c10, hc, g1, g2⟩ := ih (i + 1) (x8 ++ [(C.getD i z25).f0]) x10 (by omega) (by rw [List.length_append, List.length_singleton]; omega) (by omega)
      rw [en, show x8 ++ (C.getD i z25).f0 :: notIn A (C.drop (i + 1)) = (x8 ++ [(C.getD i z25).f0]) ++ notIn A (C.drop (i + 1)) by simp]
      refine ⟨c10, hc, fun t ht => Evt.succ ((e1.and (g1 t ht)).mono fun k hk => ?_), fun t ht => Evt.succ ((g2 t ht).mono fun k hk => ?_)⟩
      · obtain ⟨k1, k2⟩ := hk
        show qg.l0 (k + 1) x8 x10 C (C.length : Int) (i : Int) a0 b0 A a b C = _
        rw [qg.l0, if_pos (by omega), if_pos (by omega), if_pos (by omega), rdT, k1, Option.bind_some, if_pos q, if_pos (by omega), w]
        exact k2
      · show qe.l0 (k + 1) x8 [] x10 (i : Int) a0 b0 A a b C = _
        rw [qe.l0, if_pos (by omega), if_pos (by omega), rdT, e2, Option.bind_some, if_pos q, if_pos (by omega), w]
        exact hk
    · obtain ⟨f1, f2, f3⟩ := fnd_yes hr q
      have en : notIn A (C.getD i z25 :: C.drop (i + 1)) = notIn A (C.drop (i + 1)) := by unfold notIn; rw [List.filter_cons_of_neg (by rw [f1]; decide)]
      rw [en]
      by_cases p : (!(((qa A r).f0) == ((C.getD i z25).f0)) || (!(((qa A r).f1) == ((C.getD i z25).f1)) || (!(((qa A r).f2) == ((C.getD i z25).f2)) || (!(((qa A r).f3) == ((C.getD i z25).f3)) || (!(((qa A r).f4) == ((C.getD i z25).f4)) || (!(((qa A r).f5) == ((C.getD i z25).f5)))))))) = true
      · obtain ⟨c10, hc, g1, g2⟩ := ih (i + 1) x8 (x10 ++ [(C.getD i z25).f0]) (by omega) (by omega) (by rw [List.length_append, List.length_singleton]; omega)
        refine ⟨c10, hc, fun t ht => Evt.succ ((e1.and (g1 t ht)).mono fun k hk => ?_), fun t ht => Evt.succ ((g2 t ht).mono fun k hk => ?_)⟩
        · obtain ⟨k1, k2⟩ := hk
          show qg.l0 (k + 1) x8 x10 C (C.length : Int) (i : Int) a0 b0 A a b C = _
          rw [qg.l0, if_pos (by omega), if_pos (by omega), if_pos (by omega), rdT, k1, Option.bind_some, if_neg q, if_pos f2, if_pos f3, if_pos p, if_pos (by omega), w]
          exact k2
        · show qe.l0 (k + 1) x8 [] x10 (i : Int) a0 b0 A a b C = _
          rw [qe.l0, if_pos (by omega), if_pos (by omega), rdT, e2, Option.bind_some, if_neg q, if_pos f2, if_pos f3, if_pos p, if_pos (by omega), w]
          exact hk
      · obtain ⟨c10, hc, g1, g2⟩ := ih (i + 1) x8 x10 (by omega) (by omega) (by omega)
        refine ⟨c10, hc, fun t ht => Evt.succ ((e1.and (g1 t ht)).mono fun k hk => ?_), fun t ht => Evt.succ ((g2 t ht).mono fun k hk => ?_)⟩
        · obtain ⟨k1, k2⟩ := hk
          show qg.l0 (k + 1) x8 x10 C (C.length : Int) (i : Int) a0 b0 A a b C = _
          rw [qg.l0, if_pos (by omega), if_pos (by omega), if_pos (by omega), rdT, k1, Option.bind_some, if_neg q, if_pos f2, if_pos f3, if_neg p, w]
          exact k2
        · show qe.l0 (k + 1) x8 [] x10 (i : Int) a0 b0 A a b C = _
          rw [qe.l0, if_pos (by omega), if_pos (by omega), rdT, e2, Option.bind_some, if_neg q, if_pos f2, if_pos f3, if_neg p, w]
          exact hk
theorem len_sub {α : Type} [DecidableEq α] : ∀ (l1 l2 : List α), l1.Nodup → (∀ x ∈ l1, x ∈ l2) → l1.length ≤ l2.length := by
  intro l1
  induction l1 with
  | nil => intro l2 _ _; simp
  | cons a t ih =>
    intro l2 hn hs
    rw [List.nodup_cons] at hn
    have h1 := ih (l2.erase a) hn.2 (fun x hx => (List.mem_erase_of_ne (fun e => hn.1 (by rw [← e]; exact hx))).2 (hs x (List.mem_cons_of_mem _ hx)))
    have h2 := List.length_erase_of_mem (hs a List.mem_cons_self)
    have h3 : 0 < l2.length := List.length_pos_of_mem (hs a List.mem_cons_self)
    rw [List.length_cons]; omega
theorem cons_lt {l : List S25} (h : ConsL l) : ∀ (i j : Nat), i < j → j < l.length → (l.getD i z25).f0 < (l.getD j z25).f0 := by
  intro i j hij
  induction j with
  | zero => intro hj; omega
  | succ j ih =>
    intro hj
    have s := h.1.2.2 (j + 1) (by omega) hj
    rw [Nat.add_sub_cancel] at s
    rcases Nat.lt_succ_iff_lt_or_eq.1 hij with q | rfl
    · exact Int.lt_trans (ih q (by omega)) s
    · exact s
theorem cons_nodup {l : List S25} (h : ConsL l) : (l.map S25.f0).Nodup := by
  rw [List.nodup_iff_pairwise_ne, List.pairwise_map, List.pairwise_iff_getElem]
  intro i j hi hj hij e
  have q := cons_lt h i j hij hj
  rw [List.getD_eq_getElem?_getD, List.getElem?_eq_getElem hi, Option.getD_some, List.getD_eq_getElem?_getD, List.getElem?_eq_getElem hj, Option.getD_some] at q
  omega
theorem kept_le {A C : List S25} (hC : ConsL C) : (C.filter (fun x => !NotIn A x)).length ≤ (A.filter (fun x => !NotIn C x)).length := by
  have h := len_sub ((C.filter (fun x => !NotIn A x)).map S25.f0) ((A.filter (fun x => !NotIn C x)).map S25.f0) ?_ ?_
  · rwa [List.length_map, List.length_map] at h
  · exact List.Nodup.sublist (List.Sublist.map _ List.filter_sublist) (cons_nodup hC)
  · intro c hc
    obtain ⟨x, hx, rfl⟩ := List.mem_map.1 hc
    rw [List.mem_filter] at hx
    obtain ⟨x1, x2⟩ := hx
    have q : ¬ ∀ y ∈ A, y.f0 ≠ x.f0 := by
      intro q
      unfold NotIn at x2; rw [decide_eq_true q] at x2; exact absurd x2 (by decide)
    have q2 : ∃ y, y ∈ A ∧ y.f0 = x.f0 := Classical.byContradiction fun k => q fun y hy e => k ⟨y, hy, e⟩
    obtain ⟨y, hy, e⟩ := q2
    refine List.mem_map.2 ⟨y, List.mem_filter.2 ⟨hy, ?_⟩, e⟩
    unfold NotIn
    rw [decide_eq_false (fun k => k x x1 e.symm)]; rfl
theorem filter_len {α : Type} (p : α → Bool) : ∀ l : List α, (l.filter p).length + (l.filter (fun x => !p x)).length = l.length := by
  intro l
  induction l with
  | nil => rfl
  | cons a t ih =>
    cases h : p a
    · rw [List.filter_cons_of_neg (by rw [h]; decide), List.filter_cons_of_pos (by rw [h]; rfl), List.length_cons, List.length_cons]; omega
    · rw [List.filter_cons_of_pos h, List.filter_cons_of_neg (by rw [h]; decide), List.length_cons, List.length_cons]; omega
theorem count_ok {A C : List S25} (hA : ConsL A) (hC : ConsL C) : C.length + (notIn C A).length = A.length + (notIn A C).length := by
  have h1 := kept_le (A := A) hC
  have h2 := kept_le (A := C) hA
  have h3 := filter_len (NotIn A) C
  have h4 := filter_len (NotIn C) A
  unfold notIn
  rw [List.length_map, List.length_map]; omega
theorem chg_same (n h m g : Int) (A C : List S25) (hA : A.length ≤ 1000) (hC : C.length ≤ 1000) :
    ∃ r : List Int × List Int × List Int × Bool, (r.1.length ≤ 2000 ∧ r.2.1.length ≤ 2000 ∧ r.2.2.1.length ≤ 2000 ∧ (r.2.2.2 = true → (C.length : Int) = A.length + r.1.length - r.2.1.length)) ∧
      (Evt fun k => qg.f k n h A m g C = some r) ∧ Evt fun k => qe.f k n h A m g C = some r := by
  obtain ⟨b1, v1, e1⟩ := validB_impl n h A (by omega)
  obtain ⟨b2, v2, e2⟩ := validB_spec n h A
  obtain ⟨b3, v3, e3⟩ := validB_impl m g C (by omega)
  obtain ⟨b4, v4, e4⟩ := validB_spec m g C
  have z : ∃ r : List Int × List Int × List Int × Bool, r = ([], [], [], false) := ⟨_, rfl⟩
  have no1 : Evt fun k => qg.j0 k true n h A m g C = some ([], [], [], false) := Evt.succ (Evt.all fun k => by show qg.j0 (k + 1) true n h A m g C = _; rw [qg.j0, if_pos rfl])
  have no2 : Evt fun k => qe.j0 k [] [] [] true n h A m g C = some ([], [], [], false) := Evt.succ (Evt.all fun k => by show qe.j0 (k + 1) [] [] [] true n h A m g C = _; rw [qe.j0, if_pos rfl])
  by_cases va : VB n h A
  · have t1 := v1.2 va
    have t2 := v2.2 va
    by_cases vc : VB m g C
    · have t3 := v3.2 vc
      have t4 := v4.2 vc
      obtain ⟨c10, hc, g1, g2⟩ := chg_l0 A C m g n h hA hC va.2.2 C.length 0 [] [] (by omega) (by simp) (by simp)
      rw [List.drop_zero, List.nil_append] at g1 g2
      obtain ⟨i1, i2⟩ := chg_l1 A C m g n h hA hC vc.2.2 (notIn A C) c10 A.length 0 [] (by omega) (by simp)
      rw [List.drop_zero, List.nil_append] at i1 i2
      have q1 := notIn_le A C
      have q2 := notIn_le C A
      refine ⟨(notIn A C, notIn C A, c10, true), ⟨by dsimp only; omega, by dsimp only; omega, by dsimp only; omega, fun _ => by have := count_ok va.2.2 vc.2.2; dsimp only; omega⟩, ?_, ?_⟩
      · have u : Evt fun k => qg.j0 k false n h A m g C = some (notIn A C, notIn C A, c10, true) := Evt.succ ((g1 _ i1).mono fun k hk => by show qg.j0 (k + 1) false n h A m g C = _; rw [qg.j0, if_neg (by decide)]; exact hk)
        refine (e1.and (e3.and u)).mono fun k hk => ?_
        obtain ⟨k1, k2, k3⟩ := hk
        unfold qg.f
        rw [k1, Option.bind_some, if_pos t1, k2, Option.bind_some, t3]; exact k3
      · have u : Evt fun k => qe.j0 k [] [] [] false n h A m g C = some (notIn A C, notIn C A, c10, true) := Evt.succ ((g2 _ i2).mono fun k hk => by show qe.j0 (k + 1) [] [] [] false n h A m g C = _; rw [qe.j0, if_neg (by decide)]; exact hk)
        refine (e2.and (e4.and u)).mono fun k hk => ?_
        obtain ⟨k1, k2, k3⟩ := hk
        unfold qe.f
        rw [Option.bind_some, Option.bind_some, Option.bind_some, k1, Option.bind_some, if_pos t2, k2, Option.bind_some, t4]; exact k3
    · have t3 : b3 = false := Bool.eq_false_iff.2 fun q => vc (v3.1 q)
      have t4 : b4 = false := Bool.eq_false_iff.2 fun q => vc (v4.1 q)
      refine ⟨([], [], [], false), ⟨by simp, by simp, by simp, fun q => absurd q (by decide)⟩, (e1.and (e3.and no1)).mono fun k hk => ?_, (e2.and (e4.and no2)).mono fun k hk => ?_⟩
      · obtain ⟨k1, k2, k3⟩ := hk
        unfold qg.f
        rw [k1, Option.bind_some, if_pos t1, k2, Option.bind_some, t3]; exact k3
      · obtain ⟨k1, k2, k3⟩ := hk
        unfold qe.f
        rw [Option.bind_some, Option.bind_some, Option.bind_some, k1, Option.bind_some, if_pos t2, k2, Option.bind_some, t4]; exact k3
  · refine ⟨([], [], [], false), ⟨by simp, by simp, by simp, fun q => absurd q (by decide)⟩, (e1.and no1).mono fun k hk => ?_, (e2.and no2).mono fun k hk => ?_⟩
    · obtain ⟨k1, k3⟩ := hk
      unfold qg.f
      rw [k1, Option.bind_some, if_neg (fun q => va (v1.1 q))]; exact k3
    · obtain ⟨k1, k3⟩ := hk
      unfold qe.f
      rw [Option.bind_some, Option.bind_some, Option.bind_some, k1, Option.bind_some, if_neg (fun q => va (v2.1 q))]; exact k3
theorem rdU (l : List S34) (i : Nat) : qn l (i : Int) = l.getD i z34 := by unfold qn; rw [Int.toNat_natCast]
theorem Sm.at {xs : List S34} (h : Sm xs) (i : Nat) : (xs.getD i z34).f2.length ≤ 21 := by
  rw [List.getD_eq_getElem?_getD]
  rcases Nat.lt_or_ge i xs.length with q | q
  · rw [List.getElem?_eq_getElem q, Option.getD_some]; exact h _ (List.getElem_mem q)
  · rw [List.getElem?_eq_none q]; exact Nat.zero_le _
theorem ixU_ok (p : S34 → Bool) (l : List S34) (hl : l.length ≤ 1000000000) : ∀ (d i : Nat), i + d = l.length → ∃ r, ixU.l0 p (d + 1) l (i : Int) = some r ∧ (0 ≤ r ↔ ∃ j, i ≤ j ∧ j < l.length ∧ p (l.getD j z34) = true)
  | 0, i, h => ⟨-1, by rw [ixU.l0, if_neg (by omega)], by constructor
                                                          · intro h; omega
                                                          · rintro ⟨j, _, _, _⟩; omega⟩
  | d + 1, i, h => by
    by_cases c : p (l.getD i z34) = true
    · refine ⟨(i : Int), by rw [ixU.l0, if_pos (by omega), if_pos (by omega), rdU, if_pos c], ⟨fun _ => ⟨i, Nat.le_refl _, by omega, c⟩, fun _ => by omega⟩⟩
    · obtain ⟨r, e, hr⟩ := ixU_ok p l hl d (i + 1) (by omega)
      refine ⟨r, by rw [ixU.l0, if_pos (by omega), if_pos (by omega), rdU, if_neg c, wrap_id (by omega) (by omega)]; exact e, hr.trans ⟨?_, ?_⟩⟩
      · rintro ⟨j, h1, h2, h3⟩; exact ⟨j, by omega, h2, h3⟩
      · rintro ⟨j, h1, h2, h3⟩
        refine ⟨j, ?_, h2, h3⟩
        rcases Nat.eq_or_lt_of_le h1 with rfl | h4
        · exact absurd h3 c
        · exact h4
def Dup (xs : List S34) (i : Nat) : Prop := ∃ j, j < i ∧ (xs.getD j z34).f0 = (xs.getD i z34).f0
theorem containsU (xs : List S34) (hl : xs.length ≤ 1000000) (i : Nat) (hi : i ≤ xs.length) (b : Int) (w : List S25) : ∃ q, slices_ContainsFunc_Bulletin.f (xs.take i) (xs.getD i z34).f0 b w = some q ∧ (q = true ↔ Dup xs i) := by
  have ht : (xs.take i).length = i := by rw [List.length_take]; omega
  have hg : ∀ j, j < i → (xs.take i).getD j z34 = xs.getD j z34 := fun j hj => by rw [List.getD_eq_getElem?_getD, List.getD_eq_getElem?_getD, List.getElem?_take_of_lt hj]
  obtain ⟨r, e, hr⟩ := ixU_ok (fun x => decide (x.f0 = (xs.getD i z34).f0)) (xs.take i) (by omega) i 0 (by omega)
  refine ⟨decide (r ≥ 0), ?_, ?_⟩
  · unfold slices_ContainsFunc_Bulletin.f
    rw [ht, show ixU.l0 (fun x => decide (x.f0 = (xs.getD i z34).f0)) (i + 1) (xs.take i) 0 = some r from e]; rfl
  · rw [decide_eq_true_iff]
    refine hr.trans ⟨?_, ?_⟩
    · rintro ⟨j, _, h2, h3⟩
      rw [ht] at h2
      rw [hg j h2] at h3
      exact ⟨j, h2, of_decide_eq_true h3⟩
    · rintro ⟨j, h2, h3⟩
      exact ⟨j, Nat.zero_le _, by omega, by rw [hg j h2]; exact decide_eq_true h3⟩
theorem slat_no (xs : List S34) (hl : xs.length ≤ 1000000) (b i : Nat) (hb : b < xs.length) (hi : i < xs.length) (h : ∀ j, j < i → (xs.getD j z34).f0 ≠ (xs.getD i z34).f0) (k : Nat) : ∀ (d j : Nat), j + d = i →
    qd.l1 (k + d + 1) xs [] (b : Int) (i : Int) (j : Int) = (if (xs.getD i z34).f0 > (xs.getD b z34).f0 then qd.l0 k xs [] (i : Int) ((i + 1 : Nat) : Int) else qd.l0 k xs [] (b : Int) ((i + 1 : Nat) : Int)) := by
  have w : wrap64 ((i : Int) + 1) = ((i + 1 : Nat) : Int) := by rw [wrap_id (by omega) (by omega)]; omega
  intro d
  induction d with
  | zero =>
    intro j hj
    rw [qd.l1, if_neg (by omega), if_pos (by omega), if_pos (by omega), if_pos (by omega), if_pos (by omega), rdU, rdU, w]
  | succ d ih =>
    intro j hj
    have w2 : wrap64 ((j : Int) + 1) = ((j + 1 : Nat) : Int) := by rw [wrap_id (by omega) (by omega)]; omega
    rw [qd.l1, if_pos (by omega), if_pos (by omega), if_pos (by omega), if_pos (by omega), if_pos (by omega), rdU, rdU, if_neg (h j (by omega)), w2]
    exact ih (j + 1) (by omega)
theorem slat_yes (xs : List S34) (hl : xs.length ≤ 1000000) (b i : Nat) (hi : i < xs.length) (j0 : Nat) (h0 : j0 < i) (h : (xs.getD j0 z34).f0 = (xs.getD i z34).f0) : ∀ (d j : Nat), j + d = j0 →
    Evt fun k => qd.l1 k xs [] (b : Int) (i : Int) (j : Int) = some ([], 0, false) := by
  intro d
  induction d with
  | zero =>
    intro j hj
    obtain rfl : j = j0 := by omega
    refine Evt.succ (Evt.all fun k => ?_)
    show qd.l1 (k + 1) xs [] (b : Int) (i : Int) (j : Int) = _
    rw [qd.l1, if_pos (by omega), if_pos (by omega), if_pos (by omega), if_pos (by omega), if_pos (by omega), rdU, rdU, if_pos h]
  | succ d ih =>
    intro j hj
    have w2 : wrap64 ((j : Int) + 1) = ((j + 1 : Nat) : Int) := by rw [wrap_id (by omega) (by omega)]; omega
    refine Evt.succ ((ih (j + 1) (by omega)).mono fun k hk => ?_)
    show qd.l1 (k + 1) xs [] (b : Int) (i : Int) (j : Int) = _
    rw [qd.l1, if_pos (by omega), if_pos (by omega), if_pos (by omega), if_pos (by omega), if_pos (by omega), rdU, rdU]
    by_cases q : (xs.getD j z34).f0 = (xs.getD i z34).f0
    · rw [if_pos q]
    · rw [if_neg q, w2]; exact hk
theorem lat_loop (xs : List S34) (hl : xs.length ≤ 1000) (hs : Sm xs) : ∀ (d i b : Nat), i + d = xs.length → b < xs.length →
    ∃ r : List S25 × Int × Bool, r.1.length ≤ 21 ∧ (Evt fun k => qi.l0 k xs (b : Int) xs (xs.length : Int) (i : Int) = some r) ∧ Evt fun k => qd.l0 k xs [] (b : Int) (i : Int) = some r := by
  intro d
  induction d with
  | zero =>
    intro i b hi hb
    have f := hs.at b
    refine ⟨((xs.getD b z34).f2, (xs.getD b z34).f0, true), f, Evt.succ (Evt.all fun k => ?_), Evt.succ (Evt.all fun k => ?_)⟩
    · show qi.l0 (k + 1) xs (b : Int) xs (xs.length : Int) (i : Int) = _
      rw [qi.l0, if_neg (by omega), if_pos (by omega), if_pos (by omega), rdU]
      unfold slices_Clone_Warning.f
      rw [Option.bind_some, if_pos (by simp only [List.length_nil]; omega), Option.bind_some, List.nil_append]
    · show qd.l0 (k + 1) xs [] (b : Int) (i : Int) = _
      rw [qd.l0, if_neg (by omega), Option.bind_some, if_pos (by omega), if_pos (by omega), rdU, if_pos (by simp only [List.length_nil]; omega), List.nil_append]
  | succ d ih =>
    intro i b hi hb
    have f := hs.at i
    have w : wrap64 ((i : Int) + 1) = ((i + 1 : Nat) : Int) := by rw [wrap_id (by omega) (by omega)]; omega
    obtain ⟨b1, v1, e1⟩ := validB_impl (xs.getD i z34).f0 (xs.getD i z34).f1 (xs.getD i z34).f2 (by omega)
    obtain ⟨b2, v2, e2⟩ := validB_spec (xs.getD i z34).f0 (xs.getD i z34).f1 (xs.getD i z34).f2
    have no : ∀ (x y : Int) (u : List S25), Evt fun k => qi.j1 k xs (b : Int) (i : Int) xs (xs.length : Int) (i : Int) true x y u = some ([], 0, false) := fun x y u => Evt.succ (Evt.all fun k => by
      show qi.j1 (k + 1) xs (b : Int) (i : Int) xs (xs.length : Int) (i : Int) true x y u = _
      rw [qi.j1, if_pos rfl])
    by_cases v : VB (xs.getD i z34).f0 (xs.getD i z34).f1 (xs.getD i z34).f2
    · obtain ⟨q, eq, hq⟩ := containsU xs (by omega) i (by omega) (xs.getD i z34).f1 (xs.getD i z34).f2
      have tk : xs.take ((i : Int)).toNat = xs.take i := by rw [Int.toNat_natCast]
      have im : ∀ r : List S25 × Int × Bool, (Evt fun k => qi.j1 k xs (b : Int) (i : Int) xs (xs.length : Int) (i : Int) q (xs.getD i z34).f0 (xs.getD i z34).f1 (xs.getD i z34).f2 = some r) → Evt fun k => qi.l0 k xs (b : Int) xs (xs.length : Int) (i : Int) = some r := by
        intro r hr
        refine Evt.succ ((e1.and hr).mono fun k hk => ?_)
        obtain ⟨k1, k2⟩ := hk
        show qi.l0 (k + 1) xs (b : Int) xs (xs.length : Int) (i : Int) = _
        rw [qi.l0, if_pos (by omega), if_pos (by omega), if_pos (by omega), rdU, k1, Option.bind_some, if_pos (v1.2 v), if_pos (by omega), tk, eq, Option.bind_some]
        exact k2
      have sp : ∀ r : List S25 × Int × Bool, (Evt fun k => qd.l1 k xs [] (b : Int) (i : Int) 0 = some r) → Evt fun k => qd.l0 k xs [] (b : Int) (i : Int) = some r := by
        intro r hr
        refine Evt.succ ((e2.and hr).mono fun k hk => ?_)
        obtain ⟨k1, k2⟩ := hk
        show qd.l0 (k + 1) xs [] (b : Int) (i : Int) = _
        rw [qd.l0, if_pos (by omega), if_pos (by omega), rdU, k1, Option.bind_some, if_pos (v2.2 v)]
        exact k2
      by_cases dq : Dup xs i
      · have qt := hq.2 dq
        obtain ⟨j0, hj, hj2⟩ := dq
        refine ⟨([], 0, false), Nat.zero_le _, im _ ?_, sp _ (slat_yes xs (by omega) b i (by omega) j0 hj hj2 j0 0 (by omega))⟩
        rw [qt]; exact no _ _ _
      · have qf : q = false := Bool.eq_false_iff.2 fun h => dq (hq.1 h)
        have nd : ∀ j, j < i → (xs.getD j z34).f0 ≠ (xs.getD i z34).f0 := fun j hj h => dq ⟨j, hj, h⟩
        by_cases g : (xs.getD i z34).f0 > (xs.getD b z34).f0
        · obtain ⟨r, hr, i1, i2⟩ := ih (i + 1) i (by omega) (by omega)
          refine ⟨r, hr, im _ (Evt.succ (i1.mono fun k hk => ?_)), sp _ (Evt.add (i + 1) (i2.mono fun k hk => ?_))⟩
          · show qi.j1 (k + 1) xs (b : Int) (i : Int) xs (xs.length : Int) (i : Int) q _ _ _ = _
            rw [qi.j1, qf, if_neg (by decide), if_pos (by omega), if_pos (by omega), rdU, if_pos g, w]; exact hk
          · refine (slat_no xs (by omega) b i hb (by omega) nd k i 0 (by omega)).trans ?_
            rw [if_pos g]; exact hk
        · obtain ⟨r, hr, i1, i2⟩ := ih (i + 1) b (by omega) hb
          refine ⟨r, hr, im _ (Evt.succ (i1.mono fun k hk => ?_)), sp _ (Evt.add (i + 1) (i2.mono fun k hk => ?_))⟩
          · show qi.j1 (k + 1) xs (b : Int) (i : Int) xs (xs.length : Int) (i : Int) q _ _ _ = _
            rw [qi.j1, qf, if_neg (by decide), if_pos (by omega), if_pos (by omega), rdU, if_neg g, w]; exact hk
          · refine (slat_no xs (by omega) b i hb (by omega) nd k i 0 (by omega)).trans ?_
            rw [if_neg g]; exact hk
    · refine ⟨([], 0, false), Nat.zero_le _, Evt.succ ((e1.and (no (xs.getD i z34).f0 (xs.getD i z34).f1 (xs.getD i z34).f2)).mono fun k hk => ?_), Evt.succ (e2.mono fun k hk => ?_)⟩
      · obtain ⟨k1, k2⟩ := hk
        show qi.l0 (k + 1) xs (b : Int) xs (xs.length : Int) (i : Int) = _
        rw [qi.l0, if_pos (by omega), if_pos (by omega), if_pos (by omega), rdU, k1, Option.bind_some, if_neg (fun h => v (v1.1 h))]
        exact k2
      · show qd.l0 (k + 1) xs [] (b : Int) (i : Int) = _
        rw [qd.l0, if_pos (by omega), if_pos (by omega), rdU, hk, Option.bind_some, if_neg (fun h => v (v2.1 h))]
theorem lat_same (xs : List S34) (hl : xs.length ≤ 1000) (hs : Sm xs) : ∃ r : List S25 × Int × Bool, r.1.length ≤ 21 ∧ (Evt fun k => qi.f k xs = some r) ∧ Evt fun k => qd.f k xs = some r := by
  by_cases c : 1 ≤ (xs.length : Int) ∧ (xs.length : Int) ≤ 10
  · obtain ⟨r, hr, e1, e2⟩ := lat_loop xs hl hs xs.length 0 0 (by omega) (by omega)
    refine ⟨r, hr, e1.mono fun k hk => ?_, e2.mono fun k hk => ?_⟩
    · unfold qi.f
      rw [within_ok, Option.bind_some, if_pos (decide_eq_true c)]; exact hk
    · unfold qd.f
      rw [Option.bind_some, l1In_ok, Option.bind_some, if_pos (decide_eq_true c)]; exact hk
  · refine ⟨([], 0, false), Nat.zero_le _, Evt.all fun k => ?_, Evt.all fun k => ?_⟩
    · unfold qi.f
      rw [within_ok, Option.bind_some, if_neg (by simpa using c)]
    · unfold qd.f
      rw [Option.bind_some, l1In_ok, Option.bind_some, if_neg (by simpa using c)]
theorem law_b3 (l : List Int) (hb : ∀ x ∈ l, 0 ≤ x ∧ x ≤ 255) : Evt fun k => qk.j3 k l false = some true := by
  obtain ⟨xs, ⟨h1, h2⟩, e1⟩ := drawL l hb
  obtain ⟨⟨ws, n, ok⟩, hr, e2, e3⟩ := lat_same xs (by omega) h2
  have e4 := vWarnings_self ws (by dsimp only at hr; omega)
  refine Evt.succ ((e1.and (e2.and (e3.and e4))).mono fun k hk => ?_)
  obtain ⟨k1, k2, k3, k4⟩ := hk
  show qk.j3 (k + 1) l false = _
  rw [qk.j3, if_neg (by decide), k1, Option.bind_some, k2, Option.bind_some]; dsimp only
  rw [k3, Option.bind_some]; dsimp only
  rw [if_pos (by simp), if_pos rfl, k4]; rfl
theorem law_b1 (l : List Int) (hb : ∀ x ∈ l, 0 ≤ x ∧ x ≤ 255) : Evt fun k => qk.j1 k l false = some true := by
  obtain ⟨⟨n, h, A, m, g, C⟩, ⟨hA, hC⟩, e1⟩ := drawC l hb
  dsimp only at hA hC
  obtain ⟨⟨x, y, z, ok⟩, ⟨z1, z2, z3, hc⟩, e2, e3⟩ := chg_same n h m g A C (by omega) (by omega)
  dsimp only at z1 z2 z3 hc
  have e4 := vInts_self x (by omega)
  have e5 := vInts_self y (by omega)
  have e6 := vInts_self z (by omega)
  have e7 := law_b3 l hb
  have u : Evt fun k => qk.j2 k l x y ok false n h A m g C = some true := by
    refine Evt.succ (e7.mono fun k hk => ?_)
    show qk.j2 (k + 1) l x y ok false n h A m g C = _
    rw [qk.j2, if_neg (by decide)]
    by_cases c : ok = true
    · have hq := hc c
      rw [if_pos c, wrap_id (x := (A.length : Int) + (x.length : Int)) (by omega) (by omega), wrap_id (by omega) (by omega)]
      have q : ((C.length : Int) != ((A.length : Int) + (x.length : Int) - (y.length : Int))) = false := by rw [bne_eq_false_iff_eq]; exact hq
      rw [q]; exact hk
    · rw [if_neg c]; exact hk
  refine Evt.succ ((e1.and (e2.and (e3.and (e4.and (e5.and (e6.and u)))))).mono fun k hk => ?_)
  obtain ⟨k1, k2, k3, k4, k5, k6, k7⟩ := hk
  show qk.j1 (k + 1) l false = _
  have bb : (ok != ok) = false := by cases ok <;> rfl
  rw [qk.j1, if_neg (by decide), k1, Option.bind_some]; dsimp only
  rw [k2, Option.bind_some]; dsimp only
  rw [k3, Option.bind_some]; dsimp only
  rw [bb, if_neg (by decide), k4, Option.bind_some, if_pos rfl, k5, Option.bind_some, if_pos rfl, k6, Option.bind_some]
  exact k7
theorem law_b0 (l : List Int) (hb : ∀ x ∈ l, 0 ≤ x ∧ x ≤ 255) : Evt fun k => qk.j0 k l false = some true := by
  obtain ⟨s, hs, e1⟩ := drawR l hb
  obtain ⟨⟨n, h, ws, ok⟩, hg, e2⟩ := rb_total s hs
  have e4 := law_b1 l hb
  have hl : ws.length ≤ 1000000000 := by
    cases ok with
    | false => have q := hg.2 rfl; injection q with _ q; injection q with _ q; injection q with q _; rw [q]; simp
    | true => have q := (hg.1 rfl).1.2.2.1.1; dsimp only at q; omega
  rcases fmt_same n h ws hl with ⟨v, e3, _⟩ | ⟨v, e3, _⟩
  · refine Evt.succ ((e1.and (e2.and (e3.and e4))).mono fun k hk => ?_)
    obtain ⟨k1, k2, k3, k4⟩ := hk
    show qk.j0 (k + 1) l false = _
    rw [qk.j0, if_neg (by decide), k1, Option.bind_some, k2, Option.bind_some]; dsimp only
    rw [k3, Option.bind_some]; dsimp only
    cases ok with
    | false => rw [if_neg (by decide)]; exact k4
    | true =>
      obtain ⟨_, e⟩ := hg.1 rfl
      dsimp only at e
      rw [if_pos rfl, if_pos rfl, ← e, bne_self_eq_false]; exact k4
  · refine Evt.succ ((e1.and (e2.and (e3.and e4))).mono fun k hk => ?_)
    obtain ⟨k1, k2, k3, k4⟩ := hk
    show qk.j0 (k + 1) l false = _
    rw [qk.j0, if_neg (by decide), k1, Option.bind_some, k2, Option.bind_some]; dsimp only
    rw [k3, Option.bind_some]; dsimp only
    cases ok with
    | false => rw [if_neg (by decide)]; exact k4
    | true => exact absurd (hg.1 rfl).1 v
theorem fnBulletins_pure : qk.Pure := by
  intro l hm _ hw
  have hb := bytes_of l hw
  suffices Evt fun k => qk.f k l = some true by
    obtain ⟨K, h⟩ := this
    exact ⟨K, h K (Nat.le_refl _)⟩
  by_cases big : (l.length : Int) > 65536
  · refine Evt.all fun k => ?_
    unfold qk.f laws_vBig.f
    rw [Option.bind_some, if_pos (decide_eq_true big)]
  · obtain ⟨⟨n, h, ws⟩, hl, e1⟩ := drawB l hb
    dsimp only at hl
    obtain ⟨t, ht, e5⟩ := validB_impl n h ws (by omega)
    have e6 := law_b0 l hb
    rcases fmt_same n h ws (by omega) with ⟨v, e2, e4⟩ | ⟨v, e2, e4⟩
    · have e3 := rb_text v
      have e7 := vBulletin_self n h ws (by omega)
      refine (e1.and (e2.and (e3.and (e4.and (e5.and (e6.and e7)))))).mono fun k hk => ?_
      obtain ⟨k1, k2, k3, k4, k5, k6, k7⟩ := hk
      unfold qk.f laws_vBig.f
      rw [Option.bind_some, if_neg (by simpa using big), k1, Option.bind_some]; dsimp only
      rw [k2, Option.bind_some]; dsimp only
      rw [k3, Option.bind_some]; dsimp only
      rw [k4, Option.bind_some]; dsimp only
      rw [if_pos rfl, if_neg (by decide), k5, Option.bind_some, ht.2 v, if_neg (by decide), if_pos rfl, if_pos rfl, k7, Option.bind_some]
      exact k6
    · obtain ⟨⟨n2, h2, ws2, ok2⟩, _, e3⟩ := rb_total (⟨#[]⟩ : ByteArray) (by decide)
      have tf : t = false := Bool.eq_false_iff.2 fun q => v (ht.1 q)
      refine (e1.and (e2.and (e3.and (e4.and (e5.and e6))))).mono fun k hk => ?_
      obtain ⟨k1, k2, k3, k4, k5, k6⟩ := hk
      unfold qk.f laws_vBig.f
      rw [Option.bind_some, if_neg (by simpa using big), k1, Option.bind_some]; dsimp only
      rw [k2, Option.bind_some]; dsimp only
      rw [k3, Option.bind_some]; dsimp only
      rw [k4, Option.bind_some]; dsimp only
      rw [if_pos rfl, if_neg (by decide), k5, Option.bind_some, tf, if_neg (by decide), if_neg (by decide)]
      exact k6
end Go.Proofs.YtlfoojgbiafffaaGreatDoor.XFnBulletins
