/-
  Contracts of the library's string functions at this seat, told of the printed functions' words: each returns what its Lean function says, over every world that holds the tables as they were laid. Conditions: none of ours.
-/
import Derived.Test.YtlfoojgbiafffaaGreatDoorShelf
import Derived.Test.YtlfoojgbiafffaaGreatDoorProg
import Derived.Lib.SplitLaws
import Derived.Lib.AtoiErrMem
import Derived.Below
import Derived.Deep.Draws
import Derived.Deep.AppendLies
import Derived.Maps.AppendAt
import Derived.OwnWalk
import Derived.Laws.BytesArg
import Derived.Laws.MakeOwn
import Derived.Laws.OwnMore
import Derived.Deep.OwnRows
import Derived.Tactics
import Derived.Lib.ConvBytes
import Derived.Laws.Slices
import Derived.WalkKit
import Derived.KernelRfl
import Derived.RowKit3
import Derived.Deep.LoopGhost
import Derived.Deep.QuietTactic
import Derived.BigQuiet
import Derived.WideLaws
import Derived.Deep.DeepCutAuto
import Derived.Deep.CutBlock
import Derived.Deep.RegionHeld3
import Derived.Laws.Rows
import Derived.Lib.AppendStr
import Derived.ArgAppend
import Derived.Laws.IdiomCopy
import Derived.OrdersHeld
import Derived.Laws.BitsLemmas
import Derived.RowKit
import Derived.WalkSpells
import Derived.Test.YtlfoojgbiafffaaGreatDoorWWords
import Derived.Test.YtlfoojgbiafffaaGreatDoorWLast
import Derived.Test.YtlfoojgbiafffaaGreatDoorWMore
namespace Go.Proofs.YtlfoojgbiafffaaGreatDoor.Strs
open Go.RowKit Go.Proofs.YtlfoojgbiafffaaGreatDoorW.PrintWords Go.Proofs.YtlfoojgbiafffaaGreatDoorW.PrintLast Go.Proofs.YtlfoojgbiafffaaGreatDoorW.PrintMore
set_option linter.unusedVariables false
set_option linter.unusedSimpArgs false
def B (l : List UInt8) : ByteArray := ⟨l.toArray⟩
def levL : List (List UInt8) := [[], [89, 101, 108, 108, 111, 119], [79, 114, 97, 110, 103, 101], [82, 101, 100]]
def topL : List (List UInt8) := [[], [119, 105, 110, 100], [114, 97, 105, 110], [115, 110, 111, 119], [104, 101, 97, 116], [115, 116, 111, 114, 109]]
structure Laid (w : World) : Prop where
  ml : ∃ m, w.cell? ⟨2, 0, none⟩ = some (.int .i64 m)
  pow : Lib.TabIs Tryz.prog w "internal/strconv.uint64pow10" .u64 Lib.pow10Tab
  syn : ∃ te pe, w.cell? ⟨7, 0, none⟩ = some (.iface te pe)
  rng : ∃ te pe, w.cell? ⟨8, 0, none⟩ = some (.iface te pe)
  lev : ∀ (i : Nat) x, levL[i]? = some x → w.cell? ⟨0, i, none⟩ = some (.string (B x))
  top : ∀ (i : Nat) x, topL[i]? = some x → w.cell? ⟨1, i, none⟩ = some (.string (B x))
theorem tab_below {w w' : World} {n : String} {k : IntKind} {zs : List Int} (h : Lib.TabIs Tryz.prog w n k zs) (hb : Below w.heap.size w w') : Lib.TabIs Tryz.prog w' n k zs := by
  unfold Lib.TabIs World.var? at h ⊢
  cases hg : Tryz.prog.globalNamed n with
  | none => simp [hg] at h
  | some g =>
    simp only [hg, Option.bind_some] at h ⊢
    have hlt : g < w.heap.size := by
      rcases Nat.lt_or_ge g w.heap.size with h' | h'
      · exact h'
      · simp [Array.getElem?_eq_none h'] at h
    rw [hb.block g hlt]
    exact h
theorem Laid.below {w w' : World} (h : Laid w) (hb : Below w.heap.size w w') : Laid w' := by
  obtain ⟨⟨m, h1⟩, h2, ⟨t1, p1, h3⟩, ⟨t2, p2, h4⟩, h5, h6⟩ := h
  exact ⟨⟨m, pw_cell_below hb h1⟩, tab_below h2 hb, ⟨t1, p1, pw_cell_below hb h3⟩, ⟨t2, p2, pw_cell_below hb h4⟩, fun i x hx => pw_cell_below hb (h5 i x hx), fun i x hx => pw_cell_below hb (h6 i x hx)⟩
theorem below_grow (w : World) (os : Array Obj) : Below w.heap.size w (Go.Sort.grow w os) :=
  ⟨rfl, rfl, rfl, by rw [Go.Sort.size_grow]; omega, fun k hk => Go.Sort.heap_grow_old w os hk⟩
def strconv_Itoa.f (a0 : Int) : Option (ByteArray) := if -9223372036854775808 ≤ a0 ∧ a0 ≤ 9223372036854775807 then some (B (Lib.itoa a0)) else none
theorem strconv_Itoa.calls (a0 : Int) (r : ByteArray) (w : World) (hL : Laid w) (h : strconv_Itoa.f a0 = some r) :
    Calls Tryz.prog 81 #[.int .i64 a0] w fun e w' => e = .returned (.string r) ∧ Below w.heap.size w w' := by
  unfold strconv_Itoa.f at h
  split at h
  · rename_i hc
    obtain rfl := Option.some.inj h
    refine (Tryz.strconv_Itoa a0 hc.1 hc.2 w hL.pow).mono ?_
    rintro e w' ⟨rfl, k, os, rfl⟩
    exact ⟨rfl, bsq (pw_below_drewN (Below.refl _ _) k) (below_grow (w.drewN k) os)⟩
  · cases h
def strings_Join.f (l0 : List ByteArray) (a1 : ByteArray) : Option (ByteArray) := if l0.length ≤ 140737488355328 ∧ (Lib.join (l0.map (·.data.toList)) a1.data.toList).length ≤ 140737488355328 then some (B (Lib.join (l0.map (·.data.toList)) a1.data.toList)) else none
theorem plain_of {w : World} {ad : Addr} {v : Value} (h : w.cell? ad = some v) : ad = ⟨ad.block, ad.off, none⟩ := by
  obtain ⟨b, o, s⟩ := ad
  cases s with
  | none => rfl
  | some k =>
    unfold World.cell? at h
    split at h
    · simp at h
    · cases h
theorem C_strings {w : World} {A : Option Addr} {l : List ByteArray} (h : Kd.C Kd.string w A l.length l) (h0 : 0 < l.length) : ∃ bk o, A = some ⟨bk, o, none⟩ ∧ bk < w.heap.size ∧ ∀ (j : Nat) x, l[j]? = some x → w.cell? ⟨bk, o + j, none⟩ = some (.string x) := by
  obtain ⟨ad, hA, hc⟩ := h.2.2 h0
  have key : ∀ (j : Nat) x, l[j]? = some x → w.cell? (ad.add j) = some (.string x) := fun j x hx => by
    obtain ⟨c, _, hK, hcell⟩ := hc j x hx
    obtain rfl : c = [.string x] := hK
    have := hcell 0 _ rfl
    have e : j * Kd.string.sz + 0 = j := by show j * 1 + 0 = j; omega
    rw [e] at this
    exact this
  obtain ⟨x0, hx0⟩ : ∃ x, l[0]? = some x := ⟨l[0], List.getElem?_eq_getElem h0⟩
  have h1 := key 0 x0 hx0
  have e0 : ad.add 0 = ad := by simp [Addr.add]
  rw [e0] at h1
  have ep := plain_of h1
  refine ⟨ad.block, ad.off, by rw [hA]; exact congrArg some ep, World.block_lt_of_cell? w _ h1, fun j x hx => ?_⟩
  have h2 := key j x hx
  rw [ep] at h2
  have e3 : (⟨ad.block, ad.off, none⟩ : Addr).add j = ⟨ad.block, ad.off + j, none⟩ := by
    rcases Nat.eq_zero_or_pos j with rfl | hj
    · rfl
    · rw [Addr.add, if_neg (by omega)]
  rw [e3] at h2
  exact h2
theorem strings_Join.calls (A0 : Option Addr) (c0 : Nat) (l0 : List ByteArray) (a1 : ByteArray) (r : ByteArray) (w : World) (hr0 : Kd.C Kd.string w A0 l0.length l0) (hc0 : l0.length ≤ c0) (h : strings_Join.f l0 a1 = some r) :
    Calls Tryz.prog 115 #[.slice A0 l0.length c0, .string a1] w fun e w' => e = .returned (.string r) ∧ Below w.heap.size w w' := by
  unfold strings_Join.f at h
  split at h
  · rename_i hc
    obtain rfl := Option.some.inj h
    rcases Nat.eq_zero_or_pos l0.length with h0 | h0
    · obtain rfl : l0 = [] := List.eq_nil_of_length_eq_zero h0
      refine (Tryz.strings_Join_none A0 c0 a1 w).mono ?_
      rintro e w' ⟨rfl, rfl⟩
      exact ⟨rfl, Below.refl _ _⟩
    · obtain ⟨bk, o, rfl, hbk, hcells⟩ := C_strings hr0 h0
      exact Tryz.strings_Join bk o c0 l0 a1 w hcells hbk hc.1 hc0 hc.2
  · cases h
def strings_Split.f (a0 : ByteArray) (a1 : ByteArray) : Option (List ByteArray) := if a0.size < 4294967281 ∧ 1 ≤ a1.size then some (Lib.splitB a1 0 (Lib.countB a0 a1) a0) else none
theorem R_of_new (W : World) {xs : List ByteArray} (hm : xs.length ≤ 9223372036854775807) :
    Kd.R Kd.string 9 (W.alloc (.cells (xs.map Value.string).toArray 9)) W.heap.size (fun _ => True) (.slice (some ⟨W.heap.size, 0, none⟩) xs.length xs.length) xs := by
  have hr : Reps (fun x cs => cs = [Value.string x]) 1 xs (xs.map Value.string) := by
    refine ⟨by simp, fun j p hj => ?_⟩
    rw [Nat.mul_one]
    obtain ⟨hl, rfl⟩ := List.getElem?_eq_some_iff.1 hj
    rw [List.drop_eq_getElem_cons (by simpa using hl)]
    simp
  exact ⟨fun _ _ => trivial, OwnRow.lit (e := 9) W W.heap.size hr (Nat.le_refl _) hm⟩
theorem strings_Split.calls (a0 : ByteArray) (a1 : ByteArray) (r : List ByteArray) (w : World) (hL : Laid w) (h : strings_Split.f a0 a1 = some r) :
    Calls Tryz.prog 45 #[.string a0, .string a1] w fun e w' => ∃ v0_ : Value, e = .returned (v0_) ∧ Kd.R Kd.string 9 w' w.heap.size (fun _ => True) v0_ r ∧ Below w.heap.size w w' := by
  unfold strings_Split.f at h
  split at h
  · rename_i hc
    obtain rfl := Option.some.inj h
    obtain ⟨m, hm⟩ := hL.ml
    refine (Tryz.strings_Split a0 a1 m w hc.1 hm hc.2).mono ?_
    rintro e w' ⟨rfl, rfl⟩
    have hl := Lib.splitB_all a1 hc.2 0 _ a0 rfl
    have hle : Lib.countB a0 a1 + 1 ≤ 9223372036854775807 := by
      have := Lib.countB_le a1 hc.2 _ a0 (Nat.le_refl _)
      omega
    refine ⟨_, rfl, ?_, (Below.refl _ _).alloc (Nat.le_refl _) _⟩
    have hR := R_of_new w (xs := Lib.splitB a1 0 (Lib.countB a0 a1) a0) (by omega)
    rw [hl] at hR
    exact hR
  · cases h
def cutL (a0 a1 : ByteArray) : ByteArray × ByteArray × Bool := (B (Lib.cut a0.data.toList a1.data.toList).1, B (Lib.cut a0.data.toList a1.data.toList).2.1, (Lib.cut a0.data.toList a1.data.toList).2.2)
def strings_Cut.f (a0 : ByteArray) (a1 : ByteArray) : Option (ByteArray × ByteArray × Bool) := if a0.size < 4294967281 then some (cutL a0 a1) else none
theorem strings_Cut.calls (a0 : ByteArray) (a1 : ByteArray) (r1 : ByteArray) (r2 : ByteArray) (r3 : Bool) (w : World) (hL : Laid w) (h : strings_Cut.f a0 a1 = some (r1, r2, r3)) :
    Calls Tryz.prog 38 #[.string a0, .string a1] w fun e w' => e = .returned (.tuple #[.string r1, .string r2, .bool r3]) ∧ Dq w w' := by
  unfold strings_Cut.f at h
  split at h
  · rename_i hc
    have h1 := Option.some.inj h
    simp only [cutL, Prod.mk.injEq] at h1
    obtain ⟨rfl, rfl, rfl⟩ := h1
    obtain ⟨m, hm⟩ := hL.ml
    refine (Tryz.strings_Cut a0 a1 m w hc hm).mono ?_
    rintro e w' ⟨rfl, n, rfl⟩
    exact ⟨rfl, ⟨⟨n, rfl⟩⟩⟩
  · cases h
def strings_Contains.f (a0 : ByteArray) (a1 : ByteArray) : Option (Bool) := if a1 = ⟨#[35]⟩ then some (decide (0 ≤ Lib.indexByte a0.data.toList 35)) else none
theorem strings_Contains.calls (a0 : ByteArray) (a1 : ByteArray) (r : Bool) (w : World) (h : strings_Contains.f a0 a1 = some r) :
    Calls Tryz.prog 130 #[.string a0, .string a1] w fun e w' => e = .returned (.bool r) ∧ Dq w w' := by
  unfold strings_Contains.f at h
  split at h
  · rename_i hc
    obtain rfl := Option.some.inj h
    subst hc
    refine (Tryz.strings_Contains_one a0 35 w).mono ?_
    rintro e w' ⟨rfl, rfl⟩
    exact ⟨rfl, Dq.refl _⟩
  · cases h
theorem toLower_calls (a0 : ByteArray) (w : World) (hs : a0.size ≤ 140737488355328) (ha : ∀ b ∈ a0.data.toList, b.toNat < 128) :
    Calls Tryz.prog 42 #[.string a0] w fun e w' => e = .returned (.string (B (Lib.toLowerA a0.data.toList))) ∧ Below w.heap.size w w' :=
  Tryz.strings_ToLower_ascii a0 w hs (fun j b hj => ha b (List.mem_of_getElem? hj))
theorem atoi_ok (s : ByteArray) (hlim : s.size ≤ 281474976710656) (v : Int) (h : Lib.atoiAll s.data.toList = .ok v) (w : World) :
    Calls Tryz.prog 117 #[.string s] w fun e w' => e = .returned (.tuple #[.int .i64 v, .nilIface]) ∧ Below w.heap.size w w' := by
  refine (Tryz.strconv_Atoi_ok s (by omega) v h w).mono ?_
  rintro e w' ⟨rfl, hw⟩
  refine ⟨rfl, ?_⟩
  rcases hw with rfl | ⟨t, rfl⟩
  · exact Below.refl _ _
  · exact Lib.bytesWorld_below _ _ _
theorem atoi_no (s : ByteArray) (hlim : s.size ≤ 281474976710656) (h : ∀ v, Lib.atoiAll s.data.toList ≠ .ok v) (w : World) (hL : Laid w) :
    Calls Tryz.prog 117 #[.string s] w fun e w' => ∃ (n : Int) (t : TypeId) (N : Nat), e = .returned (.tuple #[.int .i64 n, .iface t (.pointer (some ⟨N, 0, none⟩))]) ∧ Below w.heap.size w w' := by
  cases hc : Lib.atoiAll s.data.toList with
  | ok v => exact absurd hc (h v)
  | range =>
    obtain ⟨te, pe, hv⟩ := hL.rng
    refine (Tryz.strconv_Atoi_range s hlim hc _ w hv (.inr ⟨te, pe, rfl⟩)).mono ?_
    rintro e w' ⟨N, rfl, -, -, hb⟩
    exact ⟨_, _, _, rfl, hb⟩
  | _ =>
    obtain ⟨te, pe, hv⟩ := hL.syn
    refine (Tryz.strconv_Atoi_syntax s hlim h (by rw [hc]; intro h_; cases h_) _ w hv (.inr ⟨te, pe, rfl⟩)).mono ?_
    rintro e w' ⟨N, rfl, -, -, hb⟩
    exact ⟨_, _, _, rfl, hb⟩
end Go.Proofs.YtlfoojgbiafffaaGreatDoor.Strs
