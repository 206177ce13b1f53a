/-
  The walk of impl.warningLine: the line of a warning. Conditions: none of ours.
-/
import Derived.Test.YtlfoojgbiafffaaGreatDoorStrsC
import Derived.Test.YtlfoojgbiafffaaGreatDoorWTab
import Derived.Test.YtlfoojgbiafffaaGreatDoorWFour
import Derived.Test.YtlfoojgbiafffaaGreatDoorWN
import Derived.Test.YtlfoojgbiafffaaGreatDoorWNEv
import Derived.Test.YtlfoojgbiafffaaGreatDoorWRepsOne
namespace Go.Proofs.YtlfoojgbiafffaaGreatDoor.Strs
open Go.RowKit Go.Proofs.YtlfoojgbiafffaaGreatDoorW.PrintWords Go.Proofs.YtlfoojgbiafffaaGreatDoorW.PrintLast Go.Proofs.YtlfoojgbiafffaaGreatDoorW.PrintMore
set_option linter.unusedVariables false
set_option linter.unusedSimpArgs false
attribute [local go_sem] max2_int min2_int max_two min_two max_three min_three max_four min_four
theorem zpu {P : Program} {ops : Array Oper} {Q : Exit → Act → World → Prop} {md : Region.Mode} {S : World → Prop} {ds : List Nat} {T : Bool × List (List Nat × List Nat)} {oi : Oper} {v : Value} {fuel : Nat} {l : Array Bool} {a a' : Act} {w : World} (i n : Nat) (l' : Array Bool) (hT : rtab md ops = T) (h : wpAnyLast P md ops Q S ds fuel l' a' w)
  (hi : ops[i]? = some oi := by rfl) (hN : oi.dst = some n := by rfl) (hc : anyT T l.toList l'.toList i = true := by kernel_rfl) (hQ : ∀ c a w, Q (.panic c) (a.put oi.dst v) w → Q (.panic c) a w := by exact fun _ _ _ h => h) (hy : Yields P ops oi v a := by (refine Or.inl ⟨by rfl, ?_⟩; intro w'; go_simp; with_reducible rfl))
  (ha : a.put (some n) v = a' := by (simp only [Act.put, List.setIfInBounds_toArray, List.set_cons_zero, List.set_cons_succ, i64_w, i32_w]; rfl)) : wpAnyLast P md ops Q S ds (fuel + 1) l a w := pure_ l' hi hN (any_of hT hc) hQ hy ha h
theorem zpn {P : Program} {ops : Array Oper} {Q : Exit → Act → World → Prop} {md : Region.Mode} {S : World → Prop} {ds : List Nat} {T : Bool × List (List Nat × List Nat)} {oi : Oper} {fuel : Nat} {l : Array Bool} {a a' : Act} {w : World} (i n : Nat) (l' : Array Bool) (hT : rtab md ops = T) (h : wpAnyLast P md ops Q S ds fuel l' a' w)
  (hi : ops[i]? = some oi := by rfl) (hN : oi.dst = some n := by rfl) (hc : anyT T l.toList l'.toList i = true := by kernel_rfl) (hQ : ∀ c a w, Q (.panic c) (a.put oi.dst undef) w → Q (.panic c) a w := by exact fun _ _ _ h => h) (hy : Yields P ops oi undef a := by exact Or.inr ⟨by rfl, rfl⟩)
  (ha : a.put (some n) undef = a' := by (simp only [Act.put, List.setIfInBounds_toArray, List.set_cons_zero, List.set_cons_succ, i64_w, i32_w]; rfl)) : wpAnyLast P md ops Q S ds (fuel + 1) l a w := pure_ l' hi hN (any_of hT hc) hQ hy ha h
abbrev T : Bool := true
abbrev F : Bool := false
def gLev.f : Option (List ByteArray) := some (levL.map B)
def gTop.f : Option (List ByteArray) := some (topL.map B)
theorem rdOf_get (l : List ByteArray) (i : Int) (h0 : 0 ≤ i) (h1 : i < (l.length : Int)) : l[i.toNat]? = some (rdOf ByteArray.empty l i) := by
  have hl : i.toNat < l.length := by omega
  rw [List.getElem?_eq_getElem hl]
  unfold rdOf
  rw [List.getD_eq_getElem?_getD, List.getElem?_eq_getElem hl]; rfl
theorem gLev_cell {w : World} {t : List ByteArray} {i : Int} (hL : Laid w) (h : gLev.f = some t) (h0 : 0 ≤ i) (h1 : i < (t.length : Int)) : w.cell? ⟨0, i.toNat, none⟩ = some (.string (rdOf ByteArray.empty t i)) := by
  obtain rfl := Option.some.inj h
  have h2 := rdOf_get _ i h0 h1
  rw [List.getElem?_map] at h2
  obtain ⟨x, hx, e⟩ := Option.map_eq_some_iff.1 h2
  rw [← e]
  exact hL.lev _ x hx
theorem gTop_cell {w : World} {t : List ByteArray} {i : Int} (hL : Laid w) (h : gTop.f = some t) (h0 : 0 ≤ i) (h1 : i < (t.length : Int)) : w.cell? ⟨1, i.toNat, none⟩ = some (.string (rdOf ByteArray.empty t i)) := by
  obtain rfl := Option.some.inj h
  have h2 := rdOf_get _ i h0 h1
  rw [List.getElem?_map] at h2
  obtain ⟨x, hx, e⟩ := Option.map_eq_some_iff.1 h2
  rw [← e]
  exact hL.top _ x hx
theorem gLev_lt {t : List ByteArray} {i : Int} (h : gLev.f = some t) (h1 : i < (t.length : Int)) : i < 4 := by
  obtain rfl := Option.some.inj h; exact h1
theorem gTop_lt {t : List ByteArray} {i : Int} (h : gTop.f = some t) (h1 : i < (t.length : Int)) : i < 6 := by
  obtain rfl := Option.some.inj h; exact h1
def qR.f (a0 : ByteArray) : Option ByteArray := if a0.size ≤ 140737488355328 ∧ (a0.data.toList.all fun b => decide (b.toNat < 128)) = true then some (B (Lib.toLowerA a0.data.toList)) else none
theorem qR.calls (a0 : ByteArray) (r : ByteArray) (w : World) (h : qR.f a0 = some r) :
    Calls Tryz.prog 42 #[.string a0] w fun e w' => e = .returned (.string r) ∧ Below w.heap.size w w' := by
  unfold qR.f at h
  split at h
  · rename_i hc
    obtain rfl := Option.some.inj h
    exact toLower_calls a0 w hc.1 (fun b hb => by simpa using List.all_eq_true.1 hc.2 b hb)
  · cases h
def wlRaw.f (k : Nat) (a0_0 : Int) (a0_1 : Int) (a0_2 : Int) (a0_3 : Int) (a0_4 : Int) (a0_5 : Int) : Option (ByteArray) := (gLev.f).bind fun t210 => ((gTop.f).bind fun t213 => ((strconv_Itoa.f a0_0).bind fun t216 => (if t216.size + 2 ≤ 9223372036854775807 then (if 0 ≤ a0_2 then (if a0_2 < (t210.length : Int) then ((qR.f (rdOf ByteArray.empty t210 a0_2)).bind fun t218 => (if (t216 ++ (⟨#[58, 32]⟩ : ByteArray)).size + t218.size ≤ 9223372036854775807 then (if ((t216 ++ (⟨#[58, 32]⟩ : ByteArray)) ++ t218).size + 1 ≤ 9223372036854775807 then (if 0 ≤ a0_1 then (if a0_1 < (t213.length : Int) then (if (((t216 ++ (⟨#[58, 32]⟩ : ByteArray)) ++ t218) ++ (⟨#[32]⟩ : ByteArray)).size + (rdOf ByteArray.empty t213 a0_1).size ≤ 9223372036854775807 then (if ((((t216 ++ (⟨#[58, 32]⟩ : ByteArray)) ++ t218) ++ (⟨#[32]⟩ : ByteArray)) ++ (rdOf ByteArray.empty t213 a0_1)).size + 7 ≤ 9223372036854775807 then ((strconv_Itoa.f a0_3).bind fun t220 => (if (((((t216 ++ (⟨#[58, 32]⟩ : ByteArray)) ++ t218) ++ (⟨#[32]⟩ : ByteArray)) ++ (rdOf ByteArray.empty t213 a0_1)) ++ (⟨#[44, 32, 97, 114, 101, 97, 32]⟩ : ByteArray)).size + t220.size ≤ 9223372036854775807 then (if ((((((t216 ++ (⟨#[58, 32]⟩ : ByteArray)) ++ t218) ++ (⟨#[32]⟩ : ByteArray)) ++ (rdOf ByteArray.empty t213 a0_1)) ++ (⟨#[44, 32, 97, 114, 101, 97, 32]⟩ : ByteArray)) ++ t220).size + 8 ≤ 9223372036854775807 then ((qD.f k (([a0_4, a0_5] : List Int)) (⟨#[45]⟩ : ByteArray)).bind fun t224 => (if (((((((t216 ++ (⟨#[58, 32]⟩ : ByteArray)) ++ t218) ++ (⟨#[32]⟩ : ByteArray)) ++ (rdOf ByteArray.empty t213 a0_1)) ++ (⟨#[44, 32, 97, 114, 101, 97, 32]⟩ : ByteArray)) ++ t220) ++ (⟨#[44, 32, 104, 111, 117, 114, 115, 32]⟩ : ByteArray)).size + t224.size ≤ 9223372036854775807 then (some ((((((((t216 ++ (⟨#[58, 32]⟩ : ByteArray)) ++ t218) ++ (⟨#[32]⟩ : ByteArray)) ++ (rdOf ByteArray.empty t213 a0_1)) ++ (⟨#[44, 32, 97, 114, 101, 97, 32]⟩ : ByteArray)) ++ t220) ++ (⟨#[44, 32, 104, 111, 117, 114, 115, 32]⟩ : ByteArray)) ++ t224)) else (none))) else (none)) else (none))) else (none)) else (none)) else (none)) else (none)) else (none)) else (none))) else (none)) else (none)) else (none))))
def wlRaw.T1 : Bool × List (List Nat × List Nat) := (true, [([], []), ([0], [0]), ([1], [1]), ([2], [2]), ([], []), ([4], [4]), ([5], [5]), ([6], [6]), ([7, 2], [7]), ([3, 8], [3, 8]), ([9], [9]), ([], []), ([11], [11]), ([12], [12]), ([13], [13]), ([10, 14], [10, 14]), ([15], [15]), ([], []), ([17], [17]), ([18, 8], [18]), ([16, 19], [16, 19]), ([20], [20]), ([], []), ([22], [22]), ([], []), ([24], [24]), ([23, 25], [23, 25]), ([26, 19], [26]), ([21, 27], [21, 27]), ([28, 27, 0, 1, 2, 3, 4, 5, 6, 7, 8, 9, 10, 11, 12, 13, 14, 15, 16, 17, 18, 19, 20, 21, 22, 23, 24, 25, 26, 27, 28], [28])])
def wlRaw.B1 : List Nat := [0, 1, 3, 7, 0, 16, 48, 112, 247, 511, 1023, 0, 2048, 6144, 14336, 32767, 65535, 0, 131072, 393719, 1048575, 2097151, 0, 4194304, 0, 16777216, 62914560, 130941431, 268435455, 536870911]
theorem wlRaw.tab1 : rtab .any (opsOf Tryz.f37 1) = wlRaw.T1 := by kernel_rfl
theorem wlRaw.bits1 : waitsOk wlRaw.T1.2 wlRaw.B1 = true := by kernel_rfl
set_option maxHeartbeats 8000000 in
set_option maxRecDepth 100000 in
theorem wlRaw.calls (k : Nat) (a0_0 : Int) (a0_1 : Int) (a0_2 : Int) (a0_3 : Int) (a0_4 : Int) (a0_5 : Int) (r : ByteArray) (w : World) (hL : Laid w) (h : wlRaw.f k a0_0 a0_1 a0_2 a0_3 a0_4 a0_5 = some r) :
 Calls Tryz.prog 37 #[.agg #[.int .i64 a0_0, .int .i64 a0_1, .int .i64 a0_2, .int .i64 a0_3, .int .i64 a0_4, .int .i64 a0_5]] w fun e w' => e = .returned (.string r) ∧ Below w.heap.size w w' := by
 have hu25 := Tryz.underlying25
 have hu62 := Tryz.underlying62
 have hu65 := Tryz.underlying65
 have HL := Aq.mk hL
 clear hL
 have HB := Aq.mk (Below.refl w.heap.size w)
 have H : ((gLev.f).bind fun t210 => ((gTop.f).bind fun t213 => ((strconv_Itoa.f a0_0).bind fun t216 => (if t216.size + 2 ≤ 9223372036854775807 then (if 0 ≤ a0_2 then (if a0_2 < (t210.length : Int) then ((qR.f (rdOf ByteArray.empty t210 a0_2)).bind fun t218 => (if (t216 ++ (⟨#[58, 32]⟩ : ByteArray)).size + t218.size ≤ 9223372036854775807 then (if ((t216 ++ (⟨#[58, 32]⟩ : ByteArray)) ++ t218).size + 1 ≤ 9223372036854775807 then (if 0 ≤ a0_1 then (if a0_1 < (t213.length : Int) then (if (((t216 ++ (⟨#[58, 32]⟩ : ByteArray)) ++ t218) ++ (⟨#[32]⟩ : ByteArray)).size + (rdOf ByteArray.empty t213 a0_1).size ≤ 9223372036854775807 then (if ((((t216 ++ (⟨#[58, 32]⟩ : ByteArray)) ++ t218) ++ (⟨#[32]⟩ : ByteArray)) ++ (rdOf ByteArray.empty t213 a0_1)).size + 7 ≤ 9223372036854775807 then ((strconv_Itoa.f a0_3).bind fun t220 => (if (((((t216 ++ (⟨#[58, 32]⟩ : ByteArray)) ++ t218) ++ (⟨#[32]⟩ : ByteArray)) ++ (rdOf ByteArray.empty t213 a0_1)) ++ (⟨#[44, 32, 97, 114, 101, 97, 32]⟩ : ByteArray)).size + t220.size ≤ 9223372036854775807 then (if ((((((t216 ++ (⟨#[58, 32]⟩ : ByteArray)) ++ t218) ++ (⟨#[32]⟩ : ByteArray)) ++ (rdOf ByteArray.empty t213 a0_1)) ++ (⟨#[44, 32, 97, 114, 101, 97, 32]⟩ : ByteArray)) ++ t220).size + 8 ≤ 9223372036854775807 then ((qD.f k (([a0_4, a0_5] : List Int)) (⟨#[45]⟩ : ByteArray)).bind fun t224 => (if (((((((t216 ++ (⟨#[58, 32]⟩ : ByteArray)) ++ t218) ++ (⟨#[32]⟩ : ByteArray)) ++ (rdOf ByteArray.empty t213 a0_1)) ++ (⟨#[44, 32, 97, 114, 101, 97, 32]⟩ : ByteArray)) ++ t220) ++ (⟨#[44, 32, 104, 111, 117, 114, 115, 32]⟩ : ByteArray)).size + t224.size ≤ 9223372036854775807 then (some ((((((((t216 ++ (⟨#[58, 32]⟩ : ByteArray)) ++ t218) ++ (⟨#[32]⟩ : ByteArray)) ++ (rdOf ByteArray.empty t213 a0_1)) ++ (⟨#[44, 32, 97, 114, 101, 97, 32]⟩ : ByteArray)) ++ t220) ++ (⟨#[44, 32, 104, 111, 117, 114, 115, 32]⟩ : ByteArray)) ++ t224)) else (none))) else (none)) else (none))) else (none)) else (none)) else (none)) else (none)) else (none)) else (none))) else (none)) else (none)) else (none))))) = some r := h
 clear h
 replace H := Option.bind_eq_some_iff.mp H
 obtain ⟨t210, A20, H⟩ := H
 replace H : ((gTop.f).bind fun t213 => ((strconv_Itoa.f a0_0).bind fun t216 => (if t216.size + 2 ≤ 9223372036854775807 then (if 0 ≤ a0_2 then (if a0_2 < (t210.length : Int) then ((qR.f (rdOf ByteArray.empty t210 a0_2)).bind fun t218 => (if (t216 ++ (⟨#[58, 32]⟩ : ByteArray)).size + t218.size ≤ 9223372036854775807 then (if ((t216 ++ (⟨#[58, 32]⟩ : ByteArray)) ++ t218).size + 1 ≤ 9223372036854775807 then (if 0 ≤ a0_1 then (if a0_1 < (t213.length : Int) then (if (((t216 ++ (⟨#[58, 32]⟩ : ByteArray)) ++ t218) ++ (⟨#[32]⟩ : ByteArray)).size + (rdOf ByteArray.empty t213 a0_1).size ≤ 9223372036854775807 then (if ((((t216 ++ (⟨#[58, 32]⟩ : ByteArray)) ++ t218) ++ (⟨#[32]⟩ : ByteArray)) ++ (rdOf ByteArray.empty t213 a0_1)).size + 7 ≤ 9223372036854775807 then ((strconv_Itoa.f a0_3).bind fun t220 => (if (((((t216 ++ (⟨#[58, 32]⟩ : ByteArray)) ++ t218) ++ (⟨#[32]⟩ : ByteArray)) ++ (rdOf ByteArray.empty t213 a0_1)) ++ (⟨#[44, 32, 97, 114, 101, 97, 32]⟩ : ByteArray)).size + t220.size ≤ 9223372036854775807 then (if ((((((t216 ++ (⟨#[58, 32]⟩ : ByteArray)) ++ t218) ++ (⟨#[32]⟩ : ByteArray)) ++ (rdOf ByteArray.empty t213 a0_1)) ++ (⟨#[44, 32, 97, 114, 101, 97, 32]⟩ : ByteArray)) ++ t220).size + 8 ≤ 9223372036854775807 then ((qD.f k (([a0_4, a0_5] : List Int)) (⟨#[45]⟩ : ByteArray)).bind fun t224 => (if (((((((t216 ++ (⟨#[58, 32]⟩ : ByteArray)) ++ t218) ++ (⟨#[32]⟩ : ByteArray)) ++ (rdOf ByteArray.empty t213 a0_1)) ++ (⟨#[44, 32, 97, 114, 101, 97, 32]⟩ : ByteArray)) ++ t220) ++ (⟨#[44, 32, 104, 111, 117, 114, 115, 32]⟩ : ByteArray)).size + t224.size ≤ 9223372036854775807 then (some ((((((((t216 ++ (⟨#[58, 32]⟩ : ByteArray)) ++ t218) ++ (⟨#[32]⟩ : ByteArray)) ++ (rdOf ByteArray.empty t213 a0_1)) ++ (⟨#[44, 32, 97, 114, 101, 97, 32]⟩ : ByteArray)) ++ t220) ++ (⟨#[44, 32, 104, 111, 117, 114, 115, 32]⟩ : ByteArray)) ++ t224)) else (none))) else (none)) else (none))) else (none)) else (none)) else (none)) else (none)) else (none)) else (none))) else (none)) else (none)) else (none)))) = some r := H
 have A2 := Aq.mk A20
 clear A20
 replace H := Option.bind_eq_some_iff.mp H
 obtain ⟨t213, A30, H⟩ := H
 replace H : ((strconv_Itoa.f a0_0).bind fun t216 => (if t216.size + 2 ≤ 9223372036854775807 then (if 0 ≤ a0_2 then (if a0_2 < (t210.length : Int) then ((qR.f (rdOf ByteArray.empty t210 a0_2)).bind fun t218 => (if (t216 ++ (⟨#[58, 32]⟩ : ByteArray)).size + t218.size ≤ 9223372036854775807 then (if ((t216 ++ (⟨#[58, 32]⟩ : ByteArray)) ++ t218).size + 1 ≤ 9223372036854775807 then (if 0 ≤ a0_1 then (if a0_1 < (t213.length : Int) then (if (((t216 ++ (⟨#[58, 32]⟩ : ByteArray)) ++ t218) ++ (⟨#[32]⟩ : ByteArray)).size + (rdOf ByteArray.empty t213 a0_1).size ≤ 9223372036854775807 then (if ((((t216 ++ (⟨#[58, 32]⟩ : ByteArray)) ++ t218) ++ (⟨#[32]⟩ : ByteArray)) ++ (rdOf ByteArray.empty t213 a0_1)).size + 7 ≤ 9223372036854775807 then ((strconv_Itoa.f a0_3).bind fun t220 => (if (((((t216 ++ (⟨#[58, 32]⟩ : ByteArray)) ++ t218) ++ (⟨#[32]⟩ : ByteArray)) ++ (rdOf ByteArray.empty t213 a0_1)) ++ (⟨#[44, 32, 97, 114, 101, 97, 32]⟩ : ByteArray)).size + t220.size ≤ 9223372036854775807 then (if ((((((t216 ++ (⟨#[58, 32]⟩ : ByteArray)) ++ t218) ++ (⟨#[32]⟩ : ByteArray)) ++ (rdOf ByteArray.empty t213 a0_1)) ++ (⟨#[44, 32, 97, 114, 101, 97, 32]⟩ : ByteArray)) ++ t220).size + 8 ≤ 9223372036854775807 then ((qD.f k (([a0_4, a0_5] : List Int)) (⟨#[45]⟩ : ByteArray)).bind fun t224 => (if (((((((t216 ++ (⟨#[58, 32]⟩ : ByteArray)) ++ t218) ++ (⟨#[32]⟩ : ByteArray)) ++ (rdOf ByteArray.empty t213 a0_1)) ++ (⟨#[44, 32, 97, 114, 101, 97, 32]⟩ : ByteArray)) ++ t220) ++ (⟨#[44, 32, 104, 111, 117, 114, 115, 32]⟩ : ByteArray)).size + t224.size ≤ 9223372036854775807 then (some ((((((((t216 ++ (⟨#[58, 32]⟩ : ByteArray)) ++ t218) ++ (⟨#[32]⟩ : ByteArray)) ++ (rdOf ByteArray.empty t213 a0_1)) ++ (⟨#[44, 32, 97, 114, 101, 97, 32]⟩ : ByteArray)) ++ t220) ++ (⟨#[44, 32, 104, 111, 117, 114, 115, 32]⟩ : ByteArray)) ++ t224)) else (none))) else (none)) else (none))) else (none)) else (none)) else (none)) else (none)) else (none)) else (none))) else (none)) else (none)) else (none))) = some r := H
 have A3 := Aq.mk A30
 clear A30
 replace H := Option.bind_eq_some_iff.mp H
 obtain ⟨t216, A40, H⟩ := H
 replace H : (if t216.size + 2 ≤ 9223372036854775807 then (if 0 ≤ a0_2 then (if a0_2 < (t210.length : Int) then ((qR.f (rdOf ByteArray.empty t210 a0_2)).bind fun t218 => (if (t216 ++ (⟨#[58, 32]⟩ : ByteArray)).size + t218.size ≤ 9223372036854775807 then (if ((t216 ++ (⟨#[58, 32]⟩ : ByteArray)) ++ t218).size + 1 ≤ 9223372036854775807 then (if 0 ≤ a0_1 then (if a0_1 < (t213.length : Int) then (if (((t216 ++ (⟨#[58, 32]⟩ : ByteArray)) ++ t218) ++ (⟨#[32]⟩ : ByteArray)).size + (rdOf ByteArray.empty t213 a0_1).size ≤ 9223372036854775807 then (if ((((t216 ++ (⟨#[58, 32]⟩ : ByteArray)) ++ t218) ++ (⟨#[32]⟩ : ByteArray)) ++ (rdOf ByteArray.empty t213 a0_1)).size + 7 ≤ 9223372036854775807 then ((strconv_Itoa.f a0_3).bind fun t220 => (if (((((t216 ++ (⟨#[58, 32]⟩ : ByteArray)) ++ t218) ++ (⟨#[32]⟩ : ByteArray)) ++ (rdOf ByteArray.empty t213 a0_1)) ++ (⟨#[44, 32, 97, 114, 101, 97, 32]⟩ : ByteArray)).size + t220.size ≤ 9223372036854775807 then (if ((((((t216 ++ (⟨#[58, 32]⟩ : ByteArray)) ++ t218) ++ (⟨#[32]⟩ : ByteArray)) ++ (rdOf ByteArray.empty t213 a0_1)) ++ (⟨#[44, 32, 97, 114, 101, 97, 32]⟩ : ByteArray)) ++ t220).size + 8 ≤ 9223372036854775807 then ((qD.f k (([a0_4, a0_5] : List Int)) (⟨#[45]⟩ : ByteArray)).bind fun t224 => (if (((((((t216 ++ (⟨#[58, 32]⟩ : ByteArray)) ++ t218) ++ (⟨#[32]⟩ : ByteArray)) ++ (rdOf ByteArray.empty t213 a0_1)) ++ (⟨#[44, 32, 97, 114, 101, 97, 32]⟩ : ByteArray)) ++ t220) ++ (⟨#[44, 32, 104, 111, 117, 114, 115, 32]⟩ : ByteArray)).size + t224.size ≤ 9223372036854775807 then (some ((((((((t216 ++ (⟨#[58, 32]⟩ : ByteArray)) ++ t218) ++ (⟨#[32]⟩ : ByteArray)) ++ (rdOf ByteArray.empty t213 a0_1)) ++ (⟨#[44, 32, 97, 114, 101, 97, 32]⟩ : ByteArray)) ++ t220) ++ (⟨#[44, 32, 104, 111, 117, 114, 115, 32]⟩ : ByteArray)) ++ t224)) else (none))) else (none)) else (none))) else (none)) else (none)) else (none)) else (none)) else (none)) else (none))) else (none)) else (none)) else (none)) = some r := H
 have A4 := Aq.mk A40
 clear A40
 by_cases c5 : t216.size + 2 ≤ 9223372036854775807
 rotate_left
 ·rw [if_neg c5] at H
  exact absurd H (by simp)
 rw [if_pos c5] at H
 have c5b0 := eq_true c5
 have c5b1 : decide (t216.size + 2 ≤ 9223372036854775807) = true := decide_eq_true c5
 try have c5b2 : (9223372036854775807 < t216.size + 2) = False := eq_false (Nat.not_lt.2 c5)
 obtain ⟨c6, H⟩ := zin H
 have c6b0 : decide (0 ≤ a0_2) = true := decide_eq_true c6
 clear c6
 obtain ⟨c7, H⟩ := zin H
 have c7b0 : decide (a0_2 < (t210.length : Int)) = true := decide_eq_true c7
 clear c7
 replace H := Option.bind_eq_some_iff.mp H
 obtain ⟨t218, A80, H⟩ := H
 replace H : (if (t216 ++ (⟨#[58, 32]⟩ : ByteArray)).size + t218.size ≤ 9223372036854775807 then (if ((t216 ++ (⟨#[58, 32]⟩ : ByteArray)) ++ t218).size + 1 ≤ 9223372036854775807 then (if 0 ≤ a0_1 then (if a0_1 < (t213.length : Int) then (if (((t216 ++ (⟨#[58, 32]⟩ : ByteArray)) ++ t218) ++ (⟨#[32]⟩ : ByteArray)).size + (rdOf ByteArray.empty t213 a0_1).size ≤ 9223372036854775807 then (if ((((t216 ++ (⟨#[58, 32]⟩ : ByteArray)) ++ t218) ++ (⟨#[32]⟩ : ByteArray)) ++ (rdOf ByteArray.empty t213 a0_1)).size + 7 ≤ 9223372036854775807 then ((strconv_Itoa.f a0_3).bind fun t220 => (if (((((t216 ++ (⟨#[58, 32]⟩ : ByteArray)) ++ t218) ++ (⟨#[32]⟩ : ByteArray)) ++ (rdOf ByteArray.empty t213 a0_1)) ++ (⟨#[44, 32, 97, 114, 101, 97, 32]⟩ : ByteArray)).size + t220.size ≤ 9223372036854775807 then (if ((((((t216 ++ (⟨#[58, 32]⟩ : ByteArray)) ++ t218) ++ (⟨#[32]⟩ : ByteArray)) ++ (rdOf ByteArray.empty t213 a0_1)) ++ (⟨#[44, 32, 97, 114, 101, 97, 32]⟩ : ByteArray)) ++ t220).size + 8 ≤ 9223372036854775807 then ((qD.f k (([a0_4, a0_5] : List Int)) (⟨#[45]⟩ : ByteArray)).bind fun t224 => (if (((((((t216 ++ (⟨#[58, 32]⟩ : ByteArray)) ++ t218) ++ (⟨#[32]⟩ : ByteArray)) ++ (rdOf ByteArray.empty t213 a0_1)) ++ (⟨#[44, 32, 97, 114, 101, 97, 32]⟩ : ByteArray)) ++ t220) ++ (⟨#[44, 32, 104, 111, 117, 114, 115, 32]⟩ : ByteArray)).size + t224.size ≤ 9223372036854775807 then (some ((((((((t216 ++ (⟨#[58, 32]⟩ : ByteArray)) ++ t218) ++ (⟨#[32]⟩ : ByteArray)) ++ (rdOf ByteArray.empty t213 a0_1)) ++ (⟨#[44, 32, 97, 114, 101, 97, 32]⟩ : ByteArray)) ++ t220) ++ (⟨#[44, 32, 104, 111, 117, 114, 115, 32]⟩ : ByteArray)) ++ t224)) else (none))) else (none)) else (none))) else (none)) else (none)) else (none)) else (none)) else (none)) else (none)) = some r := H
 have A8 := Aq.mk A80
 clear A80
 obtain ⟨c9, H⟩ := zin H
 have c9b0 := eq_true c9
 have c9b1 : decide ((t216 ++ (⟨#[58, 32]⟩ : ByteArray)).size + t218.size ≤ 9223372036854775807) = true := decide_eq_true c9
 try have c9b2 : (9223372036854775807 < (t216 ++ (⟨#[58, 32]⟩ : ByteArray)).size + t218.size) = False := eq_false (Nat.not_lt.2 c9)
 have c9b3 : (9223372036854775807 < t216.size + 2 + t218.size) = False := eq_false (Nat.not_lt.2 (by have h_ := c9; simp only [ByteArray.size_append] at h_; exact h_))
 obtain ⟨c10, H⟩ := zin H
 have c10b0 := eq_true c10
 have c10b1 : decide (((t216 ++ (⟨#[58, 32]⟩ : ByteArray)) ++ t218).size + 1 ≤ 9223372036854775807) = true := decide_eq_true c10
 try have c10b2 : (9223372036854775807 < ((t216 ++ (⟨#[58, 32]⟩ : ByteArray)) ++ t218).size + 1) = False := eq_false (Nat.not_lt.2 c10)
 have c10b3 : (9223372036854775807 < t216.size + 2 + t218.size + 1) = False := eq_false (Nat.not_lt.2 (by have h_ := c10; simp only [ByteArray.size_append] at h_; exact h_))
 obtain ⟨c11, H⟩ := zin H
 have c11b0 : decide (0 ≤ a0_1) = true := decide_eq_true c11
 clear c11
 obtain ⟨c12, H⟩ := zin H
 have c12b0 : decide (a0_1 < (t213.length : Int)) = true := decide_eq_true c12
 clear c12
 obtain ⟨c13, H⟩ := zin H
 have c13b0 := eq_true c13
 have c13b1 : decide ((((t216 ++ (⟨#[58, 32]⟩ : ByteArray)) ++ t218) ++ (⟨#[32]⟩ : ByteArray)).size + (rdOf ByteArray.empty t213 a0_1).size ≤ 9223372036854775807) = true := decide_eq_true c13
 try have c13b2 : (9223372036854775807 < (((t216 ++ (⟨#[58, 32]⟩ : ByteArray)) ++ t218) ++ (⟨#[32]⟩ : ByteArray)).size + (rdOf ByteArray.empty t213 a0_1).size) = False := eq_false (Nat.not_lt.2 c13)
 have c13b3 : (9223372036854775807 < t216.size + 2 + t218.size + 1 + (rdOf ByteArray.empty t213 a0_1).size) = False := eq_false (Nat.not_lt.2 (by have h_ := c13; simp only [ByteArray.size_append] at h_; exact h_))
 obtain ⟨c14, H⟩ := zin H
 have c14b0 := eq_true c14
 have c14b1 : decide (((((t216 ++ (⟨#[58, 32]⟩ : ByteArray)) ++ t218) ++ (⟨#[32]⟩ : ByteArray)) ++ (rdOf ByteArray.empty t213 a0_1)).size + 7 ≤ 9223372036854775807) = true := decide_eq_true c14
 try have c14b2 : (9223372036854775807 < ((((t216 ++ (⟨#[58, 32]⟩ : ByteArray)) ++ t218) ++ (⟨#[32]⟩ : ByteArray)) ++ (rdOf ByteArray.empty t213 a0_1)).size + 7) = False := eq_false (Nat.not_lt.2 c14)
 have c14b3 : (9223372036854775807 < t216.size + 2 + t218.size + 1 + (rdOf ByteArray.empty t213 a0_1).size + 7) = False := eq_false (Nat.not_lt.2 (by have h_ := c14; simp only [ByteArray.size_append] at h_; exact h_))
 replace H := Option.bind_eq_some_iff.mp H
 obtain ⟨t220, A150, H⟩ := H
 replace H : (if (((((t216 ++ (⟨#[58, 32]⟩ : ByteArray)) ++ t218) ++ (⟨#[32]⟩ : ByteArray)) ++ (rdOf ByteArray.empty t213 a0_1)) ++ (⟨#[44, 32, 97, 114, 101, 97, 32]⟩ : ByteArray)).size + t220.size ≤ 9223372036854775807 then (if ((((((t216 ++ (⟨#[58, 32]⟩ : ByteArray)) ++ t218) ++ (⟨#[32]⟩ : ByteArray)) ++ (rdOf ByteArray.empty t213 a0_1)) ++ (⟨#[44, 32, 97, 114, 101, 97, 32]⟩ : ByteArray)) ++ t220).size + 8 ≤ 9223372036854775807 then ((qD.f k (([a0_4, a0_5] : List Int)) (⟨#[45]⟩ : ByteArray)).bind fun t224 => (if (((((((t216 ++ (⟨#[58, 32]⟩ : ByteArray)) ++ t218) ++ (⟨#[32]⟩ : ByteArray)) ++ (rdOf ByteArray.empty t213 a0_1)) ++ (⟨#[44, 32, 97, 114, 101, 97, 32]⟩ : ByteArray)) ++ t220) ++ (⟨#[44, 32, 104, 111, 117, 114, 115, 32]⟩ : ByteArray)).size + t224.size ≤ 9223372036854775807 then (some ((((((((t216 ++ (⟨#[58, 32]⟩ : ByteArray)) ++ t218) ++ (⟨#[32]⟩ : ByteArray)) ++ (rdOf ByteArray.empty t213 a0_1)) ++ (⟨#[44, 32, 97, 114, 101, 97, 32]⟩ : ByteArray)) ++ t220) ++ (⟨#[44, 32, 104, 111, 117, 114, 115, 32]⟩ : ByteArray)) ++ t224)) else (none))) else (none)) else (none)) = some r := H
 have A15 := Aq.mk A150
 clear A150
 obtain ⟨c16, H⟩ := zin H
 have c16b0 := eq_true c16
 have c16b1 : decide ((((((t216 ++ (⟨#[58, 32]⟩ : ByteArray)) ++ t218) ++ (⟨#[32]⟩ : ByteArray)) ++ (rdOf ByteArray.empty t213 a0_1)) ++ (⟨#[44, 32, 97, 114, 101, 97, 32]⟩ : ByteArray)).size + t220.size ≤ 9223372036854775807) = true := decide_eq_true c16
 try have c16b2 : (9223372036854775807 < (((((t216 ++ (⟨#[58, 32]⟩ : ByteArray)) ++ t218) ++ (⟨#[32]⟩ : ByteArray)) ++ (rdOf ByteArray.empty t213 a0_1)) ++ (⟨#[44, 32, 97, 114, 101, 97, 32]⟩ : ByteArray)).size + t220.size) = False := eq_false (Nat.not_lt.2 c16)
 have c16b3 : (9223372036854775807 < t216.size + 2 + t218.size + 1 + (rdOf ByteArray.empty t213 a0_1).size + 7 + t220.size) = False := eq_false (Nat.not_lt.2 (by have h_ := c16; simp only [ByteArray.size_append] at h_; exact h_))
 obtain ⟨c17, H⟩ := zin H
 have c17b0 := eq_true c17
 have c17b1 : decide (((((((t216 ++ (⟨#[58, 32]⟩ : ByteArray)) ++ t218) ++ (⟨#[32]⟩ : ByteArray)) ++ (rdOf ByteArray.empty t213 a0_1)) ++ (⟨#[44, 32, 97, 114, 101, 97, 32]⟩ : ByteArray)) ++ t220).size + 8 ≤ 9223372036854775807) = true := decide_eq_true c17
 try have c17b2 : (9223372036854775807 < ((((((t216 ++ (⟨#[58, 32]⟩ : ByteArray)) ++ t218) ++ (⟨#[32]⟩ : ByteArray)) ++ (rdOf ByteArray.empty t213 a0_1)) ++ (⟨#[44, 32, 97, 114, 101, 97, 32]⟩ : ByteArray)) ++ t220).size + 8) = False := eq_false (Nat.not_lt.2 c17)
 have c17b3 : (9223372036854775807 < t216.size + 2 + t218.size + 1 + (rdOf ByteArray.empty t213 a0_1).size + 7 + t220.size + 8) = False := eq_false (Nat.not_lt.2 (by have h_ := c17; simp only [ByteArray.size_append] at h_; exact h_))
 obtain ⟨y221, hy221⟩ : ∃ y_ : List Int, y_ = (([a0_4, a0_5] : List Int)) := ⟨_, rfl⟩
 replace H : ((qD.f k y221 (⟨#[45]⟩ : ByteArray)).bind fun t224 => (if (((((((t216 ++ (⟨#[58, 32]⟩ : ByteArray)) ++ t218) ++ (⟨#[32]⟩ : ByteArray)) ++ (rdOf ByteArray.empty t213 a0_1)) ++ (⟨#[44, 32, 97, 114, 101, 97, 32]⟩ : ByteArray)) ++ t220) ++ (⟨#[44, 32, 104, 111, 117, 114, 115, 32]⟩ : ByteArray)).size + t224.size ≤ 9223372036854775807 then (some ((((((((t216 ++ (⟨#[58, 32]⟩ : ByteArray)) ++ t218) ++ (⟨#[32]⟩ : ByteArray)) ++ (rdOf ByteArray.empty t213 a0_1)) ++ (⟨#[44, 32, 97, 114, 101, 97, 32]⟩ : ByteArray)) ++ t220) ++ (⟨#[44, 32, 104, 111, 117, 114, 115, 32]⟩ : ByteArray)) ++ t224)) else (none))) = some r := by first | (rw [hy221]; with_reducible exact H) | (have H2_ := (Option.bind_some _ _).symm.trans H; rw [hy221]; with_reducible exact H2_) | (have H2_ := (Option.bind_some _ _).symm.trans H; with_reducible exact H2_) | with_reducible exact H | (rw [hy221]; exact H) | exact H
 have Ny221 := Aq.mk hy221
 clear hy221
 replace H := Option.bind_eq_some_iff.mp H
 obtain ⟨t224, A180, H⟩ := H
 replace H : (if (((((((t216 ++ (⟨#[58, 32]⟩ : ByteArray)) ++ t218) ++ (⟨#[32]⟩ : ByteArray)) ++ (rdOf ByteArray.empty t213 a0_1)) ++ (⟨#[44, 32, 97, 114, 101, 97, 32]⟩ : ByteArray)) ++ t220) ++ (⟨#[44, 32, 104, 111, 117, 114, 115, 32]⟩ : ByteArray)).size + t224.size ≤ 9223372036854775807 then (some ((((((((t216 ++ (⟨#[58, 32]⟩ : ByteArray)) ++ t218) ++ (⟨#[32]⟩ : ByteArray)) ++ (rdOf ByteArray.empty t213 a0_1)) ++ (⟨#[44, 32, 97, 114, 101, 97, 32]⟩ : ByteArray)) ++ t220) ++ (⟨#[44, 32, 104, 111, 117, 114, 115, 32]⟩ : ByteArray)) ++ t224)) else (none)) = some r := H
 have A18 := Aq.mk A180
 clear A180
 obtain ⟨c19, H⟩ := zin H
 have c19b0 := eq_true c19
 have c19b1 : decide ((((((((t216 ++ (⟨#[58, 32]⟩ : ByteArray)) ++ t218) ++ (⟨#[32]⟩ : ByteArray)) ++ (rdOf ByteArray.empty t213 a0_1)) ++ (⟨#[44, 32, 97, 114, 101, 97, 32]⟩ : ByteArray)) ++ t220) ++ (⟨#[44, 32, 104, 111, 117, 114, 115, 32]⟩ : ByteArray)).size + t224.size ≤ 9223372036854775807) = true := decide_eq_true c19
 try have c19b2 : (9223372036854775807 < (((((((t216 ++ (⟨#[58, 32]⟩ : ByteArray)) ++ t218) ++ (⟨#[32]⟩ : ByteArray)) ++ (rdOf ByteArray.empty t213 a0_1)) ++ (⟨#[44, 32, 97, 114, 101, 97, 32]⟩ : ByteArray)) ++ t220) ++ (⟨#[44, 32, 104, 111, 117, 114, 115, 32]⟩ : ByteArray)).size + t224.size) = False := eq_false (Nat.not_lt.2 c19)
 have c19b3 : (9223372036854775807 < t216.size + 2 + t218.size + 1 + (rdOf ByteArray.empty t213 a0_1).size + 7 + t220.size + 8 + t224.size) = False := eq_false (Nat.not_lt.2 (by have h_ := c19; simp only [ByteArray.size_append] at h_; exact h_))
 focus
  obtain rfl := Option.some.inj H
  go_enter Tryz.func37, Tryz.ntmps37
  try go_wp2_with (first | ((with_reducible refine gate_dst (N := 1) rfl ?_); refine box_event ?hg (N := 1) ?hd (cs := #[.int .i64 a0_0, .int .i64 a0_1, .int .i64 a0_2, .int .i64 a0_3, .int .i64 a0_4, .int .i64 a0_5]) (t := 25) ?hr ?_; (case hd => rfl); (case hg => rfl); (case hr => exact zsx); intro gb209 hg w20 hbox hb; have n0_ := Aq.mk (bsq (zBx HB.o) hb); have n1_ := Aq.mk (hbox); have n2_ := zns hg HB.o; have n3_ := zns hg HB.o; clear HB; have HB := n0_; have BK209 := n1_; have GW209 := n2_; have GE209 := n3_; ((try clear n0_); (try clear n1_); (try clear n2_); (try clear n3_)); clear hb hbox hg))
  have n2_ := Aq.mk (blk_drew BK209.o)
  have n3_ := Aq.mk (below_drew1 HB.o)
  clear BK209
  clear HB
  have BK209 := n2_
  have HB := n3_
  ((try clear n0_); (try clear n1_); (try clear n2_); (try clear n3_))
  have p217 : 0 ≤ (a0_2 : Int) := of_decide_eq_true zax
  have q217 : a0_2 < (t210.length : Int) := of_decide_eq_true zax
  have hx217_0 : (w20.drew).cell? ⟨0, (a0_2).toNat, none⟩ = some (.string (rdOf ByteArray.empty t210 a0_2)) := gLev_cell (HL.o.below HB.o) A2.o (of_decide_eq_true zax) (of_decide_eq_true zax)
  have q217g : a0_2 < 4 := gLev_lt A2.o q217
  have q217d : decide (a0_2 < 4) = true := decide_eq_true q217g
  replace q217g := eq_true q217g
  replace p217 := eq_true p217
  replace q217 := eq_true q217
  have p219 : 0 ≤ (a0_1 : Int) := of_decide_eq_true zax
  have q219 : a0_1 < (t213.length : Int) := of_decide_eq_true zax
  have hx219_0 : (w20.drew).cell? ⟨1, (a0_1).toNat, none⟩ = some (.string (rdOf ByteArray.empty t213 a0_1)) := gTop_cell (HL.o.below HB.o) A3.o (of_decide_eq_true zax) (of_decide_eq_true zax)
  have q219g : a0_1 < 6 := gTop_lt A3.o q219
  have q219d : decide (a0_1 < 6) = true := decide_eq_true q219g
  replace q219g := eq_true q219g
  replace p219 := eq_true p219
  replace q219 := eq_true q219
  refine start_ (n := 30) (S := fun w' => w'.cell? ⟨gb209, 0, none⟩ = some (.int .i64 a0_0) ∧ w'.cell? ⟨gb209, 1, none⟩ = some (.int .i64 a0_1) ∧ w'.cell? ⟨gb209, 2, none⟩ = some (.int .i64 a0_2) ∧ w'.cell? ⟨gb209, 3, none⟩ = some (.int .i64 a0_3) ∧ w'.cell? ⟨gb209, 4, none⟩ = some (.int .i64 a0_4) ∧ w'.cell? ⟨gb209, 5, none⟩ = some (.int .i64 a0_5) ∧ w'.cell? ⟨0, (a0_2).toNat, none⟩ = some (.string (rdOf ByteArray.empty t210 a0_2)) ∧ w'.cell? ⟨1, (a0_1).toNat, none⟩ = some (.string (rdOf ByteArray.empty t213 a0_1))) (ds := []) #[F,F,F,F,F,F,F,F,F,F,F,F,F,F,F,F,F,F,F,F,F,F,F,F,F,F,F,F,F,F] (by kernel_rfl) rfl rfl ⟨(bkc BK209.o 0).trans rfl, (bkc BK209.o 1).trans rfl, (bkc BK209.o 2).trans rfl, (bkc BK209.o 3).trans rfl, (bkc BK209.o 4).trans rfl, (bkc BK209.o 5).trans rfl, hx217_0, hx219_0⟩ (fun hHd => ?_); refine with_tabW wlRaw.tab1 wlRaw.bits1 (fun Tq Wq => ?_)
  generalize w20.drew = w23 at BK209 HB hx217_0 hx219_0 hHd ⊢
  refine zpu 0 3 #[T,F,F,F,F,F,F,F,F,F,F,F,F,F,F,F,F,F,F,F,F,F,F,F,F,F,F,F,F,F] Tq.o ?_
  refine zpu 4 7 #[T,F,F,F,T,F,F,F,F,F,F,F,F,F,F,F,F,F,F,F,F,F,F,F,F,F,F,F,F,F] Tq.o ?_
  refine zpu 11 14 #[T,F,F,F,T,F,F,F,F,F,F,T,F,F,F,F,F,F,F,F,F,F,F,F,F,F,F,F,F,F] Tq.o ?_
  refine zpu 17 20 #[T,F,F,F,T,F,F,F,F,F,F,T,F,F,F,F,F,T,F,F,F,F,F,F,F,F,F,F,F,F] Tq.o ?_
  refine zpu 22 25 #[T,F,F,F,T,F,F,F,F,F,F,T,F,F,F,F,F,T,F,F,F,F,T,F,F,F,F,F,F,F] Tq.o ?_
  refine zpu 24 27 #[T,F,F,F,T,F,F,F,F,F,F,T,F,F,F,F,F,T,F,F,F,F,T,F,T,F,F,F,F,F] Tq.o ?_
  refine take_ (i := 1) (N := some 4) (v := ?_) (a' := ?_) #[T,T,F,F,T,F,F,F,F,F,F,T,F,F,F,F,F,T,F,F,F,F,T,F,T,F,F,F,F,F] rfl rfl (take_ofW Tq.o Wq.o (by kernel_rfl)) (fun _ _ _ h => h) (Or.inl ⟨by rfl, ?_⟩) hHd ?_ ?_
  rotate_left
  ·rintro w' ⟨s0, s1, s2, s3, s4, s5, s6, s7⟩
   go_simp
   with_reducible rfl
  rotate_left
  ·exact zpx
  refine take_ (i := 5) (N := some 8) (v := ?_) (a' := ?_) #[T,T,F,F,T,T,F,F,F,F,F,T,F,F,F,F,F,T,F,F,F,F,T,F,T,F,F,F,F,F] rfl rfl (take_ofW Tq.o Wq.o (by kernel_rfl)) (fun _ _ _ h => h) (Or.inl ⟨by rfl, ?_⟩) hHd ?_ ?_
  rotate_left
  ·rintro w' ⟨s0, s1, s2, s3, s4, s5, s6, s7⟩
   go_simp
   with_reducible rfl
  rotate_left
  ·exact zpx
  refine zpu 6 9 #[T,T,F,F,T,T,T,F,F,F,F,T,F,F,F,F,F,T,F,F,F,F,T,F,T,F,F,F,F,F] Tq.o ?_
  refine take_ (i := 7) (N := some 10) (v := ?_) (a' := ?_) #[T,T,F,F,T,T,T,T,F,F,F,T,F,F,F,F,F,T,F,F,F,F,T,F,T,F,F,F,F,F] rfl rfl (take_ofW Tq.o Wq.o (by kernel_rfl)) (fun _ _ _ h => h) (Or.inl ⟨by rfl, ?_⟩) hHd ?_ ?_
  rotate_left
  ·rintro w' ⟨s0, s1, s2, s3, s4, s5, s6, s7⟩
   go_simp
   with_reducible rfl
  rotate_left
  ·exact zpx
  refine take_ (i := 12) (N := some 15) (v := ?_) (a' := ?_) #[T,T,F,F,T,T,T,T,F,F,F,T,T,F,F,F,F,T,F,F,F,F,T,F,T,F,F,F,F,F] rfl rfl (take_ofW Tq.o Wq.o (by kernel_rfl)) (fun _ _ _ h => h) (Or.inl ⟨by rfl, ?_⟩) hHd ?_ ?_
  rotate_left
  ·rintro w' ⟨s0, s1, s2, s3, s4, s5, s6, s7⟩
   go_simp
   with_reducible rfl
  rotate_left
  ·exact zpx
  refine zpu 13 16 #[T,T,F,F,T,T,T,T,F,F,F,T,T,T,F,F,F,T,F,F,F,F,T,F,T,F,F,F,F,F] Tq.o ?_
  refine take_ (i := 14) (N := some 17) (v := ?_) (a' := ?_) #[T,T,F,F,T,T,T,T,F,F,F,T,T,T,T,F,F,T,F,F,F,F,T,F,T,F,F,F,F,F] rfl rfl (take_ofW Tq.o Wq.o (by kernel_rfl)) (fun _ _ _ h => h) (Or.inl ⟨by rfl, ?_⟩) hHd ?_ ?_
  rotate_left
  ·rintro w' ⟨s0, s1, s2, s3, s4, s5, s6, s7⟩
   go_simp
   with_reducible rfl
  rotate_left
  ·exact zpx
  refine take_ (i := 18) (N := some 21) (v := ?_) (a' := ?_) #[T,T,F,F,T,T,T,T,F,F,F,T,T,T,T,F,F,T,T,F,F,F,T,F,T,F,F,F,F,F] rfl rfl (take_ofW Tq.o Wq.o (by kernel_rfl)) (fun _ _ _ h => h) (Or.inl ⟨by rfl, ?_⟩) hHd ?_ ?_
  rotate_left
  ·rintro w' ⟨s0, s1, s2, s3, s4, s5, s6, s7⟩
   go_simp
   with_reducible rfl
  rotate_left
  ·exact zpx
  refine take_ (i := 23) (N := some 26) (v := ?_) (a' := ?_) #[T,T,F,F,T,T,T,T,F,F,F,T,T,T,T,F,F,T,T,F,F,F,T,T,T,F,F,F,F,F] rfl rfl (take_ofW Tq.o Wq.o (by kernel_rfl)) (fun _ _ _ h => h) (Or.inl ⟨by rfl, ?_⟩) hHd ?_ ?_
  rotate_left
  ·rintro w' ⟨s0, s1, s2, s3, s4, s5, s6, s7⟩
   go_simp
   with_reducible rfl
  rotate_left
  ·exact zpx
  refine take_ (i := 25) (N := some 28) (v := ?_) (a' := ?_) #[T,T,F,F,T,T,T,T,F,F,F,T,T,T,T,F,F,T,T,F,F,F,T,T,T,T,F,F,F,F] rfl rfl (take_ofW Tq.o Wq.o (by kernel_rfl)) (fun _ _ _ h => h) (Or.inl ⟨by rfl, ?_⟩) hHd ?_ ?_
  rotate_left
  ·rintro w' ⟨s0, s1, s2, s3, s4, s5, s6, s7⟩
   go_simp
   with_reducible rfl
  rotate_left
  ·exact zpx
  refine join_ (σ := Value) 3 #[T,T,T,T,T,T,T,T,T,T,T,T,T,T,T,T,T,T,T,T,T,T,T,T,T,T,T,F,F,F] (fun s_ => [(5, .string t216), (11, .string t218), (22, .string t220), (29, s_), (6, .string (t216 ++ (⟨#[58, 32]⟩ : ByteArray))), (12, .string ((t216 ++ (⟨#[58, 32]⟩ : ByteArray)) ++ t218)), (13, .string (((t216 ++ (⟨#[58, 32]⟩ : ByteArray)) ++ t218) ++ (⟨#[32]⟩ : ByteArray))), (18, .string ((((t216 ++ (⟨#[58, 32]⟩ : ByteArray)) ++ t218) ++ (⟨#[32]⟩ : ByteArray)) ++ (rdOf ByteArray.empty t213 a0_1))), (19, .string (((((t216 ++ (⟨#[58, 32]⟩ : ByteArray)) ++ t218) ++ (⟨#[32]⟩ : ByteArray)) ++ (rdOf ByteArray.empty t213 a0_1)) ++ (⟨#[44, 32, 97, 114, 101, 97, 32]⟩ : ByteArray))), (23, .string ((((((t216 ++ (⟨#[58, 32]⟩ : ByteArray)) ++ t218) ++ (⟨#[32]⟩ : ByteArray)) ++ (rdOf ByteArray.empty t213 a0_1)) ++ (⟨#[44, 32, 97, 114, 101, 97, 32]⟩ : ByteArray)) ++ t220)), (24, .string (((((((t216 ++ (⟨#[58, 32]⟩ : ByteArray)) ++ t218) ++ (⟨#[32]⟩ : ByteArray)) ++ (rdOf ByteArray.empty t213 a0_1)) ++ (⟨#[44, 32, 97, 114, 101, 97, 32]⟩ : ByteArray)) ++ t220) ++ (⟨#[44, 32, 104, 111, 117, 114, 115, 32]⟩ : ByteArray)))]) (fun s_ w' => (w'.cell? ⟨gb209, 0, none⟩ = some (.int .i64 a0_0) ∧ w'.cell? ⟨gb209, 1, none⟩ = some (.int .i64 a0_1) ∧ w'.cell? ⟨gb209, 2, none⟩ = some (.int .i64 a0_2) ∧ w'.cell? ⟨gb209, 3, none⟩ = some (.int .i64 a0_3) ∧ w'.cell? ⟨gb209, 4, none⟩ = some (.int .i64 a0_4) ∧ w'.cell? ⟨gb209, 5, none⟩ = some (.int .i64 a0_5) ∧ w'.cell? ⟨0, (a0_2).toNat, none⟩ = some (.string (rdOf ByteArray.empty t210 a0_2)) ∧ w'.cell? ⟨1, (a0_1).toNat, none⟩ = some (.string (rdOf ByteArray.empty t213 a0_1))) ∧ (Kd.R (Kd.int .i64) 3 w' w.heap.size (fun _ => True) s_ y221) ∧ (w'.heap[gb209]? = some (.cells #[.int .i64 a0_0, .int .i64 a0_1, .int .i64 a0_2, .int .i64 a0_3, .int .i64 a0_4, .int .i64 a0_5] 25 (0, 0))) ∧ (Below w.heap.size w w')) ?_ ?_
  rotate_left
  ·intro hCont
   refine two_ (i := 2) (j := 26) (Ni := some 5) (Nj := some 29) #[T,T,T,F,T,T,T,T,F,F,F,T,T,T,T,F,F,T,T,F,F,F,T,T,T,T,F,F,F,F] #[T,T,F,F,T,T,T,T,F,F,F,T,T,T,T,F,F,T,T,F,F,F,T,T,T,T,T,F,F,F] rfl rfl rfl rfl (two_of Tq.o (by kernel_rfl)) (by decide) (by decide) (fun K hK => ?_) (fun K hK => ?_)
   ·skip
    refine goes_ Tryz.func81 (by kernel_rfl) rfl #[.int .i64 a0_0] (by rfl) rfl rfl zlx ?_
    with_reducible refine (strconv_Itoa.calls a0_0 t216 _ ?sideL A4.o).mono ?_
    case sideL => exact Laid.below HL.o (zBy HB.o GE209.o)
    rintro e w26 ⟨rfl, hb⟩
    have HS6_ := (hb.cell (World.block_lt_of_cell? _ _ (hHd.2.2.2.2.2.2.1))).trans (hHd.2.2.2.2.2.2.1)
    have HS7_ := (hb.cell (World.block_lt_of_cell? _ _ (hHd.2.2.2.2.2.2.2))).trans (hHd.2.2.2.2.2.2.2)
    refine ⟨_, rfl, ?_⟩
    have n2_ := zbl BK209.o hb
    have n3_ := Aq.mk (bsq (zBy HB.o GE209.o) hb)
    clear BK209
    clear HB
    have BK209 := n2_
    have HB := n3_
    ((try clear n0_); (try clear n1_); (try clear n2_); (try clear n3_))
    (try clear hb)
    (try clear hb2)
    (try clear hk)
    (try clear hi)
    refine hK.out _ _ ⟨(bkc BK209.o 0).trans rfl, (bkc BK209.o 1).trans rfl, (bkc BK209.o 2).trans rfl, (bkc BK209.o 3).trans rfl, (bkc BK209.o 4).trans rfl, (bkc BK209.o 5).trans rfl, HS6_, HS7_⟩ (fun hHd => ?_)
    clear hK K
    refine norm_ (a' := ?_) ?_ ?_
    rotate_left
    ·show Act.put _ (some 5) _ = _
     simp only [Act.put, List.setIfInBounds_toArray, List.set_cons_zero, List.set_cons_succ, i64_w, i32_w]
     rfl
    refine zpu 3 6 #[T,T,T,T,T,T,T,T,F,F,F,T,T,T,T,F,F,T,T,F,F,F,T,T,T,T,F,F,F,F] Tq.o ?_
    refine two_ (i := 8) (j := 26) (Ni := some 11) (Nj := some 29) #[T,T,T,T,T,T,T,T,T,F,F,T,T,T,T,F,F,T,T,F,F,F,T,T,T,T,F,F,F,F] #[T,T,T,T,T,T,T,T,F,F,F,T,T,T,T,F,F,T,T,F,F,F,T,T,T,T,T,F,F,F] rfl rfl rfl rfl (two_of Tq.o (by kernel_rfl)) (by decide) (by decide) (fun K hK => ?_) (fun K hK => ?_)
    ·skip
     refine goes_ Tryz.func42 (by kernel_rfl) rfl #[.string (rdOf ByteArray.empty t210 a0_2)] (by rfl) rfl rfl zlx ?_
     with_reducible refine (qR.calls (rdOf ByteArray.empty t210 a0_2) t218 _ A8.o).mono ?_
     rintro e w27 ⟨rfl, hb⟩
     have HS6_ := (hb.cell (World.block_lt_of_cell? _ _ (hHd.2.2.2.2.2.2.1))).trans (hHd.2.2.2.2.2.2.1)
     have HS7_ := (hb.cell (World.block_lt_of_cell? _ _ (hHd.2.2.2.2.2.2.2))).trans (hHd.2.2.2.2.2.2.2)
     refine ⟨_, rfl, ?_⟩
     have n2_ := zbl BK209.o hb
     have n3_ := Aq.mk (bsq (zBy HB.o GE209.o) hb)
     clear BK209
     clear HB
     have BK209 := n2_
     have HB := n3_
     ((try clear n0_); (try clear n1_); (try clear n2_); (try clear n3_))
     (try clear hb)
     (try clear hb2)
     (try clear hk)
     (try clear hi)
     refine hK.out _ _ ⟨(bkc BK209.o 0).trans rfl, (bkc BK209.o 1).trans rfl, (bkc BK209.o 2).trans rfl, (bkc BK209.o 3).trans rfl, (bkc BK209.o 4).trans rfl, (bkc BK209.o 5).trans rfl, HS6_, HS7_⟩ (fun hHd => ?_)
     clear hK K
     refine norm_ (a' := ?_) ?_ ?_
     rotate_left
     ·show Act.put _ (some 11) _ = _
      simp only [Act.put, List.setIfInBounds_toArray, List.set_cons_zero, List.set_cons_succ, i64_w, i32_w]
      rfl
     refine zpu 9 12 #[T,T,T,T,T,T,T,T,T,T,F,T,T,T,T,F,F,T,T,F,F,F,T,T,T,T,F,F,F,F] Tq.o ?_
     refine zpu 10 13 #[T,T,T,T,T,T,T,T,T,T,T,T,T,T,T,F,F,T,T,F,F,F,T,T,T,T,F,F,F,F] Tq.o ?_
     refine zpu 15 18 #[T,T,T,T,T,T,T,T,T,T,T,T,T,T,T,T,F,T,T,F,F,F,T,T,T,T,F,F,F,F] Tq.o ?_
     refine zpu 16 19 #[T,T,T,T,T,T,T,T,T,T,T,T,T,T,T,T,T,T,T,F,F,F,T,T,T,T,F,F,F,F] Tq.o ?_
     refine two_ (i := 19) (j := 26) (Ni := some 22) (Nj := some 29) #[T,T,T,T,T,T,T,T,T,T,T,T,T,T,T,T,T,T,T,T,F,F,T,T,T,T,F,F,F,F] #[T,T,T,T,T,T,T,T,T,T,T,T,T,T,T,T,T,T,T,F,F,F,T,T,T,T,T,F,F,F] rfl rfl rfl rfl (two_of Tq.o (by kernel_rfl)) (by decide) (by decide) (fun K hK => ?_) (fun K hK => ?_)
     ·skip
      refine goes_ Tryz.func81 (by kernel_rfl) rfl #[.int .i64 a0_3] (by rfl) rfl rfl zlx ?_
      with_reducible refine (strconv_Itoa.calls a0_3 t220 _ ?sideL A15.o).mono ?_
      case sideL => exact Laid.below HL.o (zBy HB.o GE209.o)
      rintro e w28 ⟨rfl, hb⟩
      have HS6_ := (hb.cell (World.block_lt_of_cell? _ _ (hHd.2.2.2.2.2.2.1))).trans (hHd.2.2.2.2.2.2.1)
      have HS7_ := (hb.cell (World.block_lt_of_cell? _ _ (hHd.2.2.2.2.2.2.2))).trans (hHd.2.2.2.2.2.2.2)
      refine ⟨_, rfl, ?_⟩
      have n2_ := zbl BK209.o hb
      have n3_ := Aq.mk (bsq (zBy HB.o GE209.o) hb)
      clear BK209
      clear HB
      have BK209 := n2_
      have HB := n3_
      ((try clear n0_); (try clear n1_); (try clear n2_); (try clear n3_))
      (try clear hb)
      (try clear hb2)
      (try clear hk)
      (try clear hi)
      refine hK.out _ _ ⟨(bkc BK209.o 0).trans rfl, (bkc BK209.o 1).trans rfl, (bkc BK209.o 2).trans rfl, (bkc BK209.o 3).trans rfl, (bkc BK209.o 4).trans rfl, (bkc BK209.o 5).trans rfl, HS6_, HS7_⟩ (fun hHd => ?_)
      clear hK K
      refine norm_ (a' := ?_) ?_ ?_
      rotate_left
      ·show Act.put _ (some 22) _ = _
       simp only [Act.put, List.setIfInBounds_toArray, List.set_cons_zero, List.set_cons_succ, i64_w, i32_w]
       rfl
      refine zpu 20 23 #[T,T,T,T,T,T,T,T,T,T,T,T,T,T,T,T,T,T,T,T,T,F,T,T,T,T,F,F,F,F] Tq.o ?_
      refine zpu 21 24 #[T,T,T,T,T,T,T,T,T,T,T,T,T,T,T,T,T,T,T,T,T,T,T,T,T,T,F,F,F,F] Tq.o ?_
      refine one_ (i := 26) (N := some 29) #[T,T,T,T,T,T,T,T,T,T,T,T,T,T,T,T,T,T,T,T,T,T,T,T,T,T,T,F,F,F] rfl rfl (one_of Tq.o (by kernel_rfl)) (by decide) (fun K hK => ?_)
      refine Kd.R_lit_step (Kd.int .i64) _ 3 ?hg (N := 29) ?hd (xs := ([a0_4, a0_5] : List Int)) (inner := [.int .i64 a0_4, .int .i64 a0_5]) (ok := fun _ => True) (okp := fun _ => True) ?hr ?hp (fun _ hk => hk) trivial (Below.refl _ _) (Nat.le_refl _) (by simp) ?_; (case hd => rfl); (case hg => rfl); (case hr => exact zsx); (case hp => exact (Reps.one (show Kd.M (Kd.int .i64) _ _ _ a0_4 [.int .i64 a0_4] from rfl) (Reps.one (show Kd.M (Kd.int .i64) _ _ _ a0_5 [.int .i64 a0_5] from rfl) (Reps.none _ _))))
      intro v222 w29 ho30 hb hg_ hnew_
      have HS6_ := (hb.cell (World.block_lt_of_cell? _ _ (hHd.2.2.2.2.2.2.1))).trans (hHd.2.2.2.2.2.2.1)
      have HS7_ := (hb.cell (World.block_lt_of_cell? _ _ (hHd.2.2.2.2.2.2.2))).trans (hHd.2.2.2.2.2.2.2)
      clear hg_ hnew_
      (first | rw [← Ny221.o] at ho30 | (simp only [Int.reduceToNat] at ho30; rw [← Ny221.o] at ho30))
      have n2_ := Aq.mk (Kd.R_lower ho30 (below_size (zBy HB.o GE209.o)))
      have n3_ := zbl BK209.o hb
      have n4_ := Aq.mk (bsq (zBy HB.o GE209.o) hb)
      clear BK209
      clear HB
      have HO223 := n2_
      have BK209 := n3_
      have HB := n4_
      ((try clear n0_); (try clear n1_); (try clear n2_); (try clear n3_); (try clear n4_))
      clear hb ho30
      refine hK.out _ _ ⟨(bkc BK209.o 0).trans rfl, (bkc BK209.o 1).trans rfl, (bkc BK209.o 2).trans rfl, (bkc BK209.o 3).trans rfl, (bkc BK209.o 4).trans rfl, (bkc BK209.o 5).trans rfl, HS6_, HS7_⟩ (fun hHd => ?_)
      clear hK K
      refine norm_ (a' := ?_) ?_ ?_
      rotate_left
      ·show Act.put _ (some 29) _ = _
       simp only [Act.put, List.setIfInBounds_toArray, List.set_cons_zero, List.set_cons_succ, i64_w, i32_w]
       rfl
      exact norm_ (by simp only [putAll, Act.put, List.setIfInBounds_toArray, List.set_cons_zero, List.set_cons_succ]) (hCont (v222) _ ⟨hHd, (zRx HO223.o), (zbx BK209.o), (zBy HB.o GE209.o)⟩)
     ·skip
      refine Kd.R_lit_step (Kd.int .i64) _ 3 ?hg (N := 29) ?hd (xs := ([a0_4, a0_5] : List Int)) (inner := [.int .i64 a0_4, .int .i64 a0_5]) (ok := fun _ => True) (okp := fun _ => True) ?hr ?hp (fun _ hk => hk) trivial (Below.refl _ _) (Nat.le_refl _) (by simp) ?_; (case hd => rfl); (case hg => rfl); (case hr => exact zsx); (case hp => exact (Reps.one (show Kd.M (Kd.int .i64) _ _ _ a0_4 [.int .i64 a0_4] from rfl) (Reps.one (show Kd.M (Kd.int .i64) _ _ _ a0_5 [.int .i64 a0_5] from rfl) (Reps.none _ _))))
      intro v222 w28 ho29 hb hg_ hnew_
      have HS6_ := (hb.cell (World.block_lt_of_cell? _ _ (hHd.2.2.2.2.2.2.1))).trans (hHd.2.2.2.2.2.2.1)
      have HS7_ := (hb.cell (World.block_lt_of_cell? _ _ (hHd.2.2.2.2.2.2.2))).trans (hHd.2.2.2.2.2.2.2)
      clear hg_ hnew_
      (first | rw [← Ny221.o] at ho29 | (simp only [Int.reduceToNat] at ho29; rw [← Ny221.o] at ho29))
      have n2_ := Aq.mk (Kd.R_lower ho29 (below_size (zBy HB.o GE209.o)))
      have n3_ := zbl BK209.o hb
      have n4_ := Aq.mk (bsq (zBy HB.o GE209.o) hb)
      clear BK209
      clear HB
      have HO223 := n2_
      have BK209 := n3_
      have HB := n4_
      ((try clear n0_); (try clear n1_); (try clear n2_); (try clear n3_); (try clear n4_))
      clear hb ho29
      refine hK.out _ _ ⟨(bkc BK209.o 0).trans rfl, (bkc BK209.o 1).trans rfl, (bkc BK209.o 2).trans rfl, (bkc BK209.o 3).trans rfl, (bkc BK209.o 4).trans rfl, (bkc BK209.o 5).trans rfl, HS6_, HS7_⟩ (fun hHd => ?_)
      clear hK K
      refine norm_ (a' := ?_) ?_ ?_
      rotate_left
      ·show Act.put _ (some 29) _ = _
       simp only [Act.put, List.setIfInBounds_toArray, List.set_cons_zero, List.set_cons_succ, i64_w, i32_w]
       rfl
      refine one_ (i := 19) (N := some 22) #[T,T,T,T,T,T,T,T,T,T,T,T,T,T,T,T,T,T,T,T,F,F,T,T,T,T,T,F,F,F] rfl rfl (one_of Tq.o (by kernel_rfl)) (by decide) (fun K hK => ?_)
      refine goes_ Tryz.func81 (by kernel_rfl) rfl #[.int .i64 a0_3] (by rfl) rfl rfl zlx ?_
      with_reducible refine (strconv_Itoa.calls a0_3 t220 _ ?sideL A15.o).mono ?_
      case sideL => exact Laid.below HL.o (zBy HB.o GE209.o)
      rintro e w30 ⟨rfl, hb⟩
      have HS6_ := (hb.cell (World.block_lt_of_cell? _ _ (hHd.2.2.2.2.2.2.1))).trans (hHd.2.2.2.2.2.2.1)
      have HS7_ := (hb.cell (World.block_lt_of_cell? _ _ (hHd.2.2.2.2.2.2.2))).trans (hHd.2.2.2.2.2.2.2)
      refine ⟨_, rfl, ?_⟩
      have n2_ := Aq.mk (Kd.R_below (zRx HO223.o) hb)
      have n3_ := zbl BK209.o hb
      have n4_ := Aq.mk (bsq (zBy HB.o GE209.o) hb)
      clear HO223
      clear BK209
      clear HB
      have HO223 := n2_
      have BK209 := n3_
      have HB := n4_
      ((try clear n0_); (try clear n1_); (try clear n2_); (try clear n3_); (try clear n4_))
      (try clear hb)
      (try clear hb2)
      (try clear hk)
      (try clear hi)
      refine hK.out _ _ ⟨(bkc BK209.o 0).trans rfl, (bkc BK209.o 1).trans rfl, (bkc BK209.o 2).trans rfl, (bkc BK209.o 3).trans rfl, (bkc BK209.o 4).trans rfl, (bkc BK209.o 5).trans rfl, HS6_, HS7_⟩ (fun hHd => ?_)
      clear hK K
      refine norm_ (a' := ?_) ?_ ?_
      rotate_left
      ·show Act.put _ (some 22) _ = _
       simp only [Act.put, List.setIfInBounds_toArray, List.set_cons_zero, List.set_cons_succ, i64_w, i32_w]
       rfl
      refine zpu 20 23 #[T,T,T,T,T,T,T,T,T,T,T,T,T,T,T,T,T,T,T,T,T,F,T,T,T,T,T,F,F,F] Tq.o ?_
      refine zpu 21 24 #[T,T,T,T,T,T,T,T,T,T,T,T,T,T,T,T,T,T,T,T,T,T,T,T,T,T,T,F,F,F] Tq.o ?_
      exact norm_ (by simp only [putAll, Act.put, List.setIfInBounds_toArray, List.set_cons_zero, List.set_cons_succ]) (hCont (v222) _ ⟨hHd, (zRx HO223.o), (zbx BK209.o), (zBy HB.o GE209.o)⟩)
    ·skip
     refine Kd.R_lit_step (Kd.int .i64) _ 3 ?hg (N := 29) ?hd (xs := ([a0_4, a0_5] : List Int)) (inner := [.int .i64 a0_4, .int .i64 a0_5]) (ok := fun _ => True) (okp := fun _ => True) ?hr ?hp (fun _ hk => hk) trivial (Below.refl _ _) (Nat.le_refl _) (by simp) ?_; (case hd => rfl); (case hg => rfl); (case hr => exact zsx); (case hp => exact (Reps.one (show Kd.M (Kd.int .i64) _ _ _ a0_4 [.int .i64 a0_4] from rfl) (Reps.one (show Kd.M (Kd.int .i64) _ _ _ a0_5 [.int .i64 a0_5] from rfl) (Reps.none _ _))))
     intro v222 w27 ho28 hb hg_ hnew_
     have HS6_ := (hb.cell (World.block_lt_of_cell? _ _ (hHd.2.2.2.2.2.2.1))).trans (hHd.2.2.2.2.2.2.1)
     have HS7_ := (hb.cell (World.block_lt_of_cell? _ _ (hHd.2.2.2.2.2.2.2))).trans (hHd.2.2.2.2.2.2.2)
     clear hg_ hnew_
     (first | rw [← Ny221.o] at ho28 | (simp only [Int.reduceToNat] at ho28; rw [← Ny221.o] at ho28))
     have n2_ := Aq.mk (Kd.R_lower ho28 (below_size (zBy HB.o GE209.o)))
     have n3_ := zbl BK209.o hb
     have n4_ := Aq.mk (bsq (zBy HB.o GE209.o) hb)
     clear BK209
     clear HB
     have HO223 := n2_
     have BK209 := n3_
     have HB := n4_
     ((try clear n0_); (try clear n1_); (try clear n2_); (try clear n3_); (try clear n4_))
     clear hb ho28
     refine hK.out _ _ ⟨(bkc BK209.o 0).trans rfl, (bkc BK209.o 1).trans rfl, (bkc BK209.o 2).trans rfl, (bkc BK209.o 3).trans rfl, (bkc BK209.o 4).trans rfl, (bkc BK209.o 5).trans rfl, HS6_, HS7_⟩ (fun hHd => ?_)
     clear hK K
     refine norm_ (a' := ?_) ?_ ?_
     rotate_left
     ·show Act.put _ (some 29) _ = _
      simp only [Act.put, List.setIfInBounds_toArray, List.set_cons_zero, List.set_cons_succ, i64_w, i32_w]
      rfl
     refine one_ (i := 8) (N := some 11) #[T,T,T,T,T,T,T,T,T,F,F,T,T,T,T,F,F,T,T,F,F,F,T,T,T,T,T,F,F,F] rfl rfl (one_of Tq.o (by kernel_rfl)) (by decide) (fun K hK => ?_)
     refine goes_ Tryz.func42 (by kernel_rfl) rfl #[.string (rdOf ByteArray.empty t210 a0_2)] (by rfl) rfl rfl zlx ?_
     with_reducible refine (qR.calls (rdOf ByteArray.empty t210 a0_2) t218 _ A8.o).mono ?_
     rintro e w29 ⟨rfl, hb⟩
     have HS6_ := (hb.cell (World.block_lt_of_cell? _ _ (hHd.2.2.2.2.2.2.1))).trans (hHd.2.2.2.2.2.2.1)
     have HS7_ := (hb.cell (World.block_lt_of_cell? _ _ (hHd.2.2.2.2.2.2.2))).trans (hHd.2.2.2.2.2.2.2)
     refine ⟨_, rfl, ?_⟩
     have n2_ := Aq.mk (Kd.R_below (zRx HO223.o) hb)
     have n3_ := zbl BK209.o hb
     have n4_ := Aq.mk (bsq (zBy HB.o GE209.o) hb)
     clear HO223
     clear BK209
     clear HB
     have HO223 := n2_
     have BK209 := n3_
     have HB := n4_
     ((try clear n0_); (try clear n1_); (try clear n2_); (try clear n3_); (try clear n4_))
     (try clear hb)
     (try clear hb2)
     (try clear hk)
     (try clear hi)
     refine hK.out _ _ ⟨(bkc BK209.o 0).trans rfl, (bkc BK209.o 1).trans rfl, (bkc BK209.o 2).trans rfl, (bkc BK209.o 3).trans rfl, (bkc BK209.o 4).trans rfl, (bkc BK209.o 5).trans rfl, HS6_, HS7_⟩ (fun hHd => ?_)
     clear hK K
     refine norm_ (a' := ?_) ?_ ?_
     rotate_left
     ·show Act.put _ (some 11) _ = _
      simp only [Act.put, List.setIfInBounds_toArray, List.set_cons_zero, List.set_cons_succ, i64_w, i32_w]
      rfl
     refine zpu 9 12 #[T,T,T,T,T,T,T,T,T,T,F,T,T,T,T,F,F,T,T,F,F,F,T,T,T,T,T,F,F,F] Tq.o ?_
     refine zpu 10 13 #[T,T,T,T,T,T,T,T,T,T,T,T,T,T,T,F,F,T,T,F,F,F,T,T,T,T,T,F,F,F] Tq.o ?_
     refine zpu 15 18 #[T,T,T,T,T,T,T,T,T,T,T,T,T,T,T,T,F,T,T,F,F,F,T,T,T,T,T,F,F,F] Tq.o ?_
     refine zpu 16 19 #[T,T,T,T,T,T,T,T,T,T,T,T,T,T,T,T,T,T,T,F,F,F,T,T,T,T,T,F,F,F] Tq.o ?_
     refine one_ (i := 19) (N := some 22) #[T,T,T,T,T,T,T,T,T,T,T,T,T,T,T,T,T,T,T,T,F,F,T,T,T,T,T,F,F,F] rfl rfl (one_of Tq.o (by kernel_rfl)) (by decide) (fun K hK => ?_)
     refine goes_ Tryz.func81 (by kernel_rfl) rfl #[.int .i64 a0_3] (by rfl) rfl rfl zlx ?_
     with_reducible refine (strconv_Itoa.calls a0_3 t220 _ ?sideL A15.o).mono ?_
     case sideL => exact Laid.below HL.o (zBy HB.o GE209.o)
     rintro e w30 ⟨rfl, hb⟩
     have HS6_ := (hb.cell (World.block_lt_of_cell? _ _ (hHd.2.2.2.2.2.2.1))).trans (hHd.2.2.2.2.2.2.1)
     have HS7_ := (hb.cell (World.block_lt_of_cell? _ _ (hHd.2.2.2.2.2.2.2))).trans (hHd.2.2.2.2.2.2.2)
     refine ⟨_, rfl, ?_⟩
     have n2_ := Aq.mk (Kd.R_below (zRx HO223.o) hb)
     have n3_ := zbl BK209.o hb
     have n4_ := Aq.mk (bsq (zBy HB.o GE209.o) hb)
     clear HO223
     clear BK209
     clear HB
     have HO223 := n2_
     have BK209 := n3_
     have HB := n4_
     ((try clear n0_); (try clear n1_); (try clear n2_); (try clear n3_); (try clear n4_))
     (try clear hb)
     (try clear hb2)
     (try clear hk)
     (try clear hi)
     refine hK.out _ _ ⟨(bkc BK209.o 0).trans rfl, (bkc BK209.o 1).trans rfl, (bkc BK209.o 2).trans rfl, (bkc BK209.o 3).trans rfl, (bkc BK209.o 4).trans rfl, (bkc BK209.o 5).trans rfl, HS6_, HS7_⟩ (fun hHd => ?_)
     clear hK K
     refine norm_ (a' := ?_) ?_ ?_
     rotate_left
     ·show Act.put _ (some 22) _ = _
      simp only [Act.put, List.setIfInBounds_toArray, List.set_cons_zero, List.set_cons_succ, i64_w, i32_w]
      rfl
     refine zpu 20 23 #[T,T,T,T,T,T,T,T,T,T,T,T,T,T,T,T,T,T,T,T,T,F,T,T,T,T,T,F,F,F] Tq.o ?_
     refine zpu 21 24 #[T,T,T,T,T,T,T,T,T,T,T,T,T,T,T,T,T,T,T,T,T,T,T,T,T,T,T,F,F,F] Tq.o ?_
     exact norm_ (by simp only [putAll, Act.put, List.setIfInBounds_toArray, List.set_cons_zero, List.set_cons_succ]) (hCont (v222) _ ⟨hHd, (zRx HO223.o), (zbx BK209.o), (zBy HB.o GE209.o)⟩)
   ·skip
    refine Kd.R_lit_step (Kd.int .i64) _ 3 ?hg (N := 29) ?hd (xs := ([a0_4, a0_5] : List Int)) (inner := [.int .i64 a0_4, .int .i64 a0_5]) (ok := fun _ => True) (okp := fun _ => True) ?hr ?hp (fun _ hk => hk) trivial (Below.refl _ _) (Nat.le_refl _) (by simp) ?_; (case hd => rfl); (case hg => rfl); (case hr => exact zsx); (case hp => exact (Reps.one (show Kd.M (Kd.int .i64) _ _ _ a0_4 [.int .i64 a0_4] from rfl) (Reps.one (show Kd.M (Kd.int .i64) _ _ _ a0_5 [.int .i64 a0_5] from rfl) (Reps.none _ _))))
    intro v222 w26 ho27 hb hg_ hnew_
    have HS6_ := (hb.cell (World.block_lt_of_cell? _ _ (hHd.2.2.2.2.2.2.1))).trans (hHd.2.2.2.2.2.2.1)
    have HS7_ := (hb.cell (World.block_lt_of_cell? _ _ (hHd.2.2.2.2.2.2.2))).trans (hHd.2.2.2.2.2.2.2)
    clear hg_ hnew_
    (first | rw [← Ny221.o] at ho27 | (simp only [Int.reduceToNat] at ho27; rw [← Ny221.o] at ho27))
    have n2_ := Aq.mk (Kd.R_lower ho27 (below_size (zBy HB.o GE209.o)))
    have n3_ := zbl BK209.o hb
    have n4_ := Aq.mk (bsq (zBy HB.o GE209.o) hb)
    clear BK209
    clear HB
    have HO223 := n2_
    have BK209 := n3_
    have HB := n4_
    ((try clear n0_); (try clear n1_); (try clear n2_); (try clear n3_); (try clear n4_))
    clear hb ho27
    refine hK.out _ _ ⟨(bkc BK209.o 0).trans rfl, (bkc BK209.o 1).trans rfl, (bkc BK209.o 2).trans rfl, (bkc BK209.o 3).trans rfl, (bkc BK209.o 4).trans rfl, (bkc BK209.o 5).trans rfl, HS6_, HS7_⟩ (fun hHd => ?_)
    clear hK K
    refine norm_ (a' := ?_) ?_ ?_
    rotate_left
    ·show Act.put _ (some 29) _ = _
     simp only [Act.put, List.setIfInBounds_toArray, List.set_cons_zero, List.set_cons_succ, i64_w, i32_w]
     rfl
    refine one_ (i := 2) (N := some 5) #[T,T,T,F,T,T,T,T,F,F,F,T,T,T,T,F,F,T,T,F,F,F,T,T,T,T,T,F,F,F] rfl rfl (one_of Tq.o (by kernel_rfl)) (by decide) (fun K hK => ?_)
    refine goes_ Tryz.func81 (by kernel_rfl) rfl #[.int .i64 a0_0] (by rfl) rfl rfl zlx ?_
    with_reducible refine (strconv_Itoa.calls a0_0 t216 _ ?sideL A4.o).mono ?_
    case sideL => exact Laid.below HL.o (zBy HB.o GE209.o)
    rintro e w28 ⟨rfl, hb⟩
    have HS6_ := (hb.cell (World.block_lt_of_cell? _ _ (hHd.2.2.2.2.2.2.1))).trans (hHd.2.2.2.2.2.2.1)
    have HS7_ := (hb.cell (World.block_lt_of_cell? _ _ (hHd.2.2.2.2.2.2.2))).trans (hHd.2.2.2.2.2.2.2)
    refine ⟨_, rfl, ?_⟩
    have n2_ := Aq.mk (Kd.R_below (zRx HO223.o) hb)
    have n3_ := zbl BK209.o hb
    have n4_ := Aq.mk (bsq (zBy HB.o GE209.o) hb)
    clear HO223
    clear BK209
    clear HB
    have HO223 := n2_
    have BK209 := n3_
    have HB := n4_
    ((try clear n0_); (try clear n1_); (try clear n2_); (try clear n3_); (try clear n4_))
    (try clear hb)
    (try clear hb2)
    (try clear hk)
    (try clear hi)
    refine hK.out _ _ ⟨(bkc BK209.o 0).trans rfl, (bkc BK209.o 1).trans rfl, (bkc BK209.o 2).trans rfl, (bkc BK209.o 3).trans rfl, (bkc BK209.o 4).trans rfl, (bkc BK209.o 5).trans rfl, HS6_, HS7_⟩ (fun hHd => ?_)
    clear hK K
    refine norm_ (a' := ?_) ?_ ?_
    rotate_left
    ·show Act.put _ (some 5) _ = _
     simp only [Act.put, List.setIfInBounds_toArray, List.set_cons_zero, List.set_cons_succ, i64_w, i32_w]
     rfl
    refine zpu 3 6 #[T,T,T,T,T,T,T,T,F,F,F,T,T,T,T,F,F,T,T,F,F,F,T,T,T,T,T,F,F,F] Tq.o ?_
    refine one_ (i := 8) (N := some 11) #[T,T,T,T,T,T,T,T,T,F,F,T,T,T,T,F,F,T,T,F,F,F,T,T,T,T,T,F,F,F] rfl rfl (one_of Tq.o (by kernel_rfl)) (by decide) (fun K hK => ?_)
    refine goes_ Tryz.func42 (by kernel_rfl) rfl #[.string (rdOf ByteArray.empty t210 a0_2)] (by rfl) rfl rfl zlx ?_
    with_reducible refine (qR.calls (rdOf ByteArray.empty t210 a0_2) t218 _ A8.o).mono ?_
    rintro e w29 ⟨rfl, hb⟩
    have HS6_ := (hb.cell (World.block_lt_of_cell? _ _ (hHd.2.2.2.2.2.2.1))).trans (hHd.2.2.2.2.2.2.1)
    have HS7_ := (hb.cell (World.block_lt_of_cell? _ _ (hHd.2.2.2.2.2.2.2))).trans (hHd.2.2.2.2.2.2.2)
    refine ⟨_, rfl, ?_⟩
    have n2_ := Aq.mk (Kd.R_below (zRx HO223.o) hb)
    have n3_ := zbl BK209.o hb
    have n4_ := Aq.mk (bsq (zBy HB.o GE209.o) hb)
    clear HO223
    clear BK209
    clear HB
    have HO223 := n2_
    have BK209 := n3_
    have HB := n4_
    ((try clear n0_); (try clear n1_); (try clear n2_); (try clear n3_); (try clear n4_))
    (try clear hb)
    (try clear hb2)
    (try clear hk)
    (try clear hi)
    refine hK.out _ _ ⟨(bkc BK209.o 0).trans rfl, (bkc BK209.o 1).trans rfl, (bkc BK209.o 2).trans rfl, (bkc BK209.o 3).trans rfl, (bkc BK209.o 4).trans rfl, (bkc BK209.o 5).trans rfl, HS6_, HS7_⟩ (fun hHd => ?_)
    clear hK K
    refine norm_ (a' := ?_) ?_ ?_
    rotate_left
    ·show Act.put _ (some 11) _ = _
     simp only [Act.put, List.setIfInBounds_toArray, List.set_cons_zero, List.set_cons_succ, i64_w, i32_w]
     rfl
    refine zpu 9 12 #[T,T,T,T,T,T,T,T,T,T,F,T,T,T,T,F,F,T,T,F,F,F,T,T,T,T,T,F,F,F] Tq.o ?_
    refine zpu 10 13 #[T,T,T,T,T,T,T,T,T,T,T,T,T,T,T,F,F,T,T,F,F,F,T,T,T,T,T,F,F,F] Tq.o ?_
    refine zpu 15 18 #[T,T,T,T,T,T,T,T,T,T,T,T,T,T,T,T,F,T,T,F,F,F,T,T,T,T,T,F,F,F] Tq.o ?_
    refine zpu 16 19 #[T,T,T,T,T,T,T,T,T,T,T,T,T,T,T,T,T,T,T,F,F,F,T,T,T,T,T,F,F,F] Tq.o ?_
    refine one_ (i := 19) (N := some 22) #[T,T,T,T,T,T,T,T,T,T,T,T,T,T,T,T,T,T,T,T,F,F,T,T,T,T,T,F,F,F] rfl rfl (one_of Tq.o (by kernel_rfl)) (by decide) (fun K hK => ?_)
    refine goes_ Tryz.func81 (by kernel_rfl) rfl #[.int .i64 a0_3] (by rfl) rfl rfl zlx ?_
    with_reducible refine (strconv_Itoa.calls a0_3 t220 _ ?sideL A15.o).mono ?_
    case sideL => exact Laid.below HL.o (zBy HB.o GE209.o)
    rintro e w30 ⟨rfl, hb⟩
    have HS6_ := (hb.cell (World.block_lt_of_cell? _ _ (hHd.2.2.2.2.2.2.1))).trans (hHd.2.2.2.2.2.2.1)
    have HS7_ := (hb.cell (World.block_lt_of_cell? _ _ (hHd.2.2.2.2.2.2.2))).trans (hHd.2.2.2.2.2.2.2)
    refine ⟨_, rfl, ?_⟩
    have n2_ := Aq.mk (Kd.R_below (zRx HO223.o) hb)
    have n3_ := zbl BK209.o hb
    have n4_ := Aq.mk (bsq (zBy HB.o GE209.o) hb)
    clear HO223
    clear BK209
    clear HB
    have HO223 := n2_
    have BK209 := n3_
    have HB := n4_
    ((try clear n0_); (try clear n1_); (try clear n2_); (try clear n3_); (try clear n4_))
    (try clear hb)
    (try clear hb2)
    (try clear hk)
    (try clear hi)
    refine hK.out _ _ ⟨(bkc BK209.o 0).trans rfl, (bkc BK209.o 1).trans rfl, (bkc BK209.o 2).trans rfl, (bkc BK209.o 3).trans rfl, (bkc BK209.o 4).trans rfl, (bkc BK209.o 5).trans rfl, HS6_, HS7_⟩ (fun hHd => ?_)
    clear hK K
    refine norm_ (a' := ?_) ?_ ?_
    rotate_left
    ·show Act.put _ (some 22) _ = _
     simp only [Act.put, List.setIfInBounds_toArray, List.set_cons_zero, List.set_cons_succ, i64_w, i32_w]
     rfl
    refine zpu 20 23 #[T,T,T,T,T,T,T,T,T,T,T,T,T,T,T,T,T,T,T,T,T,F,T,T,T,T,T,F,F,F] Tq.o ?_
    refine zpu 21 24 #[T,T,T,T,T,T,T,T,T,T,T,T,T,T,T,T,T,T,T,T,T,T,T,T,T,T,T,F,F,F] Tq.o ?_
    exact norm_ (by simp only [putAll, Act.put, List.setIfInBounds_toArray, List.set_cons_zero, List.set_cons_succ]) (hCont (v222) _ ⟨hHd, (zRx HO223.o), (zbx BK209.o), (zBy HB.o GE209.o)⟩)
  rintro v222 w31 ⟨hS_, h2_, h3_, h4_⟩
  have n2_ : Aq (Kd.R (Kd.int .i64) 3 w31 w.heap.size (fun _ => True) v222 y221) := ⟨h2_⟩
  have n3_ : Aq (w31.heap[gb209]? = some (.cells #[.int .i64 a0_0, .int .i64 a0_1, .int .i64 a0_2, .int .i64 a0_3, .int .i64 a0_4, .int .i64 a0_5] 25 (0, 0))) := ⟨h3_⟩
  have n4_ : Aq (Below w.heap.size w w31) := ⟨h4_⟩
  clear BK209
  clear HB
  clear h2_ h3_ h4_
  have HO223 := n2_
  have BK209 := n3_
  have HB := n4_
  ((try clear n0_); (try clear n1_); (try clear n2_); (try clear n3_); (try clear n4_))
  have hHd : w31.cell? ⟨gb209, 0, none⟩ = some (.int .i64 a0_0) ∧ w31.cell? ⟨gb209, 1, none⟩ = some (.int .i64 a0_1) ∧ w31.cell? ⟨gb209, 2, none⟩ = some (.int .i64 a0_2) ∧ w31.cell? ⟨gb209, 3, none⟩ = some (.int .i64 a0_3) ∧ w31.cell? ⟨gb209, 4, none⟩ = some (.int .i64 a0_4) ∧ w31.cell? ⟨gb209, 5, none⟩ = some (.int .i64 a0_5) ∧ w31.cell? ⟨0, (a0_2).toNat, none⟩ = some (.string (rdOf ByteArray.empty t210 a0_2)) ∧ w31.cell? ⟨1, (a0_1).toNat, none⟩ = some (.string (rdOf ByteArray.empty t213 a0_1)) := hS_
  obtain ⟨Ao32, co32, eo32⟩ := Kd.R_slice HO223.o
  (first | subst eo32 | (injection eo32 with f1_ f2_ f3_; have f4_ := f1_.symm; have f5_ := f3_.symm; clear f1_ f2_ f3_; subst f4_; subst f5_))
  refine norm_ (a' := ?_) ?_ ?_
  rotate_left
  ·simp only [putAll, Act.put, List.setIfInBounds_toArray, List.set_cons_zero, List.set_cons_succ]
   rfl
  refine one_ (i := 27) (N := some 30) #[T,T,T,T,T,T,T,T,T,T,T,T,T,T,T,T,T,T,T,T,T,T,T,T,T,T,T,T,F,F] rfl rfl (one_of Tq.o (by kernel_rfl)) (by decide) (fun K hK => ?_)
  refine goes_ Tryz.func82 (by kernel_rfl) rfl #[.slice Ao32 y221.length co32, .string (⟨#[45]⟩ : ByteArray)] (by rfl) rfl rfl zlx ?_
  with_reducible refine (qD.calls k _ _ y221 (⟨#[45]⟩ : ByteArray) t224 _ ?side1 ?side2 ?sideL A18.o).mono ?_
  case sideL => exact Laid.below HL.o (zBy HB.o GE209.o)
  (case side1 => exact zCx (Kd.R_reads' HO223.o).2.2)
  (case side2 => exact (Kd.R_reads' HO223.o).2.1)
  rintro e w33 ⟨rfl, hb⟩
  have HS6_ := (hb.cell (World.block_lt_of_cell? _ _ (hHd.2.2.2.2.2.2.1))).trans (hHd.2.2.2.2.2.2.1)
  have HS7_ := (hb.cell (World.block_lt_of_cell? _ _ (hHd.2.2.2.2.2.2.2))).trans (hHd.2.2.2.2.2.2.2)
  refine ⟨_, rfl, ?_⟩
  have n2_ := Aq.mk (Kd.R_below (zRx HO223.o) hb)
  have n3_ := zbl BK209.o hb
  have n4_ := Aq.mk (bsq (zBy HB.o GE209.o) hb)
  clear HO223
  clear BK209
  clear HB
  have HO223 := n2_
  have BK209 := n3_
  have HB := n4_
  ((try clear n0_); (try clear n1_); (try clear n2_); (try clear n3_); (try clear n4_))
  (try clear hb)
  (try clear hb2)
  (try clear hk)
  (try clear hi)
  refine hK.out _ _ ⟨(bkc BK209.o 0).trans rfl, (bkc BK209.o 1).trans rfl, (bkc BK209.o 2).trans rfl, (bkc BK209.o 3).trans rfl, (bkc BK209.o 4).trans rfl, (bkc BK209.o 5).trans rfl, HS6_, HS7_⟩ (fun hHd => ?_)
  clear hK K
  refine norm_ (a' := ?_) ?_ ?_
  rotate_left
  ·show Act.put _ (some 30) _ = _
   simp only [Act.put, List.setIfInBounds_toArray, List.set_cons_zero, List.set_cons_succ, i64_w, i32_w]
   rfl
  refine zpu 28 31 #[T,T,T,T,T,T,T,T,T,T,T,T,T,T,T,T,T,T,T,T,T,T,T,T,T,T,T,T,T,F] Tq.o ?_
  refine zpu 29 2 #[T,T,T,T,T,T,T,T,T,T,T,T,T,T,T,T,T,T,T,T,T,T,T,T,T,T,T,T,T,T] Tq.o ?_
  refine done_ (done_of Tq.o (by kernel_rfl)) ?_
  try go_wp2
  go_ret
  exact ⟨by first | rfl | (simp [errW_none, errW_some] <;> rfl) | (simp [*, errW_none, errW_some] <;> rfl), by exact zBy HB.o GE209.o⟩
def i64 (x : Int) : Prop := -9223372036854775808 ≤ x ∧ x ≤ 9223372036854775807
instance (x : Int) : Decidable (i64 x) := inferInstanceAs (Decidable (_ ∧ _))
def lineL (a0 a1 a2 a3 a4 a5 : Int) : List UInt8 := Lib.itoa a0 ++ [58, 32] ++ Lib.toLowerA (levL.getD a2.toNat []) ++ [32] ++ topL.getD a1.toNat [] ++ [44, 32, 97, 114, 101, 97, 32] ++ Lib.itoa a3 ++ [44, 32, 104, 111, 117, 114, 115, 32] ++ (Lib.itoa a4 ++ [45] ++ Lib.itoa a5)
def qP.f (a0_0 : Int) (a0_1 : Int) (a0_2 : Int) (a0_3 : Int) (a0_4 : Int) (a0_5 : Int) : Option (ByteArray) :=
  if i64 a0_0 ∧ (0 ≤ a0_1 ∧ a0_1 < 6) ∧ (0 ≤ a0_2 ∧ a0_2 < 4) ∧ i64 a0_3 ∧ i64 a0_4 ∧ i64 a0_5 then some (B (lineL a0_0 a0_1 a0_2 a0_3 a0_4 a0_5)) else none
theorem B_app (a b : List UInt8) : B a ++ B b = B (a ++ b) := by
  apply ByteArray.ext
  simp [B]
theorem B_size (a : List UInt8) : (B a).size = a.length := by simp [B, ByteArray.size]
theorem itoa_len (n : Int) (h : i64 n) : (Lib.itoa n).length ≤ 20 := by
  have key : ∀ (k u : Nat), u < 10 ^ (k + 1) → (Lib.decDigits u).length ≤ k + 1 := by
    intro k
    induction k with
    | zero => intro u hu; rw [Lib.decDigits, dif_pos (by omega)]; simp
    | succ k ih =>
      intro u hu
      rw [Lib.decDigits]
      split
      · simp
      · have := ih (u / 10) (by rw [Nat.pow_succ] at hu; omega)
        simp; omega
  unfold Lib.itoa i64 at *
  split
  · have := key 18 n.natAbs (by omega)
    simp; omega
  · have := key 18 n.toNat (by omega)
    omega
theorem joinInts2 (k : Nat) (a b : Int) (ha : i64 a) (hb : i64 b) : qD.f (k + 4) [a, b] (⟨#[45]⟩ : ByteArray) = some (B (Lib.itoa a ++ [45] ++ Lib.itoa b)) := by
  have la := itoa_len a ha
  have lb := itoa_len b hb
  have e1 : strconv_Itoa.f a = some (B (Lib.itoa a)) := by unfold strconv_Itoa.f; exact if_pos ha
  have e2 : strconv_Itoa.f b = some (B (Lib.itoa b)) := by unfold strconv_Itoa.f; exact if_pos hb
  have e3 : strings_Join.f [B (Lib.itoa a), B (Lib.itoa b)] (⟨#[45]⟩ : ByteArray) = some (B (Lib.itoa a ++ [45] ++ Lib.itoa b)) := by
    have ej : Lib.join ([B (Lib.itoa a), B (Lib.itoa b)].map (·.data.toList)) ((⟨#[45]⟩ : ByteArray).data.toList) = Lib.itoa a ++ [45] ++ Lib.itoa b := by
      simp [Lib.join, B, List.intercalate]
    unfold strings_Join.f
    rw [ej, if_pos ⟨by simp, by simp; omega⟩]
  have w1 : wrap64 ((0 : Int) + 1) = 1 := by unfold wrap64; omega
  have w2 : wrap64 ((1 : Int) + 1) = 2 := by unfold wrap64; omega
  have step : ∀ (k : Nat) (x5 : List ByteArray) (n : Nat) (t : ByteArray), n < 2 → x5.length = 2 → strconv_Itoa.f (rd [a, b] (n : Int)) = some t → qD.l0 (k + 1) (⟨#[45]⟩ : ByteArray) x5 [a, b] 2 (n : Int) = qD.l0 k (⟨#[45]⟩ : ByteArray) (x5.set n t) [a, b] 2 (wrap64 ((n : Int) + 1)) := by
    intro k x5 n t hn h5 ht
    rw [qD.l0, if_pos (by omega), if_pos (by omega), if_pos (by simp only [List.length_cons, List.length_nil]; omega), ht, Option.bind_some, if_pos (by omega), Int.toNat_natCast]
  unfold qD.f
  rw [if_pos (by simp only [List.length_cons, List.length_nil]; omega), if_pos (by simp only [List.length_cons, List.length_nil]; omega)]
  have e0 : (List.replicate ((([a, b] : List Int).length : Int) : Int).toNat (⟨#[]⟩ : ByteArray)) = [⟨#[]⟩, ⟨#[]⟩] := rfl
  have el : (([a, b] : List Int).length : Int) = 2 := rfl
  rw [e0, el]
  have r0 : rd [a, b] ((0 : Nat) : Int) = a := by simp [rd]
  have r1 : rd [a, b] ((1 : Nat) : Int) = b := by simp [rd]
  have s0 := step (k + 3) [⟨#[]⟩, ⟨#[]⟩] 0 _ (by omega) rfl (by rw [r0]; exact e1)
  have s1 := step (k + 2) ([⟨#[]⟩, ⟨#[]⟩].set 0 (B (Lib.itoa a))) 1 _ (by omega) rfl (by rw [r1]; exact e2)
  have z0 : ((0 : Nat) : Int) = 0 := rfl
  have z1 : ((1 : Nat) : Int) = 1 := rfl
  rw [z0] at s0
  rw [z1] at s1
  rw [w1] at s0
  rw [w2] at s1
  refine s0.trans (s1.trans ?_)
  rw [qD.l0, if_neg (by omega)]
  have e4 : ([⟨#[]⟩, ⟨#[]⟩].set 0 (B (Lib.itoa a))).set 1 (B (Lib.itoa b)) = [B (Lib.itoa a), B (Lib.itoa b)] := rfl
  rw [e4, e3]; rfl
theorem lev_ok (i : Int) (h0 : 0 ≤ i) (h1 : i < 4) : qR.f (rdOf ByteArray.empty (levL.map B) i) = some (B (Lib.toLowerA (levL.getD i.toNat []))) ∧ (Lib.toLowerA (levL.getD i.toNat [])).length ≤ 6 := by
  have h : i = 0 ∨ i = 1 ∨ i = 2 ∨ i = 3 := by omega
  rcases h with rfl | rfl | rfl | rfl
  all_goals (refine ⟨?_, by decide⟩; unfold qR.f; rw [if_pos (by decide)]; rfl)
theorem top_ok (i : Int) (h0 : 0 ≤ i) (h1 : i < 6) : rdOf ByteArray.empty (topL.map B) i = B (topL.getD i.toNat []) ∧ (topL.getD i.toNat []).length ≤ 5 := by
  have h : i = 0 ∨ i = 1 ∨ i = 2 ∨ i = 3 ∨ i = 4 ∨ i = 5 := by omega
  rcases h with rfl | rfl | rfl | rfl | rfl | rfl
  all_goals exact ⟨rfl, by decide⟩
theorem wlRaw_ok (a0 a1 a2 a3 a4 a5 : Int) (h0 : i64 a0) (h1 : 0 ≤ a1 ∧ a1 < 6) (h2 : 0 ≤ a2 ∧ a2 < 4) (h3 : i64 a3) (h4 : i64 a4) (h5 : i64 a5) : wlRaw.f 4 a0 a1 a2 a3 a4 a5 = some (B (lineL a0 a1 a2 a3 a4 a5)) := by
  obtain ⟨eL, lL⟩ := lev_ok a2 h2.1 h2.2
  obtain ⟨eT, lT⟩ := top_ok a1 h1.1 h1.2
  have l0 := itoa_len a0 h0
  have l3 := itoa_len a3 h3
  have l4 := itoa_len a4 h4
  have l5 := itoa_len a5 h5
  have i0 : strconv_Itoa.f a0 = some (B (Lib.itoa a0)) := by unfold strconv_Itoa.f; exact if_pos h0
  have i3 : strconv_Itoa.f a3 = some (B (Lib.itoa a3)) := by unfold strconv_Itoa.f; exact if_pos h3
  have k1 : (⟨#[58, 32]⟩ : ByteArray) = B [58, 32] := rfl
  have k2 : (⟨#[32]⟩ : ByteArray) = B [32] := rfl
  have k3 : (⟨#[44, 32, 97, 114, 101, 97, 32]⟩ : ByteArray) = B [44, 32, 97, 114, 101, 97, 32] := rfl
  have k4 : (⟨#[44, 32, 104, 111, 117, 114, 115, 32]⟩ : ByteArray) = B [44, 32, 104, 111, 117, 114, 115, 32] := rfl
  have gl : ((levL.map B).length : Int) = 4 := rfl
  have gt : ((topL.map B).length : Int) = 6 := rfl
  unfold wlRaw.f gLev.f gTop.f
  rw [Option.bind_some, Option.bind_some, i0, Option.bind_some, if_pos (by rw [B_size]; omega), if_pos h2.1, gl, if_pos h2.2, eL, Option.bind_some, k1, k2, k3, k4, eT]
  simp only [B_app, B_size, gt]
  rw [if_pos (by simp only [List.length_append, List.length_cons, List.length_nil]; omega), if_pos (by simp only [List.length_append, List.length_cons, List.length_nil]; omega), if_pos h1.1, if_pos h1.2, if_pos (by simp only [List.length_append, List.length_cons, List.length_nil]; omega), if_pos (by simp only [List.length_append, List.length_cons, List.length_nil]; omega), i3, Option.bind_some]
  simp only [B_app, B_size]
  rw [if_pos (by simp only [List.length_append, List.length_cons, List.length_nil]; omega), if_pos (by simp only [List.length_append, List.length_cons, List.length_nil]; omega), joinInts2 0 a4 a5 h4 h5, Option.bind_some]
  simp only [B_app, B_size]
  rw [if_pos (by simp only [List.length_append, List.length_cons, List.length_nil]; omega)]
  rfl
theorem qP.calls (a0_0 : Int) (a0_1 : Int) (a0_2 : Int) (a0_3 : Int) (a0_4 : Int) (a0_5 : Int) (r : ByteArray) (w : World) (hL : Laid w) (h : qP.f a0_0 a0_1 a0_2 a0_3 a0_4 a0_5 = some r) :
    Calls Tryz.prog 37 #[.agg #[.int .i64 a0_0, .int .i64 a0_1, .int .i64 a0_2, .int .i64 a0_3, .int .i64 a0_4, .int .i64 a0_5]] w fun e w' => e = .returned (.string r) ∧ Below w.heap.size w w' := by
  unfold qP.f at h
  split at h
  · rename_i hc
    obtain rfl := Option.some.inj h
    obtain ⟨h0, h1, h2, h3, h4, h5⟩ := hc
    exact wlRaw.calls 4 a0_0 a0_1 a0_2 a0_3 a0_4 a0_5 _ w hL (wlRaw_ok a0_0 a0_1 a0_2 a0_3 a0_4 a0_5 h0 h1 h2 h3 h4 h5)
  · cases h
end Go.Proofs.YtlfoojgbiafffaaGreatDoor.Strs
