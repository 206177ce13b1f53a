-- written by wip/tools/xprint.py (a program of this project) out of the translation
import Derived.Test.YtlfoojgbiafffaaGreatDoorXFnExactReadBulletinx0
import Derived.Test.YtlfoojgbiafffaaGreatDoorStrsE
import Derived.Test.YtlfoojgbiafffaaGreatDoorXFnExactReadBulletinx10
namespace Go.Proofs.YtlfoojgbiafffaaGreatDoor.XFnExactReadBulletin
open Go.RowKit Go.Proofs.YtlfoojgbiafffaaGreatDoorW.PrintWords Go.Proofs.YtlfoojgbiafffaaGreatDoorW.PrintLast Go.Proofs.YtlfoojgbiafffaaGreatDoorW.PrintMore
open Go.Proofs.YtlfoojgbiafffaaGreatDoor.Strs
attribute [local go_sem] max2_int min2_int max_two min_two max_three min_three max_four min_four   -- for this text's walks alone
set_option linter.unusedVariables false
set_option linter.unusedSimpArgs false

/-! ### impl_VerifyChecksum: function 58 -/
def impl_VerifyChecksum.f (k : Nat) (a0 : ByteArray) : Option (ByteArray × Bool) := (strings_Cut.f a0 (⟨#[35]⟩ : ByteArray)).bind fun bt299 => ((impl_AppendChecksum.f k bt299.1).bind fun bt302 => (if bt299.2.2 = true then (if bt302.2 = true then (if bt302.1.toList = a0.toList then (some (bt299.1, true)) else (some ((⟨#[]⟩ : ByteArray), false))) else (some ((⟨#[]⟩ : ByteArray), false))) else (some ((⟨#[]⟩ : ByteArray), false))))
theorem zenddBulletinx11_0 {P_ : Prop} (h_ : P_ := by
  simp only [Option.some.injEq, Prod.mk.injEq] at H
  obtain ⟨rfl, rfl⟩ := H
  go_enter Tryz.func58, Tryz.ntmps58
  go_wp2_with (first | ((with_reducible refine gate_callee (f := 38) rfl ?_); refine goesL_ (some 11) rfl rfl Tryz.func38 (by kernel_rfl) rfl #[.string a0, .string (⟨#[35]⟩ : ByteArray)] rfl zlx ?_; (with_reducible refine (strings_Cut.calls a0 (⟨#[35]⟩ : ByteArray) t299 t300 true _ ?sideL A2.out).mono ?_); (case sideL => exact Laid.below HL.out (zBx HB.out)); rintro e w' ⟨rfl, ⟨nd, rfl⟩⟩; refine ⟨_, rfl, ?_⟩) | ((with_reducible refine gate_callee (f := 98) rfl ?_); refine goesL_ (some 17) rfl rfl Tryz.func98 (by kernel_rfl) rfl #[.string t299] rfl zlx ?_; (with_reducible refine (impl_AppendChecksum.calls k t299 t302 true _ ?sideL A3.out).mono ?_); (case sideL => exact Laid.below HL.out (zBx HB.out)); rintro e w7 ⟨rfl, hb⟩; refine ⟨_, rfl, ?_⟩; replace HB := Aside0.mk (below_step (zBx HB.out) hb); (try clear hb)))
  go_ret2
  exact ⟨by first | rfl | (simp [errW_none, errW_some] <;> rfl) | (simp [*, errW_none, errW_some] <;> rfl), by exact zBx HB.out⟩) : P_ := h_
set_option maxHeartbeats 8000000 in
set_option maxRecDepth 100000 in
theorem impl_VerifyChecksum.calls (k : Nat) (a0 : ByteArray) (r1 : ByteArray) (r2 : Bool) (w : World) (hL : Laid w) (h : impl_VerifyChecksum.f k a0 = some (r1, r2)) :
 Calls Tryz.prog 58 #[.string a0] w fun e w' => e = .returned (.tuple #[.string r1, .bool r2]) ∧ Below w.heap.size w w' := by
 have HL := Aside0.mk hL
 clear hL
 have HB := Aside0.mk (Below.refl w.heap.size w)
 have H : ((strings_Cut.f a0 (⟨#[35]⟩ : ByteArray)).bind fun bt299 => ((impl_AppendChecksum.f k bt299.1).bind fun bt302 => (if bt299.2.2 = true then (if bt302.2 = true then (if bt302.1.toList = a0.toList then (some (bt299.1, true)) else (some ((⟨#[]⟩ : ByteArray), false))) else (some ((⟨#[]⟩ : ByteArray), false))) else (some ((⟨#[]⟩ : ByteArray), false))))) = some (r1, r2) := h
 clear h
 replace H := Option.bind_eq_some_iff.mp H
 obtain ⟨⟨t299, t300, t301⟩, A20, H⟩ := H
 replace H : ((impl_AppendChecksum.f k t299).bind fun bt302 => (if t301 = true then (if bt302.2 = true then (if bt302.1.toList = a0.toList then (some (t299, true)) else (some ((⟨#[]⟩ : ByteArray), false))) else (some ((⟨#[]⟩ : ByteArray), false))) else (some ((⟨#[]⟩ : ByteArray), false)))) = some (r1, r2) := H
 have A2 := Aside0.mk A20
 clear A20
 replace H := Option.bind_eq_some_iff.mp H
 obtain ⟨⟨t302, t303⟩, A30, H⟩ := H
 replace H : (if t301 = true then (if t303 = true then (if t302.toList = a0.toList then (some (t299, true)) else (some ((⟨#[]⟩ : ByteArray), false))) else (some ((⟨#[]⟩ : ByteArray), false))) else (some ((⟨#[]⟩ : ByteArray), false))) = some (r1, r2) := H
 have A3 := Aside0.mk A30
 clear A30
 by_cases c4 : t301 = true
 rotate_left
 ·replace c4 := Bool.eq_false_iff.mpr c4
  subst c4
  rw [if_neg (show ¬ (false = true) by decide)] at H
  focus
   simp only [Option.some.injEq, Prod.mk.injEq] at H
   obtain ⟨rfl, rfl⟩ := H
   go_enter Tryz.func58, Tryz.ntmps58
   go_wp2_with (first | ((with_reducible refine gate_callee (f := 38) rfl ?_); refine goesL_ (some 11) rfl rfl Tryz.func38 (by kernel_rfl) rfl #[.string a0, .string (⟨#[35]⟩ : ByteArray)] rfl zlx ?_; (with_reducible refine (strings_Cut.calls a0 (⟨#[35]⟩ : ByteArray) t299 t300 false _ ?sideL A2.out).mono ?_); (case sideL => exact Laid.below HL.out (zBx HB.out)); rintro e w' ⟨rfl, ⟨nd, rfl⟩⟩; refine ⟨_, rfl, ?_⟩) | ((with_reducible refine gate_callee (f := 98) rfl ?_); refine goesL_ (some 17) rfl rfl Tryz.func98 (by kernel_rfl) rfl #[.string t299] rfl zlx ?_; (with_reducible refine (impl_AppendChecksum.calls k t299 t302 t303 _ ?sideL A3.out).mono ?_); (case sideL => exact Laid.below HL.out (zBx HB.out)); rintro e w10 ⟨rfl, hb⟩; refine ⟨_, rfl, ?_⟩; replace HB := Aside0.mk (below_step (zBx HB.out) hb); (try clear hb)))
   go_ret2
   exact ⟨by first | rfl | (simp [errW_none, errW_some] <;> rfl) | (simp [*, errW_none, errW_some] <;> rfl), by exact zBx HB.out⟩

 subst c4
 rw [if_pos rfl] at H
 by_cases c5 : t303 = true
 ·subst c5
  rw [if_pos rfl] at H
  by_cases c6 : t302.toList = a0.toList
  ·rw [if_pos c6] at H
   have c6b0 : (t302.toList == a0.toList) = true := beq_iff_eq.mpr c6
   have c6b1 : (t302.toList != a0.toList) = false := bne_eq_false_iff_eq.mpr c6
   clear c6
   focus
    exact zenddBulletinx11_0
  ·rw [if_neg c6] at H
   have c6b0 : (t302.toList == a0.toList) = false := beq_eq_false_iff_ne.mpr c6
   have c6b1 : (t302.toList != a0.toList) = true := bne_iff_ne.mpr c6
   focus
    exact zenddBulletinx11_0
 ·replace c5 := Bool.eq_false_iff.mpr c5
  subst c5
  rw [if_neg (show ¬ (false = true) by decide)] at H
  focus
   simp only [Option.some.injEq, Prod.mk.injEq] at H
   obtain ⟨rfl, rfl⟩ := H
   go_enter Tryz.func58, Tryz.ntmps58
   go_wp2_with (first | ((with_reducible refine gate_callee (f := 38) rfl ?_); refine goesL_ (some 11) rfl rfl Tryz.func38 (by kernel_rfl) rfl #[.string a0, .string (⟨#[35]⟩ : ByteArray)] rfl zlx ?_; (with_reducible refine (strings_Cut.calls a0 (⟨#[35]⟩ : ByteArray) t299 t300 true _ ?sideL A2.out).mono ?_); (case sideL => exact Laid.below HL.out (zBx HB.out)); rintro e w' ⟨rfl, ⟨nd, rfl⟩⟩; refine ⟨_, rfl, ?_⟩) | ((with_reducible refine gate_callee (f := 98) rfl ?_); refine goesL_ (some 17) rfl rfl Tryz.func98 (by kernel_rfl) rfl #[.string t299] rfl zlx ?_; (with_reducible refine (impl_AppendChecksum.calls k t299 t302 false _ ?sideL A3.out).mono ?_); (case sideL => exact Laid.below HL.out (zBx HB.out)); rintro e w9 ⟨rfl, hb⟩; refine ⟨_, rfl, ?_⟩; replace HB := Aside0.mk (below_step (zBx HB.out) hb); (try clear hb)))
   go_ret2
   exact ⟨by first | rfl | (simp [errW_none, errW_some] <;> rfl) | (simp [*, errW_none, errW_some] <;> rfl), by exact zBx HB.out⟩
/-! ### stringslite_HasSuffix: function 99 -/
def stringslite_HasSuffix.f (a0 : ByteArray) (a1 : ByteArray) : Option (Bool) := if (a0.size : Int) ≥ (a1.size : Int) then (if 0 ≤ (wrap64 ((a0.size : Int) - (a1.size : Int))) then (if (wrap64 ((a0.size : Int) - (a1.size : Int))) ≤ (a0.size : Int) then (some ((a0.extract ((wrap64 ((a0.size : Int) - (a1.size : Int))) : Int).toNat a0.size).toList == a1.toList)) else (none)) else (none)) else (some false)
set_option maxHeartbeats 8000000 in
set_option maxRecDepth 100000 in
theorem stringslite_HasSuffix.calls (a0 : ByteArray) (a1 : ByteArray) (r : Bool) (w : World) (h : stringslite_HasSuffix.f a0 a1 = some r) :
 Calls Tryz.prog 99 #[.string a0, .string a1] w fun e w' => e = .returned (.bool r) ∧ Drawn0 w w' := by
 have H : (if (a0.size : Int) ≥ (a1.size : Int) then (if 0 ≤ (wrap64 ((a0.size : Int) - (a1.size : Int))) then (if (wrap64 ((a0.size : Int) - (a1.size : Int))) ≤ (a0.size : Int) then (some ((a0.extract ((wrap64 ((a0.size : Int) - (a1.size : Int))) : Int).toNat a0.size).toList == a1.toList)) else (none)) else (none)) else (some false)) = some r := h
 clear h
 by_cases c3 : (a0.size : Int) ≥ (a1.size : Int)
 rotate_left
 ·rw [if_neg c3] at H
  have c3b0 : decide ((a1.size : Int) ≤ (a0.size : Int)) = false := decide_eq_false c3
  have c3b1 : decide (a1.size ≤ a0.size) = false := decide_eq_false (fun h => c3 (Int.ofNat_le.mpr h))
  clear c3
  focus
   obtain rfl := Option.some.inj H
   go_enter Tryz.func99, Tryz.ntmps99
   go_wp2
   go_ret
   exact ⟨by first | rfl | (simp; done) | (simp [*]; done), by repeat (first | exact Drawn0.refl _ | apply Drawn0.step)⟩

 rw [if_pos c3] at H
 have c3b0 : decide ((a1.size : Int) ≤ (a0.size : Int)) = true := decide_eq_true c3
 have c3b1 : decide (a1.size ≤ a0.size) = true := decide_eq_true (Int.ofNat_le.mp c3)
 clear c3
 obtain ⟨ji4, hji4⟩ : ∃ j_ : Int, (wrap64 ((a0.size : Int) - (a1.size : Int))) = j_ := ⟨_, rfl⟩
 replace H : (if 0 ≤ (ji4) then (if (ji4) ≤ (a0.size : Int) then (some ((a0.extract ((ji4) : Int).toNat a0.size).toList == a1.toList)) else (none)) else (none)) = some r := by first | (rw [hji4] at H; exact H) | (simp only [hji4] at H ⊢; exact H)
 have hji4w : (IntKind.i64.wrap ((a0.size : Int) - (a1.size : Int))) = ji4 := (i64_w _).trans hji4
 obtain ⟨c5, H⟩ := zin H
 have c5b0 := eq_true c5
 have c5b1 : decide (0 ≤ (ji4)) = true := decide_eq_true c5
 clear c5
 by_cases c6 : (ji4) ≤ (a0.size : Int)
 ·rw [if_pos c6] at H
  have c6b0 := eq_true c6
  have c6b1 : decide ((ji4) ≤ (a0.size : Int)) = true := decide_eq_true c6
  clear c6
  focus
   obtain rfl := Option.some.inj H
   go_enter Tryz.func99, Tryz.ntmps99
   go_wp2
   go_ret
   exact ⟨by first | rfl | (simp; done) | (simp only [← hji4] <;> (first | rfl | simp)) | (simp [*]; done), by repeat (first | exact Drawn0.refl _ | apply Drawn0.step)⟩
 ·rw [if_neg c6] at H
  exact absurd H (by simp)
/-! ### strings_HasSuffix: function 59 -/
def strings_HasSuffix.f (a0 : ByteArray) (a1 : ByteArray) : Option (Bool) := (stringslite_HasSuffix.f a0 a1).bind fun t304 => (some t304)
set_option maxHeartbeats 8000000 in
set_option maxRecDepth 100000 in
theorem strings_HasSuffix.calls (a0 : ByteArray) (a1 : ByteArray) (r : Bool) (w : World) (h : strings_HasSuffix.f a0 a1 = some r) :
 Calls Tryz.prog 59 #[.string a0, .string a1] w fun e w' => e = .returned (.bool r) ∧ Drawn0 w w' := by
 have H : ((stringslite_HasSuffix.f a0 a1).bind fun t304 => (some t304)) = some r := h
 clear h
 replace H := Option.bind_eq_some_iff.mp H
 obtain ⟨t304, A30, H⟩ := H
 replace H : (some t304) = some r := H
 have A3 := Aside0.mk A30
 clear A30
 focus
  obtain rfl := Option.some.inj H
  go_enter Tryz.func59, Tryz.ntmps59
  go_wp2_with (first | ((with_reducible refine gate_callee (f := 99) rfl ?_); refine goesL_ (some 7) rfl rfl Tryz.func99 (by kernel_rfl) rfl #[.string a0, .string a1] rfl zlx ?_; (with_reducible refine (stringslite_HasSuffix.calls a0 a1 t304 _ A3.out).mono ?_); rintro e w' ⟨rfl, ⟨nd, rfl⟩⟩; refine ⟨_, rfl, ?_⟩))
  go_ret
  exact ⟨by first | rfl | (simp; done) | (simp [*]; done), by repeat (first | exact Drawn0.refl _ | apply Drawn0.step)⟩

/-! ### stringslite_TrimSuffix: function 100 -/
def stringslite_TrimSuffix.f (a0 : ByteArray) (a1 : ByteArray) : Option (ByteArray) := (stringslite_HasSuffix.f a0 a1).bind fun t305 => (if t305 = true then (if 0 ≤ (wrap64 ((a0.size : Int) - (a1.size : Int))) then (if (wrap64 ((a0.size : Int) - (a1.size : Int))) ≤ (a0.size : Int) then (some (a0.extract 0 ((wrap64 ((a0.size : Int) - (a1.size : Int))) : Int).toNat)) else (none)) else (none)) else (some a0))
set_option maxHeartbeats 8000000 in
set_option maxRecDepth 100000 in
theorem stringslite_TrimSuffix.calls (a0 : ByteArray) (a1 : ByteArray) (r : ByteArray) (w : World) (h : stringslite_TrimSuffix.f a0 a1 = some r) :
 Calls Tryz.prog 100 #[.string a0, .string a1] w fun e w' => e = .returned (.string r) ∧ Drawn0 w w' := by
 have H : ((stringslite_HasSuffix.f a0 a1).bind fun t305 => (if t305 = true then (if 0 ≤ (wrap64 ((a0.size : Int) - (a1.size : Int))) then (if (wrap64 ((a0.size : Int) - (a1.size : Int))) ≤ (a0.size : Int) then (some (a0.extract 0 ((wrap64 ((a0.size : Int) - (a1.size : Int))) : Int).toNat)) else (none)) else (none)) else (some a0))) = some r := h
 clear h
 replace H := Option.bind_eq_some_iff.mp H
 obtain ⟨t305, A30, H⟩ := H
 replace H : (if t305 = true then (if 0 ≤ (wrap64 ((a0.size : Int) - (a1.size : Int))) then (if (wrap64 ((a0.size : Int) - (a1.size : Int))) ≤ (a0.size : Int) then (some (a0.extract 0 ((wrap64 ((a0.size : Int) - (a1.size : Int))) : Int).toNat)) else (none)) else (none)) else (some a0)) = some r := H
 have A3 := Aside0.mk A30
 clear A30
 by_cases c4 : t305 = true
 rotate_left
 ·replace c4 := Bool.eq_false_iff.mpr c4
  subst c4
  rw [if_neg (show ¬ (false = true) by decide)] at H
  focus
   obtain rfl := Option.some.inj H
   go_enter Tryz.func100, Tryz.ntmps100
   go_wp2_with (first | ((with_reducible refine gate_callee (f := 99) rfl ?_); refine goesL_ (some 7) rfl rfl Tryz.func99 (by kernel_rfl) rfl #[.string a0, .string a1] rfl zlx ?_; (with_reducible refine (stringslite_HasSuffix.calls a0 a1 false _ A3.out).mono ?_); rintro e w' ⟨rfl, ⟨nd, rfl⟩⟩; refine ⟨_, rfl, ?_⟩))
   go_ret
   exact ⟨by first | rfl | (simp; done) | (simp [*]; done), by repeat (first | exact Drawn0.refl _ | apply Drawn0.step)⟩

 subst c4
 rw [if_pos rfl] at H
 obtain ⟨ji5, hji5⟩ : ∃ j_ : Int, (wrap64 ((a0.size : Int) - (a1.size : Int))) = j_ := ⟨_, rfl⟩
 replace H : (if 0 ≤ (ji5) then (if (ji5) ≤ (a0.size : Int) then (some (a0.extract 0 ((ji5) : Int).toNat)) else (none)) else (none)) = some r := by first | (rw [hji5] at H; exact H) | (simp only [hji5] at H ⊢; exact H)
 (try rw [hji5] at A3)
 have hji5w : (IntKind.i64.wrap ((a0.size : Int) - (a1.size : Int))) = ji5 := (i64_w _).trans hji5
 obtain ⟨c6, H⟩ := zin H
 have c6b0 := eq_true c6
 have c6b1 : decide (0 ≤ (ji5)) = true := decide_eq_true c6
 clear c6
 by_cases c7 : (ji5) ≤ (a0.size : Int)
 ·rw [if_pos c7] at H
  have c7b0 := eq_true c7
  have c7b1 : decide ((ji5) ≤ (a0.size : Int)) = true := decide_eq_true c7
  clear c7
  focus
   obtain rfl := Option.some.inj H
   go_enter Tryz.func100, Tryz.ntmps100
   go_wp2_with (first | ((with_reducible refine gate_callee (f := 99) rfl ?_); refine goesL_ (some 7) rfl rfl Tryz.func99 (by kernel_rfl) rfl #[.string a0, .string a1] rfl zlx ?_; (with_reducible refine (stringslite_HasSuffix.calls a0 a1 true _ A3.out).mono ?_); rintro e w' ⟨rfl, ⟨nd, rfl⟩⟩; refine ⟨_, rfl, ?_⟩))
   go_ret
   exact ⟨by first | rfl | (simp; done) | (simp only [← hji5] <;> (first | rfl | simp)) | (simp [*]; done), by repeat (first | exact Drawn0.refl _ | apply Drawn0.step)⟩
 ·rw [if_neg c7] at H
  exact absurd H (by simp)
/-! ### strings_TrimSuffix: function 60 -/
def strings_TrimSuffix.f (a0 : ByteArray) (a1 : ByteArray) : Option (ByteArray) := (stringslite_TrimSuffix.f a0 a1).bind fun t306 => (some t306)
set_option maxHeartbeats 8000000 in
set_option maxRecDepth 100000 in
theorem strings_TrimSuffix.calls (a0 : ByteArray) (a1 : ByteArray) (r : ByteArray) (w : World) (h : strings_TrimSuffix.f a0 a1 = some r) :
 Calls Tryz.prog 60 #[.string a0, .string a1] w fun e w' => e = .returned (.string r) ∧ Drawn0 w w' := by
 have H : ((stringslite_TrimSuffix.f a0 a1).bind fun t306 => (some t306)) = some r := h
 clear h
 replace H := Option.bind_eq_some_iff.mp H
 obtain ⟨t306, A30, H⟩ := H
 replace H : (some t306) = some r := H
 have A3 := Aside0.mk A30
 clear A30
 focus
  obtain rfl := Option.some.inj H
  go_enter Tryz.func60, Tryz.ntmps60
  go_wp2_with (first | ((with_reducible refine gate_callee (f := 100) rfl ?_); refine goesL_ (some 7) rfl rfl Tryz.func100 (by kernel_rfl) rfl #[.string a0, .string a1] rfl zlx ?_; (with_reducible refine (stringslite_TrimSuffix.calls a0 a1 t306 _ A3.out).mono ?_); rintro e w' ⟨rfl, ⟨nd, rfl⟩⟩; refine ⟨_, rfl, ?_⟩))
  go_ret
  exact ⟨by first | rfl | (simp; done) | (simp [*]; done), by repeat (first | exact Drawn0.refl _ | apply Drawn0.step)⟩

/-! ### stringslite_HasPrefix: function 132 -/
def stringslite_HasPrefix.f (a0 : ByteArray) (a1 : ByteArray) : Option (Bool) := if (a0.size : Int) ≥ (a1.size : Int) then (if 0 ≤ (a1.size : Int) then (if (a1.size : Int) ≤ (a0.size : Int) then (some ((a0.extract 0 ((a1.size : Int) : Int).toNat).toList == a1.toList)) else (none)) else (none)) else (some false)
set_option maxHeartbeats 8000000 in
set_option maxRecDepth 100000 in
theorem stringslite_HasPrefix.calls (a0 : ByteArray) (a1 : ByteArray) (r : Bool) (w : World) (h : stringslite_HasPrefix.f a0 a1 = some r) :
 Calls Tryz.prog 132 #[.string a0, .string a1] w fun e w' => e = .returned (.bool r) ∧ Drawn0 w w' := by
 have H : (if (a0.size : Int) ≥ (a1.size : Int) then (if 0 ≤ (a1.size : Int) then (if (a1.size : Int) ≤ (a0.size : Int) then (some ((a0.extract 0 ((a1.size : Int) : Int).toNat).toList == a1.toList)) else (none)) else (none)) else (some false)) = some r := h
 clear h
 by_cases c3 : (a0.size : Int) ≥ (a1.size : Int)
 rotate_left
 ·rw [if_neg c3] at H
  have c3b0 : decide ((a1.size : Int) ≤ (a0.size : Int)) = false := decide_eq_false c3
  have c3b1 : decide (a1.size ≤ a0.size) = false := decide_eq_false (fun h => c3 (Int.ofNat_le.mpr h))
  clear c3
  focus
   obtain rfl := Option.some.inj H
   go_enter Tryz.func132, Tryz.ntmps132
   go_wp2
   go_ret
   exact ⟨by first | rfl | (simp; done) | (simp [*]; done), by repeat (first | exact Drawn0.refl _ | apply Drawn0.step)⟩

 rw [if_pos c3] at H
 have c3b0 : decide ((a1.size : Int) ≤ (a0.size : Int)) = true := decide_eq_true c3
 have c3b1 : decide (a1.size ≤ a0.size) = true := decide_eq_true (Int.ofNat_le.mp c3)
 clear c3
 obtain ⟨c4, H⟩ := zin H
 have c4b0 := eq_true c4
 have c4b1 : decide (0 ≤ (a1.size : Int)) = true := decide_eq_true c4
 clear c4
 by_cases c5 : (a1.size : Int) ≤ (a0.size : Int)
 ·rw [if_pos c5] at H
  have c5b0 := eq_true c5
  have c5b1 : decide ((a1.size : Int) ≤ (a0.size : Int)) = true := decide_eq_true c5
  clear c5
  focus
   obtain rfl := Option.some.inj H
   go_enter Tryz.func132, Tryz.ntmps132
   go_wp2
   go_ret
   exact ⟨by first | rfl | (simp; done) | (simp [*]; done), by repeat (first | exact Drawn0.refl _ | apply Drawn0.step)⟩
 ·rw [if_neg c5] at H
  exact absurd H (by simp)
/-! ### stringslite_TrimPrefix: function 101 -/
def stringslite_TrimPrefix.f (a0 : ByteArray) (a1 : ByteArray) : Option (ByteArray) := (stringslite_HasPrefix.f a0 a1).bind fun t307 => (if t307 = true then (if 0 ≤ (a1.size : Int) then (if (a1.size : Int) ≤ (a0.size : Int) then (some (a0.extract ((a1.size : Int) : Int).toNat a0.size)) else (none)) else (none)) else (some a0))
set_option maxHeartbeats 8000000 in
set_option maxRecDepth 100000 in
theorem stringslite_TrimPrefix.calls (a0 : ByteArray) (a1 : ByteArray) (r : ByteArray) (w : World) (h : stringslite_TrimPrefix.f a0 a1 = some r) :
 Calls Tryz.prog 101 #[.string a0, .string a1] w fun e w' => e = .returned (.string r) ∧ Drawn0 w w' := by
 have H : ((stringslite_HasPrefix.f a0 a1).bind fun t307 => (if t307 = true then (if 0 ≤ (a1.size : Int) then (if (a1.size : Int) ≤ (a0.size : Int) then (some (a0.extract ((a1.size : Int) : Int).toNat a0.size)) else (none)) else (none)) else (some a0))) = some r := h
 clear h
 replace H := Option.bind_eq_some_iff.mp H
 obtain ⟨t307, A30, H⟩ := H
 replace H : (if t307 = true then (if 0 ≤ (a1.size : Int) then (if (a1.size : Int) ≤ (a0.size : Int) then (some (a0.extract ((a1.size : Int) : Int).toNat a0.size)) else (none)) else (none)) else (some a0)) = some r := H
 have A3 := Aside0.mk A30
 clear A30
 by_cases c4 : t307 = true
 rotate_left
 ·replace c4 := Bool.eq_false_iff.mpr c4
  subst c4
  rw [if_neg (show ¬ (false = true) by decide)] at H
  focus
   obtain rfl := Option.some.inj H
   go_enter Tryz.func101, Tryz.ntmps101
   go_wp2_with (first | ((with_reducible refine gate_callee (f := 132) rfl ?_); refine goesL_ (some 7) rfl rfl Tryz.func132 (by kernel_rfl) rfl #[.string a0, .string a1] rfl zlx ?_; (with_reducible refine (stringslite_HasPrefix.calls a0 a1 false _ A3.out).mono ?_); rintro e w' ⟨rfl, ⟨nd, rfl⟩⟩; refine ⟨_, rfl, ?_⟩))
   go_ret
   exact ⟨by first | rfl | (simp; done) | (simp [*]; done), by repeat (first | exact Drawn0.refl _ | apply Drawn0.step)⟩

 subst c4
 rw [if_pos rfl] at H
 obtain ⟨c5, H⟩ := zin H
 have c5b0 := eq_true c5
 have c5b1 : decide (0 ≤ (a1.size : Int)) = true := decide_eq_true c5
 clear c5
 by_cases c6 : (a1.size : Int) ≤ (a0.size : Int)
 ·rw [if_pos c6] at H
  have c6b0 := eq_true c6
  have c6b1 : decide ((a1.size : Int) ≤ (a0.size : Int)) = true := decide_eq_true c6
  clear c6
  focus
   obtain rfl := Option.some.inj H
   go_enter Tryz.func101, Tryz.ntmps101
   go_wp2_with (first | ((with_reducible refine gate_callee (f := 132) rfl ?_); refine goesL_ (some 7) rfl rfl Tryz.func132 (by kernel_rfl) rfl #[.string a0, .string a1] rfl zlx ?_; (with_reducible refine (stringslite_HasPrefix.calls a0 a1 true _ A3.out).mono ?_); rintro e w' ⟨rfl, ⟨nd, rfl⟩⟩; refine ⟨_, rfl, ?_⟩))
   go_ret
   exact ⟨by first | rfl | (simp; done) | (simp [*]; done), by repeat (first | exact Drawn0.refl _ | apply Drawn0.step)⟩
 ·rw [if_neg c6] at H
  exact absurd H (by simp)
/-! ### strings_TrimPrefix: function 61 -/
def strings_TrimPrefix.f (a0 : ByteArray) (a1 : ByteArray) : Option (ByteArray) := (stringslite_TrimPrefix.f a0 a1).bind fun t308 => (some t308)
set_option maxHeartbeats 8000000 in
set_option maxRecDepth 100000 in
theorem strings_TrimPrefix.calls (a0 : ByteArray) (a1 : ByteArray) (r : ByteArray) (w : World) (h : strings_TrimPrefix.f a0 a1 = some r) :
 Calls Tryz.prog 61 #[.string a0, .string a1] w fun e w' => e = .returned (.string r) ∧ Drawn0 w w' := by
 have H : ((stringslite_TrimPrefix.f a0 a1).bind fun t308 => (some t308)) = some r := h
 clear h
 replace H := Option.bind_eq_some_iff.mp H
 obtain ⟨t308, A30, H⟩ := H
 replace H : (some t308) = some r := H
 have A3 := Aside0.mk A30
 clear A30
 focus
  obtain rfl := Option.some.inj H
  go_enter Tryz.func61, Tryz.ntmps61
  go_wp2_with (first | ((with_reducible refine gate_callee (f := 101) rfl ?_); refine goesL_ (some 7) rfl rfl Tryz.func101 (by kernel_rfl) rfl #[.string a0, .string a1] rfl zlx ?_; (with_reducible refine (stringslite_TrimPrefix.calls a0 a1 t308 _ A3.out).mono ?_); rintro e w' ⟨rfl, ⟨nd, rfl⟩⟩; refine ⟨_, rfl, ?_⟩))
  go_ret
  exact ⟨by first | rfl | (simp; done) | (simp [*]; done), by repeat (first | exact Drawn0.refl _ | apply Drawn0.step)⟩

/-! ### impl_bulletinText: function 62 -/
def impl_bulletinText.l0 : Nat → ByteArray → List (S25) → Int → Int → Option (ByteArray)
 | 0, _, _, _, _ => none
 | k + 1, x3, x19, x20, x21 => if x21 < x20 then (if 0 ≤ x21 then (if x21 < (x19.length : Int) then ((impl_warningLine.f ((rd_T25 x19 x21).f0) ((rd_T25 x19 x21).f1) ((rd_T25 x19 x21).f2) ((rd_T25 x19 x21).f3) ((rd_T25 x19 x21).f4) ((rd_T25 x19 x21).f5)).bind fun t317 => (if t317.size + 1 ≤ 9223372036854775807 then (if x3.size + (t317 ++ (⟨#[10]⟩ : ByteArray)).size ≤ 9223372036854775807 then (impl_bulletinText.l0 k (x3 ++ (t317 ++ (⟨#[10]⟩ : ByteArray))) x19 x20 (wrap64 (x21 + 1))) else (none)) else (none))) else (none)) else (none)) else ((impl_AppendChecksum.f k x3).bind fun bt318 => (some bt318.1))
def impl_bulletinText.f (k : Nat) (a0_0 : Int) (a0_1 : Int) (l0_2 : List (S25)) : Option (ByteArray) := (strconv_Itoa.f a0_0).bind fun t313 => (if 9 + t313.size ≤ 9223372036854775807 then (if ((⟨#[98, 117, 108, 108, 101, 116, 105, 110, 32]⟩ : ByteArray) ++ t313).size + 9 ≤ 9223372036854775807 then ((strconv_Itoa.f a0_1).bind fun t314 => (if (((⟨#[98, 117, 108, 108, 101, 116, 105, 110, 32]⟩ : ByteArray) ++ t313) ++ (⟨#[32, 97, 116, 32, 104, 111, 117, 114, 32]⟩ : ByteArray)).size + t314.size ≤ 9223372036854775807 then (if ((((⟨#[98, 117, 108, 108, 101, 116, 105, 110, 32]⟩ : ByteArray) ++ t313) ++ (⟨#[32, 97, 116, 32, 104, 111, 117, 114, 32]⟩ : ByteArray)) ++ t314).size + 1 ≤ 9223372036854775807 then (impl_bulletinText.l0 k (((((⟨#[98, 117, 108, 108, 101, 116, 105, 110, 32]⟩ : ByteArray) ++ t313) ++ (⟨#[32, 97, 116, 32, 104, 111, 117, 114, 32]⟩ : ByteArray)) ++ t314) ++ (⟨#[10]⟩ : ByteArray)) l0_2 (l0_2.length : Int) 0) else (none)) else (none))) else (none)) else (none))
def impl_bulletinText.T1 : Bool × List (List Nat × List Nat) := (true, [([], []), ([0], [0]), ([1], [1]), ([2], [2]), ([3], [3]), ([], []), ([5], [5]), ([6, 2], [6]), ([4, 7], [4, 7]), ([8], [8]), ([9, 7, 0, 1, 2, 3, 4, 5, 6, 7, 8, 9], [9])])
def impl_bulletinText.B1 : List Nat := [0, 1, 3, 7, 15, 0, 32, 103, 255, 511, 1023]
theorem impl_bulletinText.tab1 : rtab .any (opsOf Tryz.f62 1) = impl_bulletinText.T1 := by kernel_rfl
theorem impl_bulletinText.bits1 : waitsOk impl_bulletinText.T1.2 impl_bulletinText.B1 = true := by kernel_rfl
set_option maxHeartbeats 8000000 in
set_option maxRecDepth 100000 in
theorem impl_bulletinText.calls (k : Nat) (a0_0 : Int) (a0_1 : Int) (A0_2 : Option Addr) (c0_2 : Nat) (l0_2 : List (S25)) (r : ByteArray) (w : World) (hr0_2 : Kd.C k25 w A0_2 l0_2.length l0_2) (hc0_2 : l0_2.length ≤ c0_2) (hL : Laid w) (h : impl_bulletinText.f k a0_0 a0_1 l0_2 = some r) :
 Calls Tryz.prog 62 #[.agg #[.int .i64 a0_0, .int .i64 a0_1, .slice A0_2 l0_2.length c0_2]] w fun e w' => e = .returned (.string r) ∧ Below w.heap.size w w' := by
 have hu34 := Tryz.underlying34
 have hu25 := Tryz.underlying25
 have HR0_2 := Aside0.mk hr0_2
 have HC0_2 := Aside0.mk hc0_2
 clear hr0_2 hc0_2
 have HL := Aside0.mk hL
 clear hL
 have HB := Aside0.mk (Below.refl w.heap.size w)
 have H : ((strconv_Itoa.f a0_0).bind fun t313 => (if 9 + t313.size ≤ 9223372036854775807 then (if ((⟨#[98, 117, 108, 108, 101, 116, 105, 110, 32]⟩ : ByteArray) ++ t313).size + 9 ≤ 9223372036854775807 then ((strconv_Itoa.f a0_1).bind fun t314 => (if (((⟨#[98, 117, 108, 108, 101, 116, 105, 110, 32]⟩ : ByteArray) ++ t313) ++ (⟨#[32, 97, 116, 32, 104, 111, 117, 114, 32]⟩ : ByteArray)).size + t314.size ≤ 9223372036854775807 then (if ((((⟨#[98, 117, 108, 108, 101, 116, 105, 110, 32]⟩ : ByteArray) ++ t313) ++ (⟨#[32, 97, 116, 32, 104, 111, 117, 114, 32]⟩ : ByteArray)) ++ t314).size + 1 ≤ 9223372036854775807 then (impl_bulletinText.l0 k (((((⟨#[98, 117, 108, 108, 101, 116, 105, 110, 32]⟩ : ByteArray) ++ t313) ++ (⟨#[32, 97, 116, 32, 104, 111, 117, 114, 32]⟩ : ByteArray)) ++ t314) ++ (⟨#[10]⟩ : ByteArray)) l0_2 (l0_2.length : Int) 0) else (none)) else (none))) else (none)) else (none))) = some r := h
 clear h
 replace H := Option.bind_eq_some_iff.mp H
 obtain ⟨t313, A20, H⟩ := H
 replace H : (if 9 + t313.size ≤ 9223372036854775807 then (if ((⟨#[98, 117, 108, 108, 101, 116, 105, 110, 32]⟩ : ByteArray) ++ t313).size + 9 ≤ 9223372036854775807 then ((strconv_Itoa.f a0_1).bind fun t314 => (if (((⟨#[98, 117, 108, 108, 101, 116, 105, 110, 32]⟩ : ByteArray) ++ t313) ++ (⟨#[32, 97, 116, 32, 104, 111, 117, 114, 32]⟩ : ByteArray)).size + t314.size ≤ 9223372036854775807 then (if ((((⟨#[98, 117, 108, 108, 101, 116, 105, 110, 32]⟩ : ByteArray) ++ t313) ++ (⟨#[32, 97, 116, 32, 104, 111, 117, 114, 32]⟩ : ByteArray)) ++ t314).size + 1 ≤ 9223372036854775807 then (impl_bulletinText.l0 k (((((⟨#[98, 117, 108, 108, 101, 116, 105, 110, 32]⟩ : ByteArray) ++ t313) ++ (⟨#[32, 97, 116, 32, 104, 111, 117, 114, 32]⟩ : ByteArray)) ++ t314) ++ (⟨#[10]⟩ : ByteArray)) l0_2 (l0_2.length : Int) 0) else (none)) else (none))) else (none)) else (none)) = some r := H
 have A2 := Aside0.mk A20
 clear A20
 by_cases c3 : 9 + t313.size ≤ 9223372036854775807
 rotate_left
 ·rw [if_neg c3] at H
  exact absurd H (by simp)

 rw [if_pos c3] at H
 have c3b0 := eq_true c3
 have c3b1 : decide (9 + t313.size ≤ 9223372036854775807) = true := decide_eq_true c3
 try have c3b2 : (9223372036854775807 < 9 + t313.size) = False := eq_false (Nat.not_lt.2 c3)
 obtain ⟨c4, H⟩ := zin H
 have c4b0 := eq_true c4
 have c4b1 : decide (((⟨#[98, 117, 108, 108, 101, 116, 105, 110, 32]⟩ : ByteArray) ++ t313).size + 9 ≤ 9223372036854775807) = true := decide_eq_true c4
 try have c4b2 : (9223372036854775807 < ((⟨#[98, 117, 108, 108, 101, 116, 105, 110, 32]⟩ : ByteArray) ++ t313).size + 9) = False := eq_false (Nat.not_lt.2 c4)
 have c4b3 : (9223372036854775807 < 9 + t313.size + 9) = False := eq_false (Nat.not_lt.2 (by have h_ := c4; simp only [ByteArray.size_append] at h_; exact h_))
 replace H := Option.bind_eq_some_iff.mp H
 obtain ⟨t314, A50, H⟩ := H
 replace H : (if (((⟨#[98, 117, 108, 108, 101, 116, 105, 110, 32]⟩ : ByteArray) ++ t313) ++ (⟨#[32, 97, 116, 32, 104, 111, 117, 114, 32]⟩ : ByteArray)).size + t314.size ≤ 9223372036854775807 then (if ((((⟨#[98, 117, 108, 108, 101, 116, 105, 110, 32]⟩ : ByteArray) ++ t313) ++ (⟨#[32, 97, 116, 32, 104, 111, 117, 114, 32]⟩ : ByteArray)) ++ t314).size + 1 ≤ 9223372036854775807 then (impl_bulletinText.l0 k (((((⟨#[98, 117, 108, 108, 101, 116, 105, 110, 32]⟩ : ByteArray) ++ t313) ++ (⟨#[32, 97, 116, 32, 104, 111, 117, 114, 32]⟩ : ByteArray)) ++ t314) ++ (⟨#[10]⟩ : ByteArray)) l0_2 (l0_2.length : Int) 0) else (none)) else (none)) = some r := H
 have A5 := Aside0.mk A50
 clear A50
 obtain ⟨c6, H⟩ := zin H
 have c6b0 := eq_true c6
 have c6b1 : decide ((((⟨#[98, 117, 108, 108, 101, 116, 105, 110, 32]⟩ : ByteArray) ++ t313) ++ (⟨#[32, 97, 116, 32, 104, 111, 117, 114, 32]⟩ : ByteArray)).size + t314.size ≤ 9223372036854775807) = true := decide_eq_true c6
 try have c6b2 : (9223372036854775807 < (((⟨#[98, 117, 108, 108, 101, 116, 105, 110, 32]⟩ : ByteArray) ++ t313) ++ (⟨#[32, 97, 116, 32, 104, 111, 117, 114, 32]⟩ : ByteArray)).size + t314.size) = False := eq_false (Nat.not_lt.2 c6)
 have c6b3 : (9223372036854775807 < 9 + t313.size + 9 + t314.size) = False := eq_false (Nat.not_lt.2 (by have h_ := c6; simp only [ByteArray.size_append] at h_; exact h_))
 obtain ⟨c7, H⟩ := zin H
 have c7b0 := eq_true c7
 have c7b1 : decide (((((⟨#[98, 117, 108, 108, 101, 116, 105, 110, 32]⟩ : ByteArray) ++ t313) ++ (⟨#[32, 97, 116, 32, 104, 111, 117, 114, 32]⟩ : ByteArray)) ++ t314).size + 1 ≤ 9223372036854775807) = true := decide_eq_true c7
 try have c7b2 : (9223372036854775807 < ((((⟨#[98, 117, 108, 108, 101, 116, 105, 110, 32]⟩ : ByteArray) ++ t313) ++ (⟨#[32, 97, 116, 32, 104, 111, 117, 114, 32]⟩ : ByteArray)) ++ t314).size + 1) = False := eq_false (Nat.not_lt.2 c7)
 have c7b3 : (9223372036854775807 < 9 + t313.size + 9 + t314.size + 1) = False := eq_false (Nat.not_lt.2 (by have h_ := c7; simp only [ByteArray.size_append] at h_; exact h_))
 have H' := Aside0.mk H
 clear H
 go_enter Tryz.func62, Tryz.ntmps62
 try go_wp2_with (first | ((with_reducible refine gate_dst (N := 1) rfl ?_); refine box_event ?hg (N := 1) ?hd (cs := #[.int .i64 a0_0, .int .i64 a0_1, .slice A0_2 l0_2.length c0_2]) (t := 34) ?hr ?_; (case hd => rfl); (case hg => rfl); (case hr => exact zsx); intro gb312 hg w8 hbox hb; have BK312 := Aside0.mk (hbox); have GW312 := zns hg HB.out; have GE312 := zns hg HB.out; replace HB := Aside0.mk (below_step (zBx HB.out) hb); clear hb hbox hg))
 replace BK312 := Aside0.mk (blk_drew BK312.out)
 replace HB := Aside0.mk (below_drew1 HB.out)
 refine start_ (n := 11) (S := fun w' => w'.cell? ⟨gb312, 0, none⟩ = some (.int .i64 a0_0) ∧ w'.cell? ⟨gb312, 1, none⟩ = some (.int .i64 a0_1) ∧ w'.cell? ⟨gb312, 2, none⟩ = some (.slice A0_2 l0_2.length c0_2)) (ds := []) #[F,F,F,F,F,F,F,F,F,F,F] (by kernel_rfl) rfl rfl ⟨(blk_cell BK312.out 0).trans rfl, (blk_cell BK312.out 1).trans rfl, (blk_cell BK312.out 2).trans rfl⟩ (fun hHeld => ?_); refine with_tabW impl_bulletinText.tab1 impl_bulletinText.bits1 (fun HT_ HW_ => ?_)
 generalize w8.drew = w9 at BK312 HB hHeld ⊢
 refine zpu 0 8 #[T,F,F,F,F,F,F,F,F,F,F] HT_.out ?_
 refine zpu 5 13 #[T,F,F,F,F,T,F,F,F,F,F] HT_.out ?_
 refine take_ (i := 1) (N := some 9) (v := ?_) (a' := ?_) #[T,T,F,F,F,T,F,F,F,F,F] rfl rfl (take_ofW HT_.out HW_.out (by kernel_rfl)) (fun _ _ _ h => h) (Or.inl ⟨by rfl, ?_⟩) hHeld ?_ ?_
 rotate_left
 ·rintro w' ⟨s0, s1, s2⟩
  go_simp
  with_reducible rfl
 rotate_left
 ·exact zpx
 refine take_ (i := 6) (N := some 14) (v := ?_) (a' := ?_) #[T,T,F,F,F,T,T,F,F,F,F] rfl rfl (take_ofW HT_.out HW_.out (by kernel_rfl)) (fun _ _ _ h => h) (Or.inl ⟨by rfl, ?_⟩) hHeld ?_ ?_
 rotate_left
 ·rintro w' ⟨s0, s1, s2⟩
  go_simp
  with_reducible rfl
 rotate_left
 ·exact zpx
 refine one_ (i := 2) (N := some 10) #[T,T,T,F,F,T,T,F,F,F,F] rfl rfl (one_of HT_.out (by kernel_rfl)) (by decide) (fun K hK => ?_)
 refine goes_ Tryz.func81 (by kernel_rfl) rfl #[.int .i64 a0_0] (by rfl) rfl rfl zlx ?_
 with_reducible refine (strconv_Itoa.calls a0_0 t313 _ ?sideL A2.out).mono ?_
 case sideL => exact Laid.below HL.out (zBy HB.out GE312.out)
 rintro e w10 ⟨rfl, hb⟩
 refine ⟨_, rfl, ?_⟩
 replace BK312 := zbl BK312.out hb
 replace HB := Aside0.mk (below_step (zBy HB.out GE312.out) hb)
 (try clear hb)
 (try clear hb2)
 (try clear hk)
 (try clear hi)
 refine hK.out _ _ ⟨(blk_cell BK312.out 0).trans rfl, (blk_cell BK312.out 1).trans rfl, (blk_cell BK312.out 2).trans rfl⟩ (fun hHeld => ?_)
 clear hK K
 refine norm_ (a' := ?_) ?_ ?_
 rotate_left
 ·show Act.put _ (some 10) _ = _
  simp only [Act.put, List.setIfInBounds_toArray, List.set_cons_zero, List.set_cons_succ, i64_w, i32_w]
  rfl
 refine zpu 3 11 #[T,T,T,T,F,T,T,F,F,F,F] HT_.out ?_
 refine zpu 4 12 #[T,T,T,T,T,T,T,F,F,F,F] HT_.out ?_
 refine one_ (i := 7) (N := some 15) #[T,T,T,T,T,T,T,T,F,F,F] rfl rfl (one_of HT_.out (by kernel_rfl)) (by decide) (fun K hK => ?_)
 refine goes_ Tryz.func81 (by kernel_rfl) rfl #[.int .i64 a0_1] (by rfl) rfl rfl zlx ?_
 with_reducible refine (strconv_Itoa.calls a0_1 t314 _ ?sideL A5.out).mono ?_
 case sideL => exact Laid.below HL.out (zBy HB.out GE312.out)
 rintro e w11 ⟨rfl, hb⟩
 refine ⟨_, rfl, ?_⟩
 replace BK312 := zbl BK312.out hb
 replace HB := Aside0.mk (below_step (zBy HB.out GE312.out) hb)
 (try clear hb)
 (try clear hb2)
 (try clear hk)
 (try clear hi)
 refine hK.out _ _ ⟨(blk_cell BK312.out 0).trans rfl, (blk_cell BK312.out 1).trans rfl, (blk_cell BK312.out 2).trans rfl⟩ (fun hHeld => ?_)
 clear hK K
 refine norm_ (a' := ?_) ?_ ?_
 rotate_left
 ·show Act.put _ (some 15) _ = _
  simp only [Act.put, List.setIfInBounds_toArray, List.set_cons_zero, List.set_cons_succ, i64_w, i32_w]
  rfl
 refine zpu 8 16 #[T,T,T,T,T,T,T,T,T,F,F] HT_.out ?_
 refine zpu 9 17 #[T,T,T,T,T,T,T,T,T,T,F] HT_.out ?_
 refine zpu 10 3 #[T,T,T,T,T,T,T,T,T,T,T] HT_.out ?_
 refine done_ (done_of HT_.out (by kernel_rfl)) ?_
 have hcz12_0 : w11.cell? ⟨gb312, 0, none⟩ = some (.int .i64 a0_0) := (blk_cell BK312.out 0).trans rfl
 have hcz12_1 : w11.cell? ⟨gb312, 1, none⟩ = some (.int .i64 a0_1) := (blk_cell BK312.out 1).trans rfl
 have hcz12_2 : w11.cell? ⟨gb312, 2, none⟩ = some (.slice A0_2 l0_2.length c0_2) := (blk_cell BK312.out 2).trans rfl
 have hfz12_0 := blk_frozen BK312.out 0
 have hfz12_1 := blk_frozen BK312.out 1
 have hfz12_2 := blk_frozen BK312.out 2
 try go_wp2
 go_loopg [3, 21] k (fun kq v3 v21 w' => ∃ (x3_1 : ByteArray) (x21_1 : Int), v3 = .string x3_1 ∧ v21 = .int .i64 x21_1 ∧ Aside0 (impl_bulletinText.l0 kq x3_1 l0_2 (l0_2.length : Int) x21_1 = some r) ∧ Aside0 (kq ≤ k) ∧ Aside0 (w'.heap[gb312]? = some (.cells #[.int .i64 a0_0, .int .i64 a0_1, (.slice A0_2 l0_2.length c0_2)] 34 (0, 0))) ∧ Aside0 (Below w.heap.size w w'))
 case atStart => exact ⟨(((((⟨#[98, 117, 108, 108, 101, 116, 105, 110, 32]⟩ : ByteArray) ++ t313) ++ (⟨#[32, 97, 116, 32, 104, 111, 117, 114, 32]⟩ : ByteArray)) ++ t314) ++ (⟨#[10]⟩ : ByteArray)), (0), zrx, zrx, H', ⟨Nat.le_refl _⟩, ⟨by refine zbx ?_; exact BK312.out⟩, ⟨by exact zBy HB.out GE312.out⟩⟩
 case round =>
  clear H'
  try clear p2
  try clear c3
  try clear c3b0
  try clear c3b1
  try clear c3b2
  try clear c4
  try clear c4b0
  try clear c4b1
  try clear c4b2
  try clear c6
  try clear c6b0
  try clear c6b1
  try clear c6b2
  try clear c7
  try clear c7b0
  try clear c7b1
  try clear c7b2
  try clear c8
  try clear hcz12_0
  try clear hcz12_1
  try clear hcz12_2
  try clear hfz12_0
  try clear hfz12_1
  try clear hfz12_2
  obtain ⟨x3_1, x21_1, rfl, rfl, HA, HK1, BK312, HB⟩ := hrel
  cases gk with
  | zero => exact absurd HA.out (by simp [impl_bulletinText.l0])
  | succ k1 =>
   have H := HA.out
   clear HA
   simp only [impl_bulletinText.l0] at H
   by_cases c13 : x21_1 < (l0_2.length : Int)
   rotate_left
   ·rw [if_neg c13] at H
    have c13b0 : decide (x21_1 < (l0_2.length : Int)) = false := decide_eq_false c13
    clear c13
    replace H := Option.bind_eq_some_iff.mp H
    obtain ⟨⟨t318, t319⟩, A230, H⟩ := H
    replace H : (some t318) = some r := H
    have A23 := Aside0.mk A230
    clear A230
    focus
     obtain rfl := Option.some.inj H
     go_wp2_with (first | ((with_reducible refine gate_callee (f := 98) rfl ?_); refine goesL_ (some 33) rfl rfl Tryz.func98 (by kernel_rfl) rfl #[.string x3_1] rfl zlx ?_; (with_reducible refine (impl_AppendChecksum.calls k1 x3_1 t318 t319 _ ?sideL A23.out).mono ?_); (case sideL => exact Laid.below HL.out (zBy HB.out GE312.out)); rintro e w24 ⟨rfl, hb⟩; refine ⟨_, rfl, ?_⟩; replace BK312 := zbl BK312.out hb; replace HB := Aside0.mk (below_step (zBy HB.out GE312.out) hb); (try clear hb)))
     go_ret
     exact ⟨by first | rfl | (simp [errW_none, errW_some] <;> rfl) | (simp [*, errW_none, errW_some] <;> rfl), by exact zBy HB.out GE312.out⟩
   rw [if_pos c13] at H
   have c13b0 : decide (x21_1 < (l0_2.length : Int)) = true := decide_eq_true c13
   clear c13
   obtain ⟨c14, H⟩ := zin H
   have c14b0 : decide (0 ≤ x21_1) = true := decide_eq_true c14
   clear c14
   obtain ⟨c15, H⟩ := zin H
   have c15b0 : decide (x21_1 < (l0_2.length : Int)) = true := decide_eq_true c15
   clear c15
   replace H := Option.bind_eq_some_iff.mp H
   obtain ⟨t317, A160, H⟩ := H
   replace H : (if t317.size + 1 ≤ 9223372036854775807 then (if x3_1.size + (t317 ++ (⟨#[10]⟩ : ByteArray)).size ≤ 9223372036854775807 then (impl_bulletinText.l0 k1 (x3_1 ++ (t317 ++ (⟨#[10]⟩ : ByteArray))) l0_2 (l0_2.length : Int) (wrap64 (x21_1 + 1))) else (none)) else (none)) = some r := H
   have A16 := Aside0.mk A160
   clear A160
   obtain ⟨c17, H⟩ := zin H
   have c17b0 := eq_true c17
   have c17b1 : decide (t317.size + 1 ≤ 9223372036854775807) = true := decide_eq_true c17
   try have c17b2 : (9223372036854775807 < t317.size + 1) = False := eq_false (Nat.not_lt.2 c17)
   obtain ⟨c18, H⟩ := zin H
   have c18b0 := eq_true c18
   have c18b1 : decide (x3_1.size + (t317 ++ (⟨#[10]⟩ : ByteArray)).size ≤ 9223372036854775807) = true := decide_eq_true c18
   try have c18b2 : (9223372036854775807 < x3_1.size + (t317 ++ (⟨#[10]⟩ : ByteArray)).size) = False := eq_false (Nat.not_lt.2 c18)
   have c18b3 : (9223372036854775807 < x3_1.size + (t317.size + 1)) = False := eq_false (Nat.not_lt.2 (by have h_ := c18; simp only [ByteArray.size_append] at h_; exact h_))
   focus
    have H' := Aside0.mk H
    clear H
    have p315 : 0 ≤ (x21_1 : Int) := of_decide_eq_true zax
    have q315 : x21_1 < (l0_2.length : Int) := of_decide_eq_true zax
    obtain ⟨ad315, e315, hx315_0, hx315_1, hx315_2, hx315_3, hx315_4, hx315_5⟩ := at_T25 HR0_2.out x21_1 p315 q315
    cases e315
    replace hx315_0 := (HB.out.cell (World.block_lt_of_cell? w _ hx315_0)).trans hx315_0
    replace hx315_1 := (HB.out.cell (World.block_lt_of_cell? w _ hx315_1)).trans hx315_1
    replace hx315_2 := (HB.out.cell (World.block_lt_of_cell? w _ hx315_2)).trans hx315_2
    replace hx315_3 := (HB.out.cell (World.block_lt_of_cell? w _ hx315_3)).trans hx315_3
    replace hx315_4 := (HB.out.cell (World.block_lt_of_cell? w _ hx315_4)).trans hx315_4
    replace hx315_5 := (HB.out.cell (World.block_lt_of_cell? w _ hx315_5)).trans hx315_5
    replace p315 := eq_true p315
    replace q315 := eq_true q315
    go_wp2_with (first | ((with_reducible refine gate_dst (N := 5) rfl ?_); refine box_event ?hg (N := 5) ?hd (cs := #[.int .i64 0, .int .i64 0, .int .i64 0, .int .i64 0, .int .i64 0, .int .i64 0]) (t := 25) ?hr ?_; (case hd => rfl); (case hg => rfl); (case hr => exact zsx); intro gb316 hg w19 hbox hb; have BK316 := Aside0.mk (hbox); have GW316 := zns hg HB.out; have GE316 := zns hg HB.out; replace HB := Aside0.mk (below_step (zBy HB.out GE312.out) hb); have NB312_316 := znl hg BK312.out; have NB316_312 := zng hg BK312.out; replace BK312 := zbl BK312.out hb; clear hb hbox hg; have hnb20 := NB316_312.out; have hnc20 := NB312_316.out; have hcz21_0 : w19.cell? ⟨gb316, 0, none⟩ = some (.int .i64 0) := (blk_cell BK316.out 0).trans rfl; have hcz21_1 : w19.cell? ⟨gb316, 1, none⟩ = some (.int .i64 0) := (blk_cell BK316.out 1).trans rfl; have hcz21_2 : w19.cell? ⟨gb316, 2, none⟩ = some (.int .i64 0) := (blk_cell BK316.out 2).trans rfl; have hcz21_3 : w19.cell? ⟨gb316, 3, none⟩ = some (.int .i64 0) := (blk_cell BK316.out 3).trans rfl; have hcz21_4 : w19.cell? ⟨gb316, 4, none⟩ = some (.int .i64 0) := (blk_cell BK316.out 4).trans rfl; have hcz21_5 : w19.cell? ⟨gb316, 5, none⟩ = some (.int .i64 0) := (blk_cell BK316.out 5).trans rfl; have hfz21_0 := blk_frozen BK316.out 0; have hfz21_1 := blk_frozen BK316.out 1; have hfz21_2 := blk_frozen BK316.out 2; have hfz21_3 := blk_frozen BK316.out 3; have hfz21_4 := blk_frozen BK316.out 4; have hfz21_5 := blk_frozen BK316.out 5) | ((with_reducible refine gate_callee (f := 37) rfl ?_); refine goesL_ (some 27) rfl rfl Tryz.func37 (by kernel_rfl) rfl #[.agg #[.int .i64 ((rd_T25 l0_2 x21_1).f0), .int .i64 ((rd_T25 l0_2 x21_1).f1), .int .i64 ((rd_T25 l0_2 x21_1).f2), .int .i64 ((rd_T25 l0_2 x21_1).f3), .int .i64 ((rd_T25 l0_2 x21_1).f4), .int .i64 ((rd_T25 l0_2 x21_1).f5)]] rfl zlx ?_; (with_reducible refine (impl_warningLine.calls ((rd_T25 l0_2 x21_1).f0) ((rd_T25 l0_2 x21_1).f1) ((rd_T25 l0_2 x21_1).f2) ((rd_T25 l0_2 x21_1).f3) ((rd_T25 l0_2 x21_1).f4) ((rd_T25 l0_2 x21_1).f5) t317 _ ?sideL A16.out).mono ?_); (case sideL => exact Laid.below HL.out (zBz HB.out GE312.out GE316.out)); rintro e w22 ⟨rfl, hb⟩; refine ⟨_, rfl, ?_⟩; replace BK312 := zbl BK312.out hb; replace BK316 := Aside0.mk (blk_below (g := gb316) (o := .cells #[.int .i64 ((rd_T25 l0_2 x21_1).f0), .int .i64 ((rd_T25 l0_2 x21_1).f1), .int .i64 ((rd_T25 l0_2 x21_1).f2), .int .i64 ((rd_T25 l0_2 x21_1).f3), .int .i64 ((rd_T25 l0_2 x21_1).f4), .int .i64 ((rd_T25 l0_2 x21_1).f5)] 25 (0, 0)) (zbp BK316.out) hb); replace HB := Aside0.mk (below_step (zBz HB.out GE312.out GE316.out) hb); (try clear hb)))
    go_roundg k1
    case measure => have := HK1.out; omega
    case rel => exact ⟨(x3_1 ++ (t317 ++ (⟨#[10]⟩ : ByteArray))), (wrap64 (x21_1 + 1)), zrx, zrx, H', ⟨by have := HK1.out; omega⟩, ⟨by refine zbx ?_; exact BK312.out⟩, ⟨by exact zBz HB.out GE312.out GE316.out⟩⟩
end Go.Proofs.YtlfoojgbiafffaaGreatDoor.XFnExactReadBulletin
