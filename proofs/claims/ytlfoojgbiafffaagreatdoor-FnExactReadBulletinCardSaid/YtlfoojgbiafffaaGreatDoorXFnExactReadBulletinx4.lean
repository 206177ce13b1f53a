-- written by wip/tools/xprint.py (a program of this project) out of the translation
import Derived.Test.YtlfoojgbiafffaaGreatDoorXFnExactReadBulletinx0
import Derived.Test.YtlfoojgbiafffaaGreatDoorStrsE
import Derived.Test.YtlfoojgbiafffaaGreatDoorXFnExactReadBulletinx1
import Derived.Test.YtlfoojgbiafffaaGreatDoorXFnExactReadBulletinx3
namespace Go.Proofs.YtlfoojgbiafffaaGreatDoor.XFnExactReadBulletin
open Go.RowKit Go.Proofs.YtlfoojgbiafffaaGreatDoorW.PrintWords Go.Proofs.YtlfoojgbiafffaaGreatDoorW.PrintLast Go.Proofs.YtlfoojgbiafffaaGreatDoorW.PrintMore
open Go.Proofs.YtlfoojgbiafffaaGreatDoor.Strs
attribute [local go_sem] max2_int min2_int max_two min_two max_three min_three max_four min_four   -- for this text's walks alone
set_option linter.unusedVariables false
set_option linter.unusedSimpArgs false

theorem more_ {P : Program} {md : Region.Mode} {ops : Array Oper} {Q : Exit → Act → World → Prop} {S S' : World → Prop} (hS : ∀ w, S' w → S w) : ∀ (fuel : Nat) (l : Array Bool) (a : Act) (w : World),
    S' w → wpAnyLast P md ops Q S' [] fuel l a w → wpAnyLast P md ops Q S [] fuel l a w
  | 0, _, _, _, _, h => h
  | fuel + 1, l, a, w, hw, h => ⟨h.1, fun i hi => wpOp_mono (fun a' w' h' => ⟨fun _ _ => hS _ (h'.1 (by simp) hw), more_ hS fuel _ a' w' (h'.1 (by simp) hw) h'.2⟩) (h.2 i hi)⟩
/-! ### spec_l17Good: function 67 -/
def spec_l17Good.f (k : Nat) (a0_0 : Int) (a0_1 : Int) (l0_2 : List (S25)) : Option (Bool) := (spec_l1In.f a0_0 1 999).bind fun t132 => (if t132 = true then ((spec_l1In.f a0_1 0 240).bind fun t133 => (if t133 = true then ((spec_l14List.f k l0_2).bind fun t134 => (some t134)) else (some false))) else (some false))
theorem zendadBulletinx4_0 {P_ : Prop} (h_ : P_ := by
  obtain rfl := Option.some.inj H
  go_enter Tryz.func67, Tryz.ntmps67
  go_wp2_with (first | ((with_reducible refine gate_dst (N := 1) rfl ?_); refine box_event ?hg (N := 1) ?hd (cs := #[.int .i64 a0_0, .int .i64 a0_1, .slice A0_2 l0_2.length c0_2]) (t := 34) ?hr ?_; (case hd => rfl); (case hg => rfl); (case hr => exact zsx); intro gb131 hg w7 hbox hb; have BK131 := Aside0.mk (hbox); have GW131 := zns hg HB.out; have GE131 := zns hg HB.out; replace HB := Aside0.mk (below_step (zBx HB.out) hb); clear hb hbox hg; have hcz8_0 : w7.cell? ⟨gb131, 0, none⟩ = some (.int .i64 a0_0) := (blk_cell BK131.out 0).trans rfl; have hcz8_1 : w7.cell? ⟨gb131, 1, none⟩ = some (.int .i64 a0_1) := (blk_cell BK131.out 1).trans rfl; have hcz8_2 : w7.cell? ⟨gb131, 2, none⟩ = some (.slice A0_2 l0_2.length c0_2) := (blk_cell BK131.out 2).trans rfl; have hfz8_0 := blk_frozen BK131.out 0; have hfz8_1 := blk_frozen BK131.out 1; have hfz8_2 := blk_frozen BK131.out 2) | ((with_reducible refine gate_callee (f := 53) rfl ?_); refine goesL_ (some 5) rfl rfl Tryz.func53 (by kernel_rfl) rfl #[.int .i64 a0_0, .int .i64 1, .int .i64 999] rfl zlx ?_; (with_reducible refine (spec_l1In.calls a0_0 1 999 _ _ A2.out).mono ?_); rintro e w' ⟨rfl, ⟨nd, rfl⟩⟩; refine ⟨_, rfl, ?_⟩) | (go_at_call 53; (with_reducible refine (spec_l1In.calls a0_1 0 240 _ _ A4.out).mono ?_); rintro e w' ⟨rfl, ⟨nd, rfl⟩⟩) | (go_at_call 103; (with_reducible refine (spec_l14List.calls k _ _ l0_2 t134 _ ?side1 ?side2 A6.out).mono ?_); (case side1 => repeat (first | exact (Kd.C_below HR0_2.out (zBy HB.out GE131.out)) | (with_reducible refine Kd.C_alloc ?_ _) | (with_reducible refine Kd.C_drewN ?_ _) | (with_reducible refine Kd.C_drew ?_))); (case side2 => exact HC0_2.out); rintro e w9 ⟨rfl, hb⟩; replace BK131 := zbl BK131.out hb; replace HB := Aside0.mk (below_step (zBy HB.out GE131.out) hb); (try clear hb)))
  go_ret
  exact ⟨by first | rfl | (simp [errW_none, errW_some] <;> rfl) | (simp [*, errW_none, errW_some] <;> rfl), by exact zBy HB.out GE131.out⟩) : P_ := h_
set_option maxHeartbeats 8000000 in
set_option maxRecDepth 100000 in
theorem spec_l17Good.calls (k : Nat) (a0_0 : Int) (a0_1 : Int) (A0_2 : Option Addr) (c0_2 : Nat) (l0_2 : List (S25)) (r : Bool) (w : World) (hr0_2 : Kd.C k25 w A0_2 l0_2.length l0_2) (hc0_2 : l0_2.length ≤ c0_2) (h : spec_l17Good.f k a0_0 a0_1 l0_2 = some r) :
 Calls Tryz.prog 67 #[.agg #[.int .i64 a0_0, .int .i64 a0_1, .slice A0_2 l0_2.length c0_2]] w fun e w' => e = .returned (.bool r) ∧ Below w.heap.size w w' := by
 have hu34 := Tryz.underlying34
 have HR0_2 := Aside0.mk hr0_2
 have HC0_2 := Aside0.mk hc0_2
 clear hr0_2 hc0_2
 have HB := Aside0.mk (Below.refl w.heap.size w)
 have H : ((spec_l1In.f a0_0 1 999).bind fun t132 => (if t132 = true then ((spec_l1In.f a0_1 0 240).bind fun t133 => (if t133 = true then ((spec_l14List.f k l0_2).bind fun t134 => (some t134)) else (some false))) else (some false))) = some r := h
 clear h
 replace H := Option.bind_eq_some_iff.mp H
 obtain ⟨t132, A20, H⟩ := H
 replace H : (if t132 = true then ((spec_l1In.f a0_1 0 240).bind fun t133 => (if t133 = true then ((spec_l14List.f k l0_2).bind fun t134 => (some t134)) else (some false))) else (some false)) = some r := H
 have A2 := Aside0.mk A20
 clear A20
 by_cases c3 : t132 = true
 rotate_left
 ·replace c3 := Bool.eq_false_iff.mpr c3
  subst c3
  rw [if_neg (show ¬ (false = true) by decide)] at H
  focus
   exact zendadBulletinx4_0

 subst c3
 rw [if_pos rfl] at H
 replace H := Option.bind_eq_some_iff.mp H
 obtain ⟨t133, A40, H⟩ := H
 replace H : (if t133 = true then ((spec_l14List.f k l0_2).bind fun t134 => (some t134)) else (some false)) = some r := H
 have A4 := Aside0.mk A40
 clear A40
 by_cases c5 : t133 = true
 ·subst c5
  rw [if_pos rfl] at H
  replace H := Option.bind_eq_some_iff.mp H
  obtain ⟨t134, A60, H⟩ := H
  replace H : (some t134) = some r := H
  have A6 := Aside0.mk A60
  clear A60
  focus
   exact zendadBulletinx4_0
 ·replace c5 := Bool.eq_false_iff.mpr c5
  subst c5
  rw [if_neg (show ¬ (false = true) by decide)] at H
  focus
   exact zendadBulletinx4_0
/-! ### spec_l17Levels: function 94 -/
def spec_l17Levels.f  : Option (List ByteArray) := some (([(⟨#[]⟩ : ByteArray), (⟨#[121, 101, 108, 108, 111, 119]⟩ : ByteArray), (⟨#[111, 114, 97, 110, 103, 101]⟩ : ByteArray), (⟨#[114, 101, 100]⟩ : ByteArray)] : List ByteArray))
set_option maxHeartbeats 8000000 in
set_option maxRecDepth 100000 in
theorem spec_l17Levels.calls  (r : List ByteArray) (w : World) (h : spec_l17Levels.f  = some r) :
 Calls Tryz.prog 94 #[] w fun e w' => ∃ v0_ : Value, e = .returned (v0_) ∧ Kd.R Kd.string 9 w' w.heap.size (fun _ => True) v0_ r ∧ Below w.heap.size w w' := by
 have HB := Aside0.mk (Below.refl w.heap.size w)
 have H : (some (([(⟨#[]⟩ : ByteArray), (⟨#[121, 101, 108, 108, 111, 119]⟩ : ByteArray), (⟨#[111, 114, 97, 110, 103, 101]⟩ : ByteArray), (⟨#[114, 101, 100]⟩ : ByteArray)] : List ByteArray))) = some r := h
 clear h
 obtain ⟨y135, hy135⟩ : ∃ y_ : List ByteArray, y_ = (([(⟨#[]⟩ : ByteArray), (⟨#[121, 101, 108, 108, 111, 119]⟩ : ByteArray), (⟨#[111, 114, 97, 110, 103, 101]⟩ : ByteArray), (⟨#[114, 101, 100]⟩ : ByteArray)] : List ByteArray)) := ⟨_, rfl⟩
 replace H : (some y135) = some r := by first | (rw [hy135]; with_reducible exact H) | (have H2_ := (Option.bind_some _ _).symm.trans H; rw [hy135]; with_reducible exact H2_) | (have H2_ := (Option.bind_some _ _).symm.trans H; with_reducible exact H2_) | with_reducible exact H | (rw [hy135]; exact H) | exact H
 have Ny135 := Aside0.mk hy135
 clear hy135
 focus
  obtain rfl := Option.some.inj H
  go_enter Tryz.func94, Tryz.ntmps94
  go_wp2_with (first | ((with_reducible refine gate_dst (N := 1) rfl ?_); refine Kd.R_lit Kd.string _ 9 ?hg (N := 1) ?hd (xs := ([(⟨#[]⟩ : ByteArray), (⟨#[121, 101, 108, 108, 111, 119]⟩ : ByteArray), (⟨#[111, 114, 97, 110, 103, 101]⟩ : ByteArray), (⟨#[114, 101, 100]⟩ : ByteArray)] : List ByteArray)) (inner := [.string (⟨#[]⟩ : ByteArray), .string (⟨#[121, 101, 108, 108, 111, 119]⟩ : ByteArray), .string (⟨#[111, 114, 97, 110, 103, 101]⟩ : ByteArray), .string (⟨#[114, 101, 100]⟩ : ByteArray)]) (ok := fun _ => True) (okp := fun _ => True) ?hr ?hp (fun _ hk => hk) trivial (Below.refl _ _) (Nat.le_refl _) (by simp) ?_; (case hd => rfl); (case hg => rfl); (case hr => exact zsx); (case hp => exact (Reps.one (show Kd.M Kd.string _ _ _ (⟨#[]⟩ : ByteArray) [.string (⟨#[]⟩ : ByteArray)] from rfl) (Reps.one (show Kd.M Kd.string _ _ _ (⟨#[121, 101, 108, 108, 111, 119]⟩ : ByteArray) [.string (⟨#[121, 101, 108, 108, 111, 119]⟩ : ByteArray)] from rfl) (Reps.one (show Kd.M Kd.string _ _ _ (⟨#[111, 114, 97, 110, 103, 101]⟩ : ByteArray) [.string (⟨#[111, 114, 97, 110, 103, 101]⟩ : ByteArray)] from rfl) (Reps.one (show Kd.M Kd.string _ _ _ (⟨#[114, 101, 100]⟩ : ByteArray) [.string (⟨#[114, 101, 100]⟩ : ByteArray)] from rfl) (Reps.none _ _)))))); intro v136 w1 ho2 hb hg_ hnew_; clear hg_ hnew_; (first | rw [← Ny135.out] at ho2 | (simp only [Int.reduceToNat] at ho2; rw [← Ny135.out] at ho2)); have HO137 := Aside0.mk (Kd.R_lower ho2 (below_size (zBx HB.out))); replace HB := Aside0.mk (below_step (zBx HB.out) hb); clear hb ho2))
  go_ret
  exact ⟨_, by first | rfl | (simp [errW_none, errW_some] <;> rfl) | (simp [*, errW_none, errW_some] <;> rfl), by refine zDR ?_; exact HO137.out, by exact zBx HB.out⟩

/-! ### spec_l17Topics: function 95 -/
def spec_l17Topics.f  : Option (List ByteArray) := some (([(⟨#[]⟩ : ByteArray), (⟨#[119, 105, 110, 100]⟩ : ByteArray), (⟨#[114, 97, 105, 110]⟩ : ByteArray), (⟨#[115, 110, 111, 119]⟩ : ByteArray), (⟨#[104, 101, 97, 116]⟩ : ByteArray), (⟨#[115, 116, 111, 114, 109]⟩ : ByteArray)] : List ByteArray))
set_option maxHeartbeats 8000000 in
set_option maxRecDepth 100000 in
theorem spec_l17Topics.calls  (r : List ByteArray) (w : World) (h : spec_l17Topics.f  = some r) :
 Calls Tryz.prog 95 #[] w fun e w' => ∃ v0_ : Value, e = .returned (v0_) ∧ Kd.R Kd.string 9 w' w.heap.size (fun _ => True) v0_ r ∧ Below w.heap.size w w' := by
 have HB := Aside0.mk (Below.refl w.heap.size w)
 have H : (some (([(⟨#[]⟩ : ByteArray), (⟨#[119, 105, 110, 100]⟩ : ByteArray), (⟨#[114, 97, 105, 110]⟩ : ByteArray), (⟨#[115, 110, 111, 119]⟩ : ByteArray), (⟨#[104, 101, 97, 116]⟩ : ByteArray), (⟨#[115, 116, 111, 114, 109]⟩ : ByteArray)] : List ByteArray))) = some r := h
 clear h
 obtain ⟨y138, hy138⟩ : ∃ y_ : List ByteArray, y_ = (([(⟨#[]⟩ : ByteArray), (⟨#[119, 105, 110, 100]⟩ : ByteArray), (⟨#[114, 97, 105, 110]⟩ : ByteArray), (⟨#[115, 110, 111, 119]⟩ : ByteArray), (⟨#[104, 101, 97, 116]⟩ : ByteArray), (⟨#[115, 116, 111, 114, 109]⟩ : ByteArray)] : List ByteArray)) := ⟨_, rfl⟩
 replace H : (some y138) = some r := by first | (rw [hy138]; with_reducible exact H) | (have H2_ := (Option.bind_some _ _).symm.trans H; rw [hy138]; with_reducible exact H2_) | (have H2_ := (Option.bind_some _ _).symm.trans H; with_reducible exact H2_) | with_reducible exact H | (rw [hy138]; exact H) | exact H
 have Ny138 := Aside0.mk hy138
 clear hy138
 focus
  obtain rfl := Option.some.inj H
  go_enter Tryz.func95, Tryz.ntmps95
  go_wp2_with (first | ((with_reducible refine gate_dst (N := 1) rfl ?_); refine Kd.R_lit Kd.string _ 9 ?hg (N := 1) ?hd (xs := ([(⟨#[]⟩ : ByteArray), (⟨#[119, 105, 110, 100]⟩ : ByteArray), (⟨#[114, 97, 105, 110]⟩ : ByteArray), (⟨#[115, 110, 111, 119]⟩ : ByteArray), (⟨#[104, 101, 97, 116]⟩ : ByteArray), (⟨#[115, 116, 111, 114, 109]⟩ : ByteArray)] : List ByteArray)) (inner := [.string (⟨#[]⟩ : ByteArray), .string (⟨#[119, 105, 110, 100]⟩ : ByteArray), .string (⟨#[114, 97, 105, 110]⟩ : ByteArray), .string (⟨#[115, 110, 111, 119]⟩ : ByteArray), .string (⟨#[104, 101, 97, 116]⟩ : ByteArray), .string (⟨#[115, 116, 111, 114, 109]⟩ : ByteArray)]) (ok := fun _ => True) (okp := fun _ => True) ?hr ?hp (fun _ hk => hk) trivial (Below.refl _ _) (Nat.le_refl _) (by simp) ?_; (case hd => rfl); (case hg => rfl); (case hr => exact zsx); (case hp => exact (Reps.one (show Kd.M Kd.string _ _ _ (⟨#[]⟩ : ByteArray) [.string (⟨#[]⟩ : ByteArray)] from rfl) (Reps.one (show Kd.M Kd.string _ _ _ (⟨#[119, 105, 110, 100]⟩ : ByteArray) [.string (⟨#[119, 105, 110, 100]⟩ : ByteArray)] from rfl) (Reps.one (show Kd.M Kd.string _ _ _ (⟨#[114, 97, 105, 110]⟩ : ByteArray) [.string (⟨#[114, 97, 105, 110]⟩ : ByteArray)] from rfl) (Reps.one (show Kd.M Kd.string _ _ _ (⟨#[115, 110, 111, 119]⟩ : ByteArray) [.string (⟨#[115, 110, 111, 119]⟩ : ByteArray)] from rfl) (Reps.one (show Kd.M Kd.string _ _ _ (⟨#[104, 101, 97, 116]⟩ : ByteArray) [.string (⟨#[104, 101, 97, 116]⟩ : ByteArray)] from rfl) (Reps.one (show Kd.M Kd.string _ _ _ (⟨#[115, 116, 111, 114, 109]⟩ : ByteArray) [.string (⟨#[115, 116, 111, 114, 109]⟩ : ByteArray)] from rfl) (Reps.none _ _)))))))); intro v139 w1 ho2 hb hg_ hnew_; clear hg_ hnew_; (first | rw [← Ny138.out] at ho2 | (simp only [Int.reduceToNat] at ho2; rw [← Ny138.out] at ho2)); have HO140 := Aside0.mk (Kd.R_lower ho2 (below_size (zBx HB.out))); replace HB := Aside0.mk (below_step (zBx HB.out) hb); clear hb ho2))
  go_ret
  exact ⟨_, by first | rfl | (simp [errW_none, errW_some] <;> rfl) | (simp [*, errW_none, errW_some] <;> rfl), by refine zDR ?_; exact HO140.out, by exact zBx HB.out⟩

/-! ### spec_l17Line: function 48 -/
def spec_l17Line.f (k : Nat) (a0_0 : Int) (a0_1 : Int) (a0_2 : Int) (a0_3 : Int) (a0_4 : Int) (a0_5 : Int) : Option (ByteArray) := (spec_l1Num.f k a0_0).bind fun t142 => (if t142.size + 2 ≤ 9223372036854775807 then ((spec_l17Levels.f).bind fun t143 => (if 0 ≤ a0_2 then (if a0_2 < (t143.length : Int) then (if (t142 ++ (⟨#[58, 32]⟩ : ByteArray)).size + (rdOf ByteArray.empty t143 a0_2).size ≤ 9223372036854775807 then (if ((t142 ++ (⟨#[58, 32]⟩ : ByteArray)) ++ (rdOf ByteArray.empty t143 a0_2)).size + 1 ≤ 9223372036854775807 then ((spec_l17Topics.f).bind fun t147 => (if 0 ≤ a0_1 then (if a0_1 < (t147.length : Int) then (if (((t142 ++ (⟨#[58, 32]⟩ : ByteArray)) ++ (rdOf ByteArray.empty t143 a0_2)) ++ (⟨#[32]⟩ : ByteArray)).size + (rdOf ByteArray.empty t147 a0_1).size ≤ 9223372036854775807 then (if ((((t142 ++ (⟨#[58, 32]⟩ : ByteArray)) ++ (rdOf ByteArray.empty t143 a0_2)) ++ (⟨#[32]⟩ : ByteArray)) ++ (rdOf ByteArray.empty t147 a0_1)).size + 7 ≤ 9223372036854775807 then ((spec_l1Num.f k a0_3).bind fun t151 => (if (((((t142 ++ (⟨#[58, 32]⟩ : ByteArray)) ++ (rdOf ByteArray.empty t143 a0_2)) ++ (⟨#[32]⟩ : ByteArray)) ++ (rdOf ByteArray.empty t147 a0_1)) ++ (⟨#[44, 32, 97, 114, 101, 97, 32]⟩ : ByteArray)).size + t151.size ≤ 9223372036854775807 then (if ((((((t142 ++ (⟨#[58, 32]⟩ : ByteArray)) ++ (rdOf ByteArray.empty t143 a0_2)) ++ (⟨#[32]⟩ : ByteArray)) ++ (rdOf ByteArray.empty t147 a0_1)) ++ (⟨#[44, 32, 97, 114, 101, 97, 32]⟩ : ByteArray)) ++ t151).size + 8 ≤ 9223372036854775807 then ((spec_l1Num.f k a0_4).bind fun t152 => (if (((((((t142 ++ (⟨#[58, 32]⟩ : ByteArray)) ++ (rdOf ByteArray.empty t143 a0_2)) ++ (⟨#[32]⟩ : ByteArray)) ++ (rdOf ByteArray.empty t147 a0_1)) ++ (⟨#[44, 32, 97, 114, 101, 97, 32]⟩ : ByteArray)) ++ t151) ++ (⟨#[44, 32, 104, 111, 117, 114, 115, 32]⟩ : ByteArray)).size + t152.size ≤ 9223372036854775807 then (if ((((((((t142 ++ (⟨#[58, 32]⟩ : ByteArray)) ++ (rdOf ByteArray.empty t143 a0_2)) ++ (⟨#[32]⟩ : ByteArray)) ++ (rdOf ByteArray.empty t147 a0_1)) ++ (⟨#[44, 32, 97, 114, 101, 97, 32]⟩ : ByteArray)) ++ t151) ++ (⟨#[44, 32, 104, 111, 117, 114, 115, 32]⟩ : ByteArray)) ++ t152).size + 1 ≤ 9223372036854775807 then ((spec_l1Num.f k a0_5).bind fun t153 => (if (((((((((t142 ++ (⟨#[58, 32]⟩ : ByteArray)) ++ (rdOf ByteArray.empty t143 a0_2)) ++ (⟨#[32]⟩ : ByteArray)) ++ (rdOf ByteArray.empty t147 a0_1)) ++ (⟨#[44, 32, 97, 114, 101, 97, 32]⟩ : ByteArray)) ++ t151) ++ (⟨#[44, 32, 104, 111, 117, 114, 115, 32]⟩ : ByteArray)) ++ t152) ++ (⟨#[45]⟩ : ByteArray)).size + t153.size ≤ 9223372036854775807 then (some ((((((((((t142 ++ (⟨#[58, 32]⟩ : ByteArray)) ++ (rdOf ByteArray.empty t143 a0_2)) ++ (⟨#[32]⟩ : ByteArray)) ++ (rdOf ByteArray.empty t147 a0_1)) ++ (⟨#[44, 32, 97, 114, 101, 97, 32]⟩ : ByteArray)) ++ t151) ++ (⟨#[44, 32, 104, 111, 117, 114, 115, 32]⟩ : ByteArray)) ++ t152) ++ (⟨#[45]⟩ : ByteArray)) ++ t153)) else (none))) else (none)) else (none))) else (none)) else (none))) else (none)) else (none)) else (none)) else (none))) else (none)) else (none)) else (none)) else (none))) else (none))
def spec_l17Line.T1 : Bool × List (List Nat × List Nat) := (true, [([], []), ([0], [0]), ([1], [1]), ([2], [2]), ([2], []), ([], []), ([5], [5]), ([4, 6], [4, 6]), ([7], [7]), ([3, 8], [3, 8]), ([9], [9]), ([4], []), ([], []), ([12], [12]), ([11, 13], [11, 13]), ([14], [14]), ([10, 15], [10, 15]), ([16], [16]), ([], []), ([18], [18]), ([19, 11], [19]), ([17, 20], [17, 20]), ([21], [21]), ([], []), ([23], [23]), ([24, 20], [24]), ([22, 25], [22, 25]), ([26], [26]), ([], []), ([28], [28]), ([29, 25], [29]), ([27, 30], [27, 30]), ([31, 30, 0, 1, 2, 3, 4, 5, 6, 7, 8, 9, 10, 11, 12, 13, 14, 15, 16, 17, 18, 19, 20, 21, 22, 23, 24, 25, 26, 27, 28, 29, 30, 31], [31])])
def spec_l17Line.B1 : List Nat := [0, 1, 3, 7, 7, 0, 32, 119, 247, 511, 1023, 23, 0, 4096, 14359, 30743, 65535, 131071, 0, 262144, 788503, 2097151, 4194303, 0, 8388608, 27002903, 67108863, 134217727, 0, 268435456, 865863703, 2147483647, 4294967295]
theorem spec_l17Line.tab1 : rtab .any (opsOf Tryz.f48 1) = spec_l17Line.T1 := by kernel_rfl
theorem spec_l17Line.bits1 : waitsOk spec_l17Line.T1.2 spec_l17Line.B1 = true := by kernel_rfl
set_option maxHeartbeats 8000000 in
set_option maxRecDepth 100000 in
theorem spec_l17Line.calls (k : Nat) (a0_0 : Int) (a0_1 : Int) (a0_2 : Int) (a0_3 : Int) (a0_4 : Int) (a0_5 : Int) (r : ByteArray) (w : World) (h : spec_l17Line.f k a0_0 a0_1 a0_2 a0_3 a0_4 a0_5 = some r) :
 Calls Tryz.prog 48 #[.agg #[.int .i64 a0_0, .int .i64 a0_1, .int .i64 a0_2, .int .i64 a0_3, .int .i64 a0_4, .int .i64 a0_5]] w fun e w' => e = .returned (.string r) ∧ Below w.heap.size w w' := by
 have hu25 := Tryz.underlying25
 have HB := Aside0.mk (Below.refl w.heap.size w)
 have H : ((spec_l1Num.f k a0_0).bind fun t142 => (if t142.size + 2 ≤ 9223372036854775807 then ((spec_l17Levels.f).bind fun t143 => (if 0 ≤ a0_2 then (if a0_2 < (t143.length : Int) then (if (t142 ++ (⟨#[58, 32]⟩ : ByteArray)).size + (rdOf ByteArray.empty t143 a0_2).size ≤ 9223372036854775807 then (if ((t142 ++ (⟨#[58, 32]⟩ : ByteArray)) ++ (rdOf ByteArray.empty t143 a0_2)).size + 1 ≤ 9223372036854775807 then ((spec_l17Topics.f).bind fun t147 => (if 0 ≤ a0_1 then (if a0_1 < (t147.length : Int) then (if (((t142 ++ (⟨#[58, 32]⟩ : ByteArray)) ++ (rdOf ByteArray.empty t143 a0_2)) ++ (⟨#[32]⟩ : ByteArray)).size + (rdOf ByteArray.empty t147 a0_1).size ≤ 9223372036854775807 then (if ((((t142 ++ (⟨#[58, 32]⟩ : ByteArray)) ++ (rdOf ByteArray.empty t143 a0_2)) ++ (⟨#[32]⟩ : ByteArray)) ++ (rdOf ByteArray.empty t147 a0_1)).size + 7 ≤ 9223372036854775807 then ((spec_l1Num.f k a0_3).bind fun t151 => (if (((((t142 ++ (⟨#[58, 32]⟩ : ByteArray)) ++ (rdOf ByteArray.empty t143 a0_2)) ++ (⟨#[32]⟩ : ByteArray)) ++ (rdOf ByteArray.empty t147 a0_1)) ++ (⟨#[44, 32, 97, 114, 101, 97, 32]⟩ : ByteArray)).size + t151.size ≤ 9223372036854775807 then (if ((((((t142 ++ (⟨#[58, 32]⟩ : ByteArray)) ++ (rdOf ByteArray.empty t143 a0_2)) ++ (⟨#[32]⟩ : ByteArray)) ++ (rdOf ByteArray.empty t147 a0_1)) ++ (⟨#[44, 32, 97, 114, 101, 97, 32]⟩ : ByteArray)) ++ t151).size + 8 ≤ 9223372036854775807 then ((spec_l1Num.f k a0_4).bind fun t152 => (if (((((((t142 ++ (⟨#[58, 32]⟩ : ByteArray)) ++ (rdOf ByteArray.empty t143 a0_2)) ++ (⟨#[32]⟩ : ByteArray)) ++ (rdOf ByteArray.empty t147 a0_1)) ++ (⟨#[44, 32, 97, 114, 101, 97, 32]⟩ : ByteArray)) ++ t151) ++ (⟨#[44, 32, 104, 111, 117, 114, 115, 32]⟩ : ByteArray)).size + t152.size ≤ 9223372036854775807 then (if ((((((((t142 ++ (⟨#[58, 32]⟩ : ByteArray)) ++ (rdOf ByteArray.empty t143 a0_2)) ++ (⟨#[32]⟩ : ByteArray)) ++ (rdOf ByteArray.empty t147 a0_1)) ++ (⟨#[44, 32, 97, 114, 101, 97, 32]⟩ : ByteArray)) ++ t151) ++ (⟨#[44, 32, 104, 111, 117, 114, 115, 32]⟩ : ByteArray)) ++ t152).size + 1 ≤ 9223372036854775807 then ((spec_l1Num.f k a0_5).bind fun t153 => (if (((((((((t142 ++ (⟨#[58, 32]⟩ : ByteArray)) ++ (rdOf ByteArray.empty t143 a0_2)) ++ (⟨#[32]⟩ : ByteArray)) ++ (rdOf ByteArray.empty t147 a0_1)) ++ (⟨#[44, 32, 97, 114, 101, 97, 32]⟩ : ByteArray)) ++ t151) ++ (⟨#[44, 32, 104, 111, 117, 114, 115, 32]⟩ : ByteArray)) ++ t152) ++ (⟨#[45]⟩ : ByteArray)).size + t153.size ≤ 9223372036854775807 then (some ((((((((((t142 ++ (⟨#[58, 32]⟩ : ByteArray)) ++ (rdOf ByteArray.empty t143 a0_2)) ++ (⟨#[32]⟩ : ByteArray)) ++ (rdOf ByteArray.empty t147 a0_1)) ++ (⟨#[44, 32, 97, 114, 101, 97, 32]⟩ : ByteArray)) ++ t151) ++ (⟨#[44, 32, 104, 111, 117, 114, 115, 32]⟩ : ByteArray)) ++ t152) ++ (⟨#[45]⟩ : ByteArray)) ++ t153)) else (none))) else (none)) else (none))) else (none)) else (none))) else (none)) else (none)) else (none)) else (none))) else (none)) else (none)) else (none)) else (none))) else (none))) = some r := h
 clear h
 replace H := Option.bind_eq_some_iff.mp H
 obtain ⟨t142, A20, H⟩ := H
 replace H : (if t142.size + 2 ≤ 9223372036854775807 then ((spec_l17Levels.f).bind fun t143 => (if 0 ≤ a0_2 then (if a0_2 < (t143.length : Int) then (if (t142 ++ (⟨#[58, 32]⟩ : ByteArray)).size + (rdOf ByteArray.empty t143 a0_2).size ≤ 9223372036854775807 then (if ((t142 ++ (⟨#[58, 32]⟩ : ByteArray)) ++ (rdOf ByteArray.empty t143 a0_2)).size + 1 ≤ 9223372036854775807 then ((spec_l17Topics.f).bind fun t147 => (if 0 ≤ a0_1 then (if a0_1 < (t147.length : Int) then (if (((t142 ++ (⟨#[58, 32]⟩ : ByteArray)) ++ (rdOf ByteArray.empty t143 a0_2)) ++ (⟨#[32]⟩ : ByteArray)).size + (rdOf ByteArray.empty t147 a0_1).size ≤ 9223372036854775807 then (if ((((t142 ++ (⟨#[58, 32]⟩ : ByteArray)) ++ (rdOf ByteArray.empty t143 a0_2)) ++ (⟨#[32]⟩ : ByteArray)) ++ (rdOf ByteArray.empty t147 a0_1)).size + 7 ≤ 9223372036854775807 then ((spec_l1Num.f k a0_3).bind fun t151 => (if (((((t142 ++ (⟨#[58, 32]⟩ : ByteArray)) ++ (rdOf ByteArray.empty t143 a0_2)) ++ (⟨#[32]⟩ : ByteArray)) ++ (rdOf ByteArray.empty t147 a0_1)) ++ (⟨#[44, 32, 97, 114, 101, 97, 32]⟩ : ByteArray)).size + t151.size ≤ 9223372036854775807 then (if ((((((t142 ++ (⟨#[58, 32]⟩ : ByteArray)) ++ (rdOf ByteArray.empty t143 a0_2)) ++ (⟨#[32]⟩ : ByteArray)) ++ (rdOf ByteArray.empty t147 a0_1)) ++ (⟨#[44, 32, 97, 114, 101, 97, 32]⟩ : ByteArray)) ++ t151).size + 8 ≤ 9223372036854775807 then ((spec_l1Num.f k a0_4).bind fun t152 => (if (((((((t142 ++ (⟨#[58, 32]⟩ : ByteArray)) ++ (rdOf ByteArray.empty t143 a0_2)) ++ (⟨#[32]⟩ : ByteArray)) ++ (rdOf ByteArray.empty t147 a0_1)) ++ (⟨#[44, 32, 97, 114, 101, 97, 32]⟩ : ByteArray)) ++ t151) ++ (⟨#[44, 32, 104, 111, 117, 114, 115, 32]⟩ : ByteArray)).size + t152.size ≤ 9223372036854775807 then (if ((((((((t142 ++ (⟨#[58, 32]⟩ : ByteArray)) ++ (rdOf ByteArray.empty t143 a0_2)) ++ (⟨#[32]⟩ : ByteArray)) ++ (rdOf ByteArray.empty t147 a0_1)) ++ (⟨#[44, 32, 97, 114, 101, 97, 32]⟩ : ByteArray)) ++ t151) ++ (⟨#[44, 32, 104, 111, 117, 114, 115, 32]⟩ : ByteArray)) ++ t152).size + 1 ≤ 9223372036854775807 then ((spec_l1Num.f k a0_5).bind fun t153 => (if (((((((((t142 ++ (⟨#[58, 32]⟩ : ByteArray)) ++ (rdOf ByteArray.empty t143 a0_2)) ++ (⟨#[32]⟩ : ByteArray)) ++ (rdOf ByteArray.empty t147 a0_1)) ++ (⟨#[44, 32, 97, 114, 101, 97, 32]⟩ : ByteArray)) ++ t151) ++ (⟨#[44, 32, 104, 111, 117, 114, 115, 32]⟩ : ByteArray)) ++ t152) ++ (⟨#[45]⟩ : ByteArray)).size + t153.size ≤ 9223372036854775807 then (some ((((((((((t142 ++ (⟨#[58, 32]⟩ : ByteArray)) ++ (rdOf ByteArray.empty t143 a0_2)) ++ (⟨#[32]⟩ : ByteArray)) ++ (rdOf ByteArray.empty t147 a0_1)) ++ (⟨#[44, 32, 97, 114, 101, 97, 32]⟩ : ByteArray)) ++ t151) ++ (⟨#[44, 32, 104, 111, 117, 114, 115, 32]⟩ : ByteArray)) ++ t152) ++ (⟨#[45]⟩ : ByteArray)) ++ t153)) else (none))) else (none)) else (none))) else (none)) else (none))) else (none)) else (none)) else (none)) else (none))) else (none)) else (none)) else (none)) else (none))) else (none)) = some r := H
 have A2 := Aside0.mk A20
 clear A20
 by_cases c3 : t142.size + 2 ≤ 9223372036854775807
 rotate_left
 ·rw [if_neg c3] at H
  exact absurd H (by simp)

 rw [if_pos c3] at H
 have c3b0 := eq_true c3
 have c3b1 : decide (t142.size + 2 ≤ 9223372036854775807) = true := decide_eq_true c3
 try have c3b2 : (9223372036854775807 < t142.size + 2) = False := eq_false (Nat.not_lt.2 c3)
 replace H := Option.bind_eq_some_iff.mp H
 obtain ⟨t143, A40, H⟩ := H
 replace H : (if 0 ≤ a0_2 then (if a0_2 < (t143.length : Int) then (if (t142 ++ (⟨#[58, 32]⟩ : ByteArray)).size + (rdOf ByteArray.empty t143 a0_2).size ≤ 9223372036854775807 then (if ((t142 ++ (⟨#[58, 32]⟩ : ByteArray)) ++ (rdOf ByteArray.empty t143 a0_2)).size + 1 ≤ 9223372036854775807 then ((spec_l17Topics.f).bind fun t147 => (if 0 ≤ a0_1 then (if a0_1 < (t147.length : Int) then (if (((t142 ++ (⟨#[58, 32]⟩ : ByteArray)) ++ (rdOf ByteArray.empty t143 a0_2)) ++ (⟨#[32]⟩ : ByteArray)).size + (rdOf ByteArray.empty t147 a0_1).size ≤ 9223372036854775807 then (if ((((t142 ++ (⟨#[58, 32]⟩ : ByteArray)) ++ (rdOf ByteArray.empty t143 a0_2)) ++ (⟨#[32]⟩ : ByteArray)) ++ (rdOf ByteArray.empty t147 a0_1)).size + 7 ≤ 9223372036854775807 then ((spec_l1Num.f k a0_3).bind fun t151 => (if (((((t142 ++ (⟨#[58, 32]⟩ : ByteArray)) ++ (rdOf ByteArray.empty t143 a0_2)) ++ (⟨#[32]⟩ : ByteArray)) ++ (rdOf ByteArray.empty t147 a0_1)) ++ (⟨#[44, 32, 97, 114, 101, 97, 32]⟩ : ByteArray)).size + t151.size ≤ 9223372036854775807 then (if ((((((t142 ++ (⟨#[58, 32]⟩ : ByteArray)) ++ (rdOf ByteArray.empty t143 a0_2)) ++ (⟨#[32]⟩ : ByteArray)) ++ (rdOf ByteArray.empty t147 a0_1)) ++ (⟨#[44, 32, 97, 114, 101, 97, 32]⟩ : ByteArray)) ++ t151).size + 8 ≤ 9223372036854775807 then ((spec_l1Num.f k a0_4).bind fun t152 => (if (((((((t142 ++ (⟨#[58, 32]⟩ : ByteArray)) ++ (rdOf ByteArray.empty t143 a0_2)) ++ (⟨#[32]⟩ : ByteArray)) ++ (rdOf ByteArray.empty t147 a0_1)) ++ (⟨#[44, 32, 97, 114, 101, 97, 32]⟩ : ByteArray)) ++ t151) ++ (⟨#[44, 32, 104, 111, 117, 114, 115, 32]⟩ : ByteArray)).size + t152.size ≤ 9223372036854775807 then (if ((((((((t142 ++ (⟨#[58, 32]⟩ : ByteArray)) ++ (rdOf ByteArray.empty t143 a0_2)) ++ (⟨#[32]⟩ : ByteArray)) ++ (rdOf ByteArray.empty t147 a0_1)) ++ (⟨#[44, 32, 97, 114, 101, 97, 32]⟩ : ByteArray)) ++ t151) ++ (⟨#[44, 32, 104, 111, 117, 114, 115, 32]⟩ : ByteArray)) ++ t152).size + 1 ≤ 9223372036854775807 then ((spec_l1Num.f k a0_5).bind fun t153 => (if (((((((((t142 ++ (⟨#[58, 32]⟩ : ByteArray)) ++ (rdOf ByteArray.empty t143 a0_2)) ++ (⟨#[32]⟩ : ByteArray)) ++ (rdOf ByteArray.empty t147 a0_1)) ++ (⟨#[44, 32, 97, 114, 101, 97, 32]⟩ : ByteArray)) ++ t151) ++ (⟨#[44, 32, 104, 111, 117, 114, 115, 32]⟩ : ByteArray)) ++ t152) ++ (⟨#[45]⟩ : ByteArray)).size + t153.size ≤ 9223372036854775807 then (some ((((((((((t142 ++ (⟨#[58, 32]⟩ : ByteArray)) ++ (rdOf ByteArray.empty t143 a0_2)) ++ (⟨#[32]⟩ : ByteArray)) ++ (rdOf ByteArray.empty t147 a0_1)) ++ (⟨#[44, 32, 97, 114, 101, 97, 32]⟩ : ByteArray)) ++ t151) ++ (⟨#[44, 32, 104, 111, 117, 114, 115, 32]⟩ : ByteArray)) ++ t152) ++ (⟨#[45]⟩ : ByteArray)) ++ t153)) else (none))) else (none)) else (none))) else (none)) else (none))) else (none)) else (none)) else (none)) else (none))) else (none)) else (none)) else (none)) else (none)) = some r := H
 have A4 := Aside0.mk A40
 clear A40
 obtain ⟨c5, H⟩ := zin H
 have c5b0 : decide (0 ≤ a0_2) = true := decide_eq_true c5
 clear c5
 obtain ⟨c6, H⟩ := zin H
 have c6b0 : decide (a0_2 < (t143.length : Int)) = true := decide_eq_true c6
 clear c6
 obtain ⟨c7, H⟩ := zin H
 have c7b0 := eq_true c7
 have c7b1 : decide ((t142 ++ (⟨#[58, 32]⟩ : ByteArray)).size + (rdOf ByteArray.empty t143 a0_2).size ≤ 9223372036854775807) = true := decide_eq_true c7
 try have c7b2 : (9223372036854775807 < (t142 ++ (⟨#[58, 32]⟩ : ByteArray)).size + (rdOf ByteArray.empty t143 a0_2).size) = False := eq_false (Nat.not_lt.2 c7)
 have c7b3 : (9223372036854775807 < t142.size + 2 + (rdOf ByteArray.empty t143 a0_2).size) = False := eq_false (Nat.not_lt.2 (by have h_ := c7; simp only [ByteArray.size_append] at h_; exact h_))
 obtain ⟨c8, H⟩ := zin H
 have c8b0 := eq_true c8
 have c8b1 : decide (((t142 ++ (⟨#[58, 32]⟩ : ByteArray)) ++ (rdOf ByteArray.empty t143 a0_2)).size + 1 ≤ 9223372036854775807) = true := decide_eq_true c8
 try have c8b2 : (9223372036854775807 < ((t142 ++ (⟨#[58, 32]⟩ : ByteArray)) ++ (rdOf ByteArray.empty t143 a0_2)).size + 1) = False := eq_false (Nat.not_lt.2 c8)
 have c8b3 : (9223372036854775807 < t142.size + 2 + (rdOf ByteArray.empty t143 a0_2).size + 1) = False := eq_false (Nat.not_lt.2 (by have h_ := c8; simp only [ByteArray.size_append] at h_; exact h_))
 replace H := Option.bind_eq_some_iff.mp H
 obtain ⟨t147, A90, H⟩ := H
 replace H : (if 0 ≤ a0_1 then (if a0_1 < (t147.length : Int) then (if (((t142 ++ (⟨#[58, 32]⟩ : ByteArray)) ++ (rdOf ByteArray.empty t143 a0_2)) ++ (⟨#[32]⟩ : ByteArray)).size + (rdOf ByteArray.empty t147 a0_1).size ≤ 9223372036854775807 then (if ((((t142 ++ (⟨#[58, 32]⟩ : ByteArray)) ++ (rdOf ByteArray.empty t143 a0_2)) ++ (⟨#[32]⟩ : ByteArray)) ++ (rdOf ByteArray.empty t147 a0_1)).size + 7 ≤ 9223372036854775807 then ((spec_l1Num.f k a0_3).bind fun t151 => (if (((((t142 ++ (⟨#[58, 32]⟩ : ByteArray)) ++ (rdOf ByteArray.empty t143 a0_2)) ++ (⟨#[32]⟩ : ByteArray)) ++ (rdOf ByteArray.empty t147 a0_1)) ++ (⟨#[44, 32, 97, 114, 101, 97, 32]⟩ : ByteArray)).size + t151.size ≤ 9223372036854775807 then (if ((((((t142 ++ (⟨#[58, 32]⟩ : ByteArray)) ++ (rdOf ByteArray.empty t143 a0_2)) ++ (⟨#[32]⟩ : ByteArray)) ++ (rdOf ByteArray.empty t147 a0_1)) ++ (⟨#[44, 32, 97, 114, 101, 97, 32]⟩ : ByteArray)) ++ t151).size + 8 ≤ 9223372036854775807 then ((spec_l1Num.f k a0_4).bind fun t152 => (if (((((((t142 ++ (⟨#[58, 32]⟩ : ByteArray)) ++ (rdOf ByteArray.empty t143 a0_2)) ++ (⟨#[32]⟩ : ByteArray)) ++ (rdOf ByteArray.empty t147 a0_1)) ++ (⟨#[44, 32, 97, 114, 101, 97, 32]⟩ : ByteArray)) ++ t151) ++ (⟨#[44, 32, 104, 111, 117, 114, 115, 32]⟩ : ByteArray)).size + t152.size ≤ 9223372036854775807 then (if ((((((((t142 ++ (⟨#[58, 32]⟩ : ByteArray)) ++ (rdOf ByteArray.empty t143 a0_2)) ++ (⟨#[32]⟩ : ByteArray)) ++ (rdOf ByteArray.empty t147 a0_1)) ++ (⟨#[44, 32, 97, 114, 101, 97, 32]⟩ : ByteArray)) ++ t151) ++ (⟨#[44, 32, 104, 111, 117, 114, 115, 32]⟩ : ByteArray)) ++ t152).size + 1 ≤ 9223372036854775807 then ((spec_l1Num.f k a0_5).bind fun t153 => (if (((((((((t142 ++ (⟨#[58, 32]⟩ : ByteArray)) ++ (rdOf ByteArray.empty t143 a0_2)) ++ (⟨#[32]⟩ : ByteArray)) ++ (rdOf ByteArray.empty t147 a0_1)) ++ (⟨#[44, 32, 97, 114, 101, 97, 32]⟩ : ByteArray)) ++ t151) ++ (⟨#[44, 32, 104, 111, 117, 114, 115, 32]⟩ : ByteArray)) ++ t152) ++ (⟨#[45]⟩ : ByteArray)).size + t153.size ≤ 9223372036854775807 then (some ((((((((((t142 ++ (⟨#[58, 32]⟩ : ByteArray)) ++ (rdOf ByteArray.empty t143 a0_2)) ++ (⟨#[32]⟩ : ByteArray)) ++ (rdOf ByteArray.empty t147 a0_1)) ++ (⟨#[44, 32, 97, 114, 101, 97, 32]⟩ : ByteArray)) ++ t151) ++ (⟨#[44, 32, 104, 111, 117, 114, 115, 32]⟩ : ByteArray)) ++ t152) ++ (⟨#[45]⟩ : ByteArray)) ++ t153)) else (none))) else (none)) else (none))) else (none)) else (none))) else (none)) else (none)) else (none)) else (none)) = some r := H
 have A9 := Aside0.mk A90
 clear A90
 obtain ⟨c10, H⟩ := zin H
 have c10b0 : decide (0 ≤ a0_1) = true := decide_eq_true c10
 clear c10
 obtain ⟨c11, H⟩ := zin H
 have c11b0 : decide (a0_1 < (t147.length : Int)) = true := decide_eq_true c11
 clear c11
 obtain ⟨c12, H⟩ := zin H
 have c12b0 := eq_true c12
 have c12b1 : decide ((((t142 ++ (⟨#[58, 32]⟩ : ByteArray)) ++ (rdOf ByteArray.empty t143 a0_2)) ++ (⟨#[32]⟩ : ByteArray)).size + (rdOf ByteArray.empty t147 a0_1).size ≤ 9223372036854775807) = true := decide_eq_true c12
 try have c12b2 : (9223372036854775807 < (((t142 ++ (⟨#[58, 32]⟩ : ByteArray)) ++ (rdOf ByteArray.empty t143 a0_2)) ++ (⟨#[32]⟩ : ByteArray)).size + (rdOf ByteArray.empty t147 a0_1).size) = False := eq_false (Nat.not_lt.2 c12)
 have c12b3 : (9223372036854775807 < t142.size + 2 + (rdOf ByteArray.empty t143 a0_2).size + 1 + (rdOf ByteArray.empty t147 a0_1).size) = False := eq_false (Nat.not_lt.2 (by have h_ := c12; simp only [ByteArray.size_append] at h_; exact h_))
 obtain ⟨c13, H⟩ := zin H
 have c13b0 := eq_true c13
 have c13b1 : decide (((((t142 ++ (⟨#[58, 32]⟩ : ByteArray)) ++ (rdOf ByteArray.empty t143 a0_2)) ++ (⟨#[32]⟩ : ByteArray)) ++ (rdOf ByteArray.empty t147 a0_1)).size + 7 ≤ 9223372036854775807) = true := decide_eq_true c13
 try have c13b2 : (9223372036854775807 < ((((t142 ++ (⟨#[58, 32]⟩ : ByteArray)) ++ (rdOf ByteArray.empty t143 a0_2)) ++ (⟨#[32]⟩ : ByteArray)) ++ (rdOf ByteArray.empty t147 a0_1)).size + 7) = False := eq_false (Nat.not_lt.2 c13)
 have c13b3 : (9223372036854775807 < t142.size + 2 + (rdOf ByteArray.empty t143 a0_2).size + 1 + (rdOf ByteArray.empty t147 a0_1).size + 7) = False := eq_false (Nat.not_lt.2 (by have h_ := c13; simp only [ByteArray.size_append] at h_; exact h_))
 replace H := Option.bind_eq_some_iff.mp H
 obtain ⟨t151, A140, H⟩ := H
 replace H : (if (((((t142 ++ (⟨#[58, 32]⟩ : ByteArray)) ++ (rdOf ByteArray.empty t143 a0_2)) ++ (⟨#[32]⟩ : ByteArray)) ++ (rdOf ByteArray.empty t147 a0_1)) ++ (⟨#[44, 32, 97, 114, 101, 97, 32]⟩ : ByteArray)).size + t151.size ≤ 9223372036854775807 then (if ((((((t142 ++ (⟨#[58, 32]⟩ : ByteArray)) ++ (rdOf ByteArray.empty t143 a0_2)) ++ (⟨#[32]⟩ : ByteArray)) ++ (rdOf ByteArray.empty t147 a0_1)) ++ (⟨#[44, 32, 97, 114, 101, 97, 32]⟩ : ByteArray)) ++ t151).size + 8 ≤ 9223372036854775807 then ((spec_l1Num.f k a0_4).bind fun t152 => (if (((((((t142 ++ (⟨#[58, 32]⟩ : ByteArray)) ++ (rdOf ByteArray.empty t143 a0_2)) ++ (⟨#[32]⟩ : ByteArray)) ++ (rdOf ByteArray.empty t147 a0_1)) ++ (⟨#[44, 32, 97, 114, 101, 97, 32]⟩ : ByteArray)) ++ t151) ++ (⟨#[44, 32, 104, 111, 117, 114, 115, 32]⟩ : ByteArray)).size + t152.size ≤ 9223372036854775807 then (if ((((((((t142 ++ (⟨#[58, 32]⟩ : ByteArray)) ++ (rdOf ByteArray.empty t143 a0_2)) ++ (⟨#[32]⟩ : ByteArray)) ++ (rdOf ByteArray.empty t147 a0_1)) ++ (⟨#[44, 32, 97, 114, 101, 97, 32]⟩ : ByteArray)) ++ t151) ++ (⟨#[44, 32, 104, 111, 117, 114, 115, 32]⟩ : ByteArray)) ++ t152).size + 1 ≤ 9223372036854775807 then ((spec_l1Num.f k a0_5).bind fun t153 => (if (((((((((t142 ++ (⟨#[58, 32]⟩ : ByteArray)) ++ (rdOf ByteArray.empty t143 a0_2)) ++ (⟨#[32]⟩ : ByteArray)) ++ (rdOf ByteArray.empty t147 a0_1)) ++ (⟨#[44, 32, 97, 114, 101, 97, 32]⟩ : ByteArray)) ++ t151) ++ (⟨#[44, 32, 104, 111, 117, 114, 115, 32]⟩ : ByteArray)) ++ t152) ++ (⟨#[45]⟩ : ByteArray)).size + t153.size ≤ 9223372036854775807 then (some ((((((((((t142 ++ (⟨#[58, 32]⟩ : ByteArray)) ++ (rdOf ByteArray.empty t143 a0_2)) ++ (⟨#[32]⟩ : ByteArray)) ++ (rdOf ByteArray.empty t147 a0_1)) ++ (⟨#[44, 32, 97, 114, 101, 97, 32]⟩ : ByteArray)) ++ t151) ++ (⟨#[44, 32, 104, 111, 117, 114, 115, 32]⟩ : ByteArray)) ++ t152) ++ (⟨#[45]⟩ : ByteArray)) ++ t153)) else (none))) else (none)) else (none))) else (none)) else (none)) = some r := H
 have A14 := Aside0.mk A140
 clear A140
 obtain ⟨c15, H⟩ := zin H
 have c15b0 := eq_true c15
 have c15b1 : decide ((((((t142 ++ (⟨#[58, 32]⟩ : ByteArray)) ++ (rdOf ByteArray.empty t143 a0_2)) ++ (⟨#[32]⟩ : ByteArray)) ++ (rdOf ByteArray.empty t147 a0_1)) ++ (⟨#[44, 32, 97, 114, 101, 97, 32]⟩ : ByteArray)).size + t151.size ≤ 9223372036854775807) = true := decide_eq_true c15
 try have c15b2 : (9223372036854775807 < (((((t142 ++ (⟨#[58, 32]⟩ : ByteArray)) ++ (rdOf ByteArray.empty t143 a0_2)) ++ (⟨#[32]⟩ : ByteArray)) ++ (rdOf ByteArray.empty t147 a0_1)) ++ (⟨#[44, 32, 97, 114, 101, 97, 32]⟩ : ByteArray)).size + t151.size) = False := eq_false (Nat.not_lt.2 c15)
 have c15b3 : (9223372036854775807 < t142.size + 2 + (rdOf ByteArray.empty t143 a0_2).size + 1 + (rdOf ByteArray.empty t147 a0_1).size + 7 + t151.size) = False := eq_false (Nat.not_lt.2 (by have h_ := c15; simp only [ByteArray.size_append] at h_; exact h_))
 obtain ⟨c16, H⟩ := zin H
 have c16b0 := eq_true c16
 have c16b1 : decide (((((((t142 ++ (⟨#[58, 32]⟩ : ByteArray)) ++ (rdOf ByteArray.empty t143 a0_2)) ++ (⟨#[32]⟩ : ByteArray)) ++ (rdOf ByteArray.empty t147 a0_1)) ++ (⟨#[44, 32, 97, 114, 101, 97, 32]⟩ : ByteArray)) ++ t151).size + 8 ≤ 9223372036854775807) = true := decide_eq_true c16
 try have c16b2 : (9223372036854775807 < ((((((t142 ++ (⟨#[58, 32]⟩ : ByteArray)) ++ (rdOf ByteArray.empty t143 a0_2)) ++ (⟨#[32]⟩ : ByteArray)) ++ (rdOf ByteArray.empty t147 a0_1)) ++ (⟨#[44, 32, 97, 114, 101, 97, 32]⟩ : ByteArray)) ++ t151).size + 8) = False := eq_false (Nat.not_lt.2 c16)
 have c16b3 : (9223372036854775807 < t142.size + 2 + (rdOf ByteArray.empty t143 a0_2).size + 1 + (rdOf ByteArray.empty t147 a0_1).size + 7 + t151.size + 8) = False := eq_false (Nat.not_lt.2 (by have h_ := c16; simp only [ByteArray.size_append] at h_; exact h_))
 replace H := Option.bind_eq_some_iff.mp H
 obtain ⟨t152, A170, H⟩ := H
 replace H : (if (((((((t142 ++ (⟨#[58, 32]⟩ : ByteArray)) ++ (rdOf ByteArray.empty t143 a0_2)) ++ (⟨#[32]⟩ : ByteArray)) ++ (rdOf ByteArray.empty t147 a0_1)) ++ (⟨#[44, 32, 97, 114, 101, 97, 32]⟩ : ByteArray)) ++ t151) ++ (⟨#[44, 32, 104, 111, 117, 114, 115, 32]⟩ : ByteArray)).size + t152.size ≤ 9223372036854775807 then (if ((((((((t142 ++ (⟨#[58, 32]⟩ : ByteArray)) ++ (rdOf ByteArray.empty t143 a0_2)) ++ (⟨#[32]⟩ : ByteArray)) ++ (rdOf ByteArray.empty t147 a0_1)) ++ (⟨#[44, 32, 97, 114, 101, 97, 32]⟩ : ByteArray)) ++ t151) ++ (⟨#[44, 32, 104, 111, 117, 114, 115, 32]⟩ : ByteArray)) ++ t152).size + 1 ≤ 9223372036854775807 then ((spec_l1Num.f k a0_5).bind fun t153 => (if (((((((((t142 ++ (⟨#[58, 32]⟩ : ByteArray)) ++ (rdOf ByteArray.empty t143 a0_2)) ++ (⟨#[32]⟩ : ByteArray)) ++ (rdOf ByteArray.empty t147 a0_1)) ++ (⟨#[44, 32, 97, 114, 101, 97, 32]⟩ : ByteArray)) ++ t151) ++ (⟨#[44, 32, 104, 111, 117, 114, 115, 32]⟩ : ByteArray)) ++ t152) ++ (⟨#[45]⟩ : ByteArray)).size + t153.size ≤ 9223372036854775807 then (some ((((((((((t142 ++ (⟨#[58, 32]⟩ : ByteArray)) ++ (rdOf ByteArray.empty t143 a0_2)) ++ (⟨#[32]⟩ : ByteArray)) ++ (rdOf ByteArray.empty t147 a0_1)) ++ (⟨#[44, 32, 97, 114, 101, 97, 32]⟩ : ByteArray)) ++ t151) ++ (⟨#[44, 32, 104, 111, 117, 114, 115, 32]⟩ : ByteArray)) ++ t152) ++ (⟨#[45]⟩ : ByteArray)) ++ t153)) else (none))) else (none)) else (none)) = some r := H
 have A17 := Aside0.mk A170
 clear A170
 obtain ⟨c18, H⟩ := zin H
 have c18b0 := eq_true c18
 have c18b1 : decide ((((((((t142 ++ (⟨#[58, 32]⟩ : ByteArray)) ++ (rdOf ByteArray.empty t143 a0_2)) ++ (⟨#[32]⟩ : ByteArray)) ++ (rdOf ByteArray.empty t147 a0_1)) ++ (⟨#[44, 32, 97, 114, 101, 97, 32]⟩ : ByteArray)) ++ t151) ++ (⟨#[44, 32, 104, 111, 117, 114, 115, 32]⟩ : ByteArray)).size + t152.size ≤ 9223372036854775807) = true := decide_eq_true c18
 try have c18b2 : (9223372036854775807 < (((((((t142 ++ (⟨#[58, 32]⟩ : ByteArray)) ++ (rdOf ByteArray.empty t143 a0_2)) ++ (⟨#[32]⟩ : ByteArray)) ++ (rdOf ByteArray.empty t147 a0_1)) ++ (⟨#[44, 32, 97, 114, 101, 97, 32]⟩ : ByteArray)) ++ t151) ++ (⟨#[44, 32, 104, 111, 117, 114, 115, 32]⟩ : ByteArray)).size + t152.size) = False := eq_false (Nat.not_lt.2 c18)
 have c18b3 : (9223372036854775807 < t142.size + 2 + (rdOf ByteArray.empty t143 a0_2).size + 1 + (rdOf ByteArray.empty t147 a0_1).size + 7 + t151.size + 8 + t152.size) = False := eq_false (Nat.not_lt.2 (by have h_ := c18; simp only [ByteArray.size_append] at h_; exact h_))
 obtain ⟨c19, H⟩ := zin H
 have c19b0 := eq_true c19
 have c19b1 : decide (((((((((t142 ++ (⟨#[58, 32]⟩ : ByteArray)) ++ (rdOf ByteArray.empty t143 a0_2)) ++ (⟨#[32]⟩ : ByteArray)) ++ (rdOf ByteArray.empty t147 a0_1)) ++ (⟨#[44, 32, 97, 114, 101, 97, 32]⟩ : ByteArray)) ++ t151) ++ (⟨#[44, 32, 104, 111, 117, 114, 115, 32]⟩ : ByteArray)) ++ t152).size + 1 ≤ 9223372036854775807) = true := decide_eq_true c19
 try have c19b2 : (9223372036854775807 < ((((((((t142 ++ (⟨#[58, 32]⟩ : ByteArray)) ++ (rdOf ByteArray.empty t143 a0_2)) ++ (⟨#[32]⟩ : ByteArray)) ++ (rdOf ByteArray.empty t147 a0_1)) ++ (⟨#[44, 32, 97, 114, 101, 97, 32]⟩ : ByteArray)) ++ t151) ++ (⟨#[44, 32, 104, 111, 117, 114, 115, 32]⟩ : ByteArray)) ++ t152).size + 1) = False := eq_false (Nat.not_lt.2 c19)
 have c19b3 : (9223372036854775807 < t142.size + 2 + (rdOf ByteArray.empty t143 a0_2).size + 1 + (rdOf ByteArray.empty t147 a0_1).size + 7 + t151.size + 8 + t152.size + 1) = False := eq_false (Nat.not_lt.2 (by have h_ := c19; simp only [ByteArray.size_append] at h_; exact h_))
 replace H := Option.bind_eq_some_iff.mp H
 obtain ⟨t153, A200, H⟩ := H
 replace H : (if (((((((((t142 ++ (⟨#[58, 32]⟩ : ByteArray)) ++ (rdOf ByteArray.empty t143 a0_2)) ++ (⟨#[32]⟩ : ByteArray)) ++ (rdOf ByteArray.empty t147 a0_1)) ++ (⟨#[44, 32, 97, 114, 101, 97, 32]⟩ : ByteArray)) ++ t151) ++ (⟨#[44, 32, 104, 111, 117, 114, 115, 32]⟩ : ByteArray)) ++ t152) ++ (⟨#[45]⟩ : ByteArray)).size + t153.size ≤ 9223372036854775807 then (some ((((((((((t142 ++ (⟨#[58, 32]⟩ : ByteArray)) ++ (rdOf ByteArray.empty t143 a0_2)) ++ (⟨#[32]⟩ : ByteArray)) ++ (rdOf ByteArray.empty t147 a0_1)) ++ (⟨#[44, 32, 97, 114, 101, 97, 32]⟩ : ByteArray)) ++ t151) ++ (⟨#[44, 32, 104, 111, 117, 114, 115, 32]⟩ : ByteArray)) ++ t152) ++ (⟨#[45]⟩ : ByteArray)) ++ t153)) else (none)) = some r := H
 have A20 := Aside0.mk A200
 clear A200
 obtain ⟨c21, H⟩ := zin H
 have c21b0 := eq_true c21
 have c21b1 : decide ((((((((((t142 ++ (⟨#[58, 32]⟩ : ByteArray)) ++ (rdOf ByteArray.empty t143 a0_2)) ++ (⟨#[32]⟩ : ByteArray)) ++ (rdOf ByteArray.empty t147 a0_1)) ++ (⟨#[44, 32, 97, 114, 101, 97, 32]⟩ : ByteArray)) ++ t151) ++ (⟨#[44, 32, 104, 111, 117, 114, 115, 32]⟩ : ByteArray)) ++ t152) ++ (⟨#[45]⟩ : ByteArray)).size + t153.size ≤ 9223372036854775807) = true := decide_eq_true c21
 try have c21b2 : (9223372036854775807 < (((((((((t142 ++ (⟨#[58, 32]⟩ : ByteArray)) ++ (rdOf ByteArray.empty t143 a0_2)) ++ (⟨#[32]⟩ : ByteArray)) ++ (rdOf ByteArray.empty t147 a0_1)) ++ (⟨#[44, 32, 97, 114, 101, 97, 32]⟩ : ByteArray)) ++ t151) ++ (⟨#[44, 32, 104, 111, 117, 114, 115, 32]⟩ : ByteArray)) ++ t152) ++ (⟨#[45]⟩ : ByteArray)).size + t153.size) = False := eq_false (Nat.not_lt.2 c21)
 have c21b3 : (9223372036854775807 < t142.size + 2 + (rdOf ByteArray.empty t143 a0_2).size + 1 + (rdOf ByteArray.empty t147 a0_1).size + 7 + t151.size + 8 + t152.size + 1 + t153.size) = False := eq_false (Nat.not_lt.2 (by have h_ := c21; simp only [ByteArray.size_append] at h_; exact h_))
 focus
  obtain rfl := Option.some.inj H
  go_enter Tryz.func48, Tryz.ntmps48
  try go_wp2_with (first | ((with_reducible refine gate_dst (N := 1) rfl ?_); refine box_event ?hg (N := 1) ?hd (cs := #[.int .i64 a0_0, .int .i64 a0_1, .int .i64 a0_2, .int .i64 a0_3, .int .i64 a0_4, .int .i64 a0_5]) (t := 25) ?hr ?_; (case hd => rfl); (case hg => rfl); (case hr => exact zsx); intro gb141 hg w22 hbox hb; have BK141 := Aside0.mk (hbox); have GW141 := zns hg HB.out; have GE141 := zns hg HB.out; replace HB := Aside0.mk (below_step (zBx HB.out) hb); clear hb hbox hg))
  replace BK141 := Aside0.mk (blk_drew BK141.out)
  replace HB := Aside0.mk (below_drew1 HB.out)
  refine start_ (n := 33) (S := fun w' => w'.cell? ⟨gb141, 0, none⟩ = some (.int .i64 a0_0) ∧ w'.cell? ⟨gb141, 1, none⟩ = some (.int .i64 a0_1) ∧ w'.cell? ⟨gb141, 2, none⟩ = some (.int .i64 a0_2) ∧ w'.cell? ⟨gb141, 3, none⟩ = some (.int .i64 a0_3) ∧ w'.cell? ⟨gb141, 4, none⟩ = some (.int .i64 a0_4) ∧ w'.cell? ⟨gb141, 5, none⟩ = some (.int .i64 a0_5)) (ds := []) #[F,F,F,F,F,F,F,F,F,F,F,F,F,F,F,F,F,F,F,F,F,F,F,F,F,F,F,F,F,F,F,F,F] (by kernel_rfl) rfl rfl ⟨(blk_cell BK141.out 0).trans rfl, (blk_cell BK141.out 1).trans rfl, (blk_cell BK141.out 2).trans rfl, (blk_cell BK141.out 3).trans rfl, (blk_cell BK141.out 4).trans rfl, (blk_cell BK141.out 5).trans rfl⟩ (fun hHeld => ?_); refine with_tabW spec_l17Line.tab1 spec_l17Line.bits1 (fun HT_ HW_ => ?_)
  generalize w22.drew = w23 at BK141 HB hHeld ⊢
  refine zpu 0 3 #[T,F,F,F,F,F,F,F,F,F,F,F,F,F,F,F,F,F,F,F,F,F,F,F,F,F,F,F,F,F,F,F,F] HT_.out ?_
  refine zpu 5 8 #[T,F,F,F,F,T,F,F,F,F,F,F,F,F,F,F,F,F,F,F,F,F,F,F,F,F,F,F,F,F,F,F,F] HT_.out ?_
  refine zpu 12 15 #[T,F,F,F,F,T,F,F,F,F,F,F,T,F,F,F,F,F,F,F,F,F,F,F,F,F,F,F,F,F,F,F,F] HT_.out ?_
  refine zpu 18 21 #[T,F,F,F,F,T,F,F,F,F,F,F,T,F,F,F,F,F,T,F,F,F,F,F,F,F,F,F,F,F,F,F,F] HT_.out ?_
  refine zpu 23 26 #[T,F,F,F,F,T,F,F,F,F,F,F,T,F,F,F,F,F,T,F,F,F,F,T,F,F,F,F,F,F,F,F,F] HT_.out ?_
  refine zpu 28 31 #[T,F,F,F,F,T,F,F,F,F,F,F,T,F,F,F,F,F,T,F,F,F,F,T,F,F,F,F,T,F,F,F,F] HT_.out ?_
  refine take_ (i := 1) (N := some 4) (v := ?_) (a' := ?_) #[T,T,F,F,F,T,F,F,F,F,F,F,T,F,F,F,F,F,T,F,F,F,F,T,F,F,F,F,T,F,F,F,F] rfl rfl (take_ofW HT_.out HW_.out (by kernel_rfl)) (fun _ _ _ h => h) (Or.inl ⟨by rfl, ?_⟩) hHeld ?_ ?_
  rotate_left
  ·rintro w' ⟨s0, s1, s2, s3, s4, s5⟩
   go_simp
   with_reducible rfl
  rotate_left
  ·exact zpx
  refine take_ (i := 6) (N := some 9) (v := ?_) (a' := ?_) #[T,T,F,F,F,T,T,F,F,F,F,F,T,F,F,F,F,F,T,F,F,F,F,T,F,F,F,F,T,F,F,F,F] rfl rfl (take_ofW HT_.out HW_.out (by kernel_rfl)) (fun _ _ _ h => h) (Or.inl ⟨by rfl, ?_⟩) hHeld ?_ ?_
  rotate_left
  ·rintro w' ⟨s0, s1, s2, s3, s4, s5⟩
   go_simp
   with_reducible rfl
  rotate_left
  ·exact zpx
  refine take_ (i := 13) (N := some 16) (v := ?_) (a' := ?_) #[T,T,F,F,F,T,T,F,F,F,F,F,T,T,F,F,F,F,T,F,F,F,F,T,F,F,F,F,T,F,F,F,F] rfl rfl (take_ofW HT_.out HW_.out (by kernel_rfl)) (fun _ _ _ h => h) (Or.inl ⟨by rfl, ?_⟩) hHeld ?_ ?_
  rotate_left
  ·rintro w' ⟨s0, s1, s2, s3, s4, s5⟩
   go_simp
   with_reducible rfl
  rotate_left
  ·exact zpx
  refine take_ (i := 19) (N := some 22) (v := ?_) (a' := ?_) #[T,T,F,F,F,T,T,F,F,F,F,F,T,T,F,F,F,F,T,T,F,F,F,T,F,F,F,F,T,F,F,F,F] rfl rfl (take_ofW HT_.out HW_.out (by kernel_rfl)) (fun _ _ _ h => h) (Or.inl ⟨by rfl, ?_⟩) hHeld ?_ ?_
  rotate_left
  ·rintro w' ⟨s0, s1, s2, s3, s4, s5⟩
   go_simp
   with_reducible rfl
  rotate_left
  ·exact zpx
  refine take_ (i := 24) (N := some 27) (v := ?_) (a' := ?_) #[T,T,F,F,F,T,T,F,F,F,F,F,T,T,F,F,F,F,T,T,F,F,F,T,T,F,F,F,T,F,F,F,F] rfl rfl (take_ofW HT_.out HW_.out (by kernel_rfl)) (fun _ _ _ h => h) (Or.inl ⟨by rfl, ?_⟩) hHeld ?_ ?_
  rotate_left
  ·rintro w' ⟨s0, s1, s2, s3, s4, s5⟩
   go_simp
   with_reducible rfl
  rotate_left
  ·exact zpx
  refine take_ (i := 29) (N := some 32) (v := ?_) (a' := ?_) #[T,T,F,F,F,T,T,F,F,F,F,F,T,T,F,F,F,F,T,T,F,F,F,T,T,F,F,F,T,T,F,F,F] rfl rfl (take_ofW HT_.out HW_.out (by kernel_rfl)) (fun _ _ _ h => h) (Or.inl ⟨by rfl, ?_⟩) hHeld ?_ ?_
  rotate_left
  ·rintro w' ⟨s0, s1, s2, s3, s4, s5⟩
   go_simp
   with_reducible rfl
  rotate_left
  ·exact zpx
  refine one_ (i := 2) (N := some 5) #[T,T,T,F,F,T,T,F,F,F,F,F,T,T,F,F,F,F,T,T,F,F,F,T,T,F,F,F,T,T,F,F,F] rfl rfl (one_of HT_.out (by kernel_rfl)) (by decide) (fun K hK => ?_)
  refine goes_ Tryz.func93 (by kernel_rfl) rfl #[.int .i64 a0_0] (by rfl) rfl rfl zlx ?_
  with_reducible refine (spec_l1Num.calls k a0_0 t142 _ A2.out).mono ?_
  rintro e w24 ⟨rfl, hb⟩
  refine ⟨_, rfl, ?_⟩
  replace BK141 := zbl BK141.out hb
  replace HB := Aside0.mk (below_step (zBy HB.out GE141.out) hb)
  (try clear hb)
  (try clear hb2)
  (try clear hk)
  (try clear hi)
  refine hK.out _ _ ⟨(blk_cell BK141.out 0).trans rfl, (blk_cell BK141.out 1).trans rfl, (blk_cell BK141.out 2).trans rfl, (blk_cell BK141.out 3).trans rfl, (blk_cell BK141.out 4).trans rfl, (blk_cell BK141.out 5).trans rfl⟩ (fun hHeld => ?_)
  clear hK K
  refine norm_ (a' := ?_) ?_ ?_
  rotate_left
  ·show Act.put _ (some 5) _ = _
   simp only [Act.put, List.setIfInBounds_toArray, List.set_cons_zero, List.set_cons_succ, i64_w, i32_w]
   rfl
  refine zpu 3 6 #[T,T,T,T,F,T,T,F,F,F,F,F,T,T,F,F,F,F,T,T,F,F,F,T,T,F,F,F,T,T,F,F,F] HT_.out ?_
  refine one_ (i := 4) (N := some 7) #[T,T,T,T,T,T,T,F,F,F,F,F,T,T,F,F,F,F,T,T,F,F,F,T,T,F,F,F,T,T,F,F,F] rfl rfl (one_of HT_.out (by kernel_rfl)) (by decide) (fun K hK => ?_)
  refine goes_ Tryz.func94 (by kernel_rfl) rfl #[] (by rfl) rfl rfl zlx ?_
  with_reducible refine (spec_l17Levels.calls  t143 _ A4.out).mono ?_
  rintro e w25 ⟨v144, rfl, ho0, hb⟩
  refine ⟨_, rfl, ?_⟩
  have HO145 := Aside0.mk (Kd.R_lower ho0 (below_size (zBy HB.out GE141.out)))
  replace BK141 := zbl BK141.out hb
  replace HB := Aside0.mk (below_step (zBy HB.out GE141.out) hb)
  (try clear hb)
  (try clear hb2)
  (try clear hk)
  (try clear hi)
  (try clear ho0)
  obtain ⟨Ao26, co26, eo26⟩ := Kd.R_slice HO145.out
  (first | subst eo26 | (injection eo26 with f1_ f2_ f3_; have f4_ := f1_.symm; have f5_ := f3_.symm; clear f1_ f2_ f3_; subst f4_; subst f5_))
  have p146 : 0 ≤ (a0_2 : Int) := of_decide_eq_true zax
  have q146 : a0_2 < (t143.length : Int) := of_decide_eq_true zax
  obtain ⟨ad146, e146, hx146_0⟩ := Kd.at_string (Kd.R_reads' HO145.out).2.2 a0_2 p146 q146
  cases e146
  replace p146 := eq_true p146
  replace q146 := eq_true q146
  refine hK.out _ _ ⟨(blk_cell BK141.out 0).trans rfl, (blk_cell BK141.out 1).trans rfl, (blk_cell BK141.out 2).trans rfl, (blk_cell BK141.out 3).trans rfl, (blk_cell BK141.out 4).trans rfl, (blk_cell BK141.out 5).trans rfl⟩ (fun hHeld => ?_)
  replace hHeld := (And.intro (hHeld.1) (And.intro (hHeld.2.1) (And.intro (hHeld.2.2.1) (And.intro (hHeld.2.2.2.1) (And.intro (hHeld.2.2.2.2.1) (And.intro (hHeld.2.2.2.2.2) (hx146_0)))))))
  refine more_ (S' := fun (w' : World) => w'.cell? ⟨gb141, 0, none⟩ = some (.int .i64 a0_0) ∧ w'.cell? ⟨gb141, 1, none⟩ = some (.int .i64 a0_1) ∧ w'.cell? ⟨gb141, 2, none⟩ = some (.int .i64 a0_2) ∧ w'.cell? ⟨gb141, 3, none⟩ = some (.int .i64 a0_3) ∧ w'.cell? ⟨gb141, 4, none⟩ = some (.int .i64 a0_4) ∧ w'.cell? ⟨gb141, 5, none⟩ = some (.int .i64 a0_5) ∧ w'.cell? (ad146.add (a0_2).toNat) = some (.string (rdOf ByteArray.empty t143 a0_2))) (fun w' h_ => ⟨h_.1, h_.2.1, h_.2.2.1, h_.2.2.2.1, h_.2.2.2.2.1, h_.2.2.2.2.2.1⟩) _ _ _ _ hHeld ?_
  clear hK K
  refine norm_ (a' := ?_) ?_ ?_
  rotate_left
  ·show Act.put _ (some 7) _ = _
   simp only [Act.put, List.setIfInBounds_toArray, List.set_cons_zero, List.set_cons_succ, i64_w, i32_w]
   rfl
  refine zpu 7 10 #[T,T,T,T,T,T,T,T,F,F,F,F,T,T,F,F,F,F,T,T,F,F,F,T,T,F,F,F,T,T,F,F,F] HT_.out ?_
  refine take_ (i := 8) (N := some 11) (v := ?_) (a' := ?_) #[T,T,T,T,T,T,T,T,T,F,F,F,T,T,F,F,F,F,T,T,F,F,F,T,T,F,F,F,T,T,F,F,F] rfl rfl (take_ofW HT_.out HW_.out (by kernel_rfl)) (fun _ _ _ h => h) (Or.inl ⟨by rfl, ?_⟩) hHeld ?_ ?_
  rotate_left
  ·rintro w' ⟨s0, s1, s2, s3, s4, s5, s6⟩
   go_simp
   with_reducible rfl
  rotate_left
  ·exact zpx
  refine zpu 9 12 #[T,T,T,T,T,T,T,T,T,T,F,F,T,T,F,F,F,F,T,T,F,F,F,T,T,F,F,F,T,T,F,F,F] HT_.out ?_
  refine zpu 10 13 #[T,T,T,T,T,T,T,T,T,T,T,F,T,T,F,F,F,F,T,T,F,F,F,T,T,F,F,F,T,T,F,F,F] HT_.out ?_
  refine one_ (i := 11) (N := some 14) #[T,T,T,T,T,T,T,T,T,T,T,T,T,T,F,F,F,F,T,T,F,F,F,T,T,F,F,F,T,T,F,F,F] rfl rfl (one_of HT_.out (by kernel_rfl)) (by decide) (fun K hK => ?_)
  refine goes_ Tryz.func95 (by kernel_rfl) rfl #[] (by rfl) rfl rfl zlx ?_
  with_reducible refine (spec_l17Topics.calls  t147 _ A9.out).mono ?_
  rintro e w27 ⟨v148, rfl, ho0, hb⟩
  have HS6_ := (hb.cell (World.block_lt_of_cell? _ _ (hHeld.2.2.2.2.2.2))).trans (hHeld.2.2.2.2.2.2)
  refine ⟨_, rfl, ?_⟩
  have HO149 := Aside0.mk (Kd.R_lower (Kd.R_new' ho0 (Kd.R_lt (zRx HO145.out))) (below_size (zBy HB.out GE141.out)))
  replace HO145 := Aside0.mk (Kd.R_elder' (zRx HO145.out) (Kd.R_base ho0) hb)
  replace BK141 := zbl BK141.out hb
  replace HB := Aside0.mk (below_step (zBy HB.out GE141.out) hb)
  (try clear hb)
  (try clear hb2)
  (try clear hk)
  (try clear hi)
  (try clear ho0)
  obtain ⟨Ao28, co28, eo28⟩ := Kd.R_slice HO149.out
  (first | subst eo28 | (injection eo28 with f1_ f2_ f3_; have f4_ := f1_.symm; have f5_ := f3_.symm; clear f1_ f2_ f3_; subst f4_; subst f5_))
  have p150 : 0 ≤ (a0_1 : Int) := of_decide_eq_true zax
  have q150 : a0_1 < (t147.length : Int) := of_decide_eq_true zax
  obtain ⟨ad150, e150, hx150_0⟩ := Kd.at_string (Kd.R_reads' HO149.out).2.2 a0_1 p150 q150
  cases e150
  replace p150 := eq_true p150
  replace q150 := eq_true q150
  refine hK.out _ _ ⟨(blk_cell BK141.out 0).trans rfl, (blk_cell BK141.out 1).trans rfl, (blk_cell BK141.out 2).trans rfl, (blk_cell BK141.out 3).trans rfl, (blk_cell BK141.out 4).trans rfl, (blk_cell BK141.out 5).trans rfl, HS6_⟩ (fun hHeld => ?_)
  replace hHeld := (And.intro (hHeld.1) (And.intro (hHeld.2.1) (And.intro (hHeld.2.2.1) (And.intro (hHeld.2.2.2.1) (And.intro (hHeld.2.2.2.2.1) (And.intro (hHeld.2.2.2.2.2.1) (And.intro (hHeld.2.2.2.2.2.2) (hx150_0))))))))
  refine more_ (S' := fun (w' : World) => w'.cell? ⟨gb141, 0, none⟩ = some (.int .i64 a0_0) ∧ w'.cell? ⟨gb141, 1, none⟩ = some (.int .i64 a0_1) ∧ w'.cell? ⟨gb141, 2, none⟩ = some (.int .i64 a0_2) ∧ w'.cell? ⟨gb141, 3, none⟩ = some (.int .i64 a0_3) ∧ w'.cell? ⟨gb141, 4, none⟩ = some (.int .i64 a0_4) ∧ w'.cell? ⟨gb141, 5, none⟩ = some (.int .i64 a0_5) ∧ w'.cell? (ad146.add (a0_2).toNat) = some (.string (rdOf ByteArray.empty t143 a0_2)) ∧ w'.cell? (ad150.add (a0_1).toNat) = some (.string (rdOf ByteArray.empty t147 a0_1))) (fun w' h_ => ⟨h_.1, h_.2.1, h_.2.2.1, h_.2.2.2.1, h_.2.2.2.2.1, h_.2.2.2.2.2.1, h_.2.2.2.2.2.2.1⟩) _ _ _ _ hHeld ?_
  clear hK K
  refine norm_ (a' := ?_) ?_ ?_
  rotate_left
  ·show Act.put _ (some 14) _ = _
   simp only [Act.put, List.setIfInBounds_toArray, List.set_cons_zero, List.set_cons_succ, i64_w, i32_w]
   rfl
  refine zpu 14 17 #[T,T,T,T,T,T,T,T,T,T,T,T,T,T,T,F,F,F,T,T,F,F,F,T,T,F,F,F,T,T,F,F,F] HT_.out ?_
  refine take_ (i := 15) (N := some 18) (v := ?_) (a' := ?_) #[T,T,T,T,T,T,T,T,T,T,T,T,T,T,T,T,F,F,T,T,F,F,F,T,T,F,F,F,T,T,F,F,F] rfl rfl (take_ofW HT_.out HW_.out (by kernel_rfl)) (fun _ _ _ h => h) (Or.inl ⟨by rfl, ?_⟩) hHeld ?_ ?_
  rotate_left
  ·rintro w' ⟨s0, s1, s2, s3, s4, s5, s6, s7⟩
   go_simp
   with_reducible rfl
  rotate_left
  ·exact zpx
  refine zpu 16 19 #[T,T,T,T,T,T,T,T,T,T,T,T,T,T,T,T,T,F,T,T,F,F,F,T,T,F,F,F,T,T,F,F,F] HT_.out ?_
  refine zpu 17 20 #[T,T,T,T,T,T,T,T,T,T,T,T,T,T,T,T,T,T,T,T,F,F,F,T,T,F,F,F,T,T,F,F,F] HT_.out ?_
  refine one_ (i := 20) (N := some 23) #[T,T,T,T,T,T,T,T,T,T,T,T,T,T,T,T,T,T,T,T,T,F,F,T,T,F,F,F,T,T,F,F,F] rfl rfl (one_of HT_.out (by kernel_rfl)) (by decide) (fun K hK => ?_)
  refine goes_ Tryz.func93 (by kernel_rfl) rfl #[.int .i64 a0_3] (by rfl) rfl rfl zlx ?_
  with_reducible refine (spec_l1Num.calls k a0_3 t151 _ A14.out).mono ?_
  rintro e w29 ⟨rfl, hb⟩
  have HS6_ := (hb.cell (World.block_lt_of_cell? _ _ (hHeld.2.2.2.2.2.2.1))).trans (hHeld.2.2.2.2.2.2.1)
  have HS7_ := (hb.cell (World.block_lt_of_cell? _ _ (hHeld.2.2.2.2.2.2.2))).trans (hHeld.2.2.2.2.2.2.2)
  refine ⟨_, rfl, ?_⟩
  replace HO145 := Aside0.mk (Kd.R_below (zRx HO145.out) hb)
  replace HO149 := Aside0.mk (Kd.R_below (zRx HO149.out) hb)
  replace BK141 := zbl BK141.out hb
  replace HB := Aside0.mk (below_step (zBy HB.out GE141.out) hb)
  (try clear hb)
  (try clear hb2)
  (try clear hk)
  (try clear hi)
  refine hK.out _ _ ⟨(blk_cell BK141.out 0).trans rfl, (blk_cell BK141.out 1).trans rfl, (blk_cell BK141.out 2).trans rfl, (blk_cell BK141.out 3).trans rfl, (blk_cell BK141.out 4).trans rfl, (blk_cell BK141.out 5).trans rfl, HS6_, HS7_⟩ (fun hHeld => ?_)
  clear hK K
  refine norm_ (a' := ?_) ?_ ?_
  rotate_left
  ·show Act.put _ (some 23) _ = _
   simp only [Act.put, List.setIfInBounds_toArray, List.set_cons_zero, List.set_cons_succ, i64_w, i32_w]
   rfl
  refine zpu 21 24 #[T,T,T,T,T,T,T,T,T,T,T,T,T,T,T,T,T,T,T,T,T,T,F,T,T,F,F,F,T,T,F,F,F] HT_.out ?_
  refine zpu 22 25 #[T,T,T,T,T,T,T,T,T,T,T,T,T,T,T,T,T,T,T,T,T,T,T,T,T,F,F,F,T,T,F,F,F] HT_.out ?_
  refine one_ (i := 25) (N := some 28) #[T,T,T,T,T,T,T,T,T,T,T,T,T,T,T,T,T,T,T,T,T,T,T,T,T,T,F,F,T,T,F,F,F] rfl rfl (one_of HT_.out (by kernel_rfl)) (by decide) (fun K hK => ?_)
  refine goes_ Tryz.func93 (by kernel_rfl) rfl #[.int .i64 a0_4] (by rfl) rfl rfl zlx ?_
  with_reducible refine (spec_l1Num.calls k a0_4 t152 _ A17.out).mono ?_
  rintro e w30 ⟨rfl, hb⟩
  have HS6_ := (hb.cell (World.block_lt_of_cell? _ _ (hHeld.2.2.2.2.2.2.1))).trans (hHeld.2.2.2.2.2.2.1)
  have HS7_ := (hb.cell (World.block_lt_of_cell? _ _ (hHeld.2.2.2.2.2.2.2))).trans (hHeld.2.2.2.2.2.2.2)
  refine ⟨_, rfl, ?_⟩
  replace HO145 := Aside0.mk (Kd.R_below (zRx HO145.out) hb)
  replace HO149 := Aside0.mk (Kd.R_below (zRx HO149.out) hb)
  replace BK141 := zbl BK141.out hb
  replace HB := Aside0.mk (below_step (zBy HB.out GE141.out) hb)
  (try clear hb)
  (try clear hb2)
  (try clear hk)
  (try clear hi)
  refine hK.out _ _ ⟨(blk_cell BK141.out 0).trans rfl, (blk_cell BK141.out 1).trans rfl, (blk_cell BK141.out 2).trans rfl, (blk_cell BK141.out 3).trans rfl, (blk_cell BK141.out 4).trans rfl, (blk_cell BK141.out 5).trans rfl, HS6_, HS7_⟩ (fun hHeld => ?_)
  clear hK K
  refine norm_ (a' := ?_) ?_ ?_
  rotate_left
  ·show Act.put _ (some 28) _ = _
   simp only [Act.put, List.setIfInBounds_toArray, List.set_cons_zero, List.set_cons_succ, i64_w, i32_w]
   rfl
  refine zpu 26 29 #[T,T,T,T,T,T,T,T,T,T,T,T,T,T,T,T,T,T,T,T,T,T,T,T,T,T,T,F,T,T,F,F,F] HT_.out ?_
  refine zpu 27 30 #[T,T,T,T,T,T,T,T,T,T,T,T,T,T,T,T,T,T,T,T,T,T,T,T,T,T,T,T,T,T,F,F,F] HT_.out ?_
  refine one_ (i := 30) (N := some 33) #[T,T,T,T,T,T,T,T,T,T,T,T,T,T,T,T,T,T,T,T,T,T,T,T,T,T,T,T,T,T,T,F,F] rfl rfl (one_of HT_.out (by kernel_rfl)) (by decide) (fun K hK => ?_)
  refine goes_ Tryz.func93 (by kernel_rfl) rfl #[.int .i64 a0_5] (by rfl) rfl rfl zlx ?_
  with_reducible refine (spec_l1Num.calls k a0_5 t153 _ A20.out).mono ?_
  rintro e w31 ⟨rfl, hb⟩
  have HS6_ := (hb.cell (World.block_lt_of_cell? _ _ (hHeld.2.2.2.2.2.2.1))).trans (hHeld.2.2.2.2.2.2.1)
  have HS7_ := (hb.cell (World.block_lt_of_cell? _ _ (hHeld.2.2.2.2.2.2.2))).trans (hHeld.2.2.2.2.2.2.2)
  refine ⟨_, rfl, ?_⟩
  replace HO145 := Aside0.mk (Kd.R_below (zRx HO145.out) hb)
  replace HO149 := Aside0.mk (Kd.R_below (zRx HO149.out) hb)
  replace BK141 := zbl BK141.out hb
  replace HB := Aside0.mk (below_step (zBy HB.out GE141.out) hb)
  (try clear hb)
  (try clear hb2)
  (try clear hk)
  (try clear hi)
  refine hK.out _ _ ⟨(blk_cell BK141.out 0).trans rfl, (blk_cell BK141.out 1).trans rfl, (blk_cell BK141.out 2).trans rfl, (blk_cell BK141.out 3).trans rfl, (blk_cell BK141.out 4).trans rfl, (blk_cell BK141.out 5).trans rfl, HS6_, HS7_⟩ (fun hHeld => ?_)
  clear hK K
  refine norm_ (a' := ?_) ?_ ?_
  rotate_left
  ·show Act.put _ (some 33) _ = _
   simp only [Act.put, List.setIfInBounds_toArray, List.set_cons_zero, List.set_cons_succ, i64_w, i32_w]
   rfl
  refine zpu 31 34 #[T,T,T,T,T,T,T,T,T,T,T,T,T,T,T,T,T,T,T,T,T,T,T,T,T,T,T,T,T,T,T,T,F] HT_.out ?_
  refine zpu 32 2 #[T,T,T,T,T,T,T,T,T,T,T,T,T,T,T,T,T,T,T,T,T,T,T,T,T,T,T,T,T,T,T,T,T] HT_.out ?_
  refine done_ (done_of HT_.out (by kernel_rfl)) ?_
  try go_wp2
  go_ret
  exact ⟨by first | rfl | (simp [errW_none, errW_some] <;> rfl) | (simp [*, errW_none, errW_some] <;> rfl), by exact zBy HB.out GE141.out⟩
/-! ### spec_l1Sum: function 109 -/
def spec_l1Sum.l0 : Nat → ByteArray → Int → Int → Option (Int)
 | 0, _, _, _ => none
 | k + 1, x0, x3, x4 => if x4 < (x0.size : Int) then (if 0 ≤ x4 then (spec_l1Sum.l0 k x0 (Int.tmod (wrap64 ((wrap64 ((wrap64 (41 * x3)) + (wrap64 (bt x0 x4)))) + 1)) 999979) (wrap64 (x4 + 1))) else (none)) else (some x3)
def spec_l1Sum.f (k : Nat) (a0 : ByteArray) : Option (Int) := spec_l1Sum.l0 k a0 7 0
set_option maxHeartbeats 8000000 in
set_option maxRecDepth 100000 in
theorem spec_l1Sum.calls (k : Nat) (a0 : ByteArray) (r : Int) (w : World) (h : spec_l1Sum.f k a0 = some r) :
 Calls Tryz.prog 109 #[.string a0] w fun e w' => e = .returned (.int .i64 r) ∧ Drawn0 w w' := by
 have H : (spec_l1Sum.l0 k a0 7 0) = some r := h
 clear h
 have H' := Aside0.mk H
 clear H
 go_enter Tryz.func109, Tryz.ntmps109
 go_wp2
 go_loopg [3, 4] k (fun kq v3 v4 w' => ∃ (x3_1 : Int) (x4_1 : Int), v3 = .int .i64 x3_1 ∧ v4 = .int .i64 x4_1 ∧ Aside0 (spec_l1Sum.l0 kq a0 x3_1 x4_1 = some r) ∧ Aside0 (kq ≤ k) ∧ Drawn0 w w')
 case atStart => exact ⟨(7), (0), zrx, zrx, H', ⟨Nat.le_refl _⟩, by repeat (first | exact Drawn0.refl _ | apply Drawn0.step)⟩
 case round =>
  clear H'
  try clear c1
  obtain ⟨x3_1, x4_1, rfl, rfl, HA, HK1, ⟨m1, rfl⟩⟩ := hrel
  cases gk with
  | zero => exact absurd HA.out (by simp [spec_l1Sum.l0])
  | succ k1 =>
   have H := HA.out
   clear HA
   simp only [spec_l1Sum.l0] at H
   by_cases c2 : x4_1 < (a0.size : Int)
   rotate_left
   ·rw [if_neg c2] at H
    have c2b0 : decide (x4_1 < (a0.size : Int)) = false := decide_eq_false c2
    clear c2
    focus
     obtain rfl := Option.some.inj H
     go_wp2
     go_ret
     exact ⟨by first | rfl | (simp; done) | (simp [*]; done), by repeat (first | exact Drawn0.refl _ | apply Drawn0.step)⟩

   rw [if_pos c2] at H
   have c2b0 : decide (x4_1 < (a0.size : Int)) = true := decide_eq_true c2
   clear c2
   obtain ⟨c3, H⟩ := zin H
   have c3b0 : decide (0 ≤ x4_1) = true := decide_eq_true c3
   clear c3
   focus
    have H' := Aside0.mk H
    clear H
    have p4 : 0 ≤ (x4_1 : Int) := of_decide_eq_true zax
    have q4 : x4_1 < (a0.size : Int) := of_decide_eq_true zax
    have hx4 := bt_at a0 x4_1
    replace p4 := eq_true p4
    replace q4 := eq_true q4
    go_wp2
    go_roundg k1
    case measure => have := HK1.out; omega
    case rel => exact ⟨(Int.tmod (wrap64 ((wrap64 ((wrap64 (41 * x3_1)) + (wrap64 (bt a0 x4_1)))) + 1)) 999979), (wrap64 (x4_1 + 1)), zrx, zrx, H', ⟨by have := HK1.out; omega⟩, by repeat (first | exact Drawn0.refl _ | apply Drawn0.step)⟩
/-! ### spec_l1Seal: function 74 -/
def spec_l1Seal.f (k : Nat) (a0 : ByteArray) : Option (ByteArray) := if a0.size + 1 ≤ 9223372036854775807 then ((spec_l1Sum.f k a0).bind fun t154 => ((spec_l1Num.f k t154).bind fun t155 => (if (a0 ++ (⟨#[35]⟩ : ByteArray)).size + t155.size ≤ 9223372036854775807 then (some ((a0 ++ (⟨#[35]⟩ : ByteArray)) ++ t155)) else (none)))) else (none)
set_option maxHeartbeats 8000000 in
set_option maxRecDepth 100000 in
theorem spec_l1Seal.calls (k : Nat) (a0 : ByteArray) (r : ByteArray) (w : World) (h : spec_l1Seal.f k a0 = some r) :
 Calls Tryz.prog 74 #[.string a0] w fun e w' => e = .returned (.string r) ∧ Below w.heap.size w w' := by
 have HB := Aside0.mk (Below.refl w.heap.size w)
 have H : (if a0.size + 1 ≤ 9223372036854775807 then ((spec_l1Sum.f k a0).bind fun t154 => ((spec_l1Num.f k t154).bind fun t155 => (if (a0 ++ (⟨#[35]⟩ : ByteArray)).size + t155.size ≤ 9223372036854775807 then (some ((a0 ++ (⟨#[35]⟩ : ByteArray)) ++ t155)) else (none)))) else (none)) = some r := h
 clear h
 by_cases c2 : a0.size + 1 ≤ 9223372036854775807
 rotate_left
 ·rw [if_neg c2] at H
  exact absurd H (by simp)

 rw [if_pos c2] at H
 have c2b0 := eq_true c2
 have c2b1 : decide (a0.size + 1 ≤ 9223372036854775807) = true := decide_eq_true c2
 try have c2b2 : (9223372036854775807 < a0.size + 1) = False := eq_false (Nat.not_lt.2 c2)
 replace H := Option.bind_eq_some_iff.mp H
 obtain ⟨t154, A30, H⟩ := H
 replace H : ((spec_l1Num.f k t154).bind fun t155 => (if (a0 ++ (⟨#[35]⟩ : ByteArray)).size + t155.size ≤ 9223372036854775807 then (some ((a0 ++ (⟨#[35]⟩ : ByteArray)) ++ t155)) else (none))) = some r := H
 have A3 := Aside0.mk A30
 clear A30
 replace H := Option.bind_eq_some_iff.mp H
 obtain ⟨t155, A40, H⟩ := H
 replace H : (if (a0 ++ (⟨#[35]⟩ : ByteArray)).size + t155.size ≤ 9223372036854775807 then (some ((a0 ++ (⟨#[35]⟩ : ByteArray)) ++ t155)) else (none)) = some r := H
 have A4 := Aside0.mk A40
 clear A40
 by_cases c5 : (a0 ++ (⟨#[35]⟩ : ByteArray)).size + t155.size ≤ 9223372036854775807
 ·rw [if_pos c5] at H
  have c5b0 := eq_true c5
  have c5b1 : decide ((a0 ++ (⟨#[35]⟩ : ByteArray)).size + t155.size ≤ 9223372036854775807) = true := decide_eq_true c5
  try have c5b2 : (9223372036854775807 < (a0 ++ (⟨#[35]⟩ : ByteArray)).size + t155.size) = False := eq_false (Nat.not_lt.2 c5)
  have c5b3 : (9223372036854775807 < a0.size + 1 + t155.size) = False := eq_false (Nat.not_lt.2 (by have h_ := c5; simp only [ByteArray.size_append] at h_; exact h_))
  focus
   obtain rfl := Option.some.inj H
   go_enter Tryz.func74, Tryz.ntmps74
   go_wp2_with (first | ((with_reducible refine gate_callee (f := 109) rfl ?_); refine goesL_ (some 6) rfl rfl Tryz.func109 (by kernel_rfl) rfl #[.string a0] rfl zlx ?_; (with_reducible refine (spec_l1Sum.calls k a0 t154 _ A3.out).mono ?_); rintro e w' ⟨rfl, ⟨nd, rfl⟩⟩; refine ⟨_, rfl, ?_⟩) | ((with_reducible refine gate_callee (f := 93) rfl ?_); refine goesL_ (some 7) rfl rfl Tryz.func93 (by kernel_rfl) rfl #[.int .i64 t154] rfl zlx ?_; (with_reducible refine (spec_l1Num.calls k t154 t155 _ A4.out).mono ?_); rintro e w6 ⟨rfl, hb⟩; refine ⟨_, rfl, ?_⟩; replace HB := Aside0.mk (below_step (zBx HB.out) hb); (try clear hb)))
   go_ret
   exact ⟨by first | rfl | (simp [errW_none, errW_some] <;> rfl) | (simp [*, errW_none, errW_some] <;> rfl), by exact zBx HB.out⟩
 ·rw [if_neg c5] at H
  exact absurd H (by simp)
end Go.Proofs.YtlfoojgbiafffaaGreatDoor.XFnExactReadBulletin
