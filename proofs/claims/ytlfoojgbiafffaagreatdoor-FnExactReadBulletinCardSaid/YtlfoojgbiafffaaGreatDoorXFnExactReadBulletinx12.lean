-- written by wip/tools/xprint.py (a program of this project) out of the translation
import Derived.Test.YtlfoojgbiafffaaGreatDoorXFnExactReadBulletinx0
import Derived.Test.YtlfoojgbiafffaaGreatDoorStrsE
import Derived.Test.YtlfoojgbiafffaaGreatDoorXFnExactReadBulletinx10
import Derived.Test.YtlfoojgbiafffaaGreatDoorXFnExactReadBulletinx11
namespace Go.Proofs.YtlfoojgbiafffaaGreatDoor.XFnExactReadBulletin
open Go.RowKit Go.Proofs.YtlfoojgbiafffaaGreatDoorW.PrintWords Go.Proofs.YtlfoojgbiafffaaGreatDoorW.PrintLast Go.Proofs.YtlfoojgbiafffaaGreatDoorW.PrintMore
open Go.Proofs.YtlfoojgbiafffaaGreatDoor.Strs
attribute [local go_sem] max2_int min2_int max_two min_two max_three min_three max_four min_four   -- for this text's walks alone
set_option linter.unusedVariables false
set_option linter.unusedSimpArgs false

/-! ### impl_ReadBulletin: function 17 -/
mutual
def impl_ReadBulletin.j0 : Nat → ByteArray → ByteArray → Bool → Option (Int × Int × (List (S25)) × Bool)
 | 0, _, _, _ => none
 | k + 1, x0, x4, x27 => if x27 = true then (some (0, 0, ([] : List (S25)), false)) else ((strings_TrimSuffix.f x4 (⟨#[10]⟩ : ByteArray)).bind fun t324 => ((strings_Split.f t324 (⟨#[10]⟩ : ByteArray)).bind fun t325 => (if 0 < (t325.length : Int) then ((strings_Cut.f (rdOf ByteArray.empty t325 0) (⟨#[32, 97, 116, 32, 104, 111, 117, 114, 32]⟩ : ByteArray)).bind fun bt329 => ((strings_TrimPrefix.f bt329.1 (⟨#[98, 117, 108, 108, 101, 116, 105, 110, 32]⟩ : ByteArray)).bind fun t332 => ((impl_readInts.f k (([t332, bt329.2.1] : List ByteArray))).bind fun bt336 => (if bt336.2 = true then (if 0 < (bt336.1.length : Int) then (if 1 < (bt336.1.length : Int) then (if 1 ≤ (t325.length : Int) then ((some (t325.drop 1 : List ByteArray)).bind fun y343 => (impl_ReadBulletin.l0 k x0 y343 (y343.length : Int) 0 (rd bt336.1 0) (rd bt336.1 1) ([] : List (S25)))) else (none)) else (none)) else (none)) else (some (0, 0, ([] : List (S25)), false)))))) else (none))))
def impl_ReadBulletin.l0 : Nat → ByteArray → List ByteArray → Int → Int → Int → Int → List (S25) → Option (Int × Int × (List (S25)) × Bool)
 | 0, _, _, _, _, _, _, _ => none
 | k + 1, x0, x59, x60, x61, x343000, x343001, x343002 => if x61 < x60 then (if 0 ≤ x61 then (if x61 < (x59.length : Int) then ((impl_ParseWarningLine.f (rdOf ByteArray.empty x59 x61)).bind fun bt348 => (if bt348.2.2.2.2.2.2 = true then (if x343002.length < 2932031007402 then (impl_ReadBulletin.l0 k x0 x59 x60 (wrap64 (x61 + 1)) x343000 x343001 (x343002 ++ [(⟨bt348.1, bt348.2.1, bt348.2.2.1, bt348.2.2.2.1, bt348.2.2.2.2.1, bt348.2.2.2.2.2.1⟩ : S25)])) else (none)) else (some (0, 0, ([] : List (S25)), false)))) else (none)) else (none)) else ((impl_IsValidBulletin.f k x343000 x343001 x343002).bind fun t359 => (if t359 = true then ((impl_bulletinText.f k x343000 x343001 x343002).bind fun t360 => (if t360.toList = x0.toList then (some (x343000, x343001, x343002, true)) else (some (0, 0, ([] : List (S25)), false)))) else (some (0, 0, ([] : List (S25)), false))))
end
def impl_ReadBulletin.f (k : Nat) (a0 : ByteArray) : Option (Int × Int × (List (S25)) × Bool) := (impl_VerifyChecksum.f k a0).bind fun bt321 => (if bt321.2 = true then ((strings_HasSuffix.f bt321.1 (⟨#[10]⟩ : ByteArray)).bind fun t323 => (impl_ReadBulletin.j0 k a0 bt321.1 (!t323))) else (impl_ReadBulletin.j0 k a0 bt321.1 true))
def impl_ReadBulletin.T9 : Bool × List (List Nat × List Nat) := (true, [([], []), ([0], [0]), ([1], [1]), ([], []), ([3], [3]), ([4], [4]), ([2, 5], [2, 5]), ([], []), ([7, 6, 0, 1, 2, 3, 4, 5, 6, 7], [6, 7])])
def impl_ReadBulletin.B9 : List Nat := [0, 1, 3, 0, 8, 24, 63, 0, 255]
theorem impl_ReadBulletin.tab9 : rtab .any (opsOf Tryz.f17 9) = impl_ReadBulletin.T9 := by kernel_rfl
theorem impl_ReadBulletin.bits9 : waitsOk impl_ReadBulletin.T9.2 impl_ReadBulletin.B9 = true := by kernel_rfl
set_option maxHeartbeats 8000000 in
set_option maxRecDepth 100000 in
theorem impl_ReadBulletin.calls (k : Nat) (a0 : ByteArray) (r1 : Int) (r2 : Int) (r3 : List (S25)) (r4 : Bool) (w : World) (hL : Laid w) (h : impl_ReadBulletin.f k a0 = some (r1, r2, r3, r4)) :
 Calls Tryz.prog 17 #[.string a0] w fun e w' => ∃ v2_ : Value, e = .returned (.tuple #[.agg #[.int .i64 r1, .int .i64 r2, v2_], .bool r4]) ∧ Kd.R k25 25 w' w.heap.size (fun _ => True) v2_ r3 ∧ Below w.heap.size w w' := by
 have hu34 := Tryz.underlying34
 have hu25 := Tryz.underlying25
 have HL := Aside0.mk hL
 clear hL
 have HB := Aside0.mk (Below.refl w.heap.size w)
 have H : ((impl_VerifyChecksum.f k a0).bind fun bt321 => (if bt321.2 = true then ((strings_HasSuffix.f bt321.1 (⟨#[10]⟩ : ByteArray)).bind fun t323 => (impl_ReadBulletin.j0 k a0 bt321.1 (!t323))) else (impl_ReadBulletin.j0 k a0 bt321.1 true))) = some (r1, r2, r3, r4) := h
 clear h
 replace H := Option.bind_eq_some_iff.mp H
 obtain ⟨⟨t321, t322⟩, A20, H⟩ := H
 replace H : (if t322 = true then ((strings_HasSuffix.f t321 (⟨#[10]⟩ : ByteArray)).bind fun t323 => (impl_ReadBulletin.j0 k a0 t321 (!t323))) else (impl_ReadBulletin.j0 k a0 t321 true)) = some (r1, r2, r3, r4) := H
 have A2 := Aside0.mk A20
 clear A20
 have HC3 := Aside0.mk H
 clear H
 go_enter Tryz.func17, Tryz.ntmps17
 go_upto_region 2 with (first | ((with_reducible refine gate_dst (N := 2) rfl ?_); refine box_event ?hg (N := 2) ?hd (cs := #[.int .i64 0, .int .i64 0, .slice none 0 0]) (t := 34) ?hr ?_; (case hd => rfl); (case hg => rfl); (case hr => exact zsx); intro gb320 hg w4 hbox hb; have BK320 := Aside0.mk (hbox); have GW320 := zns hg HB.out; have GE320 := zns hg HB.out; replace HB := Aside0.mk (below_step (zBx HB.out) hb); clear hb hbox hg) | ((with_reducible refine gate_callee (f := 58) rfl ?_); refine goesL_ (some 18) rfl rfl Tryz.func58 (by kernel_rfl) rfl #[.string a0] rfl zlx ?_; (with_reducible refine (impl_VerifyChecksum.calls k a0 t321 t322 _ ?sideL A2.out).mono ?_); (case sideL => exact Laid.below HL.out (zBy HB.out GE320.out)); rintro e w5 ⟨rfl, hb⟩; refine ⟨_, rfl, ?_⟩; replace BK320 := zbl BK320.out hb; replace HB := Aside0.mk (below_step (zBy HB.out GE320.out) hb); (try clear hb)))
 (try simp only [Act.put, List.setIfInBounds_toArray, List.set_cons_zero, List.set_cons_succ])
 go_cut [27] (fun v27 wc => ∃ (kq : Nat) (x27_2 : Bool), v27 = .bool x27_2 ∧ Aside0 (impl_ReadBulletin.j0 kq a0 t321 x27_2 = some (r1, r2, r3, r4)) ∧ Aside0 (kq ≤ k) ∧ Aside0 (wc.heap[gb320]? = some (.cells #[.int .i64 0, .int .i64 0, (.slice none 0 0)] 34 (0, 0))) ∧ Aside0 (Below w.heap.size w wc))
 case first =>
  have H := HC3.out
  clear HC3
  by_cases c6 : t322 = true
  ·subst c6
   rw [if_pos rfl] at H
   replace H := Option.bind_eq_some_iff.mp H
   obtain ⟨t323, A70, H⟩ := H
   replace H : (impl_ReadBulletin.j0 k a0 t321 (!t323)) = some (r1, r2, r3, r4) := H
   have A7 := Aside0.mk A70
   clear A70
   focus
    have H' := Aside0.mk H
    clear H
    go_wp2_with (first | (go_at_call 59; (with_reducible refine (strings_HasSuffix.calls t321 (⟨#[10]⟩ : ByteArray) t323 _ A7.out).mono ?_); rintro e w' ⟨rfl, ⟨nd, rfl⟩⟩))
    go_meet
    case rel => exact ⟨_, (!t323), zrx, H', ⟨by first | omega | exact Nat.le_refl _⟩, ⟨by refine zbx ?_; exact BK320.out⟩, ⟨by exact zBy HB.out GE320.out⟩⟩
  ·replace c6 := Bool.eq_false_iff.mpr c6
   subst c6
   rw [if_neg (show ¬ (false = true) by decide)] at H
   focus
    have H' := Aside0.mk H
    clear H
    go_wp2
    go_meet
    case rel => exact ⟨_, (true), zrx, H', ⟨by first | omega | exact Nat.le_refl _⟩, ⟨by refine zbx ?_; exact BK320.out⟩, ⟨by exact zBy HB.out GE320.out⟩⟩
 case rest =>
  clear HC3
  try clear c1
  try clear p2
  try clear c5
  try clear c6
  obtain ⟨kq, x27_2, rfl, HA, HJ2, BK320, HB⟩ := hcut
  cases kq with
  | zero => exact absurd HA.out (by simp [impl_ReadBulletin.j0])
  | succ kj2 =>
   have H := HA.out
   clear HA
   simp only [impl_ReadBulletin.j0] at H
   by_cases c8 : x27_2 = true
   ·subst c8
    rw [if_pos rfl] at H
    focus
     simp only [Option.some.injEq, Prod.mk.injEq] at H
     obtain ⟨rfl, rfl, rfl, rfl⟩ := H
     have hcz9_0 : wc.cell? ⟨gb320, 0, none⟩ = some (.int .i64 0) := (blk_cell BK320.out 0).trans rfl
     have hcz9_1 : wc.cell? ⟨gb320, 1, none⟩ = some (.int .i64 0) := (blk_cell BK320.out 1).trans rfl
     have hcz9_2 : wc.cell? ⟨gb320, 2, none⟩ = some (.slice none 0 0) := (blk_cell BK320.out 2).trans rfl
     have hfz9_0 := blk_frozen BK320.out 0
     have hfz9_1 := blk_frozen BK320.out 1
     have hfz9_2 := blk_frozen BK320.out 2
     go_wp2
     refine bodyPost_ret (results_ct rfl _ _ gb320 34 #[.int .i64 0, .int .i64 0, .slice none 0 0] (0, 0) _ rfl (zbp BK320.out) Tryz.underlying34 rfl (by kernel_rfl)) rfl ?_
     exact ⟨_, by first | rfl | (simp [errW_none, errW_some] <;> rfl) | (simp [*, errW_none, errW_some] <;> rfl), by first | exact Kd.R_nil _ _ _ _ _ | exact Kd.N_nil _ _ _ _ _ | exact Kd.V_nil _ _ _ _ _ | exact Kd.Q_nil _ _ _ _ _ | exact Kd.S_nil _ _ _ _ _, by exact zBy HB.out GE320.out⟩
   replace c8 := Bool.eq_false_iff.mpr c8
   subst c8
   rw [if_neg (show ¬ (false = true) by decide)] at H
   replace H := Option.bind_eq_some_iff.mp H
   obtain ⟨t324, A100, H⟩ := H
   replace H : ((strings_Split.f t324 (⟨#[10]⟩ : ByteArray)).bind fun t325 => (if 0 < (t325.length : Int) then ((strings_Cut.f (rdOf ByteArray.empty t325 0) (⟨#[32, 97, 116, 32, 104, 111, 117, 114, 32]⟩ : ByteArray)).bind fun bt329 => ((strings_TrimPrefix.f bt329.1 (⟨#[98, 117, 108, 108, 101, 116, 105, 110, 32]⟩ : ByteArray)).bind fun t332 => ((impl_readInts.f kj2 (([t332, bt329.2.1] : List ByteArray))).bind fun bt336 => (if bt336.2 = true then (if 0 < (bt336.1.length : Int) then (if 1 < (bt336.1.length : Int) then (if 1 ≤ (t325.length : Int) then ((some (t325.drop 1 : List ByteArray)).bind fun y343 => (impl_ReadBulletin.l0 kj2 a0 y343 (y343.length : Int) 0 (rd bt336.1 0) (rd bt336.1 1) ([] : List (S25)))) else (none)) else (none)) else (none)) else (some (0, 0, ([] : List (S25)), false)))))) else (none))) = some (r1, r2, r3, r4) := H
   have A10 := Aside0.mk A100
   clear A100
   replace H := Option.bind_eq_some_iff.mp H
   obtain ⟨t325, A110, H⟩ := H
   replace H : (if 0 < (t325.length : Int) then ((strings_Cut.f (rdOf ByteArray.empty t325 0) (⟨#[32, 97, 116, 32, 104, 111, 117, 114, 32]⟩ : ByteArray)).bind fun bt329 => ((strings_TrimPrefix.f bt329.1 (⟨#[98, 117, 108, 108, 101, 116, 105, 110, 32]⟩ : ByteArray)).bind fun t332 => ((impl_readInts.f kj2 (([t332, bt329.2.1] : List ByteArray))).bind fun bt336 => (if bt336.2 = true then (if 0 < (bt336.1.length : Int) then (if 1 < (bt336.1.length : Int) then (if 1 ≤ (t325.length : Int) then ((some (t325.drop 1 : List ByteArray)).bind fun y343 => (impl_ReadBulletin.l0 kj2 a0 y343 (y343.length : Int) 0 (rd bt336.1 0) (rd bt336.1 1) ([] : List (S25)))) else (none)) else (none)) else (none)) else (some (0, 0, ([] : List (S25)), false)))))) else (none)) = some (r1, r2, r3, r4) := H
   have A11 := Aside0.mk A110
   clear A110
   by_cases c12 : 0 < (t325.length : Int)
   rotate_left
   ·rw [if_neg c12] at H
    exact absurd H (by simp)

   rw [if_pos c12] at H
   have c12b0 : decide (0 < (t325.length : Int)) = true := decide_eq_true c12
   have c12b1 : decide (0 < t325.length) = true := decide_eq_true (by omega)
   clear c12
   replace H := Option.bind_eq_some_iff.mp H
   obtain ⟨⟨t329, t330, t331⟩, A130, H⟩ := H
   replace H : ((strings_TrimPrefix.f t329 (⟨#[98, 117, 108, 108, 101, 116, 105, 110, 32]⟩ : ByteArray)).bind fun t332 => ((impl_readInts.f kj2 (([t332, t330] : List ByteArray))).bind fun bt336 => (if bt336.2 = true then (if 0 < (bt336.1.length : Int) then (if 1 < (bt336.1.length : Int) then (if 1 ≤ (t325.length : Int) then ((some (t325.drop 1 : List ByteArray)).bind fun y343 => (impl_ReadBulletin.l0 kj2 a0 y343 (y343.length : Int) 0 (rd bt336.1 0) (rd bt336.1 1) ([] : List (S25)))) else (none)) else (none)) else (none)) else (some (0, 0, ([] : List (S25)), false))))) = some (r1, r2, r3, r4) := H
   have A13 := Aside0.mk A130
   clear A130
   replace H := Option.bind_eq_some_iff.mp H
   obtain ⟨t332, A140, H⟩ := H
   replace H : ((impl_readInts.f kj2 (([t332, t330] : List ByteArray))).bind fun bt336 => (if bt336.2 = true then (if 0 < (bt336.1.length : Int) then (if 1 < (bt336.1.length : Int) then (if 1 ≤ (t325.length : Int) then ((some (t325.drop 1 : List ByteArray)).bind fun y343 => (impl_ReadBulletin.l0 kj2 a0 y343 (y343.length : Int) 0 (rd bt336.1 0) (rd bt336.1 1) ([] : List (S25)))) else (none)) else (none)) else (none)) else (some (0, 0, ([] : List (S25)), false)))) = some (r1, r2, r3, r4) := H
   have A14 := Aside0.mk A140
   clear A140
   obtain ⟨y333, hy333⟩ : ∃ y_ : List ByteArray, y_ = (([t332, t330] : List ByteArray)) := ⟨_, rfl⟩
   replace H : ((impl_readInts.f kj2 y333).bind fun bt336 => (if bt336.2 = true then (if 0 < (bt336.1.length : Int) then (if 1 < (bt336.1.length : Int) then (if 1 ≤ (t325.length : Int) then ((some (t325.drop 1 : List ByteArray)).bind fun y343 => (impl_ReadBulletin.l0 kj2 a0 y343 (y343.length : Int) 0 (rd bt336.1 0) (rd bt336.1 1) ([] : List (S25)))) else (none)) else (none)) else (none)) else (some (0, 0, ([] : List (S25)), false)))) = some (r1, r2, r3, r4) := by first | (rw [hy333]; with_reducible exact H) | (have H2_ := (Option.bind_some _ _).symm.trans H; rw [hy333]; with_reducible exact H2_) | (have H2_ := (Option.bind_some _ _).symm.trans H; with_reducible exact H2_) | with_reducible exact H | (rw [hy333]; exact H) | exact H
   have Ny333 := Aside0.mk hy333
   clear hy333
   replace H := Option.bind_eq_some_iff.mp H
   obtain ⟨⟨t336, t337⟩, A150, H⟩ := H
   replace H : (if t337 = true then (if 0 < (t336.length : Int) then (if 1 < (t336.length : Int) then (if 1 ≤ (t325.length : Int) then ((some (t325.drop 1 : List ByteArray)).bind fun y343 => (impl_ReadBulletin.l0 kj2 a0 y343 (y343.length : Int) 0 (rd t336 0) (rd t336 1) ([] : List (S25)))) else (none)) else (none)) else (none)) else (some (0, 0, ([] : List (S25)), false))) = some (r1, r2, r3, r4) := H
   have A15 := Aside0.mk A150
   clear A150
   by_cases c16 : t337 = true
   rotate_left
   ·replace c16 := Bool.eq_false_iff.mpr c16
    subst c16
    rw [if_neg (show ¬ (false = true) by decide)] at H
    focus
     simp only [Option.some.injEq, Prod.mk.injEq] at H
     obtain ⟨rfl, rfl, rfl, rfl⟩ := H
     go_wp2_with (first | ((with_reducible refine gate_callee (f := 60) rfl ?_); refine goesL_ (some 30) rfl rfl Tryz.func60 (by kernel_rfl) rfl #[.string t321, .string (⟨#[10]⟩ : ByteArray)] rfl zlx ?_; (with_reducible refine (strings_TrimSuffix.calls t321 (⟨#[10]⟩ : ByteArray) t324 _ A10.out).mono ?_); rintro e w' ⟨rfl, ⟨nd, rfl⟩⟩; refine ⟨_, rfl, ?_⟩; (try (rw [drewN_self wc]; generalize hq_ : World.drewN wc _ = wc; replace BK320 : Aside0 (wc.heap[gb320]? = some (.cells #[.int .i64 0, .int .i64 0, .slice none 0 0] 34 (0, 0))) := ⟨by rw [← hq_]; exact (zbx BK320.out)⟩; replace HB : Aside0 (Below w.heap.size w wc) := ⟨by rw [← hq_]; exact (zBy HB.out GE320.out)⟩; clear hq_))) | ((with_reducible refine gate_callee (f := 45) rfl ?_); refine goesL_ (some 31) rfl rfl Tryz.func45 (by kernel_rfl) rfl #[.string t324, .string (⟨#[10]⟩ : ByteArray)] rfl zlx ?_; (with_reducible refine (strings_Split.calls t324 (⟨#[10]⟩ : ByteArray) t325 _ ?sideL A11.out).mono ?_); (case sideL => exact Laid.below HL.out (zBy HB.out GE320.out)); rintro e w81 ⟨v326, rfl, ho0, hb⟩; refine ⟨_, rfl, ?_⟩; have HO327 := Aside0.mk (Kd.R_lower ho0 (below_size (zBy HB.out GE320.out))); replace BK320 := zbl BK320.out hb; replace HB := Aside0.mk (below_step (zBy HB.out GE320.out) hb); (try clear hb); (try clear ho0); obtain ⟨Ao82, co82, eo82⟩ := Kd.R_slice HO327.out; subst eo82; have p328 : 0 ≤ (0 : Int) := (by omega); have q328 : 0 < (t325.length : Int) := of_decide_eq_true zax; obtain ⟨ad328, e328, hx328_0⟩ := Kd.at_string (Kd.R_reads' HO327.out).2.2 0 p328 q328; cases e328; have qi328 : (0 < t325.length) = True := eq_true (by omega); (try rw [show ((0 : Int)).toNat = 0 from rfl] at hx328_0); (try rw [Addr.add_zero'] at hx328_0); replace p328 := eq_true p328; replace q328 := eq_true q328) | ((with_reducible refine gate_callee (f := 38) rfl ?_); refine goesL_ (some 36) rfl rfl Tryz.func38 (by kernel_rfl) rfl #[.string (rdOf ByteArray.empty t325 0), .string (⟨#[32, 97, 116, 32, 104, 111, 117, 114, 32]⟩ : ByteArray)] rfl zlx ?_; (with_reducible refine (strings_Cut.calls (rdOf ByteArray.empty t325 0) (⟨#[32, 97, 116, 32, 104, 111, 117, 114, 32]⟩ : ByteArray) t329 t330 t331 _ ?sideL A13.out).mono ?_); (case sideL => exact Laid.below HL.out (zBy HB.out GE320.out)); rintro e w' ⟨rfl, ⟨nd, rfl⟩⟩; refine ⟨_, rfl, ?_⟩; (try (rw [drewN_self w81]; generalize hq_ : World.drewN w81 _ = w81; replace HO327 : Aside0 (Kd.R Kd.string 9 w81 w.heap.size (fun _ => True) (.slice (some ad328) t325.length co82) t325) := ⟨by rw [← hq_]; exact (zRx HO327.out)⟩; replace BK320 : Aside0 (w81.heap[gb320]? = some (.cells #[.int .i64 0, .int .i64 0, .slice none 0 0] 34 (0, 0))) := ⟨by rw [← hq_]; exact (zbx BK320.out)⟩; replace HB : Aside0 (Below w.heap.size w w81) := ⟨by rw [← hq_]; exact (zBy HB.out GE320.out)⟩; clear hq_))) | ((with_reducible refine gate_callee (f := 61) rfl ?_); refine goesL_ (some 42) rfl rfl Tryz.func61 (by kernel_rfl) rfl #[.string t329, .string (⟨#[98, 117, 108, 108, 101, 116, 105, 110, 32]⟩ : ByteArray)] rfl zlx ?_; (with_reducible refine (strings_TrimPrefix.calls t329 (⟨#[98, 117, 108, 108, 101, 116, 105, 110, 32]⟩ : ByteArray) t332 _ A14.out).mono ?_); rintro e w' ⟨rfl, ⟨nd, rfl⟩⟩; refine ⟨_, rfl, ?_⟩; (try (rw [drewN_self w81]; generalize hq_ : World.drewN w81 _ = w81; replace HO327 : Aside0 (Kd.R Kd.string 9 w81 w.heap.size (fun _ => True) (.slice (some ad328) t325.length co82) t325) := ⟨by rw [← hq_]; exact (zRx HO327.out)⟩; replace BK320 : Aside0 (w81.heap[gb320]? = some (.cells #[.int .i64 0, .int .i64 0, .slice none 0 0] 34 (0, 0))) := ⟨by rw [← hq_]; exact (zbx BK320.out)⟩; replace HB : Aside0 (Below w.heap.size w w81) := ⟨by rw [← hq_]; exact (zBy HB.out GE320.out)⟩; clear hq_))) | ((with_reducible refine gate_dst (N := 44) rfl ?_); refine Kd.R_lit Kd.string _ 9 ?hg (N := 44) ?hd (xs := ([t332, t330] : List ByteArray)) (inner := [.string t332, .string t330]) (ok := fun _ => True) (okp := fun _ => True) ?hr ?hp (fun _ hk => hk) trivial (Below.refl _ _) (Nat.le_refl _) (by simp) ?_; (case hd => rfl); (case hg => rfl); (case hr => exact zsx); (case hp => exact (Reps.one (show Kd.M Kd.string _ _ _ t332 [.string t332] from rfl) (Reps.one (show Kd.M Kd.string _ _ _ t330 [.string t330] from rfl) (Reps.none _ _)))); intro v334 w83 ho84 hb hg_ hnew_; clear hg_ hnew_; (first | rw [← Ny333.out] at ho84 | (simp only [Int.reduceToNat] at ho84; rw [← Ny333.out] at ho84)); have HO335 := Aside0.mk (Kd.R_lower (Kd.R_new' ho84 (Kd.R_lt (zRx HO327.out))) (below_size (zBy HB.out GE320.out))); replace HO327 := Aside0.mk (Kd.R_elder' (zRx HO327.out) (Kd.R_base ho84) hb); replace BK320 := zbl BK320.out hb; replace HB := Aside0.mk (below_step (zBy HB.out GE320.out) hb); clear hb ho84; obtain ⟨Ao85, co85, eo85⟩ := Kd.R_slice HO335.out; subst eo85) | ((with_reducible refine gate_callee (f := 39) rfl ?_); refine goesL_ (some 45) rfl rfl Tryz.func39 (by kernel_rfl) rfl #[.slice Ao85 y333.length co85] rfl zlx ?_; (with_reducible refine (impl_readInts.calls kj2 _ _ y333 t336 false _ ?side1 ?side2 ?sideL A15.out).mono ?_); (case sideL => exact Laid.below HL.out (zBy HB.out GE320.out)); (case side1 => exact zCx (Kd.R_reads' HO335.out).2.2); (case side2 => exact (Kd.R_reads' HO335.out).2.1); rintro e w86 ⟨v338, rfl, ho0, hb⟩; refine ⟨_, rfl, ?_⟩; replace HO327 := Aside0.mk (Kd.R_below (zRx HO327.out) hb); replace HO335 := Aside0.mk (Kd.R_below (zRx HO335.out) hb); have HO339 := Aside0.mk (Kd.R_lower ho0 (below_size (zBy HB.out GE320.out))); replace BK320 := zbl BK320.out hb; replace HB := Aside0.mk (below_step (zBy HB.out GE320.out) hb); (try clear hb); (try clear ho0); have hcz87_0 : w86.cell? ⟨gb320, 0, none⟩ = some (.int .i64 0) := (blk_cell BK320.out 0).trans rfl; have hcz87_1 : w86.cell? ⟨gb320, 1, none⟩ = some (.int .i64 0) := (blk_cell BK320.out 1).trans rfl; have hcz87_2 : w86.cell? ⟨gb320, 2, none⟩ = some (.slice none 0 0) := (blk_cell BK320.out 2).trans rfl; have hfz87_0 := blk_frozen BK320.out 0; have hfz87_1 := blk_frozen BK320.out 1; have hfz87_2 := blk_frozen BK320.out 2))
     refine bodyPost_ret (results_ct rfl _ _ gb320 34 #[.int .i64 0, .int .i64 0, .slice none 0 0] (0, 0) _ rfl (zbp BK320.out) Tryz.underlying34 rfl (by kernel_rfl)) rfl ?_
     exact ⟨_, by first | rfl | (simp [errW_none, errW_some] <;> rfl) | (simp [*, errW_none, errW_some] <;> rfl), by first | exact Kd.R_nil _ _ _ _ _ | exact Kd.N_nil _ _ _ _ _ | exact Kd.V_nil _ _ _ _ _ | exact Kd.Q_nil _ _ _ _ _ | exact Kd.S_nil _ _ _ _ _, by exact zBy HB.out GE320.out⟩
   subst c16
   rw [if_pos rfl] at H
   obtain ⟨c17, H⟩ := zin H
   have c17b0 : decide (0 < (t336.length : Int)) = true := decide_eq_true c17
   have c17b1 : decide (0 < t336.length) = true := decide_eq_true (by omega)
   clear c17
   obtain ⟨c18, H⟩ := zin H
   have c18b0 : decide (1 < (t336.length : Int)) = true := decide_eq_true c18
   have c18b1 : decide (1 < t336.length) = true := decide_eq_true (by omega)
   clear c18
   obtain ⟨c19, H⟩ := zin H
   have c19b0 := eq_true c19
   have c19b1 : decide (1 ≤ (t325.length : Int)) = true := decide_eq_true c19
   clear c19
   obtain ⟨y343, hy343⟩ : ∃ y_ : List ByteArray, y_ = (t325.drop 1) := ⟨_, rfl⟩
   replace H : (impl_ReadBulletin.l0 kj2 a0 y343 (y343.length : Int) 0 (rd t336 0) (rd t336 1) ([] : List (S25))) = some (r1, r2, r3, r4) := by first | (rw [hy343]; with_reducible exact H) | (have H2_ := (Option.bind_some _ _).symm.trans H; rw [hy343]; with_reducible exact H2_) | (have H2_ := (Option.bind_some _ _).symm.trans H; with_reducible exact H2_) | with_reducible exact H | (rw [hy343]; exact H) | exact H
   have Ny343 := Aside0.mk hy343
   clear hy343
   have H' := Aside0.mk H
   clear H
   try go_wp2_with (first | ((with_reducible refine gate_callee (f := 60) rfl ?_); refine goesL_ (some 30) rfl rfl Tryz.func60 (by kernel_rfl) rfl #[.string t321, .string (⟨#[10]⟩ : ByteArray)] rfl zlx ?_; (with_reducible refine (strings_TrimSuffix.calls t321 (⟨#[10]⟩ : ByteArray) t324 _ A10.out).mono ?_); rintro e w' ⟨rfl, ⟨nd, rfl⟩⟩; refine ⟨_, rfl, ?_⟩; (try (rw [drewN_self wc]; generalize hq_ : World.drewN wc _ = wc; replace BK320 : Aside0 (wc.heap[gb320]? = some (.cells #[.int .i64 0, .int .i64 0, .slice none 0 0] 34 (0, 0))) := ⟨by rw [← hq_]; exact (zbx BK320.out)⟩; replace HB : Aside0 (Below w.heap.size w wc) := ⟨by rw [← hq_]; exact (zBy HB.out GE320.out)⟩; clear hq_))) | ((with_reducible refine gate_callee (f := 45) rfl ?_); refine goesL_ (some 31) rfl rfl Tryz.func45 (by kernel_rfl) rfl #[.string t324, .string (⟨#[10]⟩ : ByteArray)] rfl zlx ?_; (with_reducible refine (strings_Split.calls t324 (⟨#[10]⟩ : ByteArray) t325 _ ?sideL A11.out).mono ?_); (case sideL => exact Laid.below HL.out (zBy HB.out GE320.out)); rintro e w20 ⟨v326, rfl, ho0, hb⟩; refine ⟨_, rfl, ?_⟩; have HO327 := Aside0.mk (Kd.R_lower ho0 (below_size (zBy HB.out GE320.out))); replace BK320 := zbl BK320.out hb; replace HB := Aside0.mk (below_step (zBy HB.out GE320.out) hb); (try clear hb); (try clear ho0); obtain ⟨Ao21, co21, eo21⟩ := Kd.R_slice HO327.out; subst eo21; have p328 : 0 ≤ (0 : Int) := (by omega); have q328 : 0 < (t325.length : Int) := of_decide_eq_true zax; obtain ⟨ad328, e328, hx328_0⟩ := Kd.at_string (Kd.R_reads' HO327.out).2.2 0 p328 q328; cases e328; have qi328 : (0 < t325.length) = True := eq_true (by omega); (try rw [show ((0 : Int)).toNat = 0 from rfl] at hx328_0); (try rw [Addr.add_zero'] at hx328_0); replace p328 := eq_true p328; replace q328 := eq_true q328) | ((with_reducible refine gate_callee (f := 38) rfl ?_); refine goesL_ (some 36) rfl rfl Tryz.func38 (by kernel_rfl) rfl #[.string (rdOf ByteArray.empty t325 0), .string (⟨#[32, 97, 116, 32, 104, 111, 117, 114, 32]⟩ : ByteArray)] rfl zlx ?_; (with_reducible refine (strings_Cut.calls (rdOf ByteArray.empty t325 0) (⟨#[32, 97, 116, 32, 104, 111, 117, 114, 32]⟩ : ByteArray) t329 t330 t331 _ ?sideL A13.out).mono ?_); (case sideL => exact Laid.below HL.out (zBy HB.out GE320.out)); rintro e w' ⟨rfl, ⟨nd, rfl⟩⟩; refine ⟨_, rfl, ?_⟩; (try (rw [drewN_self w20]; generalize hq_ : World.drewN w20 _ = w20; replace HO327 : Aside0 (Kd.R Kd.string 9 w20 w.heap.size (fun _ => True) (.slice (some ad328) t325.length co21) t325) := ⟨by rw [← hq_]; exact (zRx HO327.out)⟩; replace BK320 : Aside0 (w20.heap[gb320]? = some (.cells #[.int .i64 0, .int .i64 0, .slice none 0 0] 34 (0, 0))) := ⟨by rw [← hq_]; exact (zbx BK320.out)⟩; replace HB : Aside0 (Below w.heap.size w w20) := ⟨by rw [← hq_]; exact (zBy HB.out GE320.out)⟩; clear hq_))) | ((with_reducible refine gate_callee (f := 61) rfl ?_); refine goesL_ (some 42) rfl rfl Tryz.func61 (by kernel_rfl) rfl #[.string t329, .string (⟨#[98, 117, 108, 108, 101, 116, 105, 110, 32]⟩ : ByteArray)] rfl zlx ?_; (with_reducible refine (strings_TrimPrefix.calls t329 (⟨#[98, 117, 108, 108, 101, 116, 105, 110, 32]⟩ : ByteArray) t332 _ A14.out).mono ?_); rintro e w' ⟨rfl, ⟨nd, rfl⟩⟩; refine ⟨_, rfl, ?_⟩; (try (rw [drewN_self w20]; generalize hq_ : World.drewN w20 _ = w20; replace HO327 : Aside0 (Kd.R Kd.string 9 w20 w.heap.size (fun _ => True) (.slice (some ad328) t325.length co21) t325) := ⟨by rw [← hq_]; exact (zRx HO327.out)⟩; replace BK320 : Aside0 (w20.heap[gb320]? = some (.cells #[.int .i64 0, .int .i64 0, .slice none 0 0] 34 (0, 0))) := ⟨by rw [← hq_]; exact (zbx BK320.out)⟩; replace HB : Aside0 (Below w.heap.size w w20) := ⟨by rw [← hq_]; exact (zBy HB.out GE320.out)⟩; clear hq_))) | ((with_reducible refine gate_dst (N := 44) rfl ?_); refine Kd.R_lit Kd.string _ 9 ?hg (N := 44) ?hd (xs := ([t332, t330] : List ByteArray)) (inner := [.string t332, .string t330]) (ok := fun _ => True) (okp := fun _ => True) ?hr ?hp (fun _ hk => hk) trivial (Below.refl _ _) (Nat.le_refl _) (by simp) ?_; (case hd => rfl); (case hg => rfl); (case hr => exact zsx); (case hp => exact (Reps.one (show Kd.M Kd.string _ _ _ t332 [.string t332] from rfl) (Reps.one (show Kd.M Kd.string _ _ _ t330 [.string t330] from rfl) (Reps.none _ _)))); intro v334 w22 ho23 hb hg_ hnew_; clear hg_ hnew_; (first | rw [← Ny333.out] at ho23 | (simp only [Int.reduceToNat] at ho23; rw [← Ny333.out] at ho23)); have HO335 := Aside0.mk (Kd.R_lower (Kd.R_new' ho23 (Kd.R_lt (zRx HO327.out))) (below_size (zBy HB.out GE320.out))); replace HO327 := Aside0.mk (Kd.R_elder' (zRx HO327.out) (Kd.R_base ho23) hb); replace BK320 := zbl BK320.out hb; replace HB := Aside0.mk (below_step (zBy HB.out GE320.out) hb); clear hb ho23; obtain ⟨Ao24, co24, eo24⟩ := Kd.R_slice HO335.out; subst eo24) | ((with_reducible refine gate_callee (f := 39) rfl ?_); refine goesL_ (some 45) rfl rfl Tryz.func39 (by kernel_rfl) rfl #[.slice Ao24 y333.length co24] rfl zlx ?_; (with_reducible refine (impl_readInts.calls kj2 _ _ y333 t336 true _ ?side1 ?side2 ?sideL A15.out).mono ?_); (case sideL => exact Laid.below HL.out (zBy HB.out GE320.out)); (case side1 => exact zCx (Kd.R_reads' HO335.out).2.2); (case side2 => exact (Kd.R_reads' HO335.out).2.1); rintro e w25 ⟨v338, rfl, ho0, hb⟩; refine ⟨_, rfl, ?_⟩; replace HO327 := Aside0.mk (Kd.R_below (zRx HO327.out) hb); replace HO335 := Aside0.mk (Kd.R_below (zRx HO335.out) hb); have HO339 := Aside0.mk (Kd.R_lower ho0 (below_size (zBy HB.out GE320.out))); replace BK320 := zbl BK320.out hb; replace HB := Aside0.mk (below_step (zBy HB.out GE320.out) hb); (try clear hb); (try clear hk); (try clear ho0)))
   replace HO327 := Aside0.mk (Kd.R_drew HO327.out)
   replace HO335 := Aside0.mk (Kd.R_drew HO335.out)
   replace HO339 := Aside0.mk (Kd.R_drew HO339.out)
   replace BK320 := Aside0.mk (blk_drew BK320.out)
   replace HB := Aside0.mk (below_drew1 HB.out)
   obtain ⟨Ao27, co27, eo27⟩ := Kd.R_slice HO339.out
   (first | subst eo27 | (injection eo27 with f1_ f2_ f3_; have f4_ := f1_.symm; have f5_ := f3_.symm; clear f1_ f2_ f3_; subst f4_; subst f5_))
   have p340 : 0 ≤ (0 : Int) := (by omega)
   have q340 : 0 < (t336.length : Int) := of_decide_eq_true zax
   obtain ⟨ad340, e340, hx340_0⟩ := Kd.at_int (Kd.R_reads' HO339.out).2.2 0 p340 q340
   cases e340
   have qi340 : (0 < t336.length) = True := eq_true (by omega)
   (try rw [show ((0 : Int)).toNat = 0 from rfl] at hx340_0)
   (try rw [Addr.add_zero'] at hx340_0)
   replace p340 := eq_true p340
   replace q340 := eq_true q340
   have p341 : 0 ≤ (1 : Int) := (by omega)
   have q341 : 1 < (t336.length : Int) := of_decide_eq_true zax
   obtain ⟨ad341, e341, hx341_0⟩ := Kd.at_int (Kd.R_reads' HO339.out).2.2 1 p341 q341
   obtain rfl : ad340 = ad341 := (by injection e341)
   (try simp only [show (1 : Int).toNat = 1 from rfl, Nat.reduceMul, Nat.reduceEqDiff, Go.Addr.add, ↓reduceIte] at hx341_0)
   have qi341 : (1 < t336.length) = True := eq_true (by omega)
   (try rw [show ((1 : Int)).toNat = 1 from rfl] at hx341_0)
   replace p341 := eq_true p341
   replace q341 := eq_true q341
   refine start_ (n := 9) (S := fun w' => w'.cell? ad340 = some (.int .i64 (rd t336 0)) ∧ w'.cell? ⟨ad340.block, ad340.off + 1, none⟩ = some (.int .i64 (rd t336 1))) (ds := []) #[F,F,F,F,F,F,F,F,F] (by kernel_rfl) rfl rfl ⟨hx340_0, hx341_0⟩ (fun hHeld => ?_); refine with_tabW impl_ReadBulletin.tab9 impl_ReadBulletin.bits9 (fun HT_ HW_ => ?_)
   generalize w25.drew = w26 at HO327 HO335 HO339 BK320 HB hx340_0 hx341_0 hHeld ⊢
   refine zpu 0 51 #[T,F,F,F,F,F,F,F,F] HT_.out ?_
   refine zpu 1 52 #[T,T,F,F,F,F,F,F,F] HT_.out ?_
   refine zpu 3 54 #[T,T,F,T,F,F,F,F,F] HT_.out ?_
   refine zpu 4 55 #[T,T,F,T,T,F,F,F,F] HT_.out ?_
   refine take_ (i := 2) (N := some 53) (v := ?_) (a' := ?_) #[T,T,T,T,T,F,F,F,F] rfl rfl (take_ofW HT_.out HW_.out (by kernel_rfl)) (fun _ _ _ h => h) (Or.inl ⟨by rfl, ?_⟩) hHeld ?_ ?_
   rotate_left
   ·rintro w' ⟨s0, s1⟩
    go_simp
    with_reducible rfl
   rotate_left
   ·exact zpx
   refine take_ (i := 5) (N := some 56) (v := ?_) (a' := ?_) #[T,T,T,T,T,T,F,F,F] rfl rfl (take_ofW HT_.out HW_.out (by kernel_rfl)) (fun _ _ _ h => h) (Or.inl ⟨by rfl, ?_⟩) hHeld ?_ ?_
   rotate_left
   ·rintro w' ⟨s0, s1⟩
    go_simp
    with_reducible rfl
   rotate_left
   ·exact zpx
   refine zpu 6 57 #[T,T,T,T,T,T,T,F,F] HT_.out ?_
   refine one_ (i := 7) (N := some 11) #[T,T,T,T,T,T,T,T,F] rfl rfl (one_of HT_.out (by kernel_rfl)) (by decide) (fun K hK => ?_)
   refine box_step ?hg (N := 11) ?hd (cs := #[.int .i64 0, .int .i64 0, .slice none 0 0]) (t := 34) ?hr ?_; (case hd => rfl); (case hg => rfl); (case hr => exact zsx)
   intro gb342 hg w28 hbox hb
   have HS0_ := (hb.cell (World.block_lt_of_cell? _ _ (hHeld.1))).trans (hHeld.1)
   have HS1_ := (hb.cell (World.block_lt_of_cell? _ _ (hHeld.2))).trans (hHeld.2)
   replace HO327 := Aside0.mk (Kd.R_below (zRx HO327.out) hb)
   replace HO335 := Aside0.mk (Kd.R_below (zRx HO335.out) hb)
   replace HO339 := Aside0.mk (Kd.R_below (zRx HO339.out) hb)
   have BK342 := Aside0.mk (hbox)
   have GW342 := zns hg HB.out
   have GE342 := zns hg HB.out
   replace HB := Aside0.mk (below_step (zBy HB.out GE320.out) hb)
   have NB320_342 := znl hg BK320.out
   have NB342_320 := zng hg BK320.out
   replace BK320 := zbl BK320.out hb
   clear hb hbox hg
   refine hK.out _ _ ⟨HS0_, HS1_⟩ (fun hHeld => ?_)
   clear hK K
   refine norm_ (a' := ?_) ?_ ?_
   rotate_left
   ·show Act.put _ (some 11) _ = _
    simp only [Act.put, List.setIfInBounds_toArray, List.set_cons_zero, List.set_cons_succ, i64_w, i32_w]
    rfl
   refine one_ (i := 8) (N := none) #[T,T,T,T,T,T,T,T,T] rfl rfl (one_of HT_.out (by kernel_rfl)) (by decide) (fun K hK => ?_)
   have hs29 : w28.cell? ⟨gb342, 0, none⟩ = some (.int .i64 0) := (blk_cell BK342.out 0).trans rfl
   have hfs29 := blk_frozen BK342.out 0
   have hns29_0 := NB320_342.out
   have hms29_0 := NB342_320.out
   have hs30 : w28.cell? ⟨gb342, 1, none⟩ = some (.int .i64 0) := (blk_cell BK342.out 1).trans rfl
   have hfs30 := blk_frozen BK342.out 1
   have hns30_0 := NB320_342.out
   have hms30_0 := NB342_320.out
   have hs31 : w28.cell? ⟨gb342, 2, none⟩ = some (.slice none 0 0) := (blk_cell BK342.out 2).trans rfl
   have hfs31 := blk_frozen BK342.out 2
   have hns31_0 := NB320_342.out
   have hms31_0 := NB342_320.out
   refine skip_ (w1 := ?_) (by rfl) rfl ?_ ?_
   rotate_left
   ·go_simp
    rfl
   have hne_ : ad340.block ≠ gb342 := Kd.own_blk (Kd.R_ne HO339.out BK342.out (by decide))
   refine hK.out _ _ ⟨(by (repeat (with_reducible first | refine (cell_far (p := ⟨gb342, _, none⟩) (a := ⟨ad340.block, _, none⟩) hne_ _).trans ?_ | refine (cell_far (p := ⟨gb342, _, none⟩) (a := ad340) hne_ _).trans ?_)); with_reducible exact hHeld.1), (by (repeat (with_reducible first | refine (cell_far (p := ⟨gb342, _, none⟩) (a := ⟨ad340.block, _, none⟩) hne_ _).trans ?_ | refine (cell_far (p := ⟨gb342, _, none⟩) (a := ad340) hne_ _).trans ?_)); with_reducible exact hHeld.2)⟩ (fun hHeld => ?_)
   clear hK K
   refine done_ (done_of HT_.out (by kernel_rfl)) ?_
   have n0_ : Aside0 (Kd.R Kd.string 9 (((w28.setCell ⟨gb342, 0, none⟩ (.int .i64 (rd t336 0))).setCell ⟨gb342, 1, none⟩ (.int .i64 (rd t336 1))).setCell ⟨gb342, 2, none⟩ (.slice none 0 0)) w.heap.size (fun k_ => some k_ ≠ (.slice Ao24 y333.length co24 : Value).ownBlock) (.slice (some ad328) t325.length co21) t325) := ⟨by refine zDR ?_; exact Kd.R_mono (Kd.R_far (p := ⟨gb342, 2, none⟩) (Kd.R_far (p := ⟨gb342, 1, none⟩) (Kd.R_far (p := ⟨gb342, 0, none⟩) (Kd.R_types HO327.out BK342.out (by decide)) (fun _ hk => hk.2) (.int .i64 (rd t336 0))) (fun _ hk => hk.2) (.int .i64 (rd t336 1))) (fun _ hk => hk.2) (.slice none 0 0)) (fun _ hk => hk.1.2)⟩
   have n1_ : Aside0 (Kd.R Kd.string 9 (((w28.setCell ⟨gb342, 0, none⟩ (.int .i64 (rd t336 0))).setCell ⟨gb342, 1, none⟩ (.int .i64 (rd t336 1))).setCell ⟨gb342, 2, none⟩ (.slice none 0 0)) w.heap.size (fun k_ => some k_ ≠ (.slice (some ad328) t325.length co21 : Value).ownBlock) (.slice Ao24 y333.length co24) y333) := ⟨by refine zDR ?_; exact Kd.R_mono (Kd.R_far (p := ⟨gb342, 2, none⟩) (Kd.R_far (p := ⟨gb342, 1, none⟩) (Kd.R_far (p := ⟨gb342, 0, none⟩) (Kd.R_types HO335.out BK342.out (by decide)) (fun _ hk => hk.2) (.int .i64 (rd t336 0))) (fun _ hk => hk.2) (.int .i64 (rd t336 1))) (fun _ hk => hk.2) (.slice none 0 0)) (fun _ hk => hk.1.2)⟩
   have n2_ : Aside0 (Kd.R (Kd.int .i64) 3 (((w28.setCell ⟨gb342, 0, none⟩ (.int .i64 (rd t336 0))).setCell ⟨gb342, 1, none⟩ (.int .i64 (rd t336 1))).setCell ⟨gb342, 2, none⟩ (.slice none 0 0)) w.heap.size (fun _ => True) (.slice (some ad340) t336.length co27) t336) := ⟨by refine zDR ?_; exact Kd.R_mono (Kd.R_far (p := ⟨gb342, 2, none⟩) (Kd.R_far (p := ⟨gb342, 1, none⟩) (Kd.R_far (p := ⟨gb342, 0, none⟩) (Kd.R_types HO339.out BK342.out (by decide)) (fun _ hk => hk.2) (.int .i64 (rd t336 0))) (fun _ hk => hk.2) (.int .i64 (rd t336 1))) (fun _ hk => hk.2) (.slice none 0 0)) (fun _ hk => trivial)⟩
   have n3_ : Aside0 ((((w28.setCell ⟨gb342, 0, none⟩ (.int .i64 (rd t336 0))).setCell ⟨gb342, 1, none⟩ (.int .i64 (rd t336 1))).setCell ⟨gb342, 2, none⟩ (.slice none 0 0)).heap[gb320]? = some (.cells #[.int .i64 0, .int .i64 0, .slice none 0 0] 34 (0, 0))) := ⟨zbp BK320.out⟩
   have n4_ : Aside0 ((((w28.setCell ⟨gb342, 0, none⟩ (.int .i64 (rd t336 0))).setCell ⟨gb342, 1, none⟩ (.int .i64 (rd t336 1))).setCell ⟨gb342, 2, none⟩ (.slice none 0 0)).heap[gb342]? = some (.cells #[.int .i64 (rd t336 0), .int .i64 (rd t336 1), .slice none 0 0] 34 (0, 0))) := ⟨zbp BK342.out⟩
   have n5_ : Aside0 (Below w.heap.size w (((w28.setCell ⟨gb342, 0, none⟩ (.int .i64 (rd t336 0))).setCell ⟨gb342, 1, none⟩ (.int .i64 (rd t336 1))).setCell ⟨gb342, 2, none⟩ (.slice none 0 0))) := ⟨by exact zBz HB.out GE320.out GE342.out⟩
   (try clear HO327)
   (try clear HO335)
   (try clear HO339)
   (try clear BK320)
   (try clear BK342)
   (try clear HB)
   generalize (((w28.setCell ⟨gb342, 0, none⟩ (.int .i64 (rd t336 0))).setCell ⟨gb342, 1, none⟩ (.int .i64 (rd t336 1))).setCell ⟨gb342, 2, none⟩ (.slice none 0 0)) = w32 at n0_ n1_ n2_ n3_ n4_ n5_ ⊢
   have HO327 := n0_
   have HO335 := n1_
   have HO339 := n2_
   have BK320 := n3_
   have BK342 := n4_
   have HB := n5_
   clear n0_ n1_ n2_ n3_ n4_ n5_
   have q33 : (1 : Int) ≤ ((t325.length : Int) : Int) := of_decide_eq_true zax
   obtain ⟨i033, hi033, _, hsz33, _⟩ := info_parts info9
   have hroom33 : t325.length ≤ co21 := (Kd.R_reads' HO327.out).2.1
   have hC33 : Kd.C Kd.string _ (some ad328) t325.length t325 := (Kd.R_reads' HO327.out).2.2
   have hcut33 := cut_from (P := Tryz.prog) 60 9 .i64 Tryz.underlying60 hi033 1 hsz33 (some ad328) t325.length co21 1 (by omega) q33
   have hr33 := Kd.C_drop (m := (1 : Int).toNat) (c := co21) hC33 (by omega) hroom33
   obtain ⟨A33, hA33⟩ : ∃ A1, A1 = (if co21 = (1 : Int).toNat then (some ad328) else ((some ad328) : Option Addr).map (·.add ((1 : Int).toNat * 1))) := ⟨_, rfl⟩
   obtain ⟨c33, hc33⟩ : ∃ c1, c1 = co21 - (1 : Int).toNat := ⟨_, rfl⟩
   have hy33 : y343.length = t325.length - (1 : Int).toNat := (by rw [Ny343.out, List.length_drop] <;> omega)
   rw [show (t325).drop (1 : Int).toNat = y343 from Ny343.out.symm] at hr33
   replace hr33 : Kd.C Kd.string _ A33 y343.length y343 := (by rw [hA33]; exact hr33)
   rw [← hy33, ← hA33, ← hc33] at hcut33
   have HR346 := Aside0.mk hr33
   have HC346 := Aside0.mk (show y343.length ≤ c33 from by rw [hy33, hc33]; exact Nat.sub_le_sub_right hroom33 _)
   clear hr33 hC33 hroom33 hi033 hsz33 hc33
   have KY33 := Aside0.mk hy33
   have KA33 := Aside0.mk hA33
   clear hy33 hA33
   have KL33 := Aside0.mk (show 1 ≤ t325.length from by omega)
   replace q33 := eq_true q33
   try go_wp2
   go_loopg [61] kj2 (fun kq v61 w' => ∃ (x61_2 : Int) (x321000_2 : Int) (x321001_2 : Int) (x343002_2 : List (S25)) (u343002 : Value), v61 = .int .i64 x61_2 ∧ Aside0 (impl_ReadBulletin.l0 kq a0 y343 (y343.length : Int) x61_2 (rd t336 0) (rd t336 1) x343002_2 = some (r1, r2, r3, r4)) ∧ Aside0 (kq ≤ kj2) ∧ Aside0 (Kd.R Kd.string 9 w' w.heap.size (fun _ => True) (.slice (some ad328) t325.length co21) t325) ∧ Aside0 (Kd.R k25 25 w' w.heap.size (fun _ => True) u343002 x343002_2) ∧ Aside0 (w'.heap[gb320]? = some (.cells #[.int .i64 x321000_2, .int .i64 x321001_2, (.slice none 0 0)] 34 (0, 0))) ∧ Aside0 (w'.heap[gb342]? = some (.cells #[.int .i64 (rd t336 0), .int .i64 (rd t336 1), u343002] 34 (0, 0))) ∧ Aside0 (Below w.heap.size w w'))
   case atStart => exact ⟨(0), (0), (0), (([] : List (S25))), (.slice none 0 0), zrx, H', ⟨Nat.le_refl _⟩, ⟨by refine zDR ?_; exact Kd.R_mono HO327.out (fun _ hk => trivial)⟩, ⟨by first | exact Kd.R_nil _ _ _ _ _ | exact Kd.N_nil _ _ _ _ _ | exact Kd.V_nil _ _ _ _ _ | exact Kd.Q_nil _ _ _ _ _ | exact Kd.S_nil _ _ _ _ _⟩, ⟨by refine zbx ?_; exact BK320.out⟩, ⟨by refine zbx ?_; exact BK342.out⟩, ⟨by exact zBz HB.out GE320.out GE342.out⟩⟩
   case round =>
    clear H'
    try clear c1
    try clear p2
    try clear c3
    try clear p3
    try clear q3
    try clear hx3
    try clear qi3
    try clear c4
    try clear c5
    try clear c6
    try clear c8
    try clear c12
    try clear c12b0
    try clear c12b1
    try clear c16
    try clear c17
    try clear c17b0
    try clear c17b1
    try clear c18
    try clear c18b0
    try clear c18b1
    try clear c19
    try clear c19b0
    try clear c19b1
    try clear p32
    try clear q32
    try clear hx32
    try clear qi32
    try clear c33
    try clear q33
    try clear hcz9_0
    try clear hcz9_1
    try clear hcz9_2
    try clear hfz9_0
    try clear hfz9_1
    try clear hfz9_2
    try clear hx328_0
    try clear hx340_0
    try clear hx341_0
    try clear p2
    try clear p328
    try clear p340
    try clear p341
    try clear q328
    try clear q33
    try clear q340
    try clear q341
    try clear HS0_
    try clear HS1_
    try clear hs29
    try clear hfs29
    try clear hns29_0
    try clear hms29_0
    try clear hs30
    try clear hfs30
    try clear hns30_0
    try clear hms30_0
    try clear hs31
    try clear hfs31
    try clear hns31_0
    try clear hms31_0
    try clear hne_
    try clear hHeld
    obtain ⟨x61_2, x321000_2, x321001_2, x343002_2, u343002, rfl, HA, HK2, HO327, HO_343002, BK320, BK342, HB⟩ := hrel
    cases gk with
    | zero => exact absurd HA.out (by simp [impl_ReadBulletin.l0])
    | succ k2 =>
     have H := HA.out
     clear HA
     simp only [impl_ReadBulletin.l0] at H
     by_cases c34 : x61_2 < (y343.length : Int)
     rotate_left
     ·rw [if_neg c34] at H
      have c34b0 : decide (x61_2 < (y343.length : Int)) = false := decide_eq_false c34
      clear c34
      replace H := Option.bind_eq_some_iff.mp H
      obtain ⟨t359, A570, H⟩ := H
      replace H : (if t359 = true then ((impl_bulletinText.f k2 (rd t336 0) (rd t336 1) x343002_2).bind fun t360 => (if t360.toList = a0.toList then (some ((rd t336 0), (rd t336 1), x343002_2, true)) else (some (0, 0, ([] : List (S25)), false)))) else (some (0, 0, ([] : List (S25)), false))) = some (r1, r2, r3, r4) := H
      have A57 := Aside0.mk A570
      clear A570
      by_cases c58 : t359 = true
      rotate_left
      ·replace c58 := Bool.eq_false_iff.mpr c58
       subst c58
       rw [if_neg (show ¬ (false = true) by decide)] at H
       focus
        simp only [Option.some.injEq, Prod.mk.injEq] at H
        obtain ⟨rfl, rfl, rfl, rfl⟩ := H
        have hnb76 := NB342_320.out
        have hnc76 := NB320_342.out
        have hcz77_0 : wr.cell? ⟨gb342, 0, none⟩ = some (.int .i64 (rd t336 0)) := (blk_cell BK342.out 0).trans rfl
        have hcz77_1 : wr.cell? ⟨gb342, 1, none⟩ = some (.int .i64 (rd t336 1)) := (blk_cell BK342.out 1).trans rfl
        have hcz77_2 : wr.cell? ⟨gb342, 2, none⟩ = some (u343002) := (blk_cell BK342.out 2).trans rfl
        have hfz77_0 := blk_frozen BK342.out 0
        have hfz77_1 := blk_frozen BK342.out 1
        have hfz77_2 := blk_frozen BK342.out 2
        obtain ⟨Ao78, co78, eo78⟩ := Kd.R_slice HO_343002.out
        subst eo78
        go_wp2_with (first | ((with_reducible refine gate_callee (f := 24) rfl ?_); refine goesL_ (some 81) rfl rfl Tryz.func24 (by kernel_rfl) rfl #[.agg #[.int .i64 (rd t336 0), .int .i64 (rd t336 1), .slice Ao78 x343002_2.length co78]] rfl zlx ?_; (with_reducible refine (impl_IsValidBulletin.calls k2 (rd t336 0) (rd t336 1) _ _ x343002_2 false _ ?side1 ?side2 A57.out).mono ?_); (case side1 => exact zCx (Kd.R_reads' HO_343002.out).2.2); (case side2 => exact (Kd.R_reads' HO_343002.out).2.1); rintro e w79 ⟨rfl, hb⟩; refine ⟨_, rfl, ?_⟩; replace HO327 := Aside0.mk (Kd.R_below (zRx HO327.out) hb); replace HO_343002 := Aside0.mk (Kd.R_below (zRx HO_343002.out) hb); replace BK320 := zbl BK320.out hb; replace BK342 := zbl BK342.out hb; replace HB := Aside0.mk (below_step (zBz HB.out GE320.out GE342.out) hb); (try clear hb); have hcz80_0 : w79.cell? ⟨gb320, 0, none⟩ = some (.int .i64 x321000_2) := (blk_cell BK320.out 0).trans rfl; have hcz80_1 : w79.cell? ⟨gb320, 1, none⟩ = some (.int .i64 x321001_2) := (blk_cell BK320.out 1).trans rfl; have hcz80_2 : w79.cell? ⟨gb320, 2, none⟩ = some (.slice none 0 0) := (blk_cell BK320.out 2).trans rfl; have hfz80_0 := blk_frozen BK320.out 0; have hfz80_1 := blk_frozen BK320.out 1; have hfz80_2 := blk_frozen BK320.out 2))
        refine bodyPost_ret (results_ct rfl _ _ gb320 34 #[.int .i64 0, .int .i64 0, .slice none 0 0] (0, 0) _ rfl (zbp BK320.out) Tryz.underlying34 rfl (by kernel_rfl)) rfl ?_
        exact ⟨_, by first | rfl | (simp [errW_none, errW_some] <;> rfl) | (simp [*, errW_none, errW_some] <;> rfl), by first | exact Kd.R_nil _ _ _ _ _ | exact Kd.N_nil _ _ _ _ _ | exact Kd.V_nil _ _ _ _ _ | exact Kd.Q_nil _ _ _ _ _ | exact Kd.S_nil _ _ _ _ _, by exact zBz HB.out GE320.out GE342.out⟩
      subst c58
      rw [if_pos rfl] at H
      replace H := Option.bind_eq_some_iff.mp H
      obtain ⟨t360, A590, H⟩ := H
      replace H : (if t360.toList = a0.toList then (some ((rd t336 0), (rd t336 1), x343002_2, true)) else (some (0, 0, ([] : List (S25)), false))) = some (r1, r2, r3, r4) := H
      have A59 := Aside0.mk A590
      clear A590
      by_cases c60 : t360.toList = a0.toList
      rotate_left
      ·rw [if_neg c60] at H
       have c60b0 : (t360.toList == a0.toList) = false := beq_eq_false_iff_ne.mpr c60
       have c60b1 : (t360.toList != a0.toList) = true := bne_iff_ne.mpr c60
       focus
        simp only [Option.some.injEq, Prod.mk.injEq] at H
        obtain ⟨rfl, rfl, rfl, rfl⟩ := H
        have hnb69 := NB342_320.out
        have hnc69 := NB320_342.out
        have hcz70_0 : wr.cell? ⟨gb342, 0, none⟩ = some (.int .i64 (rd t336 0)) := (blk_cell BK342.out 0).trans rfl
        have hcz70_1 : wr.cell? ⟨gb342, 1, none⟩ = some (.int .i64 (rd t336 1)) := (blk_cell BK342.out 1).trans rfl
        have hcz70_2 : wr.cell? ⟨gb342, 2, none⟩ = some (u343002) := (blk_cell BK342.out 2).trans rfl
        have hfz70_0 := blk_frozen BK342.out 0
        have hfz70_1 := blk_frozen BK342.out 1
        have hfz70_2 := blk_frozen BK342.out 2
        obtain ⟨Ao71, co71, eo71⟩ := Kd.R_slice HO_343002.out
        subst eo71
        go_wp2_with (first | ((with_reducible refine gate_callee (f := 24) rfl ?_); refine goesL_ (some 81) rfl rfl Tryz.func24 (by kernel_rfl) rfl #[.agg #[.int .i64 (rd t336 0), .int .i64 (rd t336 1), .slice Ao71 x343002_2.length co71]] rfl zlx ?_; (with_reducible refine (impl_IsValidBulletin.calls k2 (rd t336 0) (rd t336 1) _ _ x343002_2 true _ ?side1 ?side2 A57.out).mono ?_); (case side1 => exact zCx (Kd.R_reads' HO_343002.out).2.2); (case side2 => exact (Kd.R_reads' HO_343002.out).2.1); rintro e w72 ⟨rfl, hb⟩; refine ⟨_, rfl, ?_⟩; replace HO327 := Aside0.mk (Kd.R_below (zRx HO327.out) hb); replace HO_343002 := Aside0.mk (Kd.R_below (zRx HO_343002.out) hb); replace BK320 := zbl BK320.out hb; replace BK342 := zbl BK342.out hb; replace HB := Aside0.mk (below_step (zBz HB.out GE320.out GE342.out) hb); (try clear hb); (try clear hb2); (try clear hk); (try clear hi); have hcz73_0 : w72.cell? ⟨gb342, 0, none⟩ = some (.int .i64 (rd t336 0)) := (blk_cell BK342.out 0).trans rfl; have hcz73_1 : w72.cell? ⟨gb342, 1, none⟩ = some (.int .i64 (rd t336 1)) := (blk_cell BK342.out 1).trans rfl; have hcz73_2 : w72.cell? ⟨gb342, 2, none⟩ = some (.slice Ao71 x343002_2.length co71) := (blk_cell BK342.out 2).trans rfl; have hfz73_0 := blk_frozen BK342.out 0; have hfz73_1 := blk_frozen BK342.out 1; have hfz73_2 := blk_frozen BK342.out 2) | (go_at_call 62; (with_reducible refine (impl_bulletinText.calls k2 (rd t336 0) (rd t336 1) _ _ x343002_2 t360 _ ?side1 ?side2 ?sideL A59.out).mono ?_); (case sideL => exact Laid.below HL.out (zBz HB.out GE320.out GE342.out)); (case side1 => exact zCx (Kd.R_reads' HO_343002.out).2.2); (case side2 => exact (Kd.R_reads' HO_343002.out).2.1); rintro e w74 ⟨rfl, hb⟩; replace HO327 := Aside0.mk (Kd.R_below (zRx HO327.out) hb); replace HO_343002 := Aside0.mk (Kd.R_below (zRx HO_343002.out) hb); replace BK320 := zbl BK320.out hb; replace BK342 := zbl BK342.out hb; replace HB := Aside0.mk (below_step (zBz HB.out GE320.out GE342.out) hb); (try clear hb); (try clear hb2); (try clear hk); (try clear hi); have hcz75_0 : w74.cell? ⟨gb320, 0, none⟩ = some (.int .i64 x321000_2) := (blk_cell BK320.out 0).trans rfl; have hcz75_1 : w74.cell? ⟨gb320, 1, none⟩ = some (.int .i64 x321001_2) := (blk_cell BK320.out 1).trans rfl; have hcz75_2 : w74.cell? ⟨gb320, 2, none⟩ = some (.slice none 0 0) := (blk_cell BK320.out 2).trans rfl; have hfz75_0 := blk_frozen BK320.out 0; have hfz75_1 := blk_frozen BK320.out 1; have hfz75_2 := blk_frozen BK320.out 2))
        refine bodyPost_ret (results_ct rfl _ _ gb320 34 #[.int .i64 0, .int .i64 0, .slice none 0 0] (0, 0) _ rfl (zbp BK320.out) Tryz.underlying34 rfl (by kernel_rfl)) rfl ?_
        exact ⟨_, by first | rfl | (simp [errW_none, errW_some] <;> rfl) | (simp [*, errW_none, errW_some] <;> rfl), by first | exact Kd.R_nil _ _ _ _ _ | exact Kd.N_nil _ _ _ _ _ | exact Kd.V_nil _ _ _ _ _ | exact Kd.Q_nil _ _ _ _ _ | exact Kd.S_nil _ _ _ _ _, by exact zBz HB.out GE320.out GE342.out⟩
      rw [if_pos c60] at H
      have c60b0 : (t360.toList == a0.toList) = true := beq_iff_eq.mpr c60
      have c60b1 : (t360.toList != a0.toList) = false := bne_eq_false_iff_eq.mpr c60
      clear c60
      focus
       simp only [Option.some.injEq, Prod.mk.injEq] at H
       obtain ⟨rfl, rfl, rfl, rfl⟩ := H
       have hnb61 := NB342_320.out
       have hnc61 := NB320_342.out
       have hcz62_0 : wr.cell? ⟨gb342, 0, none⟩ = some (.int .i64 (rd t336 0)) := (blk_cell BK342.out 0).trans rfl
       have hcz62_1 : wr.cell? ⟨gb342, 1, none⟩ = some (.int .i64 (rd t336 1)) := (blk_cell BK342.out 1).trans rfl
       have hcz62_2 : wr.cell? ⟨gb342, 2, none⟩ = some (u343002) := (blk_cell BK342.out 2).trans rfl
       have hfz62_0 := blk_frozen BK342.out 0
       have hfz62_1 := blk_frozen BK342.out 1
       have hfz62_2 := blk_frozen BK342.out 2
       obtain ⟨Ao63, co63, eo63⟩ := Kd.R_slice HO_343002.out
       subst eo63
       go_wp2_with (first | ((with_reducible refine gate_callee (f := 24) rfl ?_); refine goesL_ (some 81) rfl rfl Tryz.func24 (by kernel_rfl) rfl #[.agg #[.int .i64 (rd t336 0), .int .i64 (rd t336 1), .slice Ao63 x343002_2.length co63]] rfl zlx ?_; (with_reducible refine (impl_IsValidBulletin.calls k2 (rd t336 0) (rd t336 1) _ _ x343002_2 true _ ?side1 ?side2 A57.out).mono ?_); (case side1 => exact zCx (Kd.R_reads' HO_343002.out).2.2); (case side2 => exact (Kd.R_reads' HO_343002.out).2.1); rintro e w64 ⟨rfl, hb⟩; refine ⟨_, rfl, ?_⟩; replace HO327 := Aside0.mk (Kd.R_below (zRx HO327.out) hb); replace HO_343002 := Aside0.mk (Kd.R_below (zRx HO_343002.out) hb); replace BK320 := zbl BK320.out hb; replace BK342 := zbl BK342.out hb; replace HB := Aside0.mk (below_step (zBz HB.out GE320.out GE342.out) hb); (try clear hb); (try clear hb2); (try clear hk); (try clear hi); have hcz65_0 : w64.cell? ⟨gb342, 0, none⟩ = some (.int .i64 (rd t336 0)) := (blk_cell BK342.out 0).trans rfl; have hcz65_1 : w64.cell? ⟨gb342, 1, none⟩ = some (.int .i64 (rd t336 1)) := (blk_cell BK342.out 1).trans rfl; have hcz65_2 : w64.cell? ⟨gb342, 2, none⟩ = some (.slice Ao63 x343002_2.length co63) := (blk_cell BK342.out 2).trans rfl; have hfz65_0 := blk_frozen BK342.out 0; have hfz65_1 := blk_frozen BK342.out 1; have hfz65_2 := blk_frozen BK342.out 2) | (go_at_call 62; (with_reducible refine (impl_bulletinText.calls k2 (rd t336 0) (rd t336 1) _ _ x343002_2 t360 _ ?side1 ?side2 ?sideL A59.out).mono ?_); (case sideL => exact Laid.below HL.out (zBz HB.out GE320.out GE342.out)); (case side1 => exact zCx (Kd.R_reads' HO_343002.out).2.2); (case side2 => exact (Kd.R_reads' HO_343002.out).2.1); rintro e w66 ⟨rfl, hb⟩; replace HO327 := Aside0.mk (Kd.R_below (zRx HO327.out) hb); replace HO_343002 := Aside0.mk (Kd.R_below (zRx HO_343002.out) hb); replace BK320 := zbl BK320.out hb; replace BK342 := zbl BK342.out hb; replace HB := Aside0.mk (below_step (zBz HB.out GE320.out GE342.out) hb); (try clear hb); (try clear hb2); (try clear hk); (try clear hi); have hcz67_0 : w66.cell? ⟨gb342, 0, none⟩ = some (.int .i64 (rd t336 0)) := (blk_cell BK342.out 0).trans rfl; have hcz67_1 : w66.cell? ⟨gb342, 1, none⟩ = some (.int .i64 (rd t336 1)) := (blk_cell BK342.out 1).trans rfl; have hcz67_2 : w66.cell? ⟨gb342, 2, none⟩ = some (.slice Ao63 x343002_2.length co63) := (blk_cell BK342.out 2).trans rfl; have hfz67_0 := blk_frozen BK342.out 0; have hfz67_1 := blk_frozen BK342.out 1; have hfz67_2 := blk_frozen BK342.out 2; have hcz68_0 : w66.cell? ⟨gb320, 0, none⟩ = some (.int .i64 x321000_2) := (blk_cell BK320.out 0).trans rfl; have hcz68_1 : w66.cell? ⟨gb320, 1, none⟩ = some (.int .i64 x321001_2) := (blk_cell BK320.out 1).trans rfl; have hcz68_2 : w66.cell? ⟨gb320, 2, none⟩ = some (.slice none 0 0) := (blk_cell BK320.out 2).trans rfl; have hfz68_0 := blk_frozen BK320.out 0; have hfz68_1 := blk_frozen BK320.out 1; have hfz68_2 := blk_frozen BK320.out 2))
       refine bodyPost_ret (results_ct rfl _ _ gb320 34 #[.int .i64 (rd t336 0), .int .i64 (rd t336 1), .slice Ao63 x343002_2.length co63] (0, 0) _ rfl (zbp BK320.out) Tryz.underlying34 rfl (by kernel_rfl)) rfl ?_
       exact ⟨_, by first | rfl | (simp [errW_none, errW_some] <;> rfl) | (simp [*, errW_none, errW_some] <;> rfl), by refine zDR ?_; exact Kd.R_mono (Kd.R_far (p := ⟨gb320, 2, none⟩) (Kd.R_far (p := ⟨gb320, 1, none⟩) (Kd.R_far (p := ⟨gb320, 0, none⟩) (Kd.R_types HO_343002.out BK320.out (by decide)) (fun _ hk => hk.2) (.int .i64 (rd t336 0))) (fun _ hk => hk.2) (.int .i64 (rd t336 1))) (fun _ hk => hk.2) (.slice Ao63 x343002_2.length co63)) (fun _ hk => trivial), by exact zBz HB.out GE320.out GE342.out⟩
     rw [if_pos c34] at H
     have c34b0 : decide (x61_2 < (y343.length : Int)) = true := decide_eq_true c34
     clear c34
     obtain ⟨c35, H⟩ := zin H
     have c35b0 : decide (0 ≤ x61_2) = true := decide_eq_true c35
     clear c35
     obtain ⟨c36, H⟩ := zin H
     have c36b0 : decide (x61_2 < (y343.length : Int)) = true := decide_eq_true c36
     clear c36
     replace H := Option.bind_eq_some_iff.mp H
     obtain ⟨⟨t348, t349, t350, t351, t352, t353, t354⟩, A370, H⟩ := H
     replace H : (if t354 = true then (if x343002_2.length < 2932031007402 then (impl_ReadBulletin.l0 k2 a0 y343 (y343.length : Int) (wrap64 (x61_2 + 1)) (rd t336 0) (rd t336 1) (x343002_2 ++ [(⟨t348, t349, t350, t351, t352, t353⟩ : S25)])) else (none)) else (some (0, 0, ([] : List (S25)), false))) = some (r1, r2, r3, r4) := H
     have A37 := Aside0.mk A370
     clear A370
     by_cases c38 : t354 = true
     rotate_left
     ·replace c38 := Bool.eq_false_iff.mpr c38
      subst c38
      rw [if_neg (show ¬ (false = true) by decide)] at H
      focus
       simp only [Option.some.injEq, Prod.mk.injEq] at H
       obtain ⟨rfl, rfl, rfl, rfl⟩ := H
       have p347 : 0 ≤ (x61_2 : Int) := of_decide_eq_true zax
       have q347 : x61_2 < (y343.length : Int) := of_decide_eq_true zax
       have hroomz_ : t325.length ≤ co21 := (Kd.R_reads' HO327.out).2.1
       have hCz_ : Kd.C Kd.string _ (some ad328) t325.length t325 := (Kd.R_reads' HO327.out).2.2
       have hrz_ := Kd.C_drop (m := (1 : Int).toNat) (c := co21) hCz_ (by have := KL33.out; omega) hroomz_
       rw [show (t325).drop (1 : Int).toNat = y343 from Ny343.out.symm] at hrz_
       replace hrz_ : Kd.C Kd.string _ A33 y343.length y343 := (by rw [KA33.out]; exact hrz_)
       obtain ⟨ad347, e347, hx347_0⟩ := Kd.at_string hrz_ x61_2 p347 q347
       cases e347
       clear hrz_ hCz_ hroomz_
       skip
       replace p347 := eq_true p347
       replace q347 := eq_true q347
       go_wp2_with (first | ((with_reducible refine gate_callee (f := 9) rfl ?_); refine goesL_ (some 67) rfl rfl Tryz.func9 (by kernel_rfl) rfl #[.string (rdOf ByteArray.empty y343 x61_2)] rfl zlx ?_; (with_reducible refine (impl_ParseWarningLine.calls (rdOf ByteArray.empty y343 x61_2) t348 t349 t350 t351 t352 t353 false _ ?sideL A37.out).mono ?_); (case sideL => exact Laid.below HL.out (zBz HB.out GE320.out GE342.out)); rintro e w50 ⟨rfl, hb⟩; refine ⟨_, rfl, ?_⟩; replace HO327 := Aside0.mk (Kd.R_below (zRx HO327.out) hb); replace HO_343002 := Aside0.mk (Kd.R_below (zRx HO_343002.out) hb); replace BK320 := zbl BK320.out hb; replace BK342 := zbl BK342.out hb; replace HB := Aside0.mk (below_step (zBz HB.out GE320.out GE342.out) hb); (try clear hb)) | ((with_reducible refine gate_dst (N := 14) rfl ?_); refine box_event ?hg (N := 14) ?hd (cs := #[.int .i64 0, .int .i64 0, .int .i64 0, .int .i64 0, .int .i64 0, .int .i64 0]) (t := 25) ?hr ?_; (case hd => rfl); (case hg => rfl); (case hr => exact zsx); intro gb355 hg w51 hbox hb; replace HO327 := Aside0.mk (Kd.R_below (Kd.R_elderB (zRx HO327.out) gb355 (Nat.le_of_eq hg.symm)) hb); replace HO_343002 := Aside0.mk (Kd.R_below (Kd.R_elderB (zRx HO_343002.out) gb355 (Nat.le_of_eq hg.symm)) hb); have BK355 := Aside0.mk (hbox); have GW355 := zns hg HB.out; have GE355 := zns hg HB.out; replace HB := Aside0.mk (below_step (zBz HB.out GE320.out GE342.out) hb); have NB320_355 := znl hg BK320.out; have NB355_320 := zng hg BK320.out; replace BK320 := zbl BK320.out hb; have NB342_355 := znl hg BK342.out; have NB355_342 := zng hg BK342.out; replace BK342 := zbl BK342.out hb; clear hb hbox hg; have hnb52 := NB355_320.out; have hnc52 := NB320_355.out; have hnb53 := NB355_342.out; have hnc53 := NB342_355.out; have hcz54_0 : w51.cell? ⟨gb355, 0, none⟩ = some (.int .i64 0) := (blk_cell BK355.out 0).trans rfl; have hcz54_1 : w51.cell? ⟨gb355, 1, none⟩ = some (.int .i64 0) := (blk_cell BK355.out 1).trans rfl; have hcz54_2 : w51.cell? ⟨gb355, 2, none⟩ = some (.int .i64 0) := (blk_cell BK355.out 2).trans rfl; have hcz54_3 : w51.cell? ⟨gb355, 3, none⟩ = some (.int .i64 0) := (blk_cell BK355.out 3).trans rfl; have hcz54_4 : w51.cell? ⟨gb355, 4, none⟩ = some (.int .i64 0) := (blk_cell BK355.out 4).trans rfl; have hcz54_5 : w51.cell? ⟨gb355, 5, none⟩ = some (.int .i64 0) := (blk_cell BK355.out 5).trans rfl; have hfz54_0 := blk_frozen BK355.out 0; have hfz54_1 := blk_frozen BK355.out 1; have hfz54_2 := blk_frozen BK355.out 2; have hfz54_3 := blk_frozen BK355.out 3; have hfz54_4 := blk_frozen BK355.out 4; have hfz54_5 := blk_frozen BK355.out 5; have hnb55 := NB320_342.out; have hnc55 := NB342_320.out; have hcz56_0 : w51.cell? ⟨gb320, 0, none⟩ = some (.int .i64 x321000_2) := (blk_cell BK320.out 0).trans rfl; have hcz56_1 : w51.cell? ⟨gb320, 1, none⟩ = some (.int .i64 x321001_2) := (blk_cell BK320.out 1).trans rfl; have hcz56_2 : w51.cell? ⟨gb320, 2, none⟩ = some (.slice none 0 0) := (blk_cell BK320.out 2).trans rfl; have hfz56_0 := blk_frozen BK320.out 0; have hfz56_1 := blk_frozen BK320.out 1; have hfz56_2 := blk_frozen BK320.out 2))
       refine bodyPost_ret (results_ct rfl _ _ gb320 34 #[.int .i64 0, .int .i64 0, .slice none 0 0] (0, 0) _ rfl (zbp BK320.out) Tryz.underlying34 rfl (by kernel_rfl)) rfl ?_
       exact ⟨_, by first | rfl | (simp [errW_none, errW_some] <;> rfl) | (simp [*, errW_none, errW_some] <;> rfl), by first | exact Kd.R_nil _ _ _ _ _ | exact Kd.N_nil _ _ _ _ _ | exact Kd.V_nil _ _ _ _ _ | exact Kd.Q_nil _ _ _ _ _ | exact Kd.S_nil _ _ _ _ _, zhB HB.out⟩
     subst c38
     rw [if_pos rfl] at H
     obtain ⟨c39, H⟩ := zin H
     have LMc39 := Aside0.mk c39
     clear c39
     obtain ⟨y356, hy356⟩ : ∃ y_ : List (S25), y_ = (x343002_2 ++ [(⟨t348, t349, t350, t351, t352, t353⟩ : S25)]) := ⟨_, rfl⟩
     replace H : (impl_ReadBulletin.l0 k2 a0 y343 (y343.length : Int) (wrap64 (x61_2 + 1)) (rd t336 0) (rd t336 1) y356) = some (r1, r2, r3, r4) := by first | (rw [hy356]; with_reducible exact H) | (have H2_ := (Option.bind_some _ _).symm.trans H; rw [hy356]; with_reducible exact H2_) | (have H2_ := (Option.bind_some _ _).symm.trans H; with_reducible exact H2_) | with_reducible exact H | (rw [hy356]; exact H) | exact H
     have Ny356 := Aside0.mk hy356
     clear hy356
     focus
      have H' := Aside0.mk H
      clear H
      have p347 : 0 ≤ (x61_2 : Int) := of_decide_eq_true zax
      have q347 : x61_2 < (y343.length : Int) := of_decide_eq_true zax
      have hroomz_ : t325.length ≤ co21 := (Kd.R_reads' HO327.out).2.1
      have hCz_ : Kd.C Kd.string _ (some ad328) t325.length t325 := (Kd.R_reads' HO327.out).2.2
      have hrz_ := Kd.C_drop (m := (1 : Int).toNat) (c := co21) hCz_ (by have := KL33.out; omega) hroomz_
      rw [show (t325).drop (1 : Int).toNat = y343 from Ny343.out.symm] at hrz_
      replace hrz_ : Kd.C Kd.string _ A33 y343.length y343 := (by rw [KA33.out]; exact hrz_)
      obtain ⟨ad347, e347, hx347_0⟩ := Kd.at_string hrz_ x61_2 p347 q347
      cases e347
      clear hrz_ hCz_ hroomz_
      skip
      replace p347 := eq_true p347
      replace q347 := eq_true q347
      go_wp2_with (first | ((with_reducible refine gate_callee (f := 9) rfl ?_); refine goesL_ (some 67) rfl rfl Tryz.func9 (by kernel_rfl) rfl #[.string (rdOf ByteArray.empty y343 x61_2)] rfl zlx ?_; (with_reducible refine (impl_ParseWarningLine.calls (rdOf ByteArray.empty y343 x61_2) t348 t349 t350 t351 t352 t353 true _ ?sideL A37.out).mono ?_); (case sideL => exact Laid.below HL.out (zBz HB.out GE320.out GE342.out)); rintro e w40 ⟨rfl, hb⟩; refine ⟨_, rfl, ?_⟩; replace HO327 := Aside0.mk (Kd.R_below (zRx HO327.out) hb); replace HO_343002 := Aside0.mk (Kd.R_below (zRx HO_343002.out) hb); replace BK320 := zbl BK320.out hb; replace BK342 := zbl BK342.out hb; replace HB := Aside0.mk (below_step (zBz HB.out GE320.out GE342.out) hb); (try clear hb)) | ((with_reducible refine gate_dst (N := 14) rfl ?_); refine box_event ?hg (N := 14) ?hd (cs := #[.int .i64 0, .int .i64 0, .int .i64 0, .int .i64 0, .int .i64 0, .int .i64 0]) (t := 25) ?hr ?_; (case hd => rfl); (case hg => rfl); (case hr => exact zsx); intro gb355 hg w41 hbox hb; replace HO327 := Aside0.mk (Kd.R_below (Kd.R_elderB (zRx HO327.out) gb355 (Nat.le_of_eq hg.symm)) hb); replace HO_343002 := Aside0.mk (Kd.R_below (Kd.R_elderB (zRx HO_343002.out) gb355 (Nat.le_of_eq hg.symm)) hb); have BK355 := Aside0.mk (hbox); have GW355 := zns hg HB.out; have GE355 := zns hg HB.out; replace HB := Aside0.mk (below_step (zBz HB.out GE320.out GE342.out) hb); have NB320_355 := znl hg BK320.out; have NB355_320 := zng hg BK320.out; replace BK320 := zbl BK320.out hb; have NB342_355 := znl hg BK342.out; have NB355_342 := zng hg BK342.out; replace BK342 := zbl BK342.out hb; clear hb hbox hg; have hnb42 := NB355_320.out; have hnc42 := NB320_355.out; have hnb43 := NB355_342.out; have hnc43 := NB342_355.out; have hcz44_0 : w41.cell? ⟨gb355, 0, none⟩ = some (.int .i64 0) := (blk_cell BK355.out 0).trans rfl; have hcz44_1 : w41.cell? ⟨gb355, 1, none⟩ = some (.int .i64 0) := (blk_cell BK355.out 1).trans rfl; have hcz44_2 : w41.cell? ⟨gb355, 2, none⟩ = some (.int .i64 0) := (blk_cell BK355.out 2).trans rfl; have hcz44_3 : w41.cell? ⟨gb355, 3, none⟩ = some (.int .i64 0) := (blk_cell BK355.out 3).trans rfl; have hcz44_4 : w41.cell? ⟨gb355, 4, none⟩ = some (.int .i64 0) := (blk_cell BK355.out 4).trans rfl; have hcz44_5 : w41.cell? ⟨gb355, 5, none⟩ = some (.int .i64 0) := (blk_cell BK355.out 5).trans rfl; have hfz44_0 := blk_frozen BK355.out 0; have hfz44_1 := blk_frozen BK355.out 1; have hfz44_2 := blk_frozen BK355.out 2; have hfz44_3 := blk_frozen BK355.out 3; have hfz44_4 := blk_frozen BK355.out 4; have hfz44_5 := blk_frozen BK355.out 5; have hnb45 := NB342_320.out; have hnc45 := NB320_342.out; have hcz46_0 : w41.cell? ⟨gb342, 0, none⟩ = some (.int .i64 (rd t336 0)) := (blk_cell BK342.out 0).trans rfl; have hcz46_1 : w41.cell? ⟨gb342, 1, none⟩ = some (.int .i64 (rd t336 1)) := (blk_cell BK342.out 1).trans rfl; have hcz46_2 : w41.cell? ⟨gb342, 2, none⟩ = some (u343002) := (blk_cell BK342.out 2).trans rfl; have hfz46_0 := blk_frozen BK342.out 0; have hfz46_1 := blk_frozen BK342.out 1; have hfz46_2 := blk_frozen BK342.out 2) | ((with_reducible refine gate_builtin (b := .append) (xs := #[.tmp 74, .tmp 76]) rfl ?_); at_builtin; refine Kd.R_append k25 (w0 := w) w.heap.size rfl (.tmp 74) (.tmp 76) 32 25 (.agg #[(.int .i64 0), (.int .i64 0), (.int .i64 0), (.int .i64 0), (.int .i64 0), (.int .i64 0)]) 48 rfl Tryz.underlying32 info25 rfl (by decide) (by omega) u343002 x343002_2 (⟨t348, t349, t350, t351, t352, t353⟩ : S25) [.int .i64 t348, .int .i64 t349, .int .i64 t350, .int .i64 t351, .int .i64 t352, .int .i64 t353] (fun k_ => k_ ≠ gb355) (fun _ => False) rfl zsx ?aP (fun _ hk => hk.elim) ?aF ?aO ?aB ?aS ?aL ?_; (case aP => exact k25_mkM _ _ _ (⟨t348, t349, t350, t351, t352, t353⟩ : S25)); (case aB => exact (zhB HB.out)); (case aF => exact (fun k_ hk => Kd.freshB (g := gb355) (o := .cells #[.int .i64 t348, .int .i64 t349, .int .i64 t350, .int .i64 t351, .int .i64 t352, .int .i64 t353] 25 (0, 0)) (zbp BK355.out) k_ hk)); (case aO => exact (by refine zDR ?_; exact Kd.R_mono (Kd.R_far (p := ⟨gb355, 5, none⟩) (Kd.R_far (p := ⟨gb355, 4, none⟩) (Kd.R_far (p := ⟨gb355, 3, none⟩) (Kd.R_far (p := ⟨gb355, 2, none⟩) (Kd.R_far (p := ⟨gb355, 1, none⟩) (Kd.R_far (p := ⟨gb355, 0, none⟩) (Kd.R_mono HO_343002.out (fun k_ hk => (⟨hk, hk.2⟩ : _ ∧ k_ ≠ gb355))) (fun _ hk => hk.2) (.int .i64 t348)) (fun _ hk => hk.2) (.int .i64 t349)) (fun _ hk => hk.2) (.int .i64 t350)) (fun _ hk => hk.2) (.int .i64 t351)) (fun _ hk => hk.2) (.int .i64 t352)) (fun _ hk => hk.2) (.int .i64 t353)) (fun _ hk => hk.1.2))); (case aS => exact (below_size (zhB HB.out))); (case aL => have := LMc39.out; omega); intro v357 w47 ho hb hg hat; rw [← Ny356.out] at ho; replace HO327 := Aside0.mk (Kd.R_over' (by (with_reducible repeat (first | apply Kd.R_alloc | apply Kd.R_drewN | apply Kd.R_drew)); exact (Kd.R_mono (Kd.R_far (p := ⟨gb355, 5, none⟩) (Kd.R_far (p := ⟨gb355, 4, none⟩) (Kd.R_far (p := ⟨gb355, 3, none⟩) (Kd.R_far (p := ⟨gb355, 2, none⟩) (Kd.R_far (p := ⟨gb355, 1, none⟩) (Kd.R_far (p := ⟨gb355, 0, none⟩) (Kd.R_types HO327.out BK355.out (by decide)) (fun _ hk => hk.2) (.int .i64 t348)) (fun _ hk => hk.2) (.int .i64 t349)) (fun _ hk => hk.2) (.int .i64 t350)) (fun _ hk => hk.2) (.int .i64 t351)) (fun _ hk => hk.2) (.int .i64 t352)) (fun _ hk => hk.2) (.int .i64 t353)) (fun _ h_ => h_.1))) (Kd.R_typed (by (with_reducible repeat (first | apply Kd.R_alloc | apply Kd.R_drewN | apply Kd.R_drew)); exact (Kd.R_mono (Kd.R_far (p := ⟨gb355, 5, none⟩) (Kd.R_far (p := ⟨gb355, 4, none⟩) (Kd.R_far (p := ⟨gb355, 3, none⟩) (Kd.R_far (p := ⟨gb355, 2, none⟩) (Kd.R_far (p := ⟨gb355, 1, none⟩) (Kd.R_far (p := ⟨gb355, 0, none⟩) (Kd.R_mono HO_343002.out (fun k_ hk => (⟨hk, hk.2⟩ : _ ∧ k_ ≠ gb355))) (fun _ hk => hk.2) (.int .i64 t348)) (fun _ hk => hk.2) (.int .i64 t349)) (fun _ hk => hk.2) (.int .i64 t350)) (fun _ hk => hk.2) (.int .i64 t351)) (fun _ hk => hk.2) (.int .i64 t352)) (fun _ hk => hk.2) (.int .i64 t353)) (fun _ h_ => h_.1)))) (by decide) hg); replace BK320 := Aside0.mk (blk_grown (g := gb320) (o := .cells #[.int .i64 x321000_2, .int .i64 x321001_2, .slice none 0 0] 34 (0, 0)) (zbq BK320.out) hg (Kd.R_ne HO_343002.out BK320.out (by decide))); replace BK342 := Aside0.mk (blk_grown (g := gb342) (o := .cells #[.int .i64 (rd t336 0), .int .i64 (rd t336 1), u343002] 34 (0, 0)) (zbq BK342.out) hg (Kd.R_ne HO_343002.out BK342.out (by decide))); replace BK355 := Aside0.mk (blk_grown (g := gb355) (o := .cells #[.int .i64 t348, .int .i64 t349, .int .i64 t350, .int .i64 t351, .int .i64 t352, .int .i64 t353] 25 (0, 0)) (zbp BK355.out) hg (Kd.R_away HO_343002.out (fun _ hk => hk.2))); replace HB := Aside0.mk (hb); have HO358 := Aside0.mk (ho); clear HO_343002; clear ho hb hg hat; obtain ⟨Ao48, co48, eo48⟩ := Kd.R_slice HO358.out; subst eo48; have hcz49_0 : w47.cell? ⟨gb342, 0, none⟩ = some (.int .i64 (rd t336 0)) := (blk_cell BK342.out 0).trans rfl; have hcz49_1 : w47.cell? ⟨gb342, 1, none⟩ = some (.int .i64 (rd t336 1)) := (blk_cell BK342.out 1).trans rfl; have hcz49_2 : w47.cell? ⟨gb342, 2, none⟩ = some (u343002) := (blk_cell BK342.out 2).trans rfl; have hfz49_0 := blk_frozen BK342.out 0; have hfz49_1 := blk_frozen BK342.out 1; have hfz49_2 := blk_frozen BK342.out 2))
      go_roundg k2
      case measure => have := HJ2.out; have := HK2.out; omega
      case rel => exact ⟨(wrap64 (x61_2 + 1)), (x321000_2), (x321001_2), (y356), (.slice Ao48 y356.length co48), zrx, H', ⟨by have := HJ2.out; have := HK2.out; omega⟩, ⟨by refine zDR ?_; exact Kd.R_mono (Kd.R_far (p := ⟨gb342, 2, none⟩) (Kd.R_types HO327.out BK342.out (by decide)) (fun _ hk => hk.2) (.slice Ao48 y356.length co48)) (fun _ hk => trivial)⟩, ⟨by refine zDR ?_; exact Kd.R_mono (Kd.R_far (p := ⟨gb342, 2, none⟩) (Kd.R_types HO358.out BK342.out (by decide)) (fun _ hk => hk.2) (.slice Ao48 y356.length co48)) (fun _ hk => trivial)⟩, ⟨zbp BK320.out⟩, ⟨zbp BK342.out⟩, ⟨zhB HB.out⟩⟩
/-! ### laws_eqWarning: function 102 -/
def laws_eqWarning.f (a0_0 : Int) (a0_1 : Int) (a0_2 : Int) (a0_3 : Int) (a0_4 : Int) (a0_5 : Int) (a1_0 : Int) (a1_1 : Int) (a1_2 : Int) (a1_3 : Int) (a1_4 : Int) (a1_5 : Int) : Option (Bool) := if a0_0 = a1_0 then (if a0_1 = a1_1 then (if a0_2 = a1_2 then (if a0_3 = a1_3 then (if a0_4 = a1_4 then (if a0_5 = a1_5 then (some true) else (some false)) else (some false)) else (some false)) else (some false)) else (some false)) else (some false)
theorem zenddBulletinx12_0 {P_ : Prop} (h_ : P_ := by
  obtain rfl := Option.some.inj H
  go_enter Tryz.func102, Tryz.ntmps102
  go_wp2_with (first | ((with_reducible refine gate_dst (N := 2) rfl ?_); refine box_event ?hg (N := 2) ?hd (cs := #[.int .i64 a0_0, .int .i64 a0_1, .int .i64 a0_2, .int .i64 a0_3, .int .i64 a0_4, .int .i64 a0_5]) (t := 25) ?hr ?_; (case hd => rfl); (case hg => rfl); (case hr => exact zsx); intro gb361 hg w9 hbox hb; have BK361 := Aside0.mk (hbox); have GW361 := zns hg HB.out; have GE361 := zns hg HB.out; replace HB := Aside0.mk (below_step (zBx HB.out) hb); clear hb hbox hg) | ((with_reducible refine gate_dst (N := 3) rfl ?_); refine box_event ?hg (N := 3) ?hd (cs := #[.int .i64 a1_0, .int .i64 a1_1, .int .i64 a1_2, .int .i64 a1_3, .int .i64 a1_4, .int .i64 a1_5]) (t := 25) ?hr ?_; (case hd => rfl); (case hg => rfl); (case hr => exact zsx); intro gb362 hg w10 hbox hb; have BK362 := Aside0.mk (hbox); have GW362 := zns hg HB.out; have GE362 := zns hg HB.out; replace HB := Aside0.mk (below_step (zBy HB.out GE361.out) hb); have NB361_362 := znl hg BK361.out; have NB362_361 := zng hg BK361.out; replace BK361 := zbl BK361.out hb; clear hb hbox hg; have hnb11 := NB361_362.out; have hnc11 := NB362_361.out; have hcz12_0 : w10.cell? ⟨gb361, 0, none⟩ = some (.int .i64 a0_0) := (blk_cell BK361.out 0).trans rfl; have hcz12_1 : w10.cell? ⟨gb361, 1, none⟩ = some (.int .i64 a0_1) := (blk_cell BK361.out 1).trans rfl; have hcz12_2 : w10.cell? ⟨gb361, 2, none⟩ = some (.int .i64 a0_2) := (blk_cell BK361.out 2).trans rfl; have hcz12_3 : w10.cell? ⟨gb361, 3, none⟩ = some (.int .i64 a0_3) := (blk_cell BK361.out 3).trans rfl; have hcz12_4 : w10.cell? ⟨gb361, 4, none⟩ = some (.int .i64 a0_4) := (blk_cell BK361.out 4).trans rfl; have hcz12_5 : w10.cell? ⟨gb361, 5, none⟩ = some (.int .i64 a0_5) := (blk_cell BK361.out 5).trans rfl; have hfz12_0 := blk_frozen BK361.out 0; have hfz12_1 := blk_frozen BK361.out 1; have hfz12_2 := blk_frozen BK361.out 2; have hfz12_3 := blk_frozen BK361.out 3; have hfz12_4 := blk_frozen BK361.out 4; have hfz12_5 := blk_frozen BK361.out 5; have hcz13_0 : w10.cell? ⟨gb362, 0, none⟩ = some (.int .i64 a1_0) := (blk_cell BK362.out 0).trans rfl; have hcz13_1 : w10.cell? ⟨gb362, 1, none⟩ = some (.int .i64 a1_1) := (blk_cell BK362.out 1).trans rfl; have hcz13_2 : w10.cell? ⟨gb362, 2, none⟩ = some (.int .i64 a1_2) := (blk_cell BK362.out 2).trans rfl; have hcz13_3 : w10.cell? ⟨gb362, 3, none⟩ = some (.int .i64 a1_3) := (blk_cell BK362.out 3).trans rfl; have hcz13_4 : w10.cell? ⟨gb362, 4, none⟩ = some (.int .i64 a1_4) := (blk_cell BK362.out 4).trans rfl; have hcz13_5 : w10.cell? ⟨gb362, 5, none⟩ = some (.int .i64 a1_5) := (blk_cell BK362.out 5).trans rfl; have hfz13_0 := blk_frozen BK362.out 0; have hfz13_1 := blk_frozen BK362.out 1; have hfz13_2 := blk_frozen BK362.out 2; have hfz13_3 := blk_frozen BK362.out 3; have hfz13_4 := blk_frozen BK362.out 4; have hfz13_5 := blk_frozen BK362.out 5))
  go_ret
  exact ⟨by first | rfl | (simp [errW_none, errW_some] <;> rfl) | (simp [*, errW_none, errW_some] <;> rfl), by exact zBz HB.out GE361.out GE362.out⟩) : P_ := h_
set_option maxHeartbeats 8000000 in
set_option maxRecDepth 100000 in
theorem laws_eqWarning.calls (a0_0 : Int) (a0_1 : Int) (a0_2 : Int) (a0_3 : Int) (a0_4 : Int) (a0_5 : Int) (a1_0 : Int) (a1_1 : Int) (a1_2 : Int) (a1_3 : Int) (a1_4 : Int) (a1_5 : Int) (r : Bool) (w : World) (h : laws_eqWarning.f a0_0 a0_1 a0_2 a0_3 a0_4 a0_5 a1_0 a1_1 a1_2 a1_3 a1_4 a1_5 = some r) :
 Calls Tryz.prog 102 #[.agg #[.int .i64 a0_0, .int .i64 a0_1, .int .i64 a0_2, .int .i64 a0_3, .int .i64 a0_4, .int .i64 a0_5], .agg #[.int .i64 a1_0, .int .i64 a1_1, .int .i64 a1_2, .int .i64 a1_3, .int .i64 a1_4, .int .i64 a1_5]] w fun e w' => e = .returned (.bool r) ∧ Below w.heap.size w w' := by
 have hu25 := Tryz.underlying25
 have HB := Aside0.mk (Below.refl w.heap.size w)
 have H : (if a0_0 = a1_0 then (if a0_1 = a1_1 then (if a0_2 = a1_2 then (if a0_3 = a1_3 then (if a0_4 = a1_4 then (if a0_5 = a1_5 then (some true) else (some false)) else (some false)) else (some false)) else (some false)) else (some false)) else (some false)) = some r := h
 clear h
 by_cases c3 : a0_0 = a1_0
 rotate_left
 ·rw [if_neg c3] at H
  have c3b0 : (a0_0 == a1_0) = false := beq_eq_false_iff_ne.mpr c3
  have c3b1 : (a0_0 != a1_0) = true := bne_iff_ne.mpr c3
  focus
   exact zenddBulletinx12_0

 rw [if_pos c3] at H
 have c3b0 : (a0_0 == a1_0) = true := beq_iff_eq.mpr c3
 have c3b1 : (a0_0 != a1_0) = false := bne_eq_false_iff_eq.mpr c3
 clear c3
 by_cases c4 : a0_1 = a1_1
 rotate_left
 ·rw [if_neg c4] at H
  have c4b0 : (a0_1 == a1_1) = false := beq_eq_false_iff_ne.mpr c4
  have c4b1 : (a0_1 != a1_1) = true := bne_iff_ne.mpr c4
  focus
   exact zenddBulletinx12_0
 rw [if_pos c4] at H
 have c4b0 : (a0_1 == a1_1) = true := beq_iff_eq.mpr c4
 have c4b1 : (a0_1 != a1_1) = false := bne_eq_false_iff_eq.mpr c4
 clear c4
 by_cases c5 : a0_2 = a1_2
 rotate_left
 ·rw [if_neg c5] at H
  have c5b0 : (a0_2 == a1_2) = false := beq_eq_false_iff_ne.mpr c5
  have c5b1 : (a0_2 != a1_2) = true := bne_iff_ne.mpr c5
  focus
   exact zenddBulletinx12_0
 rw [if_pos c5] at H
 have c5b0 : (a0_2 == a1_2) = true := beq_iff_eq.mpr c5
 have c5b1 : (a0_2 != a1_2) = false := bne_eq_false_iff_eq.mpr c5
 clear c5
 by_cases c6 : a0_3 = a1_3
 rotate_left
 ·rw [if_neg c6] at H
  have c6b0 : (a0_3 == a1_3) = false := beq_eq_false_iff_ne.mpr c6
  have c6b1 : (a0_3 != a1_3) = true := bne_iff_ne.mpr c6
  focus
   exact zenddBulletinx12_0
 rw [if_pos c6] at H
 have c6b0 : (a0_3 == a1_3) = true := beq_iff_eq.mpr c6
 have c6b1 : (a0_3 != a1_3) = false := bne_eq_false_iff_eq.mpr c6
 clear c6
 by_cases c7 : a0_4 = a1_4
 rotate_left
 ·rw [if_neg c7] at H
  have c7b0 : (a0_4 == a1_4) = false := beq_eq_false_iff_ne.mpr c7
  have c7b1 : (a0_4 != a1_4) = true := bne_iff_ne.mpr c7
  focus
   exact zenddBulletinx12_0
 rw [if_pos c7] at H
 have c7b0 : (a0_4 == a1_4) = true := beq_iff_eq.mpr c7
 have c7b1 : (a0_4 != a1_4) = false := bne_eq_false_iff_eq.mpr c7
 clear c7
 by_cases c8 : a0_5 = a1_5
 ·rw [if_pos c8] at H
  have c8b0 : (a0_5 == a1_5) = true := beq_iff_eq.mpr c8
  have c8b1 : (a0_5 != a1_5) = false := bne_eq_false_iff_eq.mpr c8
  clear c8
  focus
   exact zenddBulletinx12_0
 ·rw [if_neg c8] at H
  have c8b0 : (a0_5 == a1_5) = false := beq_eq_false_iff_ne.mpr c8
  have c8b1 : (a0_5 != a1_5) = true := bne_iff_ne.mpr c8
  focus
   exact zenddBulletinx12_0
end Go.Proofs.YtlfoojgbiafffaaGreatDoor.XFnExactReadBulletin
