-- written by wip/tools/xprint.py (a program of this project) out of the translation
import Derived.Test.YtlfoojgbiafffaaGreatDoorXFnMessagesx0
import Derived.Test.YtlfoojgbiafffaaGreatDoorStrsE
import Derived.Test.YtlfoojgbiafffaaGreatDoorXFnMessagesx2
import Derived.Test.YtlfoojgbiafffaaGreatDoorXFnMessagesx3
import Derived.Test.YtlfoojgbiafffaaGreatDoorXFnMessagesx4
namespace Go.Proofs.YtlfoojgbiafffaaGreatDoor.XFnMessages
open Go.RowKit Go.Proofs.YtlfoojgbiafffaaGreatDoorW.PrintWords Go.Proofs.YtlfoojgbiafffaaGreatDoorW.PrintLast Go.Proofs.YtlfoojgbiafffaaGreatDoorW.PrintMore
open Go.Proofs.YtlfoojgbiafffaaGreatDoor.Strs
attribute [local go_sem] max2_int min2_int max_two min_two max_three min_three max_four min_four   -- for this text's walks alone
set_option linter.unusedVariables false
set_option linter.unusedSimpArgs false

/-! ### impl_ParseCode: function 11 -/
def impl_ParseCode.j0 : Nat → ByteArray → List ByteArray → Bool → Option (Int × Int × Int × Int × Int × Int × Bool)
 | 0, _, _, _ => none
 | k + 1, x0, x4, x21 => if x21 = true then (some (0, 0, 0, 0, 0, 0, false)) else (if 0 < (x0.size : Int) then ((strings_IndexByte.f (⟨#[32, 89, 79, 82]⟩ : ByteArray) (bt x0 0)).bind fun t242 => (if 1 < (x0.size : Int) then ((strings_IndexByte.f (⟨#[32, 87, 82, 83, 72, 84]⟩ : ByteArray) (bt x0 1)).bind fun t243 => (if 0 < (x4.length : Int) then (if 2 ≤ ((rdOf ByteArray.empty x4 0).size : Int) then ((impl_readInts.f k (x4.set (0 : Int).toNat ((rdOf ByteArray.empty x4 0).extract 2 (rdOf ByteArray.empty x4 0).size))).bind fun bt246 => (if bt246.2 = true then (if 3 < (bt246.1.length : Int) then (if 0 < (bt246.1.length : Int) then (if 1 < (bt246.1.length : Int) then (if 2 < (bt246.1.length : Int) then ((impl_IsValidWarning.f (rd bt246.1 3) t243 t242 (rd bt246.1 0) (rd bt246.1 1) (rd bt246.1 2)).bind fun t255 => (if t255 = true then ((impl_warningCode.f k (rd bt246.1 3) t243 t242 (rd bt246.1 0) (rd bt246.1 1) (rd bt246.1 2)).bind fun t256 => (if t256.toList = x0.toList then (some (rd bt246.1 3, t243, t242, rd bt246.1 0, rd bt246.1 1, rd bt246.1 2, true)) else (some (0, 0, 0, 0, 0, 0, false)))) else (some (0, 0, 0, 0, 0, 0, false)))) else (none)) else (none)) else (none)) else (none)) else (some (0, 0, 0, 0, 0, 0, false)))) else (none)) else (none))) else (none))) else (none))
def impl_ParseCode.f (k : Nat) (a0 : ByteArray) : Option (Int × Int × Int × Int × Int × Int × Bool) := (strings_Split.f a0 (⟨#[46]⟩ : ByteArray)).bind fun t238 => (if (t238.length : Int) = 4 then (if 0 < (t238.length : Int) then (impl_ParseCode.j0 k a0 t238 (decide (((rdOf ByteArray.empty t238 0).size : Int) < 3))) else (none)) else (impl_ParseCode.j0 k a0 t238 true))
theorem impl_ParseCode.mono_l : ∀ k, (∀ y0 y1 y2, LeO (impl_ParseCode.j0 k y0 y1 y2) (impl_ParseCode.j0 (k + 1) y0 y1 y2))
 | 0 => fun _ _ _ r h => by simp [impl_ParseCode.j0] at h
 | k + 1 => by
  have ih0 := impl_ParseCode.mono_l k
  ·intro y0 y1 y2
   unfold impl_ParseCode.j0
   repeat' first
   | (with_reducible exact ih0 _ _ _)
   | (with_reducible exact impl_readInts.mono _ _)
   | (with_reducible exact impl_warningCode.mono _ _ _ _ _ _ _)
   | (with_reducible exact LeO.refl _)
   | (with_reducible exact LeO.none _)
   | (with_reducible refine LeO.ite ?_ ?_)
   | (with_reducible refine LeO.bind ?_ (fun _ => ?_))
   | exact ih0 _ _ _
   | exact impl_readInts.mono _ _
   | exact impl_warningCode.mono _ _ _ _ _ _ _
   | exact LeO.none _
   | refine LeO.ite ?_ ?_
   | refine LeO.bind ?_ (fun _ => ?_)
theorem impl_ParseCode.mono : ∀ a0 k, LeO (impl_ParseCode.f k a0) (impl_ParseCode.f (k + 1) a0) := by
 intro a0 k
 have ih0 := impl_ParseCode.mono_l k
 unfold impl_ParseCode.f
 repeat' first
  | (with_reducible exact ih0 _ _ _)
  | (with_reducible exact impl_readInts.mono _ _)
  | (with_reducible exact impl_warningCode.mono _ _ _ _ _ _ _)
  | (with_reducible exact LeO.refl _)
  | (with_reducible exact LeO.none _)
  | (with_reducible refine LeO.ite ?_ ?_)
  | (with_reducible refine LeO.bind ?_ (fun _ => ?_))
  | exact ih0 _ _ _
  | exact impl_readInts.mono _ _
  | exact impl_warningCode.mono _ _ _ _ _ _ _
  | exact LeO.none _
  | refine LeO.ite ?_ ?_
  | refine LeO.bind ?_ (fun _ => ?_)
def impl_ParseCode.T4 : Bool × List (List Nat × List Nat) := (true, [([], []), ([0], [0]), ([1], [1]), ([], []), ([3], [3]), ([4, 2], [4]), ([2, 5, 0, 1, 2], [2]), ([5, 6, 0, 1, 2, 3, 4, 5, 6], [5])])
def impl_ParseCode.B4 : List Nat := [0, 1, 3, 0, 8, 31, 63, 127]
theorem impl_ParseCode.tab4 : rtab .any (opsOf Tryz.f11 4) = impl_ParseCode.T4 := by kernel_rfl
theorem impl_ParseCode.bits4 : waitsOk impl_ParseCode.T4.2 impl_ParseCode.B4 = true := by kernel_rfl
def impl_ParseCode.T9 : Bool × List (List Nat × List Nat) := (true, [([], []), ([0], [0]), ([1], [1]), ([], []), ([], []), ([], []), ([5], [5]), ([6], [6]), ([], []), ([8], [8]), ([9], [9]), ([], []), ([11], [11]), ([12], [12]), ([2, 3, 4, 7, 10, 13], [2, 3, 4, 7, 10, 13]), ([], []), ([15, 14, 0, 1, 2, 3, 4, 5, 6, 7, 8, 9, 10, 11, 12, 13, 14, 15], [14, 15])])
def impl_ParseCode.B9 : List Nat := [0, 1, 3, 0, 0, 0, 32, 96, 0, 256, 768, 0, 2048, 6144, 16383, 0, 65535]
theorem impl_ParseCode.tab9 : rtab .any (opsOf Tryz.f11 9) = impl_ParseCode.T9 := by kernel_rfl
theorem impl_ParseCode.bits9 : waitsOk impl_ParseCode.T9.2 impl_ParseCode.B9 = true := by kernel_rfl
set_option maxHeartbeats 8000000 in
set_option maxRecDepth 100000 in
theorem impl_ParseCode.calls (k : Nat) (a0 : ByteArray) (r1 : Int) (r2 : Int) (r3 : Int) (r4 : Int) (r5 : Int) (r6 : Int) (r7 : Bool) (w : World) (hL : Laid w) (h : impl_ParseCode.f k a0 = some (r1, r2, r3, r4, r5, r6, r7)) :
 Calls Tryz.prog 11 #[.string a0] w fun e w' => e = .returned (.tuple #[.agg #[.int .i64 r1, .int .i64 r2, .int .i64 r3, .int .i64 r4, .int .i64 r5, .int .i64 r6], .bool r7]) ∧ Below w.heap.size w w' := by
 have hu25 := Tryz.underlying25
 have HL := Aside0.mk hL
 clear hL
 have HB := Aside0.mk (Below.refl w.heap.size w)
 have H : ((strings_Split.f a0 (⟨#[46]⟩ : ByteArray)).bind fun t238 => (if (t238.length : Int) = 4 then (if 0 < (t238.length : Int) then (impl_ParseCode.j0 k a0 t238 (decide (((rdOf ByteArray.empty t238 0).size : Int) < 3))) else (none)) else (impl_ParseCode.j0 k a0 t238 true))) = some (r1, r2, r3, r4, r5, r6, r7) := h
 clear h
 replace H := Option.bind_eq_some_iff.mp H
 obtain ⟨t238, A20, H⟩ := H
 replace H : (if (t238.length : Int) = 4 then (if 0 < (t238.length : Int) then (impl_ParseCode.j0 k a0 t238 (decide (((rdOf ByteArray.empty t238 0).size : Int) < 3))) else (none)) else (impl_ParseCode.j0 k a0 t238 true)) = some (r1, r2, r3, r4, r5, r6, r7) := H
 have A2 := Aside0.mk A20
 clear A20
 have HC3 := Aside0.mk H
 clear H
 go_enter Tryz.func11, Tryz.ntmps11
 go_upto_region 2 with (first | ((with_reducible refine gate_dst (N := 2) rfl ?_); (try (refine gate_guard (by rfl) ?_; dsimp only)); refine box_event ?hg (N := 2) ?hd (cs := #[.int .i64 0, .int .i64 0, .int .i64 0, .int .i64 0, .int .i64 0, .int .i64 0]) (t := 25) ?hr ?_; (case hd => rfl); (case hg => rfl); (case hr => exact zsx); intro gb237 hg w4 hbox hb; have BK237 := Aside0.mk (hbox); have GW237 := zns hg HB.out; have GE237 := zns hg HB.out; replace HB := Aside0.mk (below_step (zBx HB.out) hb); clear hb hbox hg) | ((with_reducible refine gate_callee (f := 45) rfl ?_); refine goesL_ (some 11) rfl rfl Tryz.func45 (by kernel_rfl) rfl #[.string a0, .string (⟨#[46]⟩ : ByteArray)] rfl zlx ?_; (with_reducible refine (strings_Split.calls a0 (⟨#[46]⟩ : ByteArray) t238 _ ?sideL A2.out).mono ?_); (case sideL => exact Laid.below HL.out (zBy HB.out GE237.out)); rintro e w5 ⟨v239, rfl, ho0, hb⟩; refine ⟨_, rfl, ?_⟩; have HO240 := Aside0.mk (Kd.R_lower ho0 (below_size (zBy HB.out GE237.out))); replace BK237 := zbl BK237.out hb; replace HB := Aside0.mk (below_step (zBy HB.out GE237.out) hb); (try clear hb); (try clear ho0)))
 (try simp only [Act.put, List.setIfInBounds_toArray, List.set_cons_zero, List.set_cons_succ])
 go_cut [21] (fun v21 wc => ∃ (kq : Nat) (x21_2 : Bool), v21 = .bool x21_2 ∧ Aside0 (impl_ParseCode.j0 kq a0 t238 x21_2 = some (r1, r2, r3, r4, r5, r6, r7)) ∧ Aside0 (kq ≤ k) ∧ Aside0 (Kd.R Kd.string 9 wc w.heap.size (fun _ => True) v239 t238) ∧ Aside0 (wc.heap[gb237]? = some (.cells #[.int .i64 0, .int .i64 0, .int .i64 0, .int .i64 0, .int .i64 0, .int .i64 0] 25 (0, 0))) ∧ Aside0 (Below w.heap.size w wc))
 case first =>
  have H := HC3.out
  clear HC3
  by_cases c6 : (t238.length : Int) = 4
  ·rw [if_pos c6] at H
   have c6b0 : ((t238.length : Int) == 4) = true := beq_iff_eq.mpr c6
   have c6b1 : ((t238.length : Int) != 4) = false := bne_eq_false_iff_eq.mpr c6
   clear c6
   (first | rw [c6b0] | (simp only [i64_w, i32_w]; rw [c6b0]) | skip)
   by_cases c7 : 0 < (t238.length : Int)
   ·rw [if_pos c7] at H
    have c7b0 : decide (0 < (t238.length : Int)) = true := decide_eq_true c7
    have c7b1 : decide (0 < t238.length) = true := decide_eq_true (by omega)
    clear c7
    focus
     have H' := Aside0.mk H
     clear H
     obtain ⟨Ao8, co8, eo8⟩ := Kd.R_slice HO240.out
     subst eo8
     have p241 : 0 ≤ (0 : Int) := (by omega)
     have q241 : 0 < (t238.length : Int) := of_decide_eq_true zax
     obtain ⟨ad241, e241, hx241_0⟩ := Kd.at_string (Kd.R_reads' HO240.out).2.2 0 p241 q241
     cases e241
     have qi241 : (0 < t238.length) = True := eq_true (by omega)
     (try rw [show ((0 : Int)).toNat = 0 from rfl] at hx241_0)
     (try rw [Addr.add_zero'] at hx241_0)
     replace p241 := eq_true p241
     replace q241 := eq_true q241
     go_wp2
     go_meet
     case rel => exact ⟨_, (decide (((rdOf ByteArray.empty t238 0).size : Int) < 3)), zrx, H', ⟨by first | omega | exact Nat.le_refl _⟩, ⟨by refine zDR ?_; exact HO240.out⟩, ⟨by refine zbx ?_; exact BK237.out⟩, ⟨by exact zBy HB.out GE237.out⟩⟩
   ·rw [if_neg c7] at H
    exact absurd H (by simp)
  ·rw [if_neg c6] at H
   have c6b0 : ((t238.length : Int) == 4) = false := beq_eq_false_iff_ne.mpr c6
   have c6b1 : ((t238.length : Int) != 4) = true := bne_iff_ne.mpr c6
   (first | rw [c6b0] | (simp only [i64_w, i32_w]; rw [c6b0]) | skip)
   focus
    have H' := Aside0.mk H
    clear H
    obtain ⟨Ao9, co9, eo9⟩ := Kd.R_slice HO240.out
    subst eo9
    go_wp2
    go_meet
    case rel => exact ⟨_, (true), zrx, H', ⟨by first | omega | exact Nat.le_refl _⟩, ⟨by refine zDR ?_; exact HO240.out⟩, ⟨by refine zbx ?_; exact BK237.out⟩, ⟨by exact zBy HB.out GE237.out⟩⟩
 case rest =>
  clear HC3
  try clear c1
  try clear p2
  try clear q2
  try clear hx2
  try clear qi2
  try clear c4
  try clear c6
  try clear c6b0
  try clear c6b1
  try clear c7
  try clear c7b0
  try clear c7b1
  try clear hx241_0
  try clear p241
  try clear q241
  obtain ⟨kq, x21_2, rfl, HA, HJ2, HO_4, BK237, HB⟩ := hcut
  cases kq with
  | zero => exact absurd HA.out (by simp [impl_ParseCode.j0])
  | succ kj2 =>
   have H := HA.out
   clear HA
   simp only [impl_ParseCode.j0] at H
   by_cases c10 : x21_2 = true
   ·subst c10
    rw [if_pos rfl] at H
    focus
     simp only [Option.some.injEq, Prod.mk.injEq] at H
     obtain ⟨rfl, rfl, rfl, rfl, rfl, rfl, rfl⟩ := H
     have hcz11_0 : wc.cell? ⟨gb237, 0, none⟩ = some (.int .i64 0) := (blk_cell BK237.out 0).trans rfl
     have hcz11_1 : wc.cell? ⟨gb237, 1, none⟩ = some (.int .i64 0) := (blk_cell BK237.out 1).trans rfl
     have hcz11_2 : wc.cell? ⟨gb237, 2, none⟩ = some (.int .i64 0) := (blk_cell BK237.out 2).trans rfl
     have hcz11_3 : wc.cell? ⟨gb237, 3, none⟩ = some (.int .i64 0) := (blk_cell BK237.out 3).trans rfl
     have hcz11_4 : wc.cell? ⟨gb237, 4, none⟩ = some (.int .i64 0) := (blk_cell BK237.out 4).trans rfl
     have hcz11_5 : wc.cell? ⟨gb237, 5, none⟩ = some (.int .i64 0) := (blk_cell BK237.out 5).trans rfl
     have hfz11_0 := blk_frozen BK237.out 0
     have hfz11_1 := blk_frozen BK237.out 1
     have hfz11_2 := blk_frozen BK237.out 2
     have hfz11_3 := blk_frozen BK237.out 3
     have hfz11_4 := blk_frozen BK237.out 4
     have hfz11_5 := blk_frozen BK237.out 5
     go_wp2
     refine bodyPost_ret (results_ct rfl _ _ gb237 25 #[.int .i64 0, .int .i64 0, .int .i64 0, .int .i64 0, .int .i64 0, .int .i64 0] (0, 0) _ rfl (zbp BK237.out) Tryz.underlying25 rfl (by kernel_rfl)) rfl ?_
     exact ⟨by first | rfl | (simp [errW_none, errW_some] <;> rfl) | (simp [*, errW_none, errW_some] <;> rfl), by exact zBy HB.out GE237.out⟩
   ·replace c10 := Bool.eq_false_iff.mpr c10
    subst c10
    rw [if_neg (show ¬ (false = true) by decide)] at H
    by_cases c12 : 0 < (a0.size : Int)
    ·rw [if_pos c12] at H
     have c12b0 : decide (0 < (a0.size : Int)) = true := decide_eq_true c12
     have c12b1 : decide (0 < a0.size) = true := decide_eq_true (by omega)
     clear c12
     replace H := Option.bind_eq_some_iff.mp H
     obtain ⟨t242, A140, H⟩ := H
     replace H : (if 1 < (a0.size : Int) then ((strings_IndexByte.f (⟨#[32, 87, 82, 83, 72, 84]⟩ : ByteArray) (bt a0 1)).bind fun t243 => (if 0 < (t238.length : Int) then (if 2 ≤ ((rdOf ByteArray.empty t238 0).size : Int) then ((impl_readInts.f kj2 (t238.set (0 : Int).toNat ((rdOf ByteArray.empty t238 0).extract 2 (rdOf ByteArray.empty t238 0).size))).bind fun bt246 => (if bt246.2 = true then (if 3 < (bt246.1.length : Int) then (if 0 < (bt246.1.length : Int) then (if 1 < (bt246.1.length : Int) then (if 2 < (bt246.1.length : Int) then ((impl_IsValidWarning.f (rd bt246.1 3) t243 t242 (rd bt246.1 0) (rd bt246.1 1) (rd bt246.1 2)).bind fun t255 => (if t255 = true then ((impl_warningCode.f kj2 (rd bt246.1 3) t243 t242 (rd bt246.1 0) (rd bt246.1 1) (rd bt246.1 2)).bind fun t256 => (if t256.toList = a0.toList then (some (rd bt246.1 3, t243, t242, rd bt246.1 0, rd bt246.1 1, rd bt246.1 2, true)) else (some (0, 0, 0, 0, 0, 0, false)))) else (some (0, 0, 0, 0, 0, 0, false)))) else (none)) else (none)) else (none)) else (none)) else (some (0, 0, 0, 0, 0, 0, false)))) else (none)) else (none))) else (none)) = some (r1, r2, r3, r4, r5, r6, r7) := H
     have A14 := Aside0.mk A140
     clear A140
     by_cases c15 : 1 < (a0.size : Int)
     ·rw [if_pos c15] at H
      have c15b0 : decide (1 < (a0.size : Int)) = true := decide_eq_true c15
      have c15b1 : decide (1 < a0.size) = true := decide_eq_true (by omega)
      clear c15
      replace H := Option.bind_eq_some_iff.mp H
      obtain ⟨t243, A170, H⟩ := H
      replace H : (if 0 < (t238.length : Int) then (if 2 ≤ ((rdOf ByteArray.empty t238 0).size : Int) then ((impl_readInts.f kj2 (t238.set (0 : Int).toNat ((rdOf ByteArray.empty t238 0).extract 2 (rdOf ByteArray.empty t238 0).size))).bind fun bt246 => (if bt246.2 = true then (if 3 < (bt246.1.length : Int) then (if 0 < (bt246.1.length : Int) then (if 1 < (bt246.1.length : Int) then (if 2 < (bt246.1.length : Int) then ((impl_IsValidWarning.f (rd bt246.1 3) t243 t242 (rd bt246.1 0) (rd bt246.1 1) (rd bt246.1 2)).bind fun t255 => (if t255 = true then ((impl_warningCode.f kj2 (rd bt246.1 3) t243 t242 (rd bt246.1 0) (rd bt246.1 1) (rd bt246.1 2)).bind fun t256 => (if t256.toList = a0.toList then (some (rd bt246.1 3, t243, t242, rd bt246.1 0, rd bt246.1 1, rd bt246.1 2, true)) else (some (0, 0, 0, 0, 0, 0, false)))) else (some (0, 0, 0, 0, 0, 0, false)))) else (none)) else (none)) else (none)) else (none)) else (some (0, 0, 0, 0, 0, 0, false)))) else (none)) else (none)) = some (r1, r2, r3, r4, r5, r6, r7) := H
      have A17 := Aside0.mk A170
      clear A170
      by_cases c18 : 0 < (t238.length : Int)
      ·rw [if_pos c18] at H
       have c18b0 : decide (0 < (t238.length : Int)) = true := decide_eq_true c18
       have c18b1 : decide (0 < t238.length) = true := decide_eq_true (by omega)
       clear c18
       by_cases c19 : 2 ≤ ((rdOf ByteArray.empty t238 0).size : Int)
       ·rw [if_pos c19] at H
        have c19b0 := eq_true c19
        have c19b1 : decide (2 ≤ ((rdOf ByteArray.empty t238 0).size : Int)) = true := decide_eq_true c19
        clear c19
        obtain ⟨y245, hy245⟩ : ∃ y_ : List ByteArray, y_ = (t238.set (0 : Int).toNat ((rdOf ByteArray.empty t238 0).extract 2 (rdOf ByteArray.empty t238 0).size)) := ⟨_, rfl⟩
        replace H : ((impl_readInts.f kj2 y245).bind fun bt246 => (if bt246.2 = true then (if 3 < (bt246.1.length : Int) then (if 0 < (bt246.1.length : Int) then (if 1 < (bt246.1.length : Int) then (if 2 < (bt246.1.length : Int) then ((impl_IsValidWarning.f (rd bt246.1 3) t243 t242 (rd bt246.1 0) (rd bt246.1 1) (rd bt246.1 2)).bind fun t255 => (if t255 = true then ((impl_warningCode.f kj2 (rd bt246.1 3) t243 t242 (rd bt246.1 0) (rd bt246.1 1) (rd bt246.1 2)).bind fun t256 => (if t256.toList = a0.toList then (some (rd bt246.1 3, t243, t242, rd bt246.1 0, rd bt246.1 1, rd bt246.1 2, true)) else (some (0, 0, 0, 0, 0, 0, false)))) else (some (0, 0, 0, 0, 0, 0, false)))) else (none)) else (none)) else (none)) else (none)) else (some (0, 0, 0, 0, 0, 0, false)))) = some (r1, r2, r3, r4, r5, r6, r7) := by first | (rw [hy245]; with_reducible exact H) | (have H2_ := (Option.bind_some _ _).symm.trans H; rw [hy245]; with_reducible exact H2_) | (have H2_ := (Option.bind_some _ _).symm.trans H; with_reducible exact H2_) | with_reducible exact H | (rw [hy245]; exact H) | exact H
        have Ny245 := Aside0.mk hy245
        clear hy245
        replace H := Option.bind_eq_some_iff.mp H
        obtain ⟨⟨t246, t247⟩, A210, H⟩ := H
        replace H : (if t247 = true then (if 3 < (t246.length : Int) then (if 0 < (t246.length : Int) then (if 1 < (t246.length : Int) then (if 2 < (t246.length : Int) then ((impl_IsValidWarning.f (rd t246 3) t243 t242 (rd t246 0) (rd t246 1) (rd t246 2)).bind fun t255 => (if t255 = true then ((impl_warningCode.f kj2 (rd t246 3) t243 t242 (rd t246 0) (rd t246 1) (rd t246 2)).bind fun t256 => (if t256.toList = a0.toList then (some (rd t246 3, t243, t242, rd t246 0, rd t246 1, rd t246 2, true)) else (some (0, 0, 0, 0, 0, 0, false)))) else (some (0, 0, 0, 0, 0, 0, false)))) else (none)) else (none)) else (none)) else (none)) else (some (0, 0, 0, 0, 0, 0, false))) = some (r1, r2, r3, r4, r5, r6, r7) := H
        have A21 := Aside0.mk A210
        clear A210
        by_cases c22 : t247 = true
        ·subst c22
         rw [if_pos rfl] at H
         by_cases c23 : 3 < (t246.length : Int)
         ·rw [if_pos c23] at H
          have c23b0 : decide (3 < (t246.length : Int)) = true := decide_eq_true c23
          have c23b1 : decide (3 < t246.length) = true := decide_eq_true (by omega)
          clear c23
          by_cases c24 : 0 < (t246.length : Int)
          ·rw [if_pos c24] at H
           have c24b0 : decide (0 < (t246.length : Int)) = true := decide_eq_true c24
           have c24b1 : decide (0 < t246.length) = true := decide_eq_true (by omega)
           clear c24
           by_cases c25 : 1 < (t246.length : Int)
           ·rw [if_pos c25] at H
            have c25b0 : decide (1 < (t246.length : Int)) = true := decide_eq_true c25
            have c25b1 : decide (1 < t246.length) = true := decide_eq_true (by omega)
            clear c25
            by_cases c26 : 2 < (t246.length : Int)
            ·rw [if_pos c26] at H
             have c26b0 : decide (2 < (t246.length : Int)) = true := decide_eq_true c26
             have c26b1 : decide (2 < t246.length) = true := decide_eq_true (by omega)
             clear c26
             replace H := Option.bind_eq_some_iff.mp H
             obtain ⟨t255, A270, H⟩ := H
             replace H : (if t255 = true then ((impl_warningCode.f kj2 (rd t246 3) t243 t242 (rd t246 0) (rd t246 1) (rd t246 2)).bind fun t256 => (if t256.toList = a0.toList then (some (rd t246 3, t243, t242, rd t246 0, rd t246 1, rd t246 2, true)) else (some (0, 0, 0, 0, 0, 0, false)))) else (some (0, 0, 0, 0, 0, 0, false))) = some (r1, r2, r3, r4, r5, r6, r7) := H
             have A27 := Aside0.mk A270
             clear A270
             have HH_ := Aside0.mk H
             clear H
             try go_wp2
             replace HO_4 := Aside0.mk (Kd.R_drew HO_4.out)
             replace BK237 := Aside0.mk (blk_drew BK237.out)
             replace HB := Aside0.mk (below_drew1 HB.out)
             have p13 : 0 ≤ (0 : Int) := (by omega)
             have q13 : 0 < a0.size := (by have : (0 : Int) < (a0.size : Int) := of_decide_eq_true zax; omega)
             have hx13 : ∀ h : 0 < a0.size, ((a0[0]'h).toNat : Int) = bt a0 0 := bt_at a0 0
             clear p13
             have qi13 : (0 < (a0.size : Int)) = True := eq_true (of_decide_eq_true zax)
             replace q13 := eq_true q13
             have p16 : 0 ≤ (1 : Int) := (by omega)
             have q16 : 1 < a0.size := (by have : (1 : Int) < (a0.size : Int) := of_decide_eq_true zax; omega)
             have hx16 : ∀ h : 1 < a0.size, ((a0[1]'h).toNat : Int) = bt a0 1 := bt_at a0 1
             clear p16
             have qi16 : (1 < (a0.size : Int)) = True := eq_true (of_decide_eq_true zax)
             replace q16 := eq_true q16
             refine start_ (n := 8) (S := fun w' => True) (ds := []) #[F,F,F,F,F,F,F,F] (by kernel_rfl) rfl rfl trivial (fun hHeld => ?_); refine with_tabW impl_ParseCode.tab4 impl_ParseCode.bits4 (fun HT_ HW_ => ?_)
             generalize wc.drew = w31 at HO_4 BK237 HB hHeld ⊢
             refine pure_ (i := 0) (N := some 23) (v := ?_) (a' := ?_) #[T,F,F,F,F,F,F,F] rfl rfl (any_of HT_.out (by kernel_rfl)) (fun _ _ _ h => h) (Or.inl ⟨by rfl, ?_⟩) ?_ ?_
             rotate_left
             ·exact zwx
             rotate_left
             ·exact zpx
             refine pure_ (i := 3) (N := some 26) (v := ?_) (a' := ?_) #[T,F,F,T,F,F,F,F] rfl rfl (any_of HT_.out (by kernel_rfl)) (fun _ _ _ h => h) (Or.inl ⟨by rfl, ?_⟩) ?_ ?_
             rotate_left
             ·exact zwx
             rotate_left
             ·exact zpx
             refine take_ (i := 1) (N := some 24) (v := ?_) (a' := ?_) #[T,T,F,T,F,F,F,F] rfl rfl (take_ofW HT_.out HW_.out (by kernel_rfl)) (fun _ _ _ h => h) (Or.inl ⟨by rfl, ?_⟩) hHeld ?_ ?_
             rotate_left
             ·intro w' _
              go_simp
              with_reducible rfl
             rotate_left
             ·exact zpx
             refine take_ (i := 4) (N := some 27) (v := ?_) (a' := ?_) #[T,T,F,T,T,F,F,F] rfl rfl (take_ofW HT_.out HW_.out (by kernel_rfl)) (fun _ _ _ h => h) (Or.inl ⟨by rfl, ?_⟩) hHeld ?_ ?_
             rotate_left
             ·intro w' _
              go_simp
              with_reducible rfl
             rotate_left
             ·exact zpx
             refine one_ (i := 2) (N := some 25) #[T,T,T,T,T,F,F,F] rfl rfl (one_of HT_.out (by kernel_rfl)) (by decide) (fun K hK => ?_)
             refine goes_ Tryz.func46 (by kernel_rfl) rfl #[.string (⟨#[32, 89, 79, 82]⟩ : ByteArray), .int .u8 (bt a0 0)] (by rfl) rfl rfl zlx ?_
             with_reducible refine (strings_IndexByte.calls (⟨#[32, 89, 79, 82]⟩ : ByteArray) (bt a0 0) t242 _ A14.out).mono ?_
             rintro e w' ⟨rfl, ⟨nd, rfl⟩⟩
             have m0_ := Aside0.mk (Kd.R_drewN HO_4.out nd)
             have m1_ := Aside0.mk (blk_drewN BK237.out nd)
             have m2_ := Aside0.mk (pw_below_drewN HB.out nd)
             clear HO_4 BK237 HB
             generalize hq_ : World.drewN w31 nd = w31 at m0_ m1_ m2_ ⊢
             clear hq_ hHeld
             have HO_4 := m0_
             have BK237 := m1_
             have HB := m2_
             clear m0_ m1_ m2_
             refine ⟨_, rfl, ?_⟩
             refine hK.out _ _ trivial (fun hHeld => ?_)
             clear hK K
             refine norm_ (a' := ?_) ?_ ?_
             rotate_left
             ·show Act.put _ (some 25) _ = _
              simp only [Act.put, List.setIfInBounds_toArray, List.set_cons_zero, List.set_cons_succ, i64_w, i32_w]
              rfl
             refine one_ (i := 5) (N := some 28) #[T,T,T,T,T,T,F,F] rfl rfl (one_of HT_.out (by kernel_rfl)) (by decide) (fun K hK => ?_)
             refine goes_ Tryz.func46 (by kernel_rfl) rfl #[.string (⟨#[32, 87, 82, 83, 72, 84]⟩ : ByteArray), .int .u8 (bt a0 1)] (by rfl) rfl rfl zlx ?_
             with_reducible refine (strings_IndexByte.calls (⟨#[32, 87, 82, 83, 72, 84]⟩ : ByteArray) (bt a0 1) t243 _ A17.out).mono ?_
             rintro e w' ⟨rfl, ⟨nd, rfl⟩⟩
             have m0_ := Aside0.mk (Kd.R_drewN HO_4.out nd)
             have m1_ := Aside0.mk (blk_drewN BK237.out nd)
             have m2_ := Aside0.mk (pw_below_drewN HB.out nd)
             clear HO_4 BK237 HB
             generalize hq_ : World.drewN w31 nd = w31 at m0_ m1_ m2_ ⊢
             clear hq_ hHeld
             have HO_4 := m0_
             have BK237 := m1_
             have HB := m2_
             clear m0_ m1_ m2_
             refine ⟨_, rfl, ?_⟩
             refine hK.out _ _ trivial (fun hHeld => ?_)
             clear hK K
             refine norm_ (a' := ?_) ?_ ?_
             rotate_left
             ·show Act.put _ (some 28) _ = _
              simp only [Act.put, List.setIfInBounds_toArray, List.set_cons_zero, List.set_cons_succ, i64_w, i32_w]
              rfl
             refine pure_ (i := 6) (N := some 5) (v := ?_) (a' := ?_) #[T,T,T,T,T,T,T,F] rfl rfl (any_of HT_.out (by kernel_rfl)) (fun _ _ _ h => h) (Or.inl ⟨by rfl, ?_⟩) ?_ ?_
             rotate_left
             ·exact zwx
             rotate_left
             ·exact zpx
             refine pure_ (i := 7) (N := some 6) (v := ?_) (a' := ?_) #[T,T,T,T,T,T,T,T] rfl rfl (any_of HT_.out (by kernel_rfl)) (fun _ _ _ h => h) (Or.inl ⟨by rfl, ?_⟩) ?_ ?_
             rotate_left
             ·exact zwx
             rotate_left
             ·exact zpx
             refine done_ (done_of HT_.out (by kernel_rfl)) ?_
             obtain ⟨Ao32, co32, eo32⟩ := Kd.R_slice HO_4.out
             subst eo32
             have p244 : 0 ≤ (0 : Int) := (by omega)
             have q244 : 0 < (t238.length : Int) := of_decide_eq_true zax
             obtain ⟨ad244, e244, hx244_0⟩ := Kd.at_string (Kd.R_reads' HO_4.out).2.2 0 p244 q244
             cases e244
             have qi244 : (0 < t238.length) = True := eq_true (by omega)
             (try rw [show ((0 : Int)).toNat = 0 from rfl] at hx244_0)
             (try rw [Addr.add_zero'] at hx244_0)
             replace p244 := eq_true p244
             replace q244 := eq_true q244
             have p20 : 0 ≤ (0 : Int) := (by omega)
             have q20 : (0 : Int) < ((t238.length : Int) : Int) := of_decide_eq_true zax
             have qi20 : (0 < t238.length) = True := eq_true (by omega)
             obtain ⟨go20, co20, eo20, gb20, gl20, cl20, HG20⟩ := Kd.R_form HO_4.out (by omega)
             (first | cases eo20 | (injection eo20 with ea_ en_ ec_; (first | subst ea_ | (injection ea_ with ea_; subst ea_)); subst ec_; clear en_))
             have GB20 := Aside0.mk gb20
             have GG20 := Aside0.mk HG20
             clear gb20 gl20 HG20
             (first | simp only [add_plain] at hx244_0 | skip)
             obtain ⟨hx20_0, hf20_0⟩ := Kd.R_celln (⟨#[]⟩ : ByteArray) HO_4.out (0 : Int) p20 q20
             (try rw [show ((0 : Int)).toNat = 0 from rfl] at hx20_0)
             (try simp only [Nat.reduceMul, Nat.zero_mul, Nat.zero_add, Nat.reduceAdd] at hx20_0)
             (try rw [show ((0 : Int)).toNat = 0 from rfl] at hf20_0)
             (try simp only [Nat.reduceMul, Nat.zero_mul, Nat.zero_add, Nat.reduceAdd] at hf20_0)
             replace p20 := eq_true p20
             replace q20 := eq_true q20
             obtain ⟨hy33_, hz33_⟩ := Kd.R_celln (⟨#[]⟩ : ByteArray) HO_4.out (0 : Int) (by omega) (of_decide_eq_true zax)
             (try simp only [Int.reduceToNat, Int.toNat_zero, Int.toNat_ofNat, Nat.reduceMul, Nat.zero_mul, Nat.zero_add] at hy33_ hz33_)
             (try rw [show ((0 : Int)).toNat = 0 from rfl] at hy33_)
             (try rw [show ((0 : Int)).toNat = 0 from rfl] at hz33_)
             have HP33 := Kd.R_putg HO_4.out (0 : Int) ((rdOf ByteArray.empty t238 0).extract 2 (rdOf ByteArray.empty t238 0).size)
             try go_wp2_with (first | ((with_reducible refine gate_store (t := 9) (p := 34) rfl ?_); refine store_event (t := 9) (p := 34) (v := ?vo_w34) (w1 := (w31.setCell ⟨go20, (0 : Int).toNat, none⟩ (.string ((rdOf ByteArray.empty t238 0).extract 2 (rdOf ByteArray.empty t238 0).size)))) ?hg ?ho ?hn ?hr ?_; (case ho => rfl); (case hg => rfl); (case hn => rfl); (case hr => exact zsx); intro w34 hw; have hg : w31.grownBy w34 (some go20) := (by rw [hw]; exact HP33.2); have hp_ : Kd.R Kd.string 9 w34 w.heap.size (fun _ => True) (.slice (some ⟨go20, 0, none⟩) t238.length co32) y245 := (by rw [hw, Ny245.out]; exact HP33.1); clear HP33; replace BK237 := Aside0.mk (blk_grown (g := gb237) (o := .cells #[.int .i64 0, .int .i64 0, .int .i64 0, .int .i64 0, .int .i64 0, .int .i64 0] 25 (0, 0)) (zbx BK237.out) hg (Kd.R_ne HO_4.out BK237.out (by decide))); replace HO_4 := Aside0.mk (hp_); replace HB := Aside0.mk ((by rw [hw]; exact below_set (HB.out) GB20.out : Below w.heap.size w w34)); clear hg hw hp_) | ((with_reducible refine gate_callee (f := 39) rfl ?_); refine goesL_ (some 37) rfl rfl Tryz.func39 (by kernel_rfl) rfl #[.slice (some ⟨go20, 0, none⟩) y245.length co32] rfl (by (try simp only [List.map_toArray, List.map_cons, List.map_nil]); first | done | (rw [show y245.length = t238.length from (Kd.R_reads' HO_4.out).1.symm] <;> rfl) | rfl | (simp only [List.length_drop, List.length_take]; rfl)) ?_; (with_reducible refine (impl_readInts.calls kj2 _ _ y245 t246 true _ ?side1 ?side2 ?sideL A21.out).mono ?_); (case sideL => exact Laid.below HL.out (zBy HB.out GE237.out)); (case side1 => exact zCx (Kd.R_reads' HO_4.out).2.2); (case side2 => rw [show y245.length = t238.length from (Kd.R_reads' HO_4.out).1.symm]; exact (Kd.R_reads' HO_4.out).2.1); rintro e w35 ⟨v248, rfl, ho0, hb⟩; refine ⟨_, rfl, ?_⟩; replace HO_4 := Aside0.mk (Kd.R_below (zRx HO_4.out) hb); have HO249 := Aside0.mk (Kd.R_lower ho0 (below_size (zBy HB.out GE237.out))); replace BK237 := zbl BK237.out hb; replace HB := Aside0.mk (below_step (zBy HB.out GE237.out) hb); (try clear hb); (try clear ho0)))
             replace HO_4 := Aside0.mk (Kd.R_drew HO_4.out)
             replace HO249 := Aside0.mk (Kd.R_drew HO249.out)
             replace BK237 := Aside0.mk (blk_drew BK237.out)
             replace HB := Aside0.mk (below_drew1 HB.out)
             obtain ⟨Ao37, co37, eo37⟩ := Kd.R_slice HO249.out
             (first | subst eo37 | (injection eo37 with f1_ f2_ f3_; have f4_ := f1_.symm; have f5_ := f3_.symm; clear f1_ f2_ f3_; subst f4_; subst f5_))
             have p250 : 0 ≤ (3 : Int) := (by omega)
             have q250 : 3 < (t246.length : Int) := of_decide_eq_true zax
             obtain ⟨ad250, e250, hx250_0⟩ := Kd.at_int (Kd.R_reads' HO249.out).2.2 3 p250 q250
             cases e250
             (try simp only [show (3 : Int).toNat = 3 from rfl, Nat.reduceMul, Nat.reduceEqDiff, Go.Addr.add, ↓reduceIte] at hx250_0)
             have qi250 : (3 < t246.length) = True := eq_true (by omega)
             (try rw [show ((3 : Int)).toNat = 3 from rfl] at hx250_0)
             replace p250 := eq_true p250
             replace q250 := eq_true q250
             have p251 : 0 ≤ (0 : Int) := (by omega)
             have q251 : 0 < (t246.length : Int) := of_decide_eq_true zax
             obtain ⟨ad251, e251, hx251_0⟩ := Kd.at_int (Kd.R_reads' HO249.out).2.2 0 p251 q251
             obtain rfl : ad250 = ad251 := (by injection e251)
             have qi251 : (0 < t246.length) = True := eq_true (by omega)
             (try rw [show ((0 : Int)).toNat = 0 from rfl] at hx251_0)
             (try rw [Addr.add_zero'] at hx251_0)
             replace p251 := eq_true p251
             replace q251 := eq_true q251
             have p252 : 0 ≤ (1 : Int) := (by omega)
             have q252 : 1 < (t246.length : Int) := of_decide_eq_true zax
             obtain ⟨ad252, e252, hx252_0⟩ := Kd.at_int (Kd.R_reads' HO249.out).2.2 1 p252 q252
             obtain rfl : ad250 = ad252 := (by injection e252)
             (try simp only [show (1 : Int).toNat = 1 from rfl, Nat.reduceMul, Nat.reduceEqDiff, Go.Addr.add, ↓reduceIte] at hx252_0)
             have qi252 : (1 < t246.length) = True := eq_true (by omega)
             (try rw [show ((1 : Int)).toNat = 1 from rfl] at hx252_0)
             replace p252 := eq_true p252
             replace q252 := eq_true q252
             have p253 : 0 ≤ (2 : Int) := (by omega)
             have q253 : 2 < (t246.length : Int) := of_decide_eq_true zax
             obtain ⟨ad253, e253, hx253_0⟩ := Kd.at_int (Kd.R_reads' HO249.out).2.2 2 p253 q253
             obtain rfl : ad250 = ad253 := (by injection e253)
             (try simp only [show (2 : Int).toNat = 2 from rfl, Nat.reduceMul, Nat.reduceEqDiff, Go.Addr.add, ↓reduceIte] at hx253_0)
             have qi253 : (2 < t246.length) = True := eq_true (by omega)
             (try rw [show ((2 : Int)).toNat = 2 from rfl] at hx253_0)
             replace p253 := eq_true p253
             replace q253 := eq_true q253
             refine start_ (n := 17) (S := fun w' => w'.cell? ⟨ad250.block, ad250.off + 3, none⟩ = some (.int .i64 (rd t246 3)) ∧ w'.cell? ad250 = some (.int .i64 (rd t246 0)) ∧ w'.cell? ⟨ad250.block, ad250.off + 1, none⟩ = some (.int .i64 (rd t246 1)) ∧ w'.cell? ⟨ad250.block, ad250.off + 2, none⟩ = some (.int .i64 (rd t246 2))) (ds := []) #[F,F,F,F,F,F,F,F,F,F,F,F,F,F,F,F,F] (by kernel_rfl) rfl rfl ⟨hx250_0, hx251_0, hx252_0, hx253_0⟩ (fun hHeld => ?_); refine with_tabW impl_ParseCode.tab9 impl_ParseCode.bits9 (fun HT_ HW_ => ?_)
             generalize w35.drew = w36 at HO_4 HO249 BK237 HB hx250_0 hx251_0 hx252_0 hx253_0 hHeld ⊢
             refine pure_ (i := 0) (N := some 43) (v := ?_) (a' := ?_) #[T,F,F,F,F,F,F,F,F,F,F,F,F,F,F,F,F] rfl rfl (any_of HT_.out (by kernel_rfl)) (fun _ _ _ h => h) (Or.inl ⟨by rfl, ?_⟩) ?_ ?_
             rotate_left
             ·exact zwx
             rotate_left
             ·exact zpx
             refine pure_ (i := 1) (N := some 44) (v := ?_) (a' := ?_) #[T,T,F,F,F,F,F,F,F,F,F,F,F,F,F,F,F] rfl rfl (any_of HT_.out (by kernel_rfl)) (fun _ _ _ h => h) (Or.inl ⟨by rfl, ?_⟩) ?_ ?_
             rotate_left
             ·exact zwx
             rotate_left
             ·exact zpx
             refine pure_ (i := 3) (N := some 46) (v := ?_) (a' := ?_) #[T,T,F,T,F,F,F,F,F,F,F,F,F,F,F,F,F] rfl rfl (any_of HT_.out (by kernel_rfl)) (fun _ _ _ h => h) (Or.inl ⟨by rfl, ?_⟩) ?_ ?_
             rotate_left
             ·exact zwx
             rotate_left
             ·exact zpx
             refine pure_ (i := 4) (N := some 47) (v := ?_) (a' := ?_) #[T,T,F,T,T,F,F,F,F,F,F,F,F,F,F,F,F] rfl rfl (any_of HT_.out (by kernel_rfl)) (fun _ _ _ h => h) (Or.inl ⟨by rfl, ?_⟩) ?_ ?_
             rotate_left
             ·exact zwx
             rotate_left
             ·exact zpx
             refine pure_ (i := 5) (N := some 48) (v := ?_) (a' := ?_) #[T,T,F,T,T,T,F,F,F,F,F,F,F,F,F,F,F] rfl rfl (any_of HT_.out (by kernel_rfl)) (fun _ _ _ h => h) (Or.inl ⟨by rfl, ?_⟩) ?_ ?_
             rotate_left
             ·exact zwx
             rotate_left
             ·exact zpx
             refine pure_ (i := 6) (N := some 49) (v := ?_) (a' := ?_) #[T,T,F,T,T,T,T,F,F,F,F,F,F,F,F,F,F] rfl rfl (any_of HT_.out (by kernel_rfl)) (fun _ _ _ h => h) (Or.inl ⟨by rfl, ?_⟩) ?_ ?_
             rotate_left
             ·exact zwx
             rotate_left
             ·exact zpx
             refine pure_ (i := 8) (N := some 51) (v := ?_) (a' := ?_) #[T,T,F,T,T,T,T,F,T,F,F,F,F,F,F,F,F] rfl rfl (any_of HT_.out (by kernel_rfl)) (fun _ _ _ h => h) (Or.inl ⟨by rfl, ?_⟩) ?_ ?_
             rotate_left
             ·exact zwx
             rotate_left
             ·exact zpx
             refine pure_ (i := 9) (N := some 52) (v := ?_) (a' := ?_) #[T,T,F,T,T,T,T,F,T,T,F,F,F,F,F,F,F] rfl rfl (any_of HT_.out (by kernel_rfl)) (fun _ _ _ h => h) (Or.inl ⟨by rfl, ?_⟩) ?_ ?_
             rotate_left
             ·exact zwx
             rotate_left
             ·exact zpx
             refine pure_ (i := 11) (N := some 54) (v := ?_) (a' := ?_) #[T,T,F,T,T,T,T,F,T,T,F,T,F,F,F,F,F] rfl rfl (any_of HT_.out (by kernel_rfl)) (fun _ _ _ h => h) (Or.inl ⟨by rfl, ?_⟩) ?_ ?_
             rotate_left
             ·exact zwx
             rotate_left
             ·exact zpx
             refine pure_ (i := 12) (N := some 55) (v := ?_) (a' := ?_) #[T,T,F,T,T,T,T,F,T,T,F,T,T,F,F,F,F] rfl rfl (any_of HT_.out (by kernel_rfl)) (fun _ _ _ h => h) (Or.inl ⟨by rfl, ?_⟩) ?_ ?_
             rotate_left
             ·exact zwx
             rotate_left
             ·exact zpx
             refine take_ (i := 2) (N := some 45) (v := ?_) (a' := ?_) #[T,T,T,T,T,T,T,F,T,T,F,T,T,F,F,F,F] rfl rfl (take_ofW HT_.out HW_.out (by kernel_rfl)) (fun _ _ _ h => h) (Or.inl ⟨by rfl, ?_⟩) hHeld ?_ ?_
             rotate_left
             ·rintro w' ⟨s0, s1, s2, s3⟩
              go_simp
              with_reducible rfl
             rotate_left
             ·exact zpx
             refine take_ (i := 7) (N := some 50) (v := ?_) (a' := ?_) #[T,T,T,T,T,T,T,T,T,T,F,T,T,F,F,F,F] rfl rfl (take_ofW HT_.out HW_.out (by kernel_rfl)) (fun _ _ _ h => h) (Or.inl ⟨by rfl, ?_⟩) hHeld ?_ ?_
             rotate_left
             ·rintro w' ⟨s0, s1, s2, s3⟩
              go_simp
              with_reducible rfl
             rotate_left
             ·exact zpx
             refine take_ (i := 10) (N := some 53) (v := ?_) (a' := ?_) #[T,T,T,T,T,T,T,T,T,T,T,T,T,F,F,F,F] rfl rfl (take_ofW HT_.out HW_.out (by kernel_rfl)) (fun _ _ _ h => h) (Or.inl ⟨by rfl, ?_⟩) hHeld ?_ ?_
             rotate_left
             ·rintro w' ⟨s0, s1, s2, s3⟩
              go_simp
              with_reducible rfl
             rotate_left
             ·exact zpx
             refine take_ (i := 13) (N := some 56) (v := ?_) (a' := ?_) #[T,T,T,T,T,T,T,T,T,T,T,T,T,T,F,F,F] rfl rfl (take_ofW HT_.out HW_.out (by kernel_rfl)) (fun _ _ _ h => h) (Or.inl ⟨by rfl, ?_⟩) hHeld ?_ ?_
             rotate_left
             ·rintro w' ⟨s0, s1, s2, s3⟩
              go_simp
              with_reducible rfl
             rotate_left
             ·exact zpx
             refine pure_ (i := 14) (N := some 57) (v := ?_) (a' := ?_) #[T,T,T,T,T,T,T,T,T,T,T,T,T,T,T,F,F] rfl rfl (any_of HT_.out (by kernel_rfl)) (fun _ _ _ h => h) (Or.inl ⟨by rfl, ?_⟩) ?_ ?_
             rotate_left
             ·exact zwx
             rotate_left
             ·exact zpx
             refine one_ (i := 15) (N := some 9) #[T,T,T,T,T,T,T,T,T,T,T,T,T,T,T,T,F] rfl rfl (one_of HT_.out (by kernel_rfl)) (by decide) (fun K hK => ?_)
             refine box_step ?hg (N := 9) ?hd (cs := #[.int .i64 0, .int .i64 0, .int .i64 0, .int .i64 0, .int .i64 0, .int .i64 0]) (t := 25) ?hr ?_; (case hd => rfl); (case hg => rfl); (case hr => exact zsx)
             intro gb254 hg w38 hbox hb
             have HS0_ := (hb.cell (World.block_lt_of_cell? _ _ (hHeld.1))).trans (hHeld.1)
             have HS1_ := (hb.cell (World.block_lt_of_cell? _ _ (hHeld.2.1))).trans (hHeld.2.1)
             have HS2_ := (hb.cell (World.block_lt_of_cell? _ _ (hHeld.2.2.1))).trans (hHeld.2.2.1)
             have HS3_ := (hb.cell (World.block_lt_of_cell? _ _ (hHeld.2.2.2))).trans (hHeld.2.2.2)
             replace HO_4 := Aside0.mk (Kd.R_below (zRx HO_4.out) hb)
             replace HO249 := Aside0.mk (Kd.R_below (zRx HO249.out) hb)
             have BK254 := Aside0.mk (hbox)
             have GW254 := zns hg HB.out
             have GE254 := zns hg HB.out
             replace HB := Aside0.mk (below_step (zBy HB.out GE237.out) hb)
             have NB237_254 := znl hg BK237.out
             have NB254_237 := zng hg BK237.out
             replace BK237 := zbl BK237.out hb
             clear hb hbox hg
             refine hK.out _ _ ⟨HS0_, HS1_, HS2_, HS3_⟩ (fun hHeld => ?_)
             clear hK K
             refine norm_ (a' := ?_) ?_ ?_
             rotate_left
             ·show Act.put _ (some 9) _ = _
              simp only [Act.put, List.setIfInBounds_toArray, List.set_cons_zero, List.set_cons_succ, i64_w, i32_w]
              rfl
             refine one_ (i := 16) (N := none) #[T,T,T,T,T,T,T,T,T,T,T,T,T,T,T,T,T] rfl rfl (one_of HT_.out (by kernel_rfl)) (by decide) (fun K hK => ?_)
             have hs39 : w38.cell? ⟨gb254, 0, none⟩ = some (.int .i64 0) := (blk_cell BK254.out 0).trans rfl
             have hfs39 := blk_frozen BK254.out 0
             have hns39_0 := NB237_254.out
             have hms39_0 := NB254_237.out
             have hs40 : w38.cell? ⟨gb254, 1, none⟩ = some (.int .i64 0) := (blk_cell BK254.out 1).trans rfl
             have hfs40 := blk_frozen BK254.out 1
             have hns40_0 := NB237_254.out
             have hms40_0 := NB254_237.out
             have hs41 : w38.cell? ⟨gb254, 2, none⟩ = some (.int .i64 0) := (blk_cell BK254.out 2).trans rfl
             have hfs41 := blk_frozen BK254.out 2
             have hns41_0 := NB237_254.out
             have hms41_0 := NB254_237.out
             have hs42 : w38.cell? ⟨gb254, 3, none⟩ = some (.int .i64 0) := (blk_cell BK254.out 3).trans rfl
             have hfs42 := blk_frozen BK254.out 3
             have hns42_0 := NB237_254.out
             have hms42_0 := NB254_237.out
             have hs43 : w38.cell? ⟨gb254, 4, none⟩ = some (.int .i64 0) := (blk_cell BK254.out 4).trans rfl
             have hfs43 := blk_frozen BK254.out 4
             have hns43_0 := NB237_254.out
             have hms43_0 := NB254_237.out
             have hs44 : w38.cell? ⟨gb254, 5, none⟩ = some (.int .i64 0) := (blk_cell BK254.out 5).trans rfl
             have hfs44 := blk_frozen BK254.out 5
             have hns44_0 := NB237_254.out
             have hms44_0 := NB254_237.out
             refine skip_ (w1 := ?_) (by rfl) rfl ?_ ?_
             rotate_left
             ·go_simp
              rfl
             have hne_ : ad250.block ≠ gb254 := Kd.own_blk (Kd.R_ne HO249.out BK254.out (by decide))
             refine hK.out _ _ ⟨(by (repeat (with_reducible first | refine (cell_far (p := ⟨gb254, _, none⟩) (a := ⟨ad250.block, _, none⟩) hne_ _).trans ?_ | refine (cell_far (p := ⟨gb254, _, none⟩) (a := ad250) hne_ _).trans ?_)); with_reducible exact hHeld.1), (by (repeat (with_reducible first | refine (cell_far (p := ⟨gb254, _, none⟩) (a := ⟨ad250.block, _, none⟩) hne_ _).trans ?_ | refine (cell_far (p := ⟨gb254, _, none⟩) (a := ad250) hne_ _).trans ?_)); with_reducible exact hHeld.2.1), (by (repeat (with_reducible first | refine (cell_far (p := ⟨gb254, _, none⟩) (a := ⟨ad250.block, _, none⟩) hne_ _).trans ?_ | refine (cell_far (p := ⟨gb254, _, none⟩) (a := ad250) hne_ _).trans ?_)); with_reducible exact hHeld.2.2.1), (by (repeat (with_reducible first | refine (cell_far (p := ⟨gb254, _, none⟩) (a := ⟨ad250.block, _, none⟩) hne_ _).trans ?_ | refine (cell_far (p := ⟨gb254, _, none⟩) (a := ad250) hne_ _).trans ?_)); with_reducible exact hHeld.2.2.2)⟩ (fun hHeld => ?_)
             clear hK K
             refine done_ (done_of HT_.out (by kernel_rfl)) ?_
             have hnb45 := NB254_237.out
             have hnc45 := NB237_254.out
             have hcz46_0 : w38.cell? ⟨gb254, 0, none⟩ = some (.int .i64 0) := (blk_cell BK254.out 0).trans rfl
             have hcz46_1 : w38.cell? ⟨gb254, 1, none⟩ = some (.int .i64 0) := (blk_cell BK254.out 1).trans rfl
             have hcz46_2 : w38.cell? ⟨gb254, 2, none⟩ = some (.int .i64 0) := (blk_cell BK254.out 2).trans rfl
             have hcz46_3 : w38.cell? ⟨gb254, 3, none⟩ = some (.int .i64 0) := (blk_cell BK254.out 3).trans rfl
             have hcz46_4 : w38.cell? ⟨gb254, 4, none⟩ = some (.int .i64 0) := (blk_cell BK254.out 4).trans rfl
             have hcz46_5 : w38.cell? ⟨gb254, 5, none⟩ = some (.int .i64 0) := (blk_cell BK254.out 5).trans rfl
             have hfz46_0 := blk_frozen BK254.out 0
             have hfz46_1 := blk_frozen BK254.out 1
             have hfz46_2 := blk_frozen BK254.out 2
             have hfz46_3 := blk_frozen BK254.out 3
             have hfz46_4 := blk_frozen BK254.out 4
             have hfz46_5 := blk_frozen BK254.out 5
             have H := HH_.out
             clear HH_
             by_cases c28 : t255 = true
             ·subst c28
              rw [if_pos rfl] at H
              replace H := Option.bind_eq_some_iff.mp H
              obtain ⟨t256, A290, H⟩ := H
              replace H : (if t256.toList = a0.toList then (some (rd t246 3, t243, t242, rd t246 0, rd t246 1, rd t246 2, true)) else (some (0, 0, 0, 0, 0, 0, false))) = some (r1, r2, r3, r4, r5, r6, r7) := H
              have A29 := Aside0.mk A290
              clear A290
              by_cases c30 : t256.toList = a0.toList
              ·rw [if_pos c30] at H
               have c30b0 : (t256.toList == a0.toList) = true := beq_iff_eq.mpr c30
               have c30b1 : (t256.toList != a0.toList) = false := bne_eq_false_iff_eq.mpr c30
               clear c30
               focus
                simp only [Option.some.injEq, Prod.mk.injEq] at H
                obtain ⟨rfl, rfl, rfl, rfl, rfl, rfl, rfl⟩ := H
                try go_wp2_with (first | ((with_reducible refine gate_callee (f := 36) rfl ?_); refine goesL_ (some 59) rfl rfl Tryz.func36 (by kernel_rfl) rfl #[.agg #[.int .i64 (rd t246 3), .int .i64 t243, .int .i64 t242, .int .i64 (rd t246 0), .int .i64 (rd t246 1), .int .i64 (rd t246 2)]] rfl zlx ?_; (with_reducible refine (impl_IsValidWarning.calls (rd t246 3) t243 t242 (rd t246 0) (rd t246 1) (rd t246 2) true _ A27.out).mono ?_); rintro e w47 ⟨rfl, hb⟩; refine ⟨_, rfl, ?_⟩; replace HO_4 := Aside0.mk (Kd.R_below (by (with_reducible repeat (first | apply Kd.R_alloc | apply Kd.R_drewN | apply Kd.R_drew)); exact (Kd.R_mono (Kd.R_far (p := ⟨gb254, 5, none⟩) (Kd.R_far (p := ⟨gb254, 4, none⟩) (Kd.R_far (p := ⟨gb254, 3, none⟩) (Kd.R_far (p := ⟨gb254, 2, none⟩) (Kd.R_far (p := ⟨gb254, 1, none⟩) (Kd.R_far (p := ⟨gb254, 0, none⟩) (Kd.R_types HO_4.out BK254.out (by decide)) (fun _ hk => hk.2) (.int .i64 (rd t246 3))) (fun _ hk => hk.2) (.int .i64 t243)) (fun _ hk => hk.2) (.int .i64 t242)) (fun _ hk => hk.2) (.int .i64 (rd t246 0))) (fun _ hk => hk.2) (.int .i64 (rd t246 1))) (fun _ hk => hk.2) (.int .i64 (rd t246 2))) (fun _ h_ => h_.1))) hb); replace HO249 := Aside0.mk (Kd.R_below (by (with_reducible repeat (first | apply Kd.R_alloc | apply Kd.R_drewN | apply Kd.R_drew)); exact (Kd.R_mono (Kd.R_far (p := ⟨gb254, 5, none⟩) (Kd.R_far (p := ⟨gb254, 4, none⟩) (Kd.R_far (p := ⟨gb254, 3, none⟩) (Kd.R_far (p := ⟨gb254, 2, none⟩) (Kd.R_far (p := ⟨gb254, 1, none⟩) (Kd.R_far (p := ⟨gb254, 0, none⟩) (Kd.R_types HO249.out BK254.out (by decide)) (fun _ hk => hk.2) (.int .i64 (rd t246 3))) (fun _ hk => hk.2) (.int .i64 t243)) (fun _ hk => hk.2) (.int .i64 t242)) (fun _ hk => hk.2) (.int .i64 (rd t246 0))) (fun _ hk => hk.2) (.int .i64 (rd t246 1))) (fun _ hk => hk.2) (.int .i64 (rd t246 2))) (fun _ h_ => h_.1))) hb); replace BK237 := zbl BK237.out hb; replace BK254 := Aside0.mk (blk_below (g := gb254) (o := .cells #[.int .i64 (rd t246 3), .int .i64 t243, .int .i64 t242, .int .i64 (rd t246 0), .int .i64 (rd t246 1), .int .i64 (rd t246 2)] 25 (0, 0)) (zbp BK254.out) hb); replace HB := Aside0.mk (below_step (zBz HB.out GE237.out GE254.out) hb); (try clear hb); have hcz48_0 : w47.cell? ⟨gb254, 0, none⟩ = some (.int .i64 (rd t246 3)) := (blk_cell BK254.out 0).trans rfl; have hcz48_1 : w47.cell? ⟨gb254, 1, none⟩ = some (.int .i64 t243) := (blk_cell BK254.out 1).trans rfl; have hcz48_2 : w47.cell? ⟨gb254, 2, none⟩ = some (.int .i64 t242) := (blk_cell BK254.out 2).trans rfl; have hcz48_3 : w47.cell? ⟨gb254, 3, none⟩ = some (.int .i64 (rd t246 0)) := (blk_cell BK254.out 3).trans rfl; have hcz48_4 : w47.cell? ⟨gb254, 4, none⟩ = some (.int .i64 (rd t246 1)) := (blk_cell BK254.out 4).trans rfl; have hcz48_5 : w47.cell? ⟨gb254, 5, none⟩ = some (.int .i64 (rd t246 2)) := (blk_cell BK254.out 5).trans rfl; have hfz48_0 := blk_frozen BK254.out 0; have hfz48_1 := blk_frozen BK254.out 1; have hfz48_2 := blk_frozen BK254.out 2; have hfz48_3 := blk_frozen BK254.out 3; have hfz48_4 := blk_frozen BK254.out 4; have hfz48_5 := blk_frozen BK254.out 5) | (go_at_call 44; (with_reducible refine (impl_warningCode.calls kj2 (rd t246 3) t243 t242 (rd t246 0) (rd t246 1) (rd t246 2) t256 _ ?sideL A29.out).mono ?_); (case sideL => exact Laid.below HL.out (zBz HB.out GE237.out GE254.out)); rintro e w49 ⟨rfl, hb⟩; replace HO_4 := Aside0.mk (Kd.R_below (zRx HO_4.out) hb); replace HO249 := Aside0.mk (Kd.R_below (zRx HO249.out) hb); replace BK237 := zbl BK237.out hb; replace BK254 := zbl BK254.out hb; replace HB := Aside0.mk (below_step (zBz HB.out GE237.out GE254.out) hb); (try clear hb); have hcz50_0 : w49.cell? ⟨gb254, 0, none⟩ = some (.int .i64 (rd t246 3)) := (blk_cell BK254.out 0).trans rfl; have hcz50_1 : w49.cell? ⟨gb254, 1, none⟩ = some (.int .i64 t243) := (blk_cell BK254.out 1).trans rfl; have hcz50_2 : w49.cell? ⟨gb254, 2, none⟩ = some (.int .i64 t242) := (blk_cell BK254.out 2).trans rfl; have hcz50_3 : w49.cell? ⟨gb254, 3, none⟩ = some (.int .i64 (rd t246 0)) := (blk_cell BK254.out 3).trans rfl; have hcz50_4 : w49.cell? ⟨gb254, 4, none⟩ = some (.int .i64 (rd t246 1)) := (blk_cell BK254.out 4).trans rfl; have hcz50_5 : w49.cell? ⟨gb254, 5, none⟩ = some (.int .i64 (rd t246 2)) := (blk_cell BK254.out 5).trans rfl; have hfz50_0 := blk_frozen BK254.out 0; have hfz50_1 := blk_frozen BK254.out 1; have hfz50_2 := blk_frozen BK254.out 2; have hfz50_3 := blk_frozen BK254.out 3; have hfz50_4 := blk_frozen BK254.out 4; have hfz50_5 := blk_frozen BK254.out 5; have hcz51_0 : w49.cell? ⟨gb237, 0, none⟩ = some (.int .i64 0) := (blk_cell BK237.out 0).trans rfl; have hcz51_1 : w49.cell? ⟨gb237, 1, none⟩ = some (.int .i64 0) := (blk_cell BK237.out 1).trans rfl; have hcz51_2 : w49.cell? ⟨gb237, 2, none⟩ = some (.int .i64 0) := (blk_cell BK237.out 2).trans rfl; have hcz51_3 : w49.cell? ⟨gb237, 3, none⟩ = some (.int .i64 0) := (blk_cell BK237.out 3).trans rfl; have hcz51_4 : w49.cell? ⟨gb237, 4, none⟩ = some (.int .i64 0) := (blk_cell BK237.out 4).trans rfl; have hcz51_5 : w49.cell? ⟨gb237, 5, none⟩ = some (.int .i64 0) := (blk_cell BK237.out 5).trans rfl; have hfz51_0 := blk_frozen BK237.out 0; have hfz51_1 := blk_frozen BK237.out 1; have hfz51_2 := blk_frozen BK237.out 2; have hfz51_3 := blk_frozen BK237.out 3; have hfz51_4 := blk_frozen BK237.out 4; have hfz51_5 := blk_frozen BK237.out 5))
                refine bodyPost_ret (results_ct rfl _ _ gb237 25 #[.int .i64 (rd t246 3), .int .i64 t243, .int .i64 t242, .int .i64 (rd t246 0), .int .i64 (rd t246 1), .int .i64 (rd t246 2)] (0, 0) _ rfl (zbp BK237.out) Tryz.underlying25 rfl (by kernel_rfl)) rfl ?_
                exact ⟨by first | rfl | (simp [errW_none, errW_some] <;> rfl) | (simp [*, errW_none, errW_some] <;> rfl), by exact zBz HB.out GE237.out GE254.out⟩
              ·rw [if_neg c30] at H
               have c30b0 : (t256.toList == a0.toList) = false := beq_eq_false_iff_ne.mpr c30
               have c30b1 : (t256.toList != a0.toList) = true := bne_iff_ne.mpr c30
               focus
                simp only [Option.some.injEq, Prod.mk.injEq] at H
                obtain ⟨rfl, rfl, rfl, rfl, rfl, rfl, rfl⟩ := H
                try go_wp2_with (first | ((with_reducible refine gate_callee (f := 36) rfl ?_); refine goesL_ (some 59) rfl rfl Tryz.func36 (by kernel_rfl) rfl #[.agg #[.int .i64 (rd t246 3), .int .i64 t243, .int .i64 t242, .int .i64 (rd t246 0), .int .i64 (rd t246 1), .int .i64 (rd t246 2)]] rfl zlx ?_; (with_reducible refine (impl_IsValidWarning.calls (rd t246 3) t243 t242 (rd t246 0) (rd t246 1) (rd t246 2) true _ A27.out).mono ?_); rintro e w68 ⟨rfl, hb⟩; refine ⟨_, rfl, ?_⟩; replace HO_4 := Aside0.mk (Kd.R_below (by (with_reducible repeat (first | apply Kd.R_alloc | apply Kd.R_drewN | apply Kd.R_drew)); exact (Kd.R_mono (Kd.R_far (p := ⟨gb254, 5, none⟩) (Kd.R_far (p := ⟨gb254, 4, none⟩) (Kd.R_far (p := ⟨gb254, 3, none⟩) (Kd.R_far (p := ⟨gb254, 2, none⟩) (Kd.R_far (p := ⟨gb254, 1, none⟩) (Kd.R_far (p := ⟨gb254, 0, none⟩) (Kd.R_types HO_4.out BK254.out (by decide)) (fun _ hk => hk.2) (.int .i64 (rd t246 3))) (fun _ hk => hk.2) (.int .i64 t243)) (fun _ hk => hk.2) (.int .i64 t242)) (fun _ hk => hk.2) (.int .i64 (rd t246 0))) (fun _ hk => hk.2) (.int .i64 (rd t246 1))) (fun _ hk => hk.2) (.int .i64 (rd t246 2))) (fun _ h_ => h_.1))) hb); replace HO249 := Aside0.mk (Kd.R_below (by (with_reducible repeat (first | apply Kd.R_alloc | apply Kd.R_drewN | apply Kd.R_drew)); exact (Kd.R_mono (Kd.R_far (p := ⟨gb254, 5, none⟩) (Kd.R_far (p := ⟨gb254, 4, none⟩) (Kd.R_far (p := ⟨gb254, 3, none⟩) (Kd.R_far (p := ⟨gb254, 2, none⟩) (Kd.R_far (p := ⟨gb254, 1, none⟩) (Kd.R_far (p := ⟨gb254, 0, none⟩) (Kd.R_types HO249.out BK254.out (by decide)) (fun _ hk => hk.2) (.int .i64 (rd t246 3))) (fun _ hk => hk.2) (.int .i64 t243)) (fun _ hk => hk.2) (.int .i64 t242)) (fun _ hk => hk.2) (.int .i64 (rd t246 0))) (fun _ hk => hk.2) (.int .i64 (rd t246 1))) (fun _ hk => hk.2) (.int .i64 (rd t246 2))) (fun _ h_ => h_.1))) hb); replace BK237 := zbl BK237.out hb; replace BK254 := Aside0.mk (blk_below (g := gb254) (o := .cells #[.int .i64 (rd t246 3), .int .i64 t243, .int .i64 t242, .int .i64 (rd t246 0), .int .i64 (rd t246 1), .int .i64 (rd t246 2)] 25 (0, 0)) (zbp BK254.out) hb); replace HB := Aside0.mk (below_step (zBz HB.out GE237.out GE254.out) hb); (try clear hb); have hcz69_0 : w68.cell? ⟨gb254, 0, none⟩ = some (.int .i64 (rd t246 3)) := (blk_cell BK254.out 0).trans rfl; have hcz69_1 : w68.cell? ⟨gb254, 1, none⟩ = some (.int .i64 t243) := (blk_cell BK254.out 1).trans rfl; have hcz69_2 : w68.cell? ⟨gb254, 2, none⟩ = some (.int .i64 t242) := (blk_cell BK254.out 2).trans rfl; have hcz69_3 : w68.cell? ⟨gb254, 3, none⟩ = some (.int .i64 (rd t246 0)) := (blk_cell BK254.out 3).trans rfl; have hcz69_4 : w68.cell? ⟨gb254, 4, none⟩ = some (.int .i64 (rd t246 1)) := (blk_cell BK254.out 4).trans rfl; have hcz69_5 : w68.cell? ⟨gb254, 5, none⟩ = some (.int .i64 (rd t246 2)) := (blk_cell BK254.out 5).trans rfl; have hfz69_0 := blk_frozen BK254.out 0; have hfz69_1 := blk_frozen BK254.out 1; have hfz69_2 := blk_frozen BK254.out 2; have hfz69_3 := blk_frozen BK254.out 3; have hfz69_4 := blk_frozen BK254.out 4; have hfz69_5 := blk_frozen BK254.out 5) | (go_at_call 44; (with_reducible refine (impl_warningCode.calls kj2 (rd t246 3) t243 t242 (rd t246 0) (rd t246 1) (rd t246 2) t256 _ ?sideL A29.out).mono ?_); (case sideL => exact Laid.below HL.out (zBz HB.out GE237.out GE254.out)); rintro e w70 ⟨rfl, hb⟩; replace HO_4 := Aside0.mk (Kd.R_below (zRx HO_4.out) hb); replace HO249 := Aside0.mk (Kd.R_below (zRx HO249.out) hb); replace BK237 := zbl BK237.out hb; replace BK254 := zbl BK254.out hb; replace HB := Aside0.mk (below_step (zBz HB.out GE237.out GE254.out) hb); (try clear hb); have hcz71_0 : w70.cell? ⟨gb237, 0, none⟩ = some (.int .i64 0) := (blk_cell BK237.out 0).trans rfl; have hcz71_1 : w70.cell? ⟨gb237, 1, none⟩ = some (.int .i64 0) := (blk_cell BK237.out 1).trans rfl; have hcz71_2 : w70.cell? ⟨gb237, 2, none⟩ = some (.int .i64 0) := (blk_cell BK237.out 2).trans rfl; have hcz71_3 : w70.cell? ⟨gb237, 3, none⟩ = some (.int .i64 0) := (blk_cell BK237.out 3).trans rfl; have hcz71_4 : w70.cell? ⟨gb237, 4, none⟩ = some (.int .i64 0) := (blk_cell BK237.out 4).trans rfl; have hcz71_5 : w70.cell? ⟨gb237, 5, none⟩ = some (.int .i64 0) := (blk_cell BK237.out 5).trans rfl; have hfz71_0 := blk_frozen BK237.out 0; have hfz71_1 := blk_frozen BK237.out 1; have hfz71_2 := blk_frozen BK237.out 2; have hfz71_3 := blk_frozen BK237.out 3; have hfz71_4 := blk_frozen BK237.out 4; have hfz71_5 := blk_frozen BK237.out 5))
                refine bodyPost_ret (results_ct rfl _ _ gb237 25 #[.int .i64 0, .int .i64 0, .int .i64 0, .int .i64 0, .int .i64 0, .int .i64 0] (0, 0) _ rfl (zbp BK237.out) Tryz.underlying25 rfl (by kernel_rfl)) rfl ?_
                exact ⟨by first | rfl | (simp [errW_none, errW_some] <;> rfl) | (simp [*, errW_none, errW_some] <;> rfl), by exact zBz HB.out GE237.out GE254.out⟩
             ·replace c28 := Bool.eq_false_iff.mpr c28
              subst c28
              rw [if_neg (show ¬ (false = true) by decide)] at H
              focus
               simp only [Option.some.injEq, Prod.mk.injEq] at H
               obtain ⟨rfl, rfl, rfl, rfl, rfl, rfl, rfl⟩ := H
               try go_wp2_with (first | ((with_reducible refine gate_callee (f := 36) rfl ?_); refine goesL_ (some 59) rfl rfl Tryz.func36 (by kernel_rfl) rfl #[.agg #[.int .i64 (rd t246 3), .int .i64 t243, .int .i64 t242, .int .i64 (rd t246 0), .int .i64 (rd t246 1), .int .i64 (rd t246 2)]] rfl zlx ?_; (with_reducible refine (impl_IsValidWarning.calls (rd t246 3) t243 t242 (rd t246 0) (rd t246 1) (rd t246 2) false _ A27.out).mono ?_); rintro e w88 ⟨rfl, hb⟩; refine ⟨_, rfl, ?_⟩; replace HO_4 := Aside0.mk (Kd.R_below (by (with_reducible repeat (first | apply Kd.R_alloc | apply Kd.R_drewN | apply Kd.R_drew)); exact (Kd.R_mono (Kd.R_far (p := ⟨gb254, 5, none⟩) (Kd.R_far (p := ⟨gb254, 4, none⟩) (Kd.R_far (p := ⟨gb254, 3, none⟩) (Kd.R_far (p := ⟨gb254, 2, none⟩) (Kd.R_far (p := ⟨gb254, 1, none⟩) (Kd.R_far (p := ⟨gb254, 0, none⟩) (Kd.R_types HO_4.out BK254.out (by decide)) (fun _ hk => hk.2) (.int .i64 (rd t246 3))) (fun _ hk => hk.2) (.int .i64 t243)) (fun _ hk => hk.2) (.int .i64 t242)) (fun _ hk => hk.2) (.int .i64 (rd t246 0))) (fun _ hk => hk.2) (.int .i64 (rd t246 1))) (fun _ hk => hk.2) (.int .i64 (rd t246 2))) (fun _ h_ => h_.1))) hb); replace HO249 := Aside0.mk (Kd.R_below (by (with_reducible repeat (first | apply Kd.R_alloc | apply Kd.R_drewN | apply Kd.R_drew)); exact (Kd.R_mono (Kd.R_far (p := ⟨gb254, 5, none⟩) (Kd.R_far (p := ⟨gb254, 4, none⟩) (Kd.R_far (p := ⟨gb254, 3, none⟩) (Kd.R_far (p := ⟨gb254, 2, none⟩) (Kd.R_far (p := ⟨gb254, 1, none⟩) (Kd.R_far (p := ⟨gb254, 0, none⟩) (Kd.R_types HO249.out BK254.out (by decide)) (fun _ hk => hk.2) (.int .i64 (rd t246 3))) (fun _ hk => hk.2) (.int .i64 t243)) (fun _ hk => hk.2) (.int .i64 t242)) (fun _ hk => hk.2) (.int .i64 (rd t246 0))) (fun _ hk => hk.2) (.int .i64 (rd t246 1))) (fun _ hk => hk.2) (.int .i64 (rd t246 2))) (fun _ h_ => h_.1))) hb); replace BK237 := zbl BK237.out hb; replace BK254 := Aside0.mk (blk_below (g := gb254) (o := .cells #[.int .i64 (rd t246 3), .int .i64 t243, .int .i64 t242, .int .i64 (rd t246 0), .int .i64 (rd t246 1), .int .i64 (rd t246 2)] 25 (0, 0)) (zbp BK254.out) hb); replace HB := Aside0.mk (below_step (zBz HB.out GE237.out GE254.out) hb); (try clear hb); have hcz89_0 : w88.cell? ⟨gb237, 0, none⟩ = some (.int .i64 0) := (blk_cell BK237.out 0).trans rfl; have hcz89_1 : w88.cell? ⟨gb237, 1, none⟩ = some (.int .i64 0) := (blk_cell BK237.out 1).trans rfl; have hcz89_2 : w88.cell? ⟨gb237, 2, none⟩ = some (.int .i64 0) := (blk_cell BK237.out 2).trans rfl; have hcz89_3 : w88.cell? ⟨gb237, 3, none⟩ = some (.int .i64 0) := (blk_cell BK237.out 3).trans rfl; have hcz89_4 : w88.cell? ⟨gb237, 4, none⟩ = some (.int .i64 0) := (blk_cell BK237.out 4).trans rfl; have hcz89_5 : w88.cell? ⟨gb237, 5, none⟩ = some (.int .i64 0) := (blk_cell BK237.out 5).trans rfl; have hfz89_0 := blk_frozen BK237.out 0; have hfz89_1 := blk_frozen BK237.out 1; have hfz89_2 := blk_frozen BK237.out 2; have hfz89_3 := blk_frozen BK237.out 3; have hfz89_4 := blk_frozen BK237.out 4; have hfz89_5 := blk_frozen BK237.out 5))
               refine bodyPost_ret (results_ct rfl _ _ gb237 25 #[.int .i64 0, .int .i64 0, .int .i64 0, .int .i64 0, .int .i64 0, .int .i64 0] (0, 0) _ rfl (zbp BK237.out) Tryz.underlying25 rfl (by kernel_rfl)) rfl ?_
               exact ⟨by first | rfl | (simp [errW_none, errW_some] <;> rfl) | (simp [*, errW_none, errW_some] <;> rfl), by exact zBz HB.out GE237.out GE254.out⟩
            ·rw [if_neg c26] at H
             exact absurd H (by simp)
           ·rw [if_neg c25] at H
            exact absurd H (by simp)
          ·rw [if_neg c24] at H
           exact absurd H (by simp)
         ·rw [if_neg c23] at H
          exact absurd H (by simp)
        ·replace c22 := Bool.eq_false_iff.mpr c22
         subst c22
         rw [if_neg (show ¬ (false = true) by decide)] at H
         focus
          simp only [Option.some.injEq, Prod.mk.injEq] at H
          obtain ⟨rfl, rfl, rfl, rfl, rfl, rfl, rfl⟩ := H
          try go_wp2
          replace HO_4 := Aside0.mk (Kd.R_drew HO_4.out)
          replace BK237 := Aside0.mk (blk_drew BK237.out)
          replace HB := Aside0.mk (below_drew1 HB.out)
          have p13 : 0 ≤ (0 : Int) := (by omega)
          have q13 : 0 < a0.size := (by have : (0 : Int) < (a0.size : Int) := of_decide_eq_true zax; omega)
          have hx13 : ∀ h : 0 < a0.size, ((a0[0]'h).toNat : Int) = bt a0 0 := bt_at a0 0
          clear p13
          have qi13 : (0 < (a0.size : Int)) = True := eq_true (of_decide_eq_true zax)
          replace q13 := eq_true q13
          have p16 : 0 ≤ (1 : Int) := (by omega)
          have q16 : 1 < a0.size := (by have : (1 : Int) < (a0.size : Int) := of_decide_eq_true zax; omega)
          have hx16 : ∀ h : 1 < a0.size, ((a0[1]'h).toNat : Int) = bt a0 1 := bt_at a0 1
          clear p16
          have qi16 : (1 < (a0.size : Int)) = True := eq_true (of_decide_eq_true zax)
          replace q16 := eq_true q16
          refine start_ (n := 8) (S := fun w' => True) (ds := []) #[F,F,F,F,F,F,F,F] (by kernel_rfl) rfl rfl trivial (fun hHeld => ?_); refine with_tabW impl_ParseCode.tab4 impl_ParseCode.bits4 (fun HT_ HW_ => ?_)
          generalize wc.drew = w90 at HO_4 BK237 HB hHeld ⊢
          refine pure_ (i := 0) (N := some 23) (v := ?_) (a' := ?_) #[T,F,F,F,F,F,F,F] rfl rfl (any_of HT_.out (by kernel_rfl)) (fun _ _ _ h => h) (Or.inl ⟨by rfl, ?_⟩) ?_ ?_
          rotate_left
          ·exact zwx
          rotate_left
          ·exact zpx
          refine pure_ (i := 3) (N := some 26) (v := ?_) (a' := ?_) #[T,F,F,T,F,F,F,F] rfl rfl (any_of HT_.out (by kernel_rfl)) (fun _ _ _ h => h) (Or.inl ⟨by rfl, ?_⟩) ?_ ?_
          rotate_left
          ·exact zwx
          rotate_left
          ·exact zpx
          refine take_ (i := 1) (N := some 24) (v := ?_) (a' := ?_) #[T,T,F,T,F,F,F,F] rfl rfl (take_ofW HT_.out HW_.out (by kernel_rfl)) (fun _ _ _ h => h) (Or.inl ⟨by rfl, ?_⟩) hHeld ?_ ?_
          rotate_left
          ·intro w' _
           go_simp
           with_reducible rfl
          rotate_left
          ·exact zpx
          refine take_ (i := 4) (N := some 27) (v := ?_) (a' := ?_) #[T,T,F,T,T,F,F,F] rfl rfl (take_ofW HT_.out HW_.out (by kernel_rfl)) (fun _ _ _ h => h) (Or.inl ⟨by rfl, ?_⟩) hHeld ?_ ?_
          rotate_left
          ·intro w' _
           go_simp
           with_reducible rfl
          rotate_left
          ·exact zpx
          refine one_ (i := 2) (N := some 25) #[T,T,T,T,T,F,F,F] rfl rfl (one_of HT_.out (by kernel_rfl)) (by decide) (fun K hK => ?_)
          refine goes_ Tryz.func46 (by kernel_rfl) rfl #[.string (⟨#[32, 89, 79, 82]⟩ : ByteArray), .int .u8 (bt a0 0)] (by rfl) rfl rfl zlx ?_
          with_reducible refine (strings_IndexByte.calls (⟨#[32, 89, 79, 82]⟩ : ByteArray) (bt a0 0) t242 _ A14.out).mono ?_
          rintro e w' ⟨rfl, ⟨nd, rfl⟩⟩
          have m0_ := Aside0.mk (Kd.R_drewN HO_4.out nd)
          have m1_ := Aside0.mk (blk_drewN BK237.out nd)
          have m2_ := Aside0.mk (pw_below_drewN HB.out nd)
          clear HO_4 BK237 HB
          generalize hq_ : World.drewN w90 nd = w90 at m0_ m1_ m2_ ⊢
          clear hq_ hHeld
          have HO_4 := m0_
          have BK237 := m1_
          have HB := m2_
          clear m0_ m1_ m2_
          refine ⟨_, rfl, ?_⟩
          refine hK.out _ _ trivial (fun hHeld => ?_)
          clear hK K
          refine norm_ (a' := ?_) ?_ ?_
          rotate_left
          ·show Act.put _ (some 25) _ = _
           simp only [Act.put, List.setIfInBounds_toArray, List.set_cons_zero, List.set_cons_succ, i64_w, i32_w]
           rfl
          refine one_ (i := 5) (N := some 28) #[T,T,T,T,T,T,F,F] rfl rfl (one_of HT_.out (by kernel_rfl)) (by decide) (fun K hK => ?_)
          refine goes_ Tryz.func46 (by kernel_rfl) rfl #[.string (⟨#[32, 87, 82, 83, 72, 84]⟩ : ByteArray), .int .u8 (bt a0 1)] (by rfl) rfl rfl zlx ?_
          with_reducible refine (strings_IndexByte.calls (⟨#[32, 87, 82, 83, 72, 84]⟩ : ByteArray) (bt a0 1) t243 _ A17.out).mono ?_
          rintro e w' ⟨rfl, ⟨nd, rfl⟩⟩
          have m0_ := Aside0.mk (Kd.R_drewN HO_4.out nd)
          have m1_ := Aside0.mk (blk_drewN BK237.out nd)
          have m2_ := Aside0.mk (pw_below_drewN HB.out nd)
          clear HO_4 BK237 HB
          generalize hq_ : World.drewN w90 nd = w90 at m0_ m1_ m2_ ⊢
          clear hq_ hHeld
          have HO_4 := m0_
          have BK237 := m1_
          have HB := m2_
          clear m0_ m1_ m2_
          refine ⟨_, rfl, ?_⟩
          refine hK.out _ _ trivial (fun hHeld => ?_)
          clear hK K
          refine norm_ (a' := ?_) ?_ ?_
          rotate_left
          ·show Act.put _ (some 28) _ = _
           simp only [Act.put, List.setIfInBounds_toArray, List.set_cons_zero, List.set_cons_succ, i64_w, i32_w]
           rfl
          refine pure_ (i := 6) (N := some 5) (v := ?_) (a' := ?_) #[T,T,T,T,T,T,T,F] rfl rfl (any_of HT_.out (by kernel_rfl)) (fun _ _ _ h => h) (Or.inl ⟨by rfl, ?_⟩) ?_ ?_
          rotate_left
          ·exact zwx
          rotate_left
          ·exact zpx
          refine pure_ (i := 7) (N := some 6) (v := ?_) (a' := ?_) #[T,T,T,T,T,T,T,T] rfl rfl (any_of HT_.out (by kernel_rfl)) (fun _ _ _ h => h) (Or.inl ⟨by rfl, ?_⟩) ?_ ?_
          rotate_left
          ·exact zwx
          rotate_left
          ·exact zpx
          refine done_ (done_of HT_.out (by kernel_rfl)) ?_
          obtain ⟨Ao91, co91, eo91⟩ := Kd.R_slice HO_4.out
          subst eo91
          have p244 : 0 ≤ (0 : Int) := (by omega)
          have q244 : 0 < (t238.length : Int) := of_decide_eq_true zax
          obtain ⟨ad244, e244, hx244_0⟩ := Kd.at_string (Kd.R_reads' HO_4.out).2.2 0 p244 q244
          cases e244
          have qi244 : (0 < t238.length) = True := eq_true (by omega)
          (try rw [show ((0 : Int)).toNat = 0 from rfl] at hx244_0)
          (try rw [Addr.add_zero'] at hx244_0)
          replace p244 := eq_true p244
          replace q244 := eq_true q244
          have p20 : 0 ≤ (0 : Int) := (by omega)
          have q20 : (0 : Int) < ((t238.length : Int) : Int) := of_decide_eq_true zax
          have qi20 : (0 < t238.length) = True := eq_true (by omega)
          obtain ⟨go20, co20, eo20, gb20, gl20, cl20, HG20⟩ := Kd.R_form HO_4.out (by omega)
          (first | cases eo20 | (injection eo20 with ea_ en_ ec_; (first | subst ea_ | (injection ea_ with ea_; subst ea_)); subst ec_; clear en_))
          have GB20 := Aside0.mk gb20
          have GG20 := Aside0.mk HG20
          clear gb20 gl20 HG20
          (first | simp only [add_plain] at hx244_0 | skip)
          obtain ⟨hx20_0, hf20_0⟩ := Kd.R_celln (⟨#[]⟩ : ByteArray) HO_4.out (0 : Int) p20 q20
          (try rw [show ((0 : Int)).toNat = 0 from rfl] at hx20_0)
          (try simp only [Nat.reduceMul, Nat.zero_mul, Nat.zero_add, Nat.reduceAdd] at hx20_0)
          (try rw [show ((0 : Int)).toNat = 0 from rfl] at hf20_0)
          (try simp only [Nat.reduceMul, Nat.zero_mul, Nat.zero_add, Nat.reduceAdd] at hf20_0)
          replace p20 := eq_true p20
          replace q20 := eq_true q20
          obtain ⟨hy92_, hz92_⟩ := Kd.R_celln (⟨#[]⟩ : ByteArray) HO_4.out (0 : Int) (by omega) (of_decide_eq_true zax)
          (try simp only [Int.reduceToNat, Int.toNat_zero, Int.toNat_ofNat, Nat.reduceMul, Nat.zero_mul, Nat.zero_add] at hy92_ hz92_)
          (try rw [show ((0 : Int)).toNat = 0 from rfl] at hy92_)
          (try rw [show ((0 : Int)).toNat = 0 from rfl] at hz92_)
          have HP92 := Kd.R_putg HO_4.out (0 : Int) ((rdOf ByteArray.empty t238 0).extract 2 (rdOf ByteArray.empty t238 0).size)
          try go_wp2_with (first | ((with_reducible refine gate_store (t := 9) (p := 34) rfl ?_); refine store_event (t := 9) (p := 34) (v := ?vo_w93) (w1 := (w90.setCell ⟨go20, (0 : Int).toNat, none⟩ (.string ((rdOf ByteArray.empty t238 0).extract 2 (rdOf ByteArray.empty t238 0).size)))) ?hg ?ho ?hn ?hr ?_; (case ho => rfl); (case hg => rfl); (case hn => rfl); (case hr => exact zsx); intro w93 hw; have hg : w90.grownBy w93 (some go20) := (by rw [hw]; exact HP92.2); have hp_ : Kd.R Kd.string 9 w93 w.heap.size (fun _ => True) (.slice (some ⟨go20, 0, none⟩) t238.length co91) y245 := (by rw [hw, Ny245.out]; exact HP92.1); clear HP92; replace BK237 := Aside0.mk (blk_grown (g := gb237) (o := .cells #[.int .i64 0, .int .i64 0, .int .i64 0, .int .i64 0, .int .i64 0, .int .i64 0] 25 (0, 0)) (zbx BK237.out) hg (Kd.R_ne HO_4.out BK237.out (by decide))); replace HO_4 := Aside0.mk (hp_); replace HB := Aside0.mk ((by rw [hw]; exact below_set (HB.out) GB20.out : Below w.heap.size w w93)); clear hg hw hp_) | ((with_reducible refine gate_callee (f := 39) rfl ?_); refine goesL_ (some 37) rfl rfl Tryz.func39 (by kernel_rfl) rfl #[.slice (some ⟨go20, 0, none⟩) y245.length co91] rfl (by (try simp only [List.map_toArray, List.map_cons, List.map_nil]); first | done | (rw [show y245.length = t238.length from (Kd.R_reads' HO_4.out).1.symm] <;> rfl) | rfl | (simp only [List.length_drop, List.length_take]; rfl)) ?_; (with_reducible refine (impl_readInts.calls kj2 _ _ y245 t246 false _ ?side1 ?side2 ?sideL A21.out).mono ?_); (case sideL => exact Laid.below HL.out (zBy HB.out GE237.out)); (case side1 => exact zCx (Kd.R_reads' HO_4.out).2.2); (case side2 => rw [show y245.length = t238.length from (Kd.R_reads' HO_4.out).1.symm]; exact (Kd.R_reads' HO_4.out).2.1); rintro e w94 ⟨v248, rfl, ho0, hb⟩; refine ⟨_, rfl, ?_⟩; replace HO_4 := Aside0.mk (Kd.R_below (zRx HO_4.out) hb); have HO249 := Aside0.mk (Kd.R_lower ho0 (below_size (zBy HB.out GE237.out))); replace BK237 := zbl BK237.out hb; replace HB := Aside0.mk (below_step (zBy HB.out GE237.out) hb); (try clear hb); (try clear ho0); have hcz95_0 : w94.cell? ⟨gb237, 0, none⟩ = some (.int .i64 0) := (blk_cell BK237.out 0).trans rfl; have hcz95_1 : w94.cell? ⟨gb237, 1, none⟩ = some (.int .i64 0) := (blk_cell BK237.out 1).trans rfl; have hcz95_2 : w94.cell? ⟨gb237, 2, none⟩ = some (.int .i64 0) := (blk_cell BK237.out 2).trans rfl; have hcz95_3 : w94.cell? ⟨gb237, 3, none⟩ = some (.int .i64 0) := (blk_cell BK237.out 3).trans rfl; have hcz95_4 : w94.cell? ⟨gb237, 4, none⟩ = some (.int .i64 0) := (blk_cell BK237.out 4).trans rfl; have hcz95_5 : w94.cell? ⟨gb237, 5, none⟩ = some (.int .i64 0) := (blk_cell BK237.out 5).trans rfl; have hfz95_0 := blk_frozen BK237.out 0; have hfz95_1 := blk_frozen BK237.out 1; have hfz95_2 := blk_frozen BK237.out 2; have hfz95_3 := blk_frozen BK237.out 3; have hfz95_4 := blk_frozen BK237.out 4; have hfz95_5 := blk_frozen BK237.out 5))
          refine bodyPost_ret (results_ct rfl _ _ gb237 25 #[.int .i64 0, .int .i64 0, .int .i64 0, .int .i64 0, .int .i64 0, .int .i64 0] (0, 0) _ rfl (zbp BK237.out) Tryz.underlying25 rfl (by kernel_rfl)) rfl ?_
          exact ⟨by first | rfl | (simp [errW_none, errW_some] <;> rfl) | (simp [*, errW_none, errW_some] <;> rfl), by exact zBy HB.out GE237.out⟩
       ·rw [if_neg c19] at H
        exact absurd H (by simp)
      ·rw [if_neg c18] at H
       exact absurd H (by simp)
     ·rw [if_neg c15] at H
      exact absurd H (by simp)
    ·rw [if_neg c12] at H
     exact absurd H (by simp)

end Go.Proofs.YtlfoojgbiafffaaGreatDoor.XFnMessages
