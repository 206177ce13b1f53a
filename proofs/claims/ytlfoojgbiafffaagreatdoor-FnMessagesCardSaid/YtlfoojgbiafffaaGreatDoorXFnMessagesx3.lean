-- written by wip/tools/xprint.py (a program of this project) out of the translation
import Derived.Test.YtlfoojgbiafffaaGreatDoorXFnMessagesx0
import Derived.Test.YtlfoojgbiafffaaGreatDoorStrsE
import Derived.Test.YtlfoojgbiafffaaGreatDoorXFnMessagesx2
namespace Go.Proofs.YtlfoojgbiafffaaGreatDoor.XFnMessages
open Go.RowKit Go.Proofs.YtlfoojgbiafffaaGreatDoorW.PrintWords Go.Proofs.YtlfoojgbiafffaaGreatDoorW.PrintLast Go.Proofs.YtlfoojgbiafffaaGreatDoorW.PrintMore
open Go.Proofs.YtlfoojgbiafffaaGreatDoor.Strs
attribute [local go_sem] max2_int min2_int max_two min_two max_three min_three max_four min_four   -- for this text's walks alone
set_option linter.unusedVariables false
set_option linter.unusedSimpArgs false

/-! ### impl_warningCode: function 44 -/
def impl_warningCode.f (k : Nat) (a0_0 : Int) (a0_1 : Int) (a0_2 : Int) (a0_3 : Int) (a0_4 : Int) (a0_5 : Int) : Option (ByteArray) := if 0 ≤ a0_2 then (if a0_2 < 4 then (if 0 ≤ a0_1 then (if a0_1 < 6 then ((some (([bt (⟨#[32, 89, 79, 82]⟩ : ByteArray) a0_2, bt (⟨#[32, 87, 82, 83, 72, 84]⟩ : ByteArray) a0_1] : List Int) : List Int)).bind fun y211 => ((impl_joinInts.f k (([a0_3, a0_4, a0_5, a0_0] : List Int)) (⟨#[46]⟩ : ByteArray)).bind fun t217 => (if (strOfNums y211).size + t217.size ≤ 9223372036854775807 then (some ((strOfNums y211) ++ t217)) else (none)))) else (none)) else (none)) else (none)) else (none)
theorem impl_warningCode.mono : ∀ a0 a1 a2 a3 a4 a5 k, LeO (impl_warningCode.f k a0 a1 a2 a3 a4 a5) (impl_warningCode.f (k + 1) a0 a1 a2 a3 a4 a5) := by
 intro a0 a1 a2 a3 a4 a5 k
 unfold impl_warningCode.f
 repeat' first
  | (with_reducible exact impl_joinInts.mono _ _ _)
  | (with_reducible exact LeO.refl _)
  | (with_reducible exact LeO.none _)
  | (with_reducible refine LeO.ite ?_ ?_)
  | (with_reducible refine LeO.bind ?_ (fun _ => ?_))
  | exact impl_joinInts.mono _ _ _
  | exact LeO.none _
  | refine LeO.ite ?_ ?_
  | refine LeO.bind ?_ (fun _ => ?_)
def impl_warningCode.T1 : Bool × List (List Nat × List Nat) := (true, [([], []), ([0], [0]), ([1], [1]), ([], []), ([3], [3]), ([4], [4]), ([2, 5], [2, 5]), ([6], [6]), ([], []), ([8], [8]), ([], []), ([10], [10]), ([], []), ([12], [12]), ([], []), ([14], [14]), ([9, 11, 13, 15], [9, 11, 13, 15]), ([16], [16]), ([7, 17], [7, 17]), ([18, 17, 0, 1, 2, 3, 4, 5, 6, 7, 8, 9, 10, 11, 12, 13, 14, 15, 16, 17, 18], [18])])
def impl_warningCode.B1 : List Nat := [0, 1, 3, 0, 8, 24, 63, 127, 0, 256, 0, 1024, 0, 4096, 0, 16384, 65280, 130816, 262143, 524287]
theorem impl_warningCode.tab1 : rtab .any (opsOf Tryz.f44 1) = impl_warningCode.T1 := by kernel_rfl
theorem impl_warningCode.bits1 : waitsOk impl_warningCode.T1.2 impl_warningCode.B1 = true := by kernel_rfl
set_option maxHeartbeats 8000000 in
set_option maxRecDepth 100000 in
theorem impl_warningCode.calls (k : Nat) (a0_0 : Int) (a0_1 : Int) (a0_2 : Int) (a0_3 : Int) (a0_4 : Int) (a0_5 : Int) (r : ByteArray) (w : World) (hL : Laid w) (h : impl_warningCode.f k a0_0 a0_1 a0_2 a0_3 a0_4 a0_5 = some r) :
 Calls Tryz.prog 44 #[.agg #[.int .i64 a0_0, .int .i64 a0_1, .int .i64 a0_2, .int .i64 a0_3, .int .i64 a0_4, .int .i64 a0_5]] w fun e w' => e = .returned (.string r) ∧ Below w.heap.size w w' := by
 have hu25 := Tryz.underlying25
 have HL := Aside0.mk hL
 clear hL
 have HB := Aside0.mk (Below.refl w.heap.size w)
 have H : (if 0 ≤ a0_2 then (if a0_2 < 4 then (if 0 ≤ a0_1 then (if a0_1 < 6 then ((some (([bt (⟨#[32, 89, 79, 82]⟩ : ByteArray) a0_2, bt (⟨#[32, 87, 82, 83, 72, 84]⟩ : ByteArray) a0_1] : List Int) : List Int)).bind fun y211 => ((impl_joinInts.f k (([a0_3, a0_4, a0_5, a0_0] : List Int)) (⟨#[46]⟩ : ByteArray)).bind fun t217 => (if (strOfNums y211).size + t217.size ≤ 9223372036854775807 then (some ((strOfNums y211) ++ t217)) else (none)))) else (none)) else (none)) else (none)) else (none)) = some r := h
 clear h
 by_cases c2 : 0 ≤ a0_2
 ·rw [if_pos c2] at H
  have c2b0 : decide (0 ≤ a0_2) = true := decide_eq_true c2
  clear c2
  by_cases c3 : a0_2 < 4
  ·rw [if_pos c3] at H
   have c3b0 : decide (a0_2 < 4) = true := decide_eq_true c3
   clear c3
   by_cases c5 : 0 ≤ a0_1
   ·rw [if_pos c5] at H
    have c5b0 : decide (0 ≤ a0_1) = true := decide_eq_true c5
    clear c5
    by_cases c6 : a0_1 < 6
    ·rw [if_pos c6] at H
     have c6b0 : decide (a0_1 < 6) = true := decide_eq_true c6
     clear c6
     obtain ⟨y211, hy211⟩ : ∃ y_ : List Int, y_ = (([bt (⟨#[32, 89, 79, 82]⟩ : ByteArray) a0_2, bt (⟨#[32, 87, 82, 83, 72, 84]⟩ : ByteArray) a0_1] : List Int)) := ⟨_, rfl⟩
     replace H : ((impl_joinInts.f k (([a0_3, a0_4, a0_5, a0_0] : List Int)) (⟨#[46]⟩ : ByteArray)).bind fun t217 => (if (strOfNums y211).size + t217.size ≤ 9223372036854775807 then (some ((strOfNums y211) ++ t217)) else (none))) = some r := by first | (rw [hy211]; with_reducible exact H) | (have H2_ := (Option.bind_some _ _).symm.trans H; rw [hy211]; with_reducible exact H2_) | (have H2_ := (Option.bind_some _ _).symm.trans H; with_reducible exact H2_) | with_reducible exact H | (rw [hy211]; exact H) | exact H
     have Ny211 := Aside0.mk hy211
     clear hy211
     obtain ⟨y214, hy214⟩ : ∃ y_ : List Int, y_ = (([a0_3, a0_4, a0_5, a0_0] : List Int)) := ⟨_, rfl⟩
     replace H : ((impl_joinInts.f k y214 (⟨#[46]⟩ : ByteArray)).bind fun t217 => (if (strOfNums y211).size + t217.size ≤ 9223372036854775807 then (some ((strOfNums y211) ++ t217)) else (none))) = some r := by first | (rw [hy214]; with_reducible exact H) | (have H2_ := (Option.bind_some _ _).symm.trans H; rw [hy214]; with_reducible exact H2_) | (have H2_ := (Option.bind_some _ _).symm.trans H; with_reducible exact H2_) | with_reducible exact H | (rw [hy214]; exact H) | exact H
     have Ny214 := Aside0.mk hy214
     clear hy214
     replace H := Option.bind_eq_some_iff.mp H
     obtain ⟨t217, A80, H⟩ := H
     replace H : (if (strOfNums y211).size + t217.size ≤ 9223372036854775807 then (some ((strOfNums y211) ++ t217)) else (none)) = some r := H
     have A8 := Aside0.mk A80
     clear A80
     by_cases c9 : (strOfNums y211).size + t217.size ≤ 9223372036854775807
     ·rw [if_pos c9] at H
      have c9b0 := eq_true c9
      have c9b1 : decide ((strOfNums y211).size + t217.size ≤ 9223372036854775807) = true := decide_eq_true c9
      try have c9b2 : (9223372036854775807 < (strOfNums y211).size + t217.size) = False := eq_false (Nat.not_lt.2 c9)
      focus
       obtain rfl := Option.some.inj H
       go_enter Tryz.func44, Tryz.ntmps44
       try go_wp2_with (first | ((with_reducible refine gate_dst (N := 1) rfl ?_); refine box_event ?hg (N := 1) ?hd (cs := #[.int .i64 a0_0, .int .i64 a0_1, .int .i64 a0_2, .int .i64 a0_3, .int .i64 a0_4, .int .i64 a0_5]) (t := 25) ?hr ?_; (case hd => rfl); (case hg => rfl); (case hr => exact zsx); intro gb210 hg w10 hbox hb; have BK210 := Aside0.mk (hbox); have GW210 := zns hg HB.out; have GE210 := zns hg HB.out; replace HB := Aside0.mk (below_step (zBx HB.out) hb); clear hb hbox hg))
       replace BK210 := Aside0.mk (blk_drew BK210.out)
       replace HB := Aside0.mk (below_drew1 HB.out)
       have p4 : 0 ≤ (a0_2 : Int) := of_decide_eq_true zax
       have q4 : a0_2 < (4 : Int) := of_decide_eq_true zax
       have hx4 := bt_at (⟨#[32, 89, 79, 82]⟩ : ByteArray) a0_2
       replace p4 := eq_true p4
       replace q4 := eq_true q4
       have p7 : 0 ≤ (a0_1 : Int) := of_decide_eq_true zax
       have q7 : a0_1 < (6 : Int) := of_decide_eq_true zax
       have hx7 := bt_at (⟨#[32, 87, 82, 83, 72, 84]⟩ : ByteArray) a0_1
       replace p7 := eq_true p7
       replace q7 := eq_true q7
       refine start_ (n := 20) (S := fun w' => w'.cell? ⟨gb210, 0, none⟩ = some (.int .i64 a0_0) ∧ w'.cell? ⟨gb210, 1, none⟩ = some (.int .i64 a0_1) ∧ w'.cell? ⟨gb210, 2, none⟩ = some (.int .i64 a0_2) ∧ w'.cell? ⟨gb210, 3, none⟩ = some (.int .i64 a0_3) ∧ w'.cell? ⟨gb210, 4, none⟩ = some (.int .i64 a0_4) ∧ w'.cell? ⟨gb210, 5, none⟩ = some (.int .i64 a0_5)) (ds := []) #[F,F,F,F,F,F,F,F,F,F,F,F,F,F,F,F,F,F,F,F] (by kernel_rfl) rfl rfl ⟨(blk_cell BK210.out 0).trans rfl, (blk_cell BK210.out 1).trans rfl, (blk_cell BK210.out 2).trans rfl, (blk_cell BK210.out 3).trans rfl, (blk_cell BK210.out 4).trans rfl, (blk_cell BK210.out 5).trans rfl⟩ (fun hHeld => ?_); refine with_tabW impl_warningCode.tab1 impl_warningCode.bits1 (fun HT_ HW_ => ?_)
       generalize w10.drew = w11 at BK210 HB hHeld ⊢
       refine pure_ (i := 0) (N := some 3) (v := ?_) (a' := ?_) #[T,F,F,F,F,F,F,F,F,F,F,F,F,F,F,F,F,F,F,F] rfl rfl (any_of HT_.out (by kernel_rfl)) (fun _ _ _ h => h) (Or.inl ⟨by rfl, ?_⟩) ?_ ?_
       rotate_left
       ·exact zwx
       rotate_left
       ·exact zpx
       refine pure_ (i := 3) (N := some 6) (v := ?_) (a' := ?_) #[T,F,F,T,F,F,F,F,F,F,F,F,F,F,F,F,F,F,F,F] rfl rfl (any_of HT_.out (by kernel_rfl)) (fun _ _ _ h => h) (Or.inl ⟨by rfl, ?_⟩) ?_ ?_
       rotate_left
       ·exact zwx
       rotate_left
       ·exact zpx
       refine pure_ (i := 8) (N := some 11) (v := ?_) (a' := ?_) #[T,F,F,T,F,F,F,F,T,F,F,F,F,F,F,F,F,F,F,F] rfl rfl (any_of HT_.out (by kernel_rfl)) (fun _ _ _ h => h) (Or.inl ⟨by rfl, ?_⟩) ?_ ?_
       rotate_left
       ·exact zwx
       rotate_left
       ·exact zpx
       refine pure_ (i := 10) (N := some 13) (v := ?_) (a' := ?_) #[T,F,F,T,F,F,F,F,T,F,T,F,F,F,F,F,F,F,F,F] rfl rfl (any_of HT_.out (by kernel_rfl)) (fun _ _ _ h => h) (Or.inl ⟨by rfl, ?_⟩) ?_ ?_
       rotate_left
       ·exact zwx
       rotate_left
       ·exact zpx
       refine pure_ (i := 12) (N := some 15) (v := ?_) (a' := ?_) #[T,F,F,T,F,F,F,F,T,F,T,F,T,F,F,F,F,F,F,F] rfl rfl (any_of HT_.out (by kernel_rfl)) (fun _ _ _ h => h) (Or.inl ⟨by rfl, ?_⟩) ?_ ?_
       rotate_left
       ·exact zwx
       rotate_left
       ·exact zpx
       refine pure_ (i := 14) (N := some 17) (v := ?_) (a' := ?_) #[T,F,F,T,F,F,F,F,T,F,T,F,T,F,T,F,F,F,F,F] rfl rfl (any_of HT_.out (by kernel_rfl)) (fun _ _ _ h => h) (Or.inl ⟨by rfl, ?_⟩) ?_ ?_
       rotate_left
       ·exact zwx
       rotate_left
       ·exact zpx
       refine take_ (i := 1) (N := some 4) (v := ?_) (a' := ?_) #[T,T,F,T,F,F,F,F,T,F,T,F,T,F,T,F,F,F,F,F] rfl rfl (take_ofW HT_.out HW_.out (by kernel_rfl)) (fun _ _ _ h => h) (Or.inl ⟨by rfl, ?_⟩) hHeld ?_ ?_
       rotate_left
       ·rintro w' ⟨s0, s1, s2, s3, s4, s5⟩
        go_simp
        with_reducible rfl
       rotate_left
       ·exact zpx
       refine take_ (i := 2) (N := some 5) (v := ?_) (a' := ?_) #[T,T,T,T,F,F,F,F,T,F,T,F,T,F,T,F,F,F,F,F] rfl rfl (take_ofW HT_.out HW_.out (by kernel_rfl)) (fun _ _ _ h => h) (Or.inl ⟨by rfl, ?_⟩) hHeld ?_ ?_
       rotate_left
       ·rintro w' ⟨s0, s1, s2, s3, s4, s5⟩
        go_simp
        with_reducible rfl
       rotate_left
       ·exact zpx
       refine take_ (i := 4) (N := some 7) (v := ?_) (a' := ?_) #[T,T,T,T,T,F,F,F,T,F,T,F,T,F,T,F,F,F,F,F] rfl rfl (take_ofW HT_.out HW_.out (by kernel_rfl)) (fun _ _ _ h => h) (Or.inl ⟨by rfl, ?_⟩) hHeld ?_ ?_
       rotate_left
       ·rintro w' ⟨s0, s1, s2, s3, s4, s5⟩
        go_simp
        with_reducible rfl
       rotate_left
       ·exact zpx
       refine take_ (i := 5) (N := some 8) (v := ?_) (a' := ?_) #[T,T,T,T,T,T,F,F,T,F,T,F,T,F,T,F,F,F,F,F] rfl rfl (take_ofW HT_.out HW_.out (by kernel_rfl)) (fun _ _ _ h => h) (Or.inl ⟨by rfl, ?_⟩) hHeld ?_ ?_
       rotate_left
       ·rintro w' ⟨s0, s1, s2, s3, s4, s5⟩
        go_simp
        with_reducible rfl
       rotate_left
       ·exact zpx
       refine take_ (i := 9) (N := some 12) (v := ?_) (a' := ?_) #[T,T,T,T,T,T,F,F,T,T,T,F,T,F,T,F,F,F,F,F] rfl rfl (take_ofW HT_.out HW_.out (by kernel_rfl)) (fun _ _ _ h => h) (Or.inl ⟨by rfl, ?_⟩) hHeld ?_ ?_
       rotate_left
       ·rintro w' ⟨s0, s1, s2, s3, s4, s5⟩
        go_simp
        with_reducible rfl
       rotate_left
       ·exact zpx
       refine take_ (i := 11) (N := some 14) (v := ?_) (a' := ?_) #[T,T,T,T,T,T,F,F,T,T,T,T,T,F,T,F,F,F,F,F] rfl rfl (take_ofW HT_.out HW_.out (by kernel_rfl)) (fun _ _ _ h => h) (Or.inl ⟨by rfl, ?_⟩) hHeld ?_ ?_
       rotate_left
       ·rintro w' ⟨s0, s1, s2, s3, s4, s5⟩
        go_simp
        with_reducible rfl
       rotate_left
       ·exact zpx
       refine take_ (i := 13) (N := some 16) (v := ?_) (a' := ?_) #[T,T,T,T,T,T,F,F,T,T,T,T,T,T,T,F,F,F,F,F] rfl rfl (take_ofW HT_.out HW_.out (by kernel_rfl)) (fun _ _ _ h => h) (Or.inl ⟨by rfl, ?_⟩) hHeld ?_ ?_
       rotate_left
       ·rintro w' ⟨s0, s1, s2, s3, s4, s5⟩
        go_simp
        with_reducible rfl
       rotate_left
       ·exact zpx
       refine take_ (i := 15) (N := some 18) (v := ?_) (a' := ?_) #[T,T,T,T,T,T,F,F,T,T,T,T,T,T,T,T,F,F,F,F] rfl rfl (take_ofW HT_.out HW_.out (by kernel_rfl)) (fun _ _ _ h => h) (Or.inl ⟨by rfl, ?_⟩) hHeld ?_ ?_
       rotate_left
       ·rintro w' ⟨s0, s1, s2, s3, s4, s5⟩
        go_simp
        with_reducible rfl
       rotate_left
       ·exact zpx
       refine join_ (σ := Value × Value) 2 #[T,T,T,T,T,T,T,T,T,T,T,T,T,T,T,T,T,T,F,F] (fun s_ => [(9, s_.1), (10, .string (strOfNums y211)), (19, s_.2), (20, .string t217)]) (fun s_ w' => (w'.cell? ⟨gb210, 0, none⟩ = some (.int .i64 a0_0) ∧ w'.cell? ⟨gb210, 1, none⟩ = some (.int .i64 a0_1) ∧ w'.cell? ⟨gb210, 2, none⟩ = some (.int .i64 a0_2) ∧ w'.cell? ⟨gb210, 3, none⟩ = some (.int .i64 a0_3) ∧ w'.cell? ⟨gb210, 4, none⟩ = some (.int .i64 a0_4) ∧ w'.cell? ⟨gb210, 5, none⟩ = some (.int .i64 a0_5)) ∧ (Kd.R (Kd.int .u8) 5 w' w.heap.size (fun _ => True) s_.1 y211) ∧ (Kd.R (Kd.int .i64) 3 w' w.heap.size (fun _ => True) s_.2 y214) ∧ (w'.heap[gb210]? = some (.cells #[.int .i64 a0_0, .int .i64 a0_1, .int .i64 a0_2, .int .i64 a0_3, .int .i64 a0_4, .int .i64 a0_5] 25 (0, 0))) ∧ (Below w.heap.size w w')) ?_ ?_
       rotate_left
       ·intro hJ6_7_16_17
        refine join_ (σ := Value × Value) 3 #[T,T,T,T,T,T,T,T,T,T,T,T,T,T,T,T,T,F,F,F] (fun s_ => [(9, s_.1), (10, .string (strOfNums y211)), (19, s_.2)]) (fun s_ w' => (w'.cell? ⟨gb210, 0, none⟩ = some (.int .i64 a0_0) ∧ w'.cell? ⟨gb210, 1, none⟩ = some (.int .i64 a0_1) ∧ w'.cell? ⟨gb210, 2, none⟩ = some (.int .i64 a0_2) ∧ w'.cell? ⟨gb210, 3, none⟩ = some (.int .i64 a0_3) ∧ w'.cell? ⟨gb210, 4, none⟩ = some (.int .i64 a0_4) ∧ w'.cell? ⟨gb210, 5, none⟩ = some (.int .i64 a0_5)) ∧ (Kd.R (Kd.int .u8) 5 w' w.heap.size (fun _ => True) s_.1 y211) ∧ (Kd.R (Kd.int .i64) 3 w' w.heap.size (fun _ => True) s_.2 y214) ∧ (w'.heap[gb210]? = some (.cells #[.int .i64 a0_0, .int .i64 a0_1, .int .i64 a0_2, .int .i64 a0_3, .int .i64 a0_4, .int .i64 a0_5] 25 (0, 0))) ∧ (Below w.heap.size w w')) ?_ ?_
        rotate_left
        ·intro hJ6_7_16
         refine join_ (σ := Value × Value) 3 #[T,T,T,T,T,T,T,F,T,T,T,T,T,T,T,T,T,T,F,F] (fun s_ => [(9, s_.1), (19, s_.2), (20, .string t217)]) (fun s_ w' => (w'.cell? ⟨gb210, 0, none⟩ = some (.int .i64 a0_0) ∧ w'.cell? ⟨gb210, 1, none⟩ = some (.int .i64 a0_1) ∧ w'.cell? ⟨gb210, 2, none⟩ = some (.int .i64 a0_2) ∧ w'.cell? ⟨gb210, 3, none⟩ = some (.int .i64 a0_3) ∧ w'.cell? ⟨gb210, 4, none⟩ = some (.int .i64 a0_4) ∧ w'.cell? ⟨gb210, 5, none⟩ = some (.int .i64 a0_5)) ∧ (Kd.R (Kd.int .u8) 5 w' w.heap.size (fun _ => True) s_.1 y211) ∧ (Kd.R (Kd.int .i64) 3 w' w.heap.size (fun _ => True) s_.2 y214) ∧ (w'.heap[gb210]? = some (.cells #[.int .i64 a0_0, .int .i64 a0_1, .int .i64 a0_2, .int .i64 a0_3, .int .i64 a0_4, .int .i64 a0_5] 25 (0, 0))) ∧ (Below w.heap.size w w')) ?_ ?_
         rotate_left
         ·intro hJ6_16_17
          refine join_ (σ := Value) 4 #[T,T,T,T,T,T,T,T,T,T,T,T,T,T,T,T,F,F,F,F] (fun s_ => [(9, s_), (10, .string (strOfNums y211))]) (fun s_ w' => (w'.cell? ⟨gb210, 0, none⟩ = some (.int .i64 a0_0) ∧ w'.cell? ⟨gb210, 1, none⟩ = some (.int .i64 a0_1) ∧ w'.cell? ⟨gb210, 2, none⟩ = some (.int .i64 a0_2) ∧ w'.cell? ⟨gb210, 3, none⟩ = some (.int .i64 a0_3) ∧ w'.cell? ⟨gb210, 4, none⟩ = some (.int .i64 a0_4) ∧ w'.cell? ⟨gb210, 5, none⟩ = some (.int .i64 a0_5)) ∧ (Kd.R (Kd.int .u8) 5 w' w.heap.size (fun _ => True) s_ y211) ∧ (w'.heap[gb210]? = some (.cells #[.int .i64 a0_0, .int .i64 a0_1, .int .i64 a0_2, .int .i64 a0_3, .int .i64 a0_4, .int .i64 a0_5] 25 (0, 0))) ∧ (Below w.heap.size w w')) ?_ ?_
          rotate_left
          ·intro hJ6_7
           refine join_ (σ := Value × Value) 4 #[T,T,T,T,T,T,T,F,T,T,T,T,T,T,T,T,T,F,F,F] (fun s_ => [(9, s_.1), (19, s_.2)]) (fun s_ w' => (w'.cell? ⟨gb210, 0, none⟩ = some (.int .i64 a0_0) ∧ w'.cell? ⟨gb210, 1, none⟩ = some (.int .i64 a0_1) ∧ w'.cell? ⟨gb210, 2, none⟩ = some (.int .i64 a0_2) ∧ w'.cell? ⟨gb210, 3, none⟩ = some (.int .i64 a0_3) ∧ w'.cell? ⟨gb210, 4, none⟩ = some (.int .i64 a0_4) ∧ w'.cell? ⟨gb210, 5, none⟩ = some (.int .i64 a0_5)) ∧ (Kd.R (Kd.int .u8) 5 w' w.heap.size (fun _ => True) s_.1 y211) ∧ (Kd.R (Kd.int .i64) 3 w' w.heap.size (fun _ => True) s_.2 y214) ∧ (w'.heap[gb210]? = some (.cells #[.int .i64 a0_0, .int .i64 a0_1, .int .i64 a0_2, .int .i64 a0_3, .int .i64 a0_4, .int .i64 a0_5] 25 (0, 0))) ∧ (Below w.heap.size w w')) ?_ ?_
           rotate_left
           ·intro hJ6_16
            refine join_ (σ := Value) 4 #[T,T,T,T,T,T,F,F,T,T,T,T,T,T,T,T,T,T,F,F] (fun s_ => [(19, s_), (20, .string t217)]) (fun s_ w' => (w'.cell? ⟨gb210, 0, none⟩ = some (.int .i64 a0_0) ∧ w'.cell? ⟨gb210, 1, none⟩ = some (.int .i64 a0_1) ∧ w'.cell? ⟨gb210, 2, none⟩ = some (.int .i64 a0_2) ∧ w'.cell? ⟨gb210, 3, none⟩ = some (.int .i64 a0_3) ∧ w'.cell? ⟨gb210, 4, none⟩ = some (.int .i64 a0_4) ∧ w'.cell? ⟨gb210, 5, none⟩ = some (.int .i64 a0_5)) ∧ (Kd.R (Kd.int .i64) 3 w' w.heap.size (fun _ => True) s_ y214) ∧ (w'.heap[gb210]? = some (.cells #[.int .i64 a0_0, .int .i64 a0_1, .int .i64 a0_2, .int .i64 a0_3, .int .i64 a0_4, .int .i64 a0_5] 25 (0, 0))) ∧ (Below w.heap.size w w')) ?_ ?_
            rotate_left
            ·intro hJ16_17
             refine join_ (σ := Value) 5 #[T,T,T,T,T,T,T,F,T,T,T,T,T,T,T,T,F,F,F,F] (fun s_ => [(9, s_)]) (fun s_ w' => (w'.cell? ⟨gb210, 0, none⟩ = some (.int .i64 a0_0) ∧ w'.cell? ⟨gb210, 1, none⟩ = some (.int .i64 a0_1) ∧ w'.cell? ⟨gb210, 2, none⟩ = some (.int .i64 a0_2) ∧ w'.cell? ⟨gb210, 3, none⟩ = some (.int .i64 a0_3) ∧ w'.cell? ⟨gb210, 4, none⟩ = some (.int .i64 a0_4) ∧ w'.cell? ⟨gb210, 5, none⟩ = some (.int .i64 a0_5)) ∧ (Kd.R (Kd.int .u8) 5 w' w.heap.size (fun _ => True) s_ y211) ∧ (w'.heap[gb210]? = some (.cells #[.int .i64 a0_0, .int .i64 a0_1, .int .i64 a0_2, .int .i64 a0_3, .int .i64 a0_4, .int .i64 a0_5] 25 (0, 0))) ∧ (Below w.heap.size w w')) ?_ ?_
             rotate_left
             ·intro hJ6
              refine join_ (σ := Value) 5 #[T,T,T,T,T,T,F,F,T,T,T,T,T,T,T,T,T,F,F,F] (fun s_ => [(19, s_)]) (fun s_ w' => (w'.cell? ⟨gb210, 0, none⟩ = some (.int .i64 a0_0) ∧ w'.cell? ⟨gb210, 1, none⟩ = some (.int .i64 a0_1) ∧ w'.cell? ⟨gb210, 2, none⟩ = some (.int .i64 a0_2) ∧ w'.cell? ⟨gb210, 3, none⟩ = some (.int .i64 a0_3) ∧ w'.cell? ⟨gb210, 4, none⟩ = some (.int .i64 a0_4) ∧ w'.cell? ⟨gb210, 5, none⟩ = some (.int .i64 a0_5)) ∧ (Kd.R (Kd.int .i64) 3 w' w.heap.size (fun _ => True) s_ y214) ∧ (w'.heap[gb210]? = some (.cells #[.int .i64 a0_0, .int .i64 a0_1, .int .i64 a0_2, .int .i64 a0_3, .int .i64 a0_4, .int .i64 a0_5] 25 (0, 0))) ∧ (Below w.heap.size w w')) ?_ ?_
              rotate_left
              ·intro hJ16
               refine two_ (i := 6) (j := 16) (Ni := some 9) (Nj := some 19) #[T,T,T,T,T,T,T,F,T,T,T,T,T,T,T,T,F,F,F,F] #[T,T,T,T,T,T,F,F,T,T,T,T,T,T,T,T,T,F,F,F] rfl rfl rfl rfl (two_of HT_.out (by kernel_rfl)) (by decide) (by decide) (fun K hK => ?_) (fun K hK => ?_)
               ·skip
                refine Kd.R_lit_step (Kd.int .u8) _ 5 ?hg (N := 9) ?hd (xs := ([bt (⟨#[32, 89, 79, 82]⟩ : ByteArray) a0_2, bt (⟨#[32, 87, 82, 83, 72, 84]⟩ : ByteArray) a0_1] : List Int)) (inner := [.int .u8 (bt (⟨#[32, 89, 79, 82]⟩ : ByteArray) a0_2), .int .u8 (bt (⟨#[32, 87, 82, 83, 72, 84]⟩ : ByteArray) a0_1)]) (ok := fun _ => True) (okp := fun _ => True) ?hr ?hp (fun _ hk => hk) trivial (Below.refl _ _) (Nat.le_refl _) (by simp) ?_; (case hd => rfl); (case hg => rfl); (case hr => exact zsx); (case hp => exact (Reps.one (show Kd.M (Kd.int .u8) _ _ _ (bt (⟨#[32, 89, 79, 82]⟩ : ByteArray) a0_2) [.int .u8 (bt (⟨#[32, 89, 79, 82]⟩ : ByteArray) a0_2)] from rfl) (Reps.one (show Kd.M (Kd.int .u8) _ _ _ (bt (⟨#[32, 87, 82, 83, 72, 84]⟩ : ByteArray) a0_1) [.int .u8 (bt (⟨#[32, 87, 82, 83, 72, 84]⟩ : ByteArray) a0_1)] from rfl) (Reps.none _ _))))
                intro v212 w12 ho13 hb hg_ hnew_
                clear hg_ hnew_
                (first | rw [← Ny211.out] at ho13 | (simp only [Int.reduceToNat] at ho13; rw [← Ny211.out] at ho13))
                have HO213 := Aside0.mk (Kd.R_lower ho13 (below_size (zBy HB.out GE210.out)))
                replace BK210 := zbl BK210.out hb
                replace HB := Aside0.mk (below_step (zBy HB.out GE210.out) hb)
                clear hb ho13
                refine hK.out _ _ ⟨(blk_cell BK210.out 0).trans rfl, (blk_cell BK210.out 1).trans rfl, (blk_cell BK210.out 2).trans rfl, (blk_cell BK210.out 3).trans rfl, (blk_cell BK210.out 4).trans rfl, (blk_cell BK210.out 5).trans rfl⟩ (fun hHeld => ?_)
                clear hK K
                refine norm_ (a' := ?_) ?_ ?_
                rotate_left
                ·show Act.put _ (some 9) _ = _
                 simp only [Act.put, List.setIfInBounds_toArray, List.set_cons_zero, List.set_cons_succ, i64_w, i32_w]
                 rfl
                exact norm_ (by first | (simp only [putAll, Act.put, List.setIfInBounds_toArray, List.set_cons_zero, List.set_cons_succ]; done) | (simp only [putAll, Act.put, List.setIfInBounds_toArray, List.set_cons_zero, List.set_cons_succ]; rfl)) (hJ6 (v212) _ ⟨hHeld, (zRx HO213.out), (zbx BK210.out), (zBy HB.out GE210.out)⟩)
               ·skip
                refine Kd.R_lit_step (Kd.int .i64) _ 3 ?hg (N := 19) ?hd (xs := ([a0_3, a0_4, a0_5, a0_0] : List Int)) (inner := [.int .i64 a0_3, .int .i64 a0_4, .int .i64 a0_5, .int .i64 a0_0]) (ok := fun _ => True) (okp := fun _ => True) ?hr ?hp (fun _ hk => hk) trivial (Below.refl _ _) (Nat.le_refl _) (by simp) ?_; (case hd => rfl); (case hg => rfl); (case hr => exact zsx); (case hp => exact (Reps.one (show Kd.M (Kd.int .i64) _ _ _ a0_3 [.int .i64 a0_3] from rfl) (Reps.one (show Kd.M (Kd.int .i64) _ _ _ a0_4 [.int .i64 a0_4] from rfl) (Reps.one (show Kd.M (Kd.int .i64) _ _ _ a0_5 [.int .i64 a0_5] from rfl) (Reps.one (show Kd.M (Kd.int .i64) _ _ _ a0_0 [.int .i64 a0_0] from rfl) (Reps.none _ _))))))
                intro v215 w12 ho13 hb hg_ hnew_
                clear hg_ hnew_
                (first | rw [← Ny214.out] at ho13 | (simp only [Int.reduceToNat] at ho13; rw [← Ny214.out] at ho13))
                have HO216 := Aside0.mk (Kd.R_lower ho13 (below_size (zBy HB.out GE210.out)))
                replace BK210 := zbl BK210.out hb
                replace HB := Aside0.mk (below_step (zBy HB.out GE210.out) hb)
                clear hb ho13
                refine hK.out _ _ ⟨(blk_cell BK210.out 0).trans rfl, (blk_cell BK210.out 1).trans rfl, (blk_cell BK210.out 2).trans rfl, (blk_cell BK210.out 3).trans rfl, (blk_cell BK210.out 4).trans rfl, (blk_cell BK210.out 5).trans rfl⟩ (fun hHeld => ?_)
                clear hK K
                refine norm_ (a' := ?_) ?_ ?_
                rotate_left
                ·show Act.put _ (some 19) _ = _
                 simp only [Act.put, List.setIfInBounds_toArray, List.set_cons_zero, List.set_cons_succ, i64_w, i32_w]
                 rfl
                exact norm_ (by first | (simp only [putAll, Act.put, List.setIfInBounds_toArray, List.set_cons_zero, List.set_cons_succ]; done) | (simp only [putAll, Act.put, List.setIfInBounds_toArray, List.set_cons_zero, List.set_cons_succ]; rfl)) (hJ16 (v215) _ ⟨hHeld, (zRx HO216.out), (zbx BK210.out), (zBy HB.out GE210.out)⟩)
              ·skip
               rintro v215 w14 ⟨hS_, h0_, h1_, h2_⟩
               have HO216 : Aside0 (Kd.R (Kd.int .i64) 3 w14 w.heap.size (fun _ => True) v215 y214) := ⟨h0_⟩
               replace BK210 : Aside0 (w14.heap[gb210]? = some (.cells #[.int .i64 a0_0, .int .i64 a0_1, .int .i64 a0_2, .int .i64 a0_3, .int .i64 a0_4, .int .i64 a0_5] 25 (0, 0))) := ⟨h1_⟩
               replace HB : Aside0 (Below w.heap.size w w14) := ⟨h2_⟩
               clear h0_
               clear h1_
               clear h2_
               have hHeld : w14.cell? ⟨gb210, 0, none⟩ = some (.int .i64 a0_0) ∧ w14.cell? ⟨gb210, 1, none⟩ = some (.int .i64 a0_1) ∧ w14.cell? ⟨gb210, 2, none⟩ = some (.int .i64 a0_2) ∧ w14.cell? ⟨gb210, 3, none⟩ = some (.int .i64 a0_3) ∧ w14.cell? ⟨gb210, 4, none⟩ = some (.int .i64 a0_4) ∧ w14.cell? ⟨gb210, 5, none⟩ = some (.int .i64 a0_5) := hS_
               obtain ⟨Ao15, co15, eo15⟩ := Kd.R_slice HO216.out
               (first | subst eo15 | (injection eo15 with f1_ f2_ f3_; have f4_ := f1_.symm; have f5_ := f3_.symm; clear f1_ f2_ f3_; subst f4_; subst f5_))
               refine norm_ (a' := ?_) ?_ ?_
               rotate_left
               ·simp only [putAll, Act.put, List.setIfInBounds_toArray, List.set_cons_zero, List.set_cons_succ]
                rfl
               refine two_ (i := 6) (j := 17) (Ni := some 9) (Nj := some 20) #[T,T,T,T,T,T,T,F,T,T,T,T,T,T,T,T,T,F,F,F] #[T,T,T,T,T,T,F,F,T,T,T,T,T,T,T,T,T,T,F,F] rfl rfl rfl rfl (two_of HT_.out (by kernel_rfl)) (by decide) (by decide) (fun K hK => ?_) (fun K hK => ?_)
               ·skip
                refine Kd.R_lit_step (Kd.int .u8) _ 5 ?hg (N := 9) ?hd (xs := ([bt (⟨#[32, 89, 79, 82]⟩ : ByteArray) a0_2, bt (⟨#[32, 87, 82, 83, 72, 84]⟩ : ByteArray) a0_1] : List Int)) (inner := [.int .u8 (bt (⟨#[32, 89, 79, 82]⟩ : ByteArray) a0_2), .int .u8 (bt (⟨#[32, 87, 82, 83, 72, 84]⟩ : ByteArray) a0_1)]) (ok := fun _ => True) (okp := fun _ => True) ?hr ?hp (fun _ hk => hk) trivial (Below.refl _ _) (Nat.le_refl _) (by simp) ?_; (case hd => rfl); (case hg => rfl); (case hr => exact zsx); (case hp => exact (Reps.one (show Kd.M (Kd.int .u8) _ _ _ (bt (⟨#[32, 89, 79, 82]⟩ : ByteArray) a0_2) [.int .u8 (bt (⟨#[32, 89, 79, 82]⟩ : ByteArray) a0_2)] from rfl) (Reps.one (show Kd.M (Kd.int .u8) _ _ _ (bt (⟨#[32, 87, 82, 83, 72, 84]⟩ : ByteArray) a0_1) [.int .u8 (bt (⟨#[32, 87, 82, 83, 72, 84]⟩ : ByteArray) a0_1)] from rfl) (Reps.none _ _))))
                intro v212 w15 ho16 hb hg_ hnew_
                clear hg_ hnew_
                (first | rw [← Ny211.out] at ho16 | (simp only [Int.reduceToNat] at ho16; rw [← Ny211.out] at ho16))
                replace HO216 := Aside0.mk (Kd.R_below (zRx HO216.out) hb)
                have HO213 := Aside0.mk (Kd.R_lower ho16 (below_size (zBy HB.out GE210.out)))
                replace BK210 := zbl BK210.out hb
                replace HB := Aside0.mk (below_step (zBy HB.out GE210.out) hb)
                clear hb ho16
                refine hK.out _ _ ⟨(blk_cell BK210.out 0).trans rfl, (blk_cell BK210.out 1).trans rfl, (blk_cell BK210.out 2).trans rfl, (blk_cell BK210.out 3).trans rfl, (blk_cell BK210.out 4).trans rfl, (blk_cell BK210.out 5).trans rfl⟩ (fun hHeld => ?_)
                clear hK K
                refine norm_ (a' := ?_) ?_ ?_
                rotate_left
                ·show Act.put _ (some 9) _ = _
                 simp only [Act.put, List.setIfInBounds_toArray, List.set_cons_zero, List.set_cons_succ, i64_w, i32_w]
                 rfl
                exact norm_ (by first | (simp only [putAll, Act.put, List.setIfInBounds_toArray, List.set_cons_zero, List.set_cons_succ]; done) | (simp only [putAll, Act.put, List.setIfInBounds_toArray, List.set_cons_zero, List.set_cons_succ]; rfl)) (hJ6_16 (v212, (.slice Ao15 y214.length co15)) _ ⟨hHeld, (zRx HO213.out), (zRx HO216.out), (zbx BK210.out), (zBy HB.out GE210.out)⟩)
               ·skip
                refine goes_ Tryz.func82 (by kernel_rfl) rfl #[.slice Ao15 y214.length co15, .string (⟨#[46]⟩ : ByteArray)] (by rfl) rfl rfl zlx ?_
                with_reducible refine (impl_joinInts.calls k _ _ y214 (⟨#[46]⟩ : ByteArray) t217 _ ?side1 ?side2 ?sideL A8.out).mono ?_
                case sideL => exact Laid.below HL.out (zBy HB.out GE210.out)
                (case side1 => exact zCx (Kd.R_reads' HO216.out).2.2)
                (case side2 => exact (Kd.R_reads' HO216.out).2.1)
                rintro e w16 ⟨rfl, hb⟩
                refine ⟨_, rfl, ?_⟩
                replace HO216 := Aside0.mk (Kd.R_below (zRx HO216.out) hb)
                replace BK210 := zbl BK210.out hb
                replace HB := Aside0.mk (below_step (zBy HB.out GE210.out) hb)
                (try clear hb)
                (try clear hb2)
                (try clear hk)
                (try clear hi)
                refine hK.out _ _ ⟨(blk_cell BK210.out 0).trans rfl, (blk_cell BK210.out 1).trans rfl, (blk_cell BK210.out 2).trans rfl, (blk_cell BK210.out 3).trans rfl, (blk_cell BK210.out 4).trans rfl, (blk_cell BK210.out 5).trans rfl⟩ (fun hHeld => ?_)
                clear hK K
                refine norm_ (a' := ?_) ?_ ?_
                rotate_left
                ·show Act.put _ (some 20) _ = _
                 simp only [Act.put, List.setIfInBounds_toArray, List.set_cons_zero, List.set_cons_succ, i64_w, i32_w]
                 rfl
                exact norm_ (by first | (simp only [putAll, Act.put, List.setIfInBounds_toArray, List.set_cons_zero, List.set_cons_succ]; done) | (simp only [putAll, Act.put, List.setIfInBounds_toArray, List.set_cons_zero, List.set_cons_succ]; rfl)) (hJ16_17 (.slice Ao15 y214.length co15) _ ⟨hHeld, (zRx HO216.out), (zbx BK210.out), (zBy HB.out GE210.out)⟩)
             ·skip
              rintro v212 w14 ⟨hS_, h0_, h1_, h2_⟩
              have HO213 : Aside0 (Kd.R (Kd.int .u8) 5 w14 w.heap.size (fun _ => True) v212 y211) := ⟨h0_⟩
              replace BK210 : Aside0 (w14.heap[gb210]? = some (.cells #[.int .i64 a0_0, .int .i64 a0_1, .int .i64 a0_2, .int .i64 a0_3, .int .i64 a0_4, .int .i64 a0_5] 25 (0, 0))) := ⟨h1_⟩
              replace HB : Aside0 (Below w.heap.size w w14) := ⟨h2_⟩
              clear h0_
              clear h1_
              clear h2_
              have hHeld : w14.cell? ⟨gb210, 0, none⟩ = some (.int .i64 a0_0) ∧ w14.cell? ⟨gb210, 1, none⟩ = some (.int .i64 a0_1) ∧ w14.cell? ⟨gb210, 2, none⟩ = some (.int .i64 a0_2) ∧ w14.cell? ⟨gb210, 3, none⟩ = some (.int .i64 a0_3) ∧ w14.cell? ⟨gb210, 4, none⟩ = some (.int .i64 a0_4) ∧ w14.cell? ⟨gb210, 5, none⟩ = some (.int .i64 a0_5) := hS_
              refine norm_ (a' := ?_) ?_ ?_
              rotate_left
              ·simp only [putAll, Act.put, List.setIfInBounds_toArray, List.set_cons_zero, List.set_cons_succ]
               rfl
              refine two_ (i := 7) (j := 16) (Ni := some 10) (Nj := some 19) #[T,T,T,T,T,T,T,T,T,T,T,T,T,T,T,T,F,F,F,F] #[T,T,T,T,T,T,T,F,T,T,T,T,T,T,T,T,T,F,F,F] rfl rfl rfl rfl (two_of HT_.out (by kernel_rfl)) (by decide) (by decide) (fun K hK => ?_) (fun K hK => ?_)
              ·skip
               have hcv15 := own_string (P := Tryz.prog) Tryz.underlying22 Tryz.underlying5 Tryz.underlying9 (Kd.own_of_R HO213.out)
               refine value_ (w1 := ?_) (v := ?_) (by rfl) rfl ?_ ?_
               rotate_left 2
               ·go_simp
                constructor
                ·rfl
                ·rfl
               clear hcv15
               refine hK.out _ _ ⟨(blk_cell BK210.out 0).trans rfl, (blk_cell BK210.out 1).trans rfl, (blk_cell BK210.out 2).trans rfl, (blk_cell BK210.out 3).trans rfl, (blk_cell BK210.out 4).trans rfl, (blk_cell BK210.out 5).trans rfl⟩ (fun hHeld => ?_)
               clear hK K
               refine norm_ (a' := ?_) ?_ ?_
               rotate_left
               ·show Act.put _ (some 10) _ = _
                simp only [Act.put, List.setIfInBounds_toArray, List.set_cons_zero, List.set_cons_succ, i64_w, i32_w]
                rfl
               exact norm_ (by first | (simp only [putAll, Act.put, List.setIfInBounds_toArray, List.set_cons_zero, List.set_cons_succ]; done) | (simp only [putAll, Act.put, List.setIfInBounds_toArray, List.set_cons_zero, List.set_cons_succ]; rfl)) (hJ6_7 (v212) _ ⟨hHeld, (zRx HO213.out), (zbx BK210.out), (zBy HB.out GE210.out)⟩)
              ·skip
               refine Kd.R_lit_step (Kd.int .i64) _ 3 ?hg (N := 19) ?hd (xs := ([a0_3, a0_4, a0_5, a0_0] : List Int)) (inner := [.int .i64 a0_3, .int .i64 a0_4, .int .i64 a0_5, .int .i64 a0_0]) (ok := fun _ => True) (okp := fun _ => True) ?hr ?hp (fun _ hk => hk) trivial (Below.refl _ _) (Nat.le_refl _) (by simp) ?_; (case hd => rfl); (case hg => rfl); (case hr => exact zsx); (case hp => exact (Reps.one (show Kd.M (Kd.int .i64) _ _ _ a0_3 [.int .i64 a0_3] from rfl) (Reps.one (show Kd.M (Kd.int .i64) _ _ _ a0_4 [.int .i64 a0_4] from rfl) (Reps.one (show Kd.M (Kd.int .i64) _ _ _ a0_5 [.int .i64 a0_5] from rfl) (Reps.one (show Kd.M (Kd.int .i64) _ _ _ a0_0 [.int .i64 a0_0] from rfl) (Reps.none _ _))))))
               intro v215 w15 ho16 hb hg_ hnew_
               clear hg_ hnew_
               (first | rw [← Ny214.out] at ho16 | (simp only [Int.reduceToNat] at ho16; rw [← Ny214.out] at ho16))
               replace HO213 := Aside0.mk (Kd.R_below (zRx HO213.out) hb)
               have HO216 := Aside0.mk (Kd.R_lower ho16 (below_size (zBy HB.out GE210.out)))
               replace BK210 := zbl BK210.out hb
               replace HB := Aside0.mk (below_step (zBy HB.out GE210.out) hb)
               clear hb ho16
               refine hK.out _ _ ⟨(blk_cell BK210.out 0).trans rfl, (blk_cell BK210.out 1).trans rfl, (blk_cell BK210.out 2).trans rfl, (blk_cell BK210.out 3).trans rfl, (blk_cell BK210.out 4).trans rfl, (blk_cell BK210.out 5).trans rfl⟩ (fun hHeld => ?_)
               clear hK K
               refine norm_ (a' := ?_) ?_ ?_
               rotate_left
               ·show Act.put _ (some 19) _ = _
                simp only [Act.put, List.setIfInBounds_toArray, List.set_cons_zero, List.set_cons_succ, i64_w, i32_w]
                rfl
               exact norm_ (by first | (simp only [putAll, Act.put, List.setIfInBounds_toArray, List.set_cons_zero, List.set_cons_succ]; done) | (simp only [putAll, Act.put, List.setIfInBounds_toArray, List.set_cons_zero, List.set_cons_succ]; rfl)) (hJ6_16 (v212, v215) _ ⟨hHeld, (zRx HO213.out), (zRx HO216.out), (zbx BK210.out), (zBy HB.out GE210.out)⟩)
            ·skip
             rintro v215 w16 ⟨hS_, h0_, h1_, h2_⟩
             have HO216 : Aside0 (Kd.R (Kd.int .i64) 3 w16 w.heap.size (fun _ => True) v215 y214) := ⟨h0_⟩
             replace BK210 : Aside0 (w16.heap[gb210]? = some (.cells #[.int .i64 a0_0, .int .i64 a0_1, .int .i64 a0_2, .int .i64 a0_3, .int .i64 a0_4, .int .i64 a0_5] 25 (0, 0))) := ⟨h1_⟩
             replace HB : Aside0 (Below w.heap.size w w16) := ⟨h2_⟩
             clear h0_
             clear h1_
             clear h2_
             have hHeld : w16.cell? ⟨gb210, 0, none⟩ = some (.int .i64 a0_0) ∧ w16.cell? ⟨gb210, 1, none⟩ = some (.int .i64 a0_1) ∧ w16.cell? ⟨gb210, 2, none⟩ = some (.int .i64 a0_2) ∧ w16.cell? ⟨gb210, 3, none⟩ = some (.int .i64 a0_3) ∧ w16.cell? ⟨gb210, 4, none⟩ = some (.int .i64 a0_4) ∧ w16.cell? ⟨gb210, 5, none⟩ = some (.int .i64 a0_5) := hS_
             refine norm_ (a' := ?_) ?_ ?_
             rotate_left
             ·simp only [putAll, Act.put, List.setIfInBounds_toArray, List.set_cons_zero, List.set_cons_succ]
              rfl
             refine one_ (i := 6) (N := some 9) #[T,T,T,T,T,T,T,F,T,T,T,T,T,T,T,T,T,T,F,F] rfl rfl (one_of HT_.out (by kernel_rfl)) (by decide) (fun K hK => ?_)
             refine Kd.R_lit_step (Kd.int .u8) _ 5 ?hg (N := 9) ?hd (xs := ([bt (⟨#[32, 89, 79, 82]⟩ : ByteArray) a0_2, bt (⟨#[32, 87, 82, 83, 72, 84]⟩ : ByteArray) a0_1] : List Int)) (inner := [.int .u8 (bt (⟨#[32, 89, 79, 82]⟩ : ByteArray) a0_2), .int .u8 (bt (⟨#[32, 87, 82, 83, 72, 84]⟩ : ByteArray) a0_1)]) (ok := fun _ => True) (okp := fun _ => True) ?hr ?hp (fun _ hk => hk) trivial (Below.refl _ _) (Nat.le_refl _) (by simp) ?_; (case hd => rfl); (case hg => rfl); (case hr => exact zsx); (case hp => exact (Reps.one (show Kd.M (Kd.int .u8) _ _ _ (bt (⟨#[32, 89, 79, 82]⟩ : ByteArray) a0_2) [.int .u8 (bt (⟨#[32, 89, 79, 82]⟩ : ByteArray) a0_2)] from rfl) (Reps.one (show Kd.M (Kd.int .u8) _ _ _ (bt (⟨#[32, 87, 82, 83, 72, 84]⟩ : ByteArray) a0_1) [.int .u8 (bt (⟨#[32, 87, 82, 83, 72, 84]⟩ : ByteArray) a0_1)] from rfl) (Reps.none _ _))))
             intro v212 w17 ho18 hb hg_ hnew_
             clear hg_ hnew_
             (first | rw [← Ny211.out] at ho18 | (simp only [Int.reduceToNat] at ho18; rw [← Ny211.out] at ho18))
             replace HO216 := Aside0.mk (Kd.R_below (zRx HO216.out) hb)
             have HO213 := Aside0.mk (Kd.R_lower ho18 (below_size (zBy HB.out GE210.out)))
             replace BK210 := zbl BK210.out hb
             replace HB := Aside0.mk (below_step (zBy HB.out GE210.out) hb)
             clear hb ho18
             refine hK.out _ _ ⟨(blk_cell BK210.out 0).trans rfl, (blk_cell BK210.out 1).trans rfl, (blk_cell BK210.out 2).trans rfl, (blk_cell BK210.out 3).trans rfl, (blk_cell BK210.out 4).trans rfl, (blk_cell BK210.out 5).trans rfl⟩ (fun hHeld => ?_)
             clear hK K
             refine norm_ (a' := ?_) ?_ ?_
             rotate_left
             ·show Act.put _ (some 9) _ = _
              simp only [Act.put, List.setIfInBounds_toArray, List.set_cons_zero, List.set_cons_succ, i64_w, i32_w]
              rfl
             exact norm_ (by first | (simp only [putAll, Act.put, List.setIfInBounds_toArray, List.set_cons_zero, List.set_cons_succ]; done) | (simp only [putAll, Act.put, List.setIfInBounds_toArray, List.set_cons_zero, List.set_cons_succ]; rfl)) (hJ6_16_17 (v212, v215) _ ⟨hHeld, (zRx HO213.out), (zRx HO216.out), (zbx BK210.out), (zBy HB.out GE210.out)⟩)
           ·skip
            rintro ⟨v212, v215⟩ w16 ⟨hS_, h0_, h1_, h2_, h3_⟩
            have HO213 : Aside0 (Kd.R (Kd.int .u8) 5 w16 w.heap.size (fun _ => True) v212 y211) := ⟨h0_⟩
            have HO216 : Aside0 (Kd.R (Kd.int .i64) 3 w16 w.heap.size (fun _ => True) v215 y214) := ⟨h1_⟩
            replace BK210 : Aside0 (w16.heap[gb210]? = some (.cells #[.int .i64 a0_0, .int .i64 a0_1, .int .i64 a0_2, .int .i64 a0_3, .int .i64 a0_4, .int .i64 a0_5] 25 (0, 0))) := ⟨h2_⟩
            replace HB : Aside0 (Below w.heap.size w w16) := ⟨h3_⟩
            clear h0_
            clear h1_
            clear h2_
            clear h3_
            have hHeld : w16.cell? ⟨gb210, 0, none⟩ = some (.int .i64 a0_0) ∧ w16.cell? ⟨gb210, 1, none⟩ = some (.int .i64 a0_1) ∧ w16.cell? ⟨gb210, 2, none⟩ = some (.int .i64 a0_2) ∧ w16.cell? ⟨gb210, 3, none⟩ = some (.int .i64 a0_3) ∧ w16.cell? ⟨gb210, 4, none⟩ = some (.int .i64 a0_4) ∧ w16.cell? ⟨gb210, 5, none⟩ = some (.int .i64 a0_5) := hS_
            obtain ⟨Ao17, co17, eo17⟩ := Kd.R_slice HO216.out
            (first | subst eo17 | (injection eo17 with f1_ f2_ f3_; have f4_ := f1_.symm; have f5_ := f3_.symm; clear f1_ f2_ f3_; subst f4_; subst f5_))
            refine norm_ (a' := ?_) ?_ ?_
            rotate_left
            ·simp only [putAll, Act.put, List.setIfInBounds_toArray, List.set_cons_zero, List.set_cons_succ]
             rfl
            refine two_ (i := 7) (j := 17) (Ni := some 10) (Nj := some 20) #[T,T,T,T,T,T,T,T,T,T,T,T,T,T,T,T,T,F,F,F] #[T,T,T,T,T,T,T,F,T,T,T,T,T,T,T,T,T,T,F,F] rfl rfl rfl rfl (two_of HT_.out (by kernel_rfl)) (by decide) (by decide) (fun K hK => ?_) (fun K hK => ?_)
            ·skip
             have hcv17 := own_string (P := Tryz.prog) Tryz.underlying22 Tryz.underlying5 Tryz.underlying9 (Kd.own_of_R HO213.out)
             refine value_ (w1 := ?_) (v := ?_) (by rfl) rfl ?_ ?_
             rotate_left 2
             ·go_simp
              constructor
              ·rfl
              ·rfl
             clear hcv17
             refine hK.out _ _ ⟨(blk_cell BK210.out 0).trans rfl, (blk_cell BK210.out 1).trans rfl, (blk_cell BK210.out 2).trans rfl, (blk_cell BK210.out 3).trans rfl, (blk_cell BK210.out 4).trans rfl, (blk_cell BK210.out 5).trans rfl⟩ (fun hHeld => ?_)
             clear hK K
             refine norm_ (a' := ?_) ?_ ?_
             rotate_left
             ·show Act.put _ (some 10) _ = _
              simp only [Act.put, List.setIfInBounds_toArray, List.set_cons_zero, List.set_cons_succ, i64_w, i32_w]
              rfl
             exact norm_ (by first | (simp only [putAll, Act.put, List.setIfInBounds_toArray, List.set_cons_zero, List.set_cons_succ]; done) | (simp only [putAll, Act.put, List.setIfInBounds_toArray, List.set_cons_zero, List.set_cons_succ]; rfl)) (hJ6_7_16 (v212, (.slice Ao17 y214.length co17)) _ ⟨hHeld, (zRx HO213.out), (zRx HO216.out), (zbx BK210.out), (zBy HB.out GE210.out)⟩)
            ·skip
             refine goes_ Tryz.func82 (by kernel_rfl) rfl #[.slice Ao17 y214.length co17, .string (⟨#[46]⟩ : ByteArray)] (by rfl) rfl rfl zlx ?_
             with_reducible refine (impl_joinInts.calls k _ _ y214 (⟨#[46]⟩ : ByteArray) t217 _ ?side1 ?side2 ?sideL A8.out).mono ?_
             case sideL => exact Laid.below HL.out (zBy HB.out GE210.out)
             (case side1 => exact zCx (Kd.R_reads' HO216.out).2.2)
             (case side2 => exact (Kd.R_reads' HO216.out).2.1)
             rintro e w18 ⟨rfl, hb⟩
             refine ⟨_, rfl, ?_⟩
             replace HO213 := Aside0.mk (Kd.R_below (zRx HO213.out) hb)
             replace HO216 := Aside0.mk (Kd.R_below (zRx HO216.out) hb)
             replace BK210 := zbl BK210.out hb
             replace HB := Aside0.mk (below_step (zBy HB.out GE210.out) hb)
             (try clear hb)
             (try clear hb2)
             (try clear hk)
             (try clear hi)
             refine hK.out _ _ ⟨(blk_cell BK210.out 0).trans rfl, (blk_cell BK210.out 1).trans rfl, (blk_cell BK210.out 2).trans rfl, (blk_cell BK210.out 3).trans rfl, (blk_cell BK210.out 4).trans rfl, (blk_cell BK210.out 5).trans rfl⟩ (fun hHeld => ?_)
             clear hK K
             refine norm_ (a' := ?_) ?_ ?_
             rotate_left
             ·show Act.put _ (some 20) _ = _
              simp only [Act.put, List.setIfInBounds_toArray, List.set_cons_zero, List.set_cons_succ, i64_w, i32_w]
              rfl
             exact norm_ (by first | (simp only [putAll, Act.put, List.setIfInBounds_toArray, List.set_cons_zero, List.set_cons_succ]; done) | (simp only [putAll, Act.put, List.setIfInBounds_toArray, List.set_cons_zero, List.set_cons_succ]; rfl)) (hJ6_16_17 (v212, .slice Ao17 y214.length co17) _ ⟨hHeld, (zRx HO213.out), (zRx HO216.out), (zbx BK210.out), (zBy HB.out GE210.out)⟩)
          ·skip
           rintro v212 w15 ⟨hS_, h0_, h1_, h2_⟩
           have HO213 : Aside0 (Kd.R (Kd.int .u8) 5 w15 w.heap.size (fun _ => True) v212 y211) := ⟨h0_⟩
           replace BK210 : Aside0 (w15.heap[gb210]? = some (.cells #[.int .i64 a0_0, .int .i64 a0_1, .int .i64 a0_2, .int .i64 a0_3, .int .i64 a0_4, .int .i64 a0_5] 25 (0, 0))) := ⟨h1_⟩
           replace HB : Aside0 (Below w.heap.size w w15) := ⟨h2_⟩
           clear h0_
           clear h1_
           clear h2_
           have hHeld : w15.cell? ⟨gb210, 0, none⟩ = some (.int .i64 a0_0) ∧ w15.cell? ⟨gb210, 1, none⟩ = some (.int .i64 a0_1) ∧ w15.cell? ⟨gb210, 2, none⟩ = some (.int .i64 a0_2) ∧ w15.cell? ⟨gb210, 3, none⟩ = some (.int .i64 a0_3) ∧ w15.cell? ⟨gb210, 4, none⟩ = some (.int .i64 a0_4) ∧ w15.cell? ⟨gb210, 5, none⟩ = some (.int .i64 a0_5) := hS_
           refine norm_ (a' := ?_) ?_ ?_
           rotate_left
           ·simp only [putAll, Act.put, List.setIfInBounds_toArray, List.set_cons_zero, List.set_cons_succ]
            rfl
           refine one_ (i := 16) (N := some 19) #[T,T,T,T,T,T,T,T,T,T,T,T,T,T,T,T,T,F,F,F] rfl rfl (one_of HT_.out (by kernel_rfl)) (by decide) (fun K hK => ?_)
           refine Kd.R_lit_step (Kd.int .i64) _ 3 ?hg (N := 19) ?hd (xs := ([a0_3, a0_4, a0_5, a0_0] : List Int)) (inner := [.int .i64 a0_3, .int .i64 a0_4, .int .i64 a0_5, .int .i64 a0_0]) (ok := fun _ => True) (okp := fun _ => True) ?hr ?hp (fun _ hk => hk) trivial (Below.refl _ _) (Nat.le_refl _) (by simp) ?_; (case hd => rfl); (case hg => rfl); (case hr => exact zsx); (case hp => exact (Reps.one (show Kd.M (Kd.int .i64) _ _ _ a0_3 [.int .i64 a0_3] from rfl) (Reps.one (show Kd.M (Kd.int .i64) _ _ _ a0_4 [.int .i64 a0_4] from rfl) (Reps.one (show Kd.M (Kd.int .i64) _ _ _ a0_5 [.int .i64 a0_5] from rfl) (Reps.one (show Kd.M (Kd.int .i64) _ _ _ a0_0 [.int .i64 a0_0] from rfl) (Reps.none _ _))))))
           intro v215 w16 ho17 hb hg_ hnew_
           clear hg_ hnew_
           (first | rw [← Ny214.out] at ho17 | (simp only [Int.reduceToNat] at ho17; rw [← Ny214.out] at ho17))
           replace HO213 := Aside0.mk (Kd.R_below (zRx HO213.out) hb)
           have HO216 := Aside0.mk (Kd.R_lower ho17 (below_size (zBy HB.out GE210.out)))
           replace BK210 := zbl BK210.out hb
           replace HB := Aside0.mk (below_step (zBy HB.out GE210.out) hb)
           clear hb ho17
           refine hK.out _ _ ⟨(blk_cell BK210.out 0).trans rfl, (blk_cell BK210.out 1).trans rfl, (blk_cell BK210.out 2).trans rfl, (blk_cell BK210.out 3).trans rfl, (blk_cell BK210.out 4).trans rfl, (blk_cell BK210.out 5).trans rfl⟩ (fun hHeld => ?_)
           clear hK K
           refine norm_ (a' := ?_) ?_ ?_
           rotate_left
           ·show Act.put _ (some 19) _ = _
            simp only [Act.put, List.setIfInBounds_toArray, List.set_cons_zero, List.set_cons_succ, i64_w, i32_w]
            rfl
           exact norm_ (by first | (simp only [putAll, Act.put, List.setIfInBounds_toArray, List.set_cons_zero, List.set_cons_succ]; done) | (simp only [putAll, Act.put, List.setIfInBounds_toArray, List.set_cons_zero, List.set_cons_succ]; rfl)) (hJ6_7_16 (v212, v215) _ ⟨hHeld, (zRx HO213.out), (zRx HO216.out), (zbx BK210.out), (zBy HB.out GE210.out)⟩)
         ·skip
          rintro ⟨v212, v215⟩ w18 ⟨hS_, h0_, h1_, h2_, h3_⟩
          have HO213 : Aside0 (Kd.R (Kd.int .u8) 5 w18 w.heap.size (fun _ => True) v212 y211) := ⟨h0_⟩
          have HO216 : Aside0 (Kd.R (Kd.int .i64) 3 w18 w.heap.size (fun _ => True) v215 y214) := ⟨h1_⟩
          replace BK210 : Aside0 (w18.heap[gb210]? = some (.cells #[.int .i64 a0_0, .int .i64 a0_1, .int .i64 a0_2, .int .i64 a0_3, .int .i64 a0_4, .int .i64 a0_5] 25 (0, 0))) := ⟨h2_⟩
          replace HB : Aside0 (Below w.heap.size w w18) := ⟨h3_⟩
          clear h0_
          clear h1_
          clear h2_
          clear h3_
          have hHeld : w18.cell? ⟨gb210, 0, none⟩ = some (.int .i64 a0_0) ∧ w18.cell? ⟨gb210, 1, none⟩ = some (.int .i64 a0_1) ∧ w18.cell? ⟨gb210, 2, none⟩ = some (.int .i64 a0_2) ∧ w18.cell? ⟨gb210, 3, none⟩ = some (.int .i64 a0_3) ∧ w18.cell? ⟨gb210, 4, none⟩ = some (.int .i64 a0_4) ∧ w18.cell? ⟨gb210, 5, none⟩ = some (.int .i64 a0_5) := hS_
          refine norm_ (a' := ?_) ?_ ?_
          rotate_left
          ·simp only [putAll, Act.put, List.setIfInBounds_toArray, List.set_cons_zero, List.set_cons_succ]
           rfl
          refine one_ (i := 7) (N := some 10) #[T,T,T,T,T,T,T,T,T,T,T,T,T,T,T,T,T,T,F,F] rfl rfl (one_of HT_.out (by kernel_rfl)) (by decide) (fun K hK => ?_)
          have hcv19 := own_string (P := Tryz.prog) Tryz.underlying22 Tryz.underlying5 Tryz.underlying9 (Kd.own_of_R HO213.out)
          refine value_ (w1 := ?_) (v := ?_) (by rfl) rfl ?_ ?_
          rotate_left 2
          ·go_simp
           constructor
           ·rfl
           ·rfl
          clear hcv19
          refine hK.out _ _ ⟨(blk_cell BK210.out 0).trans rfl, (blk_cell BK210.out 1).trans rfl, (blk_cell BK210.out 2).trans rfl, (blk_cell BK210.out 3).trans rfl, (blk_cell BK210.out 4).trans rfl, (blk_cell BK210.out 5).trans rfl⟩ (fun hHeld => ?_)
          clear hK K
          refine norm_ (a' := ?_) ?_ ?_
          rotate_left
          ·show Act.put _ (some 10) _ = _
           simp only [Act.put, List.setIfInBounds_toArray, List.set_cons_zero, List.set_cons_succ, i64_w, i32_w]
           rfl
          exact norm_ (by first | (simp only [putAll, Act.put, List.setIfInBounds_toArray, List.set_cons_zero, List.set_cons_succ]; done) | (simp only [putAll, Act.put, List.setIfInBounds_toArray, List.set_cons_zero, List.set_cons_succ]; rfl)) (hJ6_7_16_17 (v212, v215) _ ⟨hHeld, (zRx HO213.out), (zRx HO216.out), (zbx BK210.out), (zBy HB.out GE210.out)⟩)
        ·skip
         rintro ⟨v212, v215⟩ w17 ⟨hS_, h0_, h1_, h2_, h3_⟩
         have HO213 : Aside0 (Kd.R (Kd.int .u8) 5 w17 w.heap.size (fun _ => True) v212 y211) := ⟨h0_⟩
         have HO216 : Aside0 (Kd.R (Kd.int .i64) 3 w17 w.heap.size (fun _ => True) v215 y214) := ⟨h1_⟩
         replace BK210 : Aside0 (w17.heap[gb210]? = some (.cells #[.int .i64 a0_0, .int .i64 a0_1, .int .i64 a0_2, .int .i64 a0_3, .int .i64 a0_4, .int .i64 a0_5] 25 (0, 0))) := ⟨h2_⟩
         replace HB : Aside0 (Below w.heap.size w w17) := ⟨h3_⟩
         clear h0_
         clear h1_
         clear h2_
         clear h3_
         have hHeld : w17.cell? ⟨gb210, 0, none⟩ = some (.int .i64 a0_0) ∧ w17.cell? ⟨gb210, 1, none⟩ = some (.int .i64 a0_1) ∧ w17.cell? ⟨gb210, 2, none⟩ = some (.int .i64 a0_2) ∧ w17.cell? ⟨gb210, 3, none⟩ = some (.int .i64 a0_3) ∧ w17.cell? ⟨gb210, 4, none⟩ = some (.int .i64 a0_4) ∧ w17.cell? ⟨gb210, 5, none⟩ = some (.int .i64 a0_5) := hS_
         obtain ⟨Ao18, co18, eo18⟩ := Kd.R_slice HO216.out
         (first | subst eo18 | (injection eo18 with f1_ f2_ f3_; have f4_ := f1_.symm; have f5_ := f3_.symm; clear f1_ f2_ f3_; subst f4_; subst f5_))
         refine norm_ (a' := ?_) ?_ ?_
         rotate_left
         ·simp only [putAll, Act.put, List.setIfInBounds_toArray, List.set_cons_zero, List.set_cons_succ]
          rfl
         refine one_ (i := 17) (N := some 20) #[T,T,T,T,T,T,T,T,T,T,T,T,T,T,T,T,T,T,F,F] rfl rfl (one_of HT_.out (by kernel_rfl)) (by decide) (fun K hK => ?_)
         refine goes_ Tryz.func82 (by kernel_rfl) rfl #[.slice Ao18 y214.length co18, .string (⟨#[46]⟩ : ByteArray)] (by rfl) rfl rfl zlx ?_
         with_reducible refine (impl_joinInts.calls k _ _ y214 (⟨#[46]⟩ : ByteArray) t217 _ ?side1 ?side2 ?sideL A8.out).mono ?_
         case sideL => exact Laid.below HL.out (zBy HB.out GE210.out)
         (case side1 => exact zCx (Kd.R_reads' HO216.out).2.2)
         (case side2 => exact (Kd.R_reads' HO216.out).2.1)
         rintro e w19 ⟨rfl, hb⟩
         refine ⟨_, rfl, ?_⟩
         replace HO213 := Aside0.mk (Kd.R_below (zRx HO213.out) hb)
         replace HO216 := Aside0.mk (Kd.R_below (zRx HO216.out) hb)
         replace BK210 := zbl BK210.out hb
         replace HB := Aside0.mk (below_step (zBy HB.out GE210.out) hb)
         (try clear hb)
         (try clear hb2)
         (try clear hk)
         (try clear hi)
         refine hK.out _ _ ⟨(blk_cell BK210.out 0).trans rfl, (blk_cell BK210.out 1).trans rfl, (blk_cell BK210.out 2).trans rfl, (blk_cell BK210.out 3).trans rfl, (blk_cell BK210.out 4).trans rfl, (blk_cell BK210.out 5).trans rfl⟩ (fun hHeld => ?_)
         clear hK K
         refine norm_ (a' := ?_) ?_ ?_
         rotate_left
         ·show Act.put _ (some 20) _ = _
          simp only [Act.put, List.setIfInBounds_toArray, List.set_cons_zero, List.set_cons_succ, i64_w, i32_w]
          rfl
         exact norm_ (by first | (simp only [putAll, Act.put, List.setIfInBounds_toArray, List.set_cons_zero, List.set_cons_succ]; done) | (simp only [putAll, Act.put, List.setIfInBounds_toArray, List.set_cons_zero, List.set_cons_succ]; rfl)) (hJ6_7_16_17 (v212, .slice Ao18 y214.length co18) _ ⟨hHeld, (zRx HO213.out), (zRx HO216.out), (zbx BK210.out), (zBy HB.out GE210.out)⟩)
       rintro ⟨v212, v215⟩ w19 ⟨hS_, h0_, h1_, h2_, h3_⟩
       have HO213 : Aside0 (Kd.R (Kd.int .u8) 5 w19 w.heap.size (fun _ => True) v212 y211) := ⟨h0_⟩
       have HO216 : Aside0 (Kd.R (Kd.int .i64) 3 w19 w.heap.size (fun _ => True) v215 y214) := ⟨h1_⟩
       replace BK210 : Aside0 (w19.heap[gb210]? = some (.cells #[.int .i64 a0_0, .int .i64 a0_1, .int .i64 a0_2, .int .i64 a0_3, .int .i64 a0_4, .int .i64 a0_5] 25 (0, 0))) := ⟨h2_⟩
       replace HB : Aside0 (Below w.heap.size w w19) := ⟨h3_⟩
       clear h0_
       clear h1_
       clear h2_
       clear h3_
       have hHeld : w19.cell? ⟨gb210, 0, none⟩ = some (.int .i64 a0_0) ∧ w19.cell? ⟨gb210, 1, none⟩ = some (.int .i64 a0_1) ∧ w19.cell? ⟨gb210, 2, none⟩ = some (.int .i64 a0_2) ∧ w19.cell? ⟨gb210, 3, none⟩ = some (.int .i64 a0_3) ∧ w19.cell? ⟨gb210, 4, none⟩ = some (.int .i64 a0_4) ∧ w19.cell? ⟨gb210, 5, none⟩ = some (.int .i64 a0_5) := hS_
       refine norm_ (a' := ?_) ?_ ?_
       rotate_left
       ·simp only [putAll, Act.put, List.setIfInBounds_toArray, List.set_cons_zero, List.set_cons_succ]
        rfl
       refine pure_ (i := 18) (N := some 21) (v := ?_) (a' := ?_) #[T,T,T,T,T,T,T,T,T,T,T,T,T,T,T,T,T,T,T,F] rfl rfl (any_of HT_.out (by kernel_rfl)) (fun _ _ _ h => h) (Or.inl ⟨by rfl, ?_⟩) ?_ ?_
       rotate_left
       ·exact zwx
       rotate_left
       ·exact zpx
       refine pure_ (i := 19) (N := some 2) (v := ?_) (a' := ?_) #[T,T,T,T,T,T,T,T,T,T,T,T,T,T,T,T,T,T,T,T] rfl rfl (any_of HT_.out (by kernel_rfl)) (fun _ _ _ h => h) (Or.inl ⟨by rfl, ?_⟩) ?_ ?_
       rotate_left
       ·exact zwx
       rotate_left
       ·exact zpx
       refine done_ (done_of HT_.out (by kernel_rfl)) ?_
       try go_wp2
       go_ret
       exact ⟨by first | rfl | (simp [errW_none, errW_some] <;> rfl) | (simp [*, errW_none, errW_some] <;> rfl), by exact zBy HB.out GE210.out⟩
     ·rw [if_neg c9] at H
      exact absurd H (by simp)
    ·rw [if_neg c6] at H
     exact absurd H (by simp)
   ·rw [if_neg c5] at H
    exact absurd H (by simp)
  ·rw [if_neg c3] at H
   exact absurd H (by simp)
 ·rw [if_neg c2] at H
  exact absurd H (by simp)

/-! ### impl_WarningCode: function 10 -/
def impl_WarningCode.f (k : Nat) (a0_0 : Int) (a0_1 : Int) (a0_2 : Int) (a0_3 : Int) (a0_4 : Int) (a0_5 : Int) : Option (ByteArray × Bool) := (impl_IsValidWarning.f a0_0 a0_1 a0_2 a0_3 a0_4 a0_5).bind fun t219 => (if t219 = true then ((impl_warningCode.f k a0_0 a0_1 a0_2 a0_3 a0_4 a0_5).bind fun t220 => (some (t220, true))) else (some ((⟨#[]⟩ : ByteArray), false)))
theorem impl_WarningCode.mono : ∀ a0 a1 a2 a3 a4 a5 k, LeO (impl_WarningCode.f k a0 a1 a2 a3 a4 a5) (impl_WarningCode.f (k + 1) a0 a1 a2 a3 a4 a5) := by
 intro a0 a1 a2 a3 a4 a5 k
 unfold impl_WarningCode.f
 repeat' first
  | (with_reducible exact impl_warningCode.mono _ _ _ _ _ _ _)
  | (with_reducible exact LeO.refl _)
  | (with_reducible exact LeO.none _)
  | (with_reducible refine LeO.ite ?_ ?_)
  | (with_reducible refine LeO.bind ?_ (fun _ => ?_))
  | exact impl_warningCode.mono _ _ _ _ _ _ _
  | exact LeO.none _
  | refine LeO.ite ?_ ?_
  | refine LeO.bind ?_ (fun _ => ?_)
set_option maxHeartbeats 8000000 in
set_option maxRecDepth 100000 in
theorem impl_WarningCode.calls (k : Nat) (a0_0 : Int) (a0_1 : Int) (a0_2 : Int) (a0_3 : Int) (a0_4 : Int) (a0_5 : Int) (r1 : ByteArray) (r2 : Bool) (w : World) (hL : Laid w) (h : impl_WarningCode.f k a0_0 a0_1 a0_2 a0_3 a0_4 a0_5 = some (r1, r2)) :
 Calls Tryz.prog 10 #[.agg #[.int .i64 a0_0, .int .i64 a0_1, .int .i64 a0_2, .int .i64 a0_3, .int .i64 a0_4, .int .i64 a0_5]] w fun e w' => e = .returned (.tuple #[.string r1, .bool r2]) ∧ Below w.heap.size w w' := by
 have hu25 := Tryz.underlying25
 have HL := Aside0.mk hL
 clear hL
 have HB := Aside0.mk (Below.refl w.heap.size w)
 have H : ((impl_IsValidWarning.f a0_0 a0_1 a0_2 a0_3 a0_4 a0_5).bind fun t219 => (if t219 = true then ((impl_warningCode.f k a0_0 a0_1 a0_2 a0_3 a0_4 a0_5).bind fun t220 => (some (t220, true))) else (some ((⟨#[]⟩ : ByteArray), false)))) = some (r1, r2) := h
 clear h
 replace H := Option.bind_eq_some_iff.mp H
 obtain ⟨t219, A20, H⟩ := H
 replace H : (if t219 = true then ((impl_warningCode.f k a0_0 a0_1 a0_2 a0_3 a0_4 a0_5).bind fun t220 => (some (t220, true))) else (some ((⟨#[]⟩ : ByteArray), false))) = some (r1, r2) := H
 have A2 := Aside0.mk A20
 clear A20
 by_cases c3 : t219 = true
 ·subst c3
  rw [if_pos rfl] at H
  replace H := Option.bind_eq_some_iff.mp H
  obtain ⟨t220, A40, H⟩ := H
  replace H : (some (t220, true)) = some (r1, r2) := H
  have A4 := Aside0.mk A40
  clear A40
  focus
   simp only [Option.some.injEq, Prod.mk.injEq] at H
   obtain ⟨rfl, rfl⟩ := H
   go_enter Tryz.func10, Tryz.ntmps10
   go_wp2_with (first | ((with_reducible refine gate_dst (N := 1) rfl ?_); refine box_event ?hg (N := 1) ?hd (cs := #[.int .i64 a0_0, .int .i64 a0_1, .int .i64 a0_2, .int .i64 a0_3, .int .i64 a0_4, .int .i64 a0_5]) (t := 25) ?hr ?_; (case hd => rfl); (case hg => rfl); (case hr => exact zsx); intro gb218 hg w5 hbox hb; have BK218 := Aside0.mk (hbox); have GW218 := zns hg HB.out; have GE218 := zns hg HB.out; replace HB := Aside0.mk (below_step (zBx HB.out) hb); clear hb hbox hg; have hcz6_0 : w5.cell? ⟨gb218, 0, none⟩ = some (.int .i64 a0_0) := (blk_cell BK218.out 0).trans rfl; have hcz6_1 : w5.cell? ⟨gb218, 1, none⟩ = some (.int .i64 a0_1) := (blk_cell BK218.out 1).trans rfl; have hcz6_2 : w5.cell? ⟨gb218, 2, none⟩ = some (.int .i64 a0_2) := (blk_cell BK218.out 2).trans rfl; have hcz6_3 : w5.cell? ⟨gb218, 3, none⟩ = some (.int .i64 a0_3) := (blk_cell BK218.out 3).trans rfl; have hcz6_4 : w5.cell? ⟨gb218, 4, none⟩ = some (.int .i64 a0_4) := (blk_cell BK218.out 4).trans rfl; have hcz6_5 : w5.cell? ⟨gb218, 5, none⟩ = some (.int .i64 a0_5) := (blk_cell BK218.out 5).trans rfl; have hfz6_0 := blk_frozen BK218.out 0; have hfz6_1 := blk_frozen BK218.out 1; have hfz6_2 := blk_frozen BK218.out 2; have hfz6_3 := blk_frozen BK218.out 3; have hfz6_4 := blk_frozen BK218.out 4; have hfz6_5 := blk_frozen BK218.out 5) | ((with_reducible refine gate_callee (f := 36) rfl ?_); refine goesL_ (some 5) rfl rfl Tryz.func36 (by kernel_rfl) rfl #[.agg #[.int .i64 a0_0, .int .i64 a0_1, .int .i64 a0_2, .int .i64 a0_3, .int .i64 a0_4, .int .i64 a0_5]] rfl zlx ?_; (with_reducible refine (impl_IsValidWarning.calls a0_0 a0_1 a0_2 a0_3 a0_4 a0_5 true _ A2.out).mono ?_); rintro e w7 ⟨rfl, hb⟩; refine ⟨_, rfl, ?_⟩; replace BK218 := zbl BK218.out hb; replace HB := Aside0.mk (below_step (zBy HB.out GE218.out) hb); (try clear hb); have hcz8_0 : w7.cell? ⟨gb218, 0, none⟩ = some (.int .i64 a0_0) := (blk_cell BK218.out 0).trans rfl; have hcz8_1 : w7.cell? ⟨gb218, 1, none⟩ = some (.int .i64 a0_1) := (blk_cell BK218.out 1).trans rfl; have hcz8_2 : w7.cell? ⟨gb218, 2, none⟩ = some (.int .i64 a0_2) := (blk_cell BK218.out 2).trans rfl; have hcz8_3 : w7.cell? ⟨gb218, 3, none⟩ = some (.int .i64 a0_3) := (blk_cell BK218.out 3).trans rfl; have hcz8_4 : w7.cell? ⟨gb218, 4, none⟩ = some (.int .i64 a0_4) := (blk_cell BK218.out 4).trans rfl; have hcz8_5 : w7.cell? ⟨gb218, 5, none⟩ = some (.int .i64 a0_5) := (blk_cell BK218.out 5).trans rfl; have hfz8_0 := blk_frozen BK218.out 0; have hfz8_1 := blk_frozen BK218.out 1; have hfz8_2 := blk_frozen BK218.out 2; have hfz8_3 := blk_frozen BK218.out 3; have hfz8_4 := blk_frozen BK218.out 4; have hfz8_5 := blk_frozen BK218.out 5) | ((with_reducible refine gate_callee (f := 44) rfl ?_); refine goesL_ (some 8) rfl rfl Tryz.func44 (by kernel_rfl) rfl #[.agg #[.int .i64 a0_0, .int .i64 a0_1, .int .i64 a0_2, .int .i64 a0_3, .int .i64 a0_4, .int .i64 a0_5]] rfl zlx ?_; (with_reducible refine (impl_warningCode.calls k a0_0 a0_1 a0_2 a0_3 a0_4 a0_5 t220 _ ?sideL A4.out).mono ?_); (case sideL => exact Laid.below HL.out (zBy HB.out GE218.out)); rintro e w9 ⟨rfl, hb⟩; refine ⟨_, rfl, ?_⟩; replace BK218 := zbl BK218.out hb; replace HB := Aside0.mk (below_step (zBy HB.out GE218.out) hb); (try clear hb)))
   go_ret2
   exact ⟨by first | rfl | (simp [errW_none, errW_some] <;> rfl) | (simp [*, errW_none, errW_some] <;> rfl), by exact zBy HB.out GE218.out⟩
 ·replace c3 := Bool.eq_false_iff.mpr c3
  subst c3
  rw [if_neg (show ¬ (false = true) by decide)] at H
  focus
   simp only [Option.some.injEq, Prod.mk.injEq] at H
   obtain ⟨rfl, rfl⟩ := H
   go_enter Tryz.func10, Tryz.ntmps10
   go_wp2_with (first | ((with_reducible refine gate_dst (N := 1) rfl ?_); refine box_event ?hg (N := 1) ?hd (cs := #[.int .i64 a0_0, .int .i64 a0_1, .int .i64 a0_2, .int .i64 a0_3, .int .i64 a0_4, .int .i64 a0_5]) (t := 25) ?hr ?_; (case hd => rfl); (case hg => rfl); (case hr => exact zsx); intro gb218 hg w10 hbox hb; have BK218 := Aside0.mk (hbox); have GW218 := zns hg HB.out; have GE218 := zns hg HB.out; replace HB := Aside0.mk (below_step (zBx HB.out) hb); clear hb hbox hg; have hcz11_0 : w10.cell? ⟨gb218, 0, none⟩ = some (.int .i64 a0_0) := (blk_cell BK218.out 0).trans rfl; have hcz11_1 : w10.cell? ⟨gb218, 1, none⟩ = some (.int .i64 a0_1) := (blk_cell BK218.out 1).trans rfl; have hcz11_2 : w10.cell? ⟨gb218, 2, none⟩ = some (.int .i64 a0_2) := (blk_cell BK218.out 2).trans rfl; have hcz11_3 : w10.cell? ⟨gb218, 3, none⟩ = some (.int .i64 a0_3) := (blk_cell BK218.out 3).trans rfl; have hcz11_4 : w10.cell? ⟨gb218, 4, none⟩ = some (.int .i64 a0_4) := (blk_cell BK218.out 4).trans rfl; have hcz11_5 : w10.cell? ⟨gb218, 5, none⟩ = some (.int .i64 a0_5) := (blk_cell BK218.out 5).trans rfl; have hfz11_0 := blk_frozen BK218.out 0; have hfz11_1 := blk_frozen BK218.out 1; have hfz11_2 := blk_frozen BK218.out 2; have hfz11_3 := blk_frozen BK218.out 3; have hfz11_4 := blk_frozen BK218.out 4; have hfz11_5 := blk_frozen BK218.out 5) | ((with_reducible refine gate_callee (f := 36) rfl ?_); refine goesL_ (some 5) rfl rfl Tryz.func36 (by kernel_rfl) rfl #[.agg #[.int .i64 a0_0, .int .i64 a0_1, .int .i64 a0_2, .int .i64 a0_3, .int .i64 a0_4, .int .i64 a0_5]] rfl zlx ?_; (with_reducible refine (impl_IsValidWarning.calls a0_0 a0_1 a0_2 a0_3 a0_4 a0_5 false _ A2.out).mono ?_); rintro e w12 ⟨rfl, hb⟩; refine ⟨_, rfl, ?_⟩; replace BK218 := zbl BK218.out hb; replace HB := Aside0.mk (below_step (zBy HB.out GE218.out) hb); (try clear hb)))
   go_ret2
   exact ⟨by first | rfl | (simp [errW_none, errW_some] <;> rfl) | (simp [*, errW_none, errW_some] <;> rfl), by exact zBy HB.out GE218.out⟩

end Go.Proofs.YtlfoojgbiafffaaGreatDoor.XFnMessages
