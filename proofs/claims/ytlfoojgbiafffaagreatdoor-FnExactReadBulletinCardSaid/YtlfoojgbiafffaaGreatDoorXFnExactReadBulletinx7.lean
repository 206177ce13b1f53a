-- written by wip/tools/xprint.py (a program of this project) out of the translation
import Derived.Test.YtlfoojgbiafffaaGreatDoorXFnExactReadBulletinx0
import Derived.Test.YtlfoojgbiafffaaGreatDoorStrsE
import Derived.Test.YtlfoojgbiafffaaGreatDoorXFnExactReadBulletinx1
import Derived.Test.YtlfoojgbiafffaaGreatDoorXFnExactReadBulletinx4
import Derived.Test.YtlfoojgbiafffaaGreatDoorXFnExactReadBulletinx5
import Derived.Test.YtlfoojgbiafffaaGreatDoorXFnExactReadBulletinx6
namespace Go.Proofs.YtlfoojgbiafffaaGreatDoor.XFnExactReadBulletin
open Go.RowKit Go.Proofs.YtlfoojgbiafffaaGreatDoorW.PrintWords Go.Proofs.YtlfoojgbiafffaaGreatDoorW.PrintLast Go.Proofs.YtlfoojgbiafffaaGreatDoorW.PrintMore
open Go.Proofs.YtlfoojgbiafffaaGreatDoor.Strs
attribute [local go_sem] max2_int min2_int max_two min_two max_three min_three max_four min_four   -- for this text's walks alone
set_option linter.unusedVariables false
set_option linter.unusedSimpArgs false

/-! ### spec_l17Bulletin: function 57 -/
mutual
def spec_l17Bulletin.j0 : Nat → ByteArray → List ByteArray → Bool → Int → Int → Option (Int × Int × (List (S25)) × Bool)
 | 0, _, _, _, _, _ => none
 | k + 1, x0, x7, x31, x210000, x210001 => if x31 = true then (some (x210000, x210001, ([] : List (S25)), false)) else (if 0 < (x7.length : Int) then ((spec_l1Split.f k (rdOf ByteArray.empty x7 0) 32).bind fun t216 => (if (t216.length : Int) = 5 then (if 1 < (t216.length : Int) then ((spec_l1Read.f k (rdOf ByteArray.empty t216 1)).bind fun bt220 => (if 4 < (t216.length : Int) then ((spec_l1Read.f k (rdOf ByteArray.empty t216 4)).bind fun bt223 => ((some (([] : List (S25)) : List (S25))).bind fun y225 => (if bt220.2 = true then (if bt223.2 = true then (spec_l17Bulletin.j1 k x0 x7 (decide ((x7.length : Int) > 14)) x210000 x210001 bt220.1 bt223.1 y225) else (spec_l17Bulletin.j1 k x0 x7 true x210000 x210001 bt220.1 bt223.1 y225)) else (spec_l17Bulletin.j1 k x0 x7 true x210000 x210001 bt220.1 bt223.1 y225)))) else (none))) else (none)) else (some (x210000, x210001, ([] : List (S25)), false)))) else (none))
def spec_l17Bulletin.j1 : Nat → ByteArray → List ByteArray → Bool → Int → Int → Int → Int → List (S25) → Option (Int × Int × (List (S25)) × Bool)
 | 0, _, _, _, _, _, _, _, _ => none
 | k + 1, x0, x7, x69, x210000, x210001, x229000, x229001, x229002 => if x69 = true then (some (x210000, x210001, ([] : List (S25)), false)) else (spec_l17Bulletin.l0 k x0 x7 1 x210000 x210001 x229000 x229001 x229002)
def spec_l17Bulletin.l0 : Nat → ByteArray → List ByteArray → Int → Int → Int → Int → Int → List (S25) → Option (Int × Int × (List (S25)) × Bool)
 | 0, _, _, _, _, _, _, _, _ => none
 | k + 1, x0, x7, x14, x210000, x210001, x229000, x229001, x229002 => if x14 < (wrap64 ((x7.length : Int) - 1)) then (if 0 ≤ x14 then (if x14 < (x7.length : Int) then ((spec_l17Parse.f k (rdOf ByteArray.empty x7 x14)).bind fun bt230 => (if bt230.2.2.2.2.2.2 = true then (if x229002.length < 2932031007402 then (spec_l17Bulletin.l0 k x0 x7 (wrap64 (x14 + 1)) x210000 x210001 x229000 x229001 (x229002 ++ [(⟨bt230.1, bt230.2.1, bt230.2.2.1, bt230.2.2.2.1, bt230.2.2.2.2.1, bt230.2.2.2.2.2.1⟩ : S25)])) else (none)) else (some (x210000, x210001, ([] : List (S25)), false)))) else (none)) else (none)) else ((spec_l17Good.f k x229000 x229001 x229002).bind fun t241 => (if t241 = true then ((spec_l17Text.f k x229000 x229001 x229002).bind fun t242 => (if t242.toList = x0.toList then (some (x229000, x229001, x229002, true)) else (some (x210000, x210001, ([] : List (S25)), false)))) else (some (x210000, x210001, ([] : List (S25)), false))))
end
def spec_l17Bulletin.f (k : Nat) (a0 : ByteArray) : Option (Int × Int × (List (S25)) × Bool) := (spec_VerifyChecksum.f k a0).bind fun bt210 => ((spec_l1Split.f k bt210.1 10).bind fun t212 => (if bt210.2 = true then (spec_l17Bulletin.j0 k a0 t212 (decide ((t212.length : Int) < 2)) 0 0) else (spec_l17Bulletin.j0 k a0 t212 true 0 0)))
set_option maxHeartbeats 8000000 in
set_option maxRecDepth 100000 in
theorem spec_l17Bulletin.calls (k : Nat) (a0 : ByteArray) (r1 : Int) (r2 : Int) (r3 : List (S25)) (r4 : Bool) (w : World) (h : spec_l17Bulletin.f k a0 = some (r1, r2, r3, r4)) :
 Calls Tryz.prog 57 #[.string a0] w fun e w' => ∃ v2_ : Value, e = .returned (.tuple #[.agg #[.int .i64 r1, .int .i64 r2, v2_], .bool r4]) ∧ Kd.R k25 25 w' w.heap.size (fun _ => True) v2_ r3 ∧ Below w.heap.size w w' := by
 have hu34 := Tryz.underlying34
 have hu25 := Tryz.underlying25
 have HB := Aside0.mk (Below.refl w.heap.size w)
 have H : ((spec_VerifyChecksum.f k a0).bind fun bt210 => ((spec_l1Split.f k bt210.1 10).bind fun t212 => (if bt210.2 = true then (spec_l17Bulletin.j0 k a0 t212 (decide ((t212.length : Int) < 2)) 0 0) else (spec_l17Bulletin.j0 k a0 t212 true 0 0)))) = some (r1, r2, r3, r4) := h
 clear h
 replace H := Option.bind_eq_some_iff.mp H
 obtain ⟨⟨t210, t211⟩, A20, H⟩ := H
 replace H : ((spec_l1Split.f k t210 10).bind fun t212 => (if t211 = true then (spec_l17Bulletin.j0 k a0 t212 (decide ((t212.length : Int) < 2)) 0 0) else (spec_l17Bulletin.j0 k a0 t212 true 0 0))) = some (r1, r2, r3, r4) := H
 have A2 := Aside0.mk A20
 clear A20
 replace H := Option.bind_eq_some_iff.mp H
 obtain ⟨t212, A30, H⟩ := H
 replace H : (if t211 = true then (spec_l17Bulletin.j0 k a0 t212 (decide ((t212.length : Int) < 2)) 0 0) else (spec_l17Bulletin.j0 k a0 t212 true 0 0)) = some (r1, r2, r3, r4) := H
 have A3 := Aside0.mk A30
 clear A30
 have HC4 := Aside0.mk H
 clear H
 go_enter Tryz.func57, Tryz.ntmps57
 go_upto_region 4 with (first | ((with_reducible refine gate_dst (N := 2) rfl ?_); (try (refine gate_guard (by rfl) ?_; dsimp only)); refine box_event ?hg (N := 2) ?hd (cs := #[.int .i64 0, .int .i64 0, .slice none 0 0]) (t := 34) ?hr ?_; (case hd => rfl); (case hg => rfl); (case hr => exact zsx); intro gb208 hg w5 hbox hb; have BK208 := Aside0.mk (hbox); have GW208 := zns hg HB.out; have GE208 := zns hg HB.out; replace HB := Aside0.mk (below_step (zBx HB.out) hb); clear hb hbox hg) | ((with_reducible refine gate_dst (N := 4) rfl ?_); (try (refine gate_guard (by rfl) ?_; dsimp only)); refine box_event ?hg (N := 4) ?hd (cs := #[.int .i64 0, .int .i64 0, .slice none 0 0]) (t := 34) ?hr ?_; (case hd => rfl); (case hg => rfl); (case hr => exact zsx); intro gb209 hg w6 hbox hb; have BK209 := Aside0.mk (hbox); have GW209 := zns hg HB.out; have GE209 := zns hg HB.out; replace HB := Aside0.mk (below_step (zBy HB.out GE208.out) hb); have NB208_209 := znl hg BK208.out; have NB209_208 := zng hg BK208.out; replace BK208 := zbl BK208.out hb; clear hb hbox hg; have hnb7 := NB209_208.out; have hnc7 := NB208_209.out; have hcz8_0 : w6.cell? ⟨gb209, 0, none⟩ = some (.int .i64 0) := (blk_cell BK209.out 0).trans rfl; have hcz8_1 : w6.cell? ⟨gb209, 1, none⟩ = some (.int .i64 0) := (blk_cell BK209.out 1).trans rfl; have hcz8_2 : w6.cell? ⟨gb209, 2, none⟩ = some (.slice none 0 0) := (blk_cell BK209.out 2).trans rfl; have hfz8_0 := blk_frozen BK209.out 0; have hfz8_1 := blk_frozen BK209.out 1; have hfz8_2 := blk_frozen BK209.out 2) | ((with_reducible refine gate_callee (f := 72) rfl ?_); refine goesL_ (some 20) rfl rfl Tryz.func72 (by kernel_rfl) rfl #[.string a0] rfl zlx ?_; (with_reducible refine (spec_VerifyChecksum.calls k a0 t210 t211 _ A2.out).mono ?_); rintro e w9 ⟨rfl, hb⟩; refine ⟨_, rfl, ?_⟩; replace BK208 := zbl BK208.out hb; replace BK209 := Aside0.mk (blk_below (g := gb209) (o := .cells #[.int .i64 0, .int .i64 0, .slice none 0 0] 34 (0, 0)) (zbp BK209.out) hb); replace HB := Aside0.mk (below_step (zBz HB.out GE208.out GE209.out) hb); (try clear hb)) | ((with_reducible refine gate_callee (f := 54) rfl ?_); refine goesL_ (some 24) rfl rfl Tryz.func54 (by kernel_rfl) rfl #[.string t210, .int .u8 10] rfl zlx ?_; (with_reducible refine (spec_l1Split.calls k t210 10 t212 _ A3.out).mono ?_); rintro e w10 ⟨v213, rfl, ho0, hb⟩; refine ⟨_, rfl, ?_⟩; have HO214 := Aside0.mk (Kd.R_lower ho0 (below_size (zBz HB.out GE208.out GE209.out))); replace BK208 := zbl BK208.out hb; replace BK209 := zbl BK209.out hb; replace HB := Aside0.mk (below_step (zBz HB.out GE208.out GE209.out) hb); (try clear hb); (try clear ho0)))
 (try simp only [Act.put, List.setIfInBounds_toArray, List.set_cons_zero, List.set_cons_succ])
 go_cut [31] (fun v31 wc => ∃ (kq : Nat) (x31_3 : Bool), v31 = .bool x31_3 ∧ Aside0 (spec_l17Bulletin.j0 kq a0 t212 x31_3 0 0 = some (r1, r2, r3, r4)) ∧ Aside0 (kq ≤ k) ∧ Aside0 (Kd.R Kd.string 9 wc w.heap.size (fun _ => True) v213 t212) ∧ Aside0 (wc.heap[gb208]? = some (.cells #[.int .i64 0, .int .i64 0, (.slice none 0 0)] 34 (0, 0))) ∧ Aside0 (wc.heap[gb209]? = some (.cells #[.int .i64 0, .int .i64 0, (.slice none 0 0)] 34 (0, 0))) ∧ Aside0 (Below w.heap.size w wc))
 case first =>
  have H := HC4.out
  clear HC4
  by_cases c11 : t211 = true
  ·subst c11
   rw [if_pos rfl] at H
   focus
    have H' := Aside0.mk H
    clear H
    obtain ⟨Ao12, co12, eo12⟩ := Kd.R_slice HO214.out
    subst eo12
    go_wp2
    go_meet
    case rel => exact ⟨_, (decide ((t212.length : Int) < 2)), zrx, H', ⟨by first | omega | exact Nat.le_refl _⟩, ⟨by refine zDR ?_; exact HO214.out⟩, ⟨by refine zbx ?_; exact BK208.out⟩, ⟨by refine zbx ?_; exact BK209.out⟩, ⟨by exact zBz HB.out GE208.out GE209.out⟩⟩
  ·replace c11 := Bool.eq_false_iff.mpr c11
   subst c11
   rw [if_neg (show ¬ (false = true) by decide)] at H
   focus
    have H' := Aside0.mk H
    clear H
    go_wp2
    go_meet
    case rel => exact ⟨_, (true), zrx, H', ⟨by first | omega | exact Nat.le_refl _⟩, ⟨by refine zDR ?_; exact HO214.out⟩, ⟨by refine zbx ?_; exact BK208.out⟩, ⟨by refine zbx ?_; exact BK209.out⟩, ⟨by exact zBz HB.out GE208.out GE209.out⟩⟩
 case rest =>
  clear HC4
  try clear c1
  try clear p2
  try clear c5
  try clear c7
  try clear c11
  try clear hcz8_0
  try clear hcz8_1
  try clear hcz8_2
  try clear hfz8_0
  try clear hfz8_1
  try clear hfz8_2
  obtain ⟨kq, x31_3, rfl, HA, HJ3, HO_7, BK208, BK209, HB⟩ := hcut
  cases kq with
  | zero => exact absurd HA.out (by simp [spec_l17Bulletin.j0])
  | succ kj3 =>
   have H := HA.out
   clear HA
   simp only [spec_l17Bulletin.j0] at H
   by_cases c13 : x31_3 = true
   ·subst c13
    rw [if_pos rfl] at H
    focus
     simp only [Option.some.injEq, Prod.mk.injEq] at H
     obtain ⟨rfl, rfl, rfl, rfl⟩ := H
     have hnb14 := NB209_208.out
     have hnc14 := NB208_209.out
     have hcz15_0 : wc.cell? ⟨gb209, 0, none⟩ = some (.int .i64 0) := (blk_cell BK209.out 0).trans rfl
     have hcz15_1 : wc.cell? ⟨gb209, 1, none⟩ = some (.int .i64 0) := (blk_cell BK209.out 1).trans rfl
     have hcz15_2 : wc.cell? ⟨gb209, 2, none⟩ = some (.slice none 0 0) := (blk_cell BK209.out 2).trans rfl
     have hfz15_0 := blk_frozen BK209.out 0
     have hfz15_1 := blk_frozen BK209.out 1
     have hfz15_2 := blk_frozen BK209.out 2
     have hcz16_0 : wc.cell? ⟨gb208, 0, none⟩ = some (.int .i64 0) := (blk_cell BK208.out 0).trans rfl
     have hcz16_1 : wc.cell? ⟨gb208, 1, none⟩ = some (.int .i64 0) := (blk_cell BK208.out 1).trans rfl
     have hcz16_2 : wc.cell? ⟨gb208, 2, none⟩ = some (.slice none 0 0) := (blk_cell BK208.out 2).trans rfl
     have hfz16_0 := blk_frozen BK208.out 0
     have hfz16_1 := blk_frozen BK208.out 1
     have hfz16_2 := blk_frozen BK208.out 2
     go_wp2
     refine bodyPost_ret (results_ct rfl _ _ gb208 34 #[.int .i64 0, .int .i64 0, .slice none 0 0] (0, 0) _ rfl (zbp BK208.out) Tryz.underlying34 rfl (by kernel_rfl)) rfl ?_
     exact ⟨_, by first | rfl | (simp [errW_none, errW_some] <;> rfl) | (simp [*, errW_none, errW_some] <;> rfl), by first | exact Kd.R_nil _ _ _ _ _ | exact Kd.N_nil _ _ _ _ _ | exact Kd.V_nil _ _ _ _ _ | exact Kd.Q_nil _ _ _ _ _ | exact Kd.S_nil _ _ _ _ _, by exact zBz HB.out GE208.out GE209.out⟩
   replace c13 := Bool.eq_false_iff.mpr c13
   subst c13
   rw [if_neg (show ¬ (false = true) by decide)] at H
   by_cases c17 : 0 < (t212.length : Int)
   rotate_left
   ·rw [if_neg c17] at H
    exact absurd H (by simp)

   rw [if_pos c17] at H
   have c17b0 : decide (0 < (t212.length : Int)) = true := decide_eq_true c17
   have c17b1 : decide (0 < t212.length) = true := decide_eq_true (by omega)
   clear c17
   replace H := Option.bind_eq_some_iff.mp H
   obtain ⟨t216, A180, H⟩ := H
   replace H : (if (t216.length : Int) = 5 then (if 1 < (t216.length : Int) then ((spec_l1Read.f kj3 (rdOf ByteArray.empty t216 1)).bind fun bt220 => (if 4 < (t216.length : Int) then ((spec_l1Read.f kj3 (rdOf ByteArray.empty t216 4)).bind fun bt223 => ((some (([] : List (S25)) : List (S25))).bind fun y225 => (if bt220.2 = true then (if bt223.2 = true then (spec_l17Bulletin.j1 kj3 a0 t212 (decide ((t212.length : Int) > 14)) 0 0 bt220.1 bt223.1 y225) else (spec_l17Bulletin.j1 kj3 a0 t212 true 0 0 bt220.1 bt223.1 y225)) else (spec_l17Bulletin.j1 kj3 a0 t212 true 0 0 bt220.1 bt223.1 y225)))) else (none))) else (none)) else (some (0, 0, ([] : List (S25)), false))) = some (r1, r2, r3, r4) := H
   have A18 := Aside0.mk A180
   clear A180
   by_cases c19 : (t216.length : Int) = 5
   rotate_left
   ·rw [if_neg c19] at H
    have c19b0 : ((t216.length : Int) == 5) = false := beq_eq_false_iff_ne.mpr c19
    have c19b1 : ((t216.length : Int) != 5) = true := bne_iff_ne.mpr c19
    focus
     simp only [Option.some.injEq, Prod.mk.injEq] at H
     obtain ⟨rfl, rfl, rfl, rfl⟩ := H
     obtain ⟨Ao106, co106, eo106⟩ := Kd.R_slice HO_7.out
     subst eo106
     have p215 : 0 ≤ (0 : Int) := (by omega)
     have q215 : 0 < (t212.length : Int) := of_decide_eq_true zax
     obtain ⟨ad215, e215, hx215_0⟩ := Kd.at_string (Kd.R_reads' HO_7.out).2.2 0 p215 q215
     cases e215
     have qi215 : (0 < t212.length) = True := eq_true (by omega)
     (try rw [show ((0 : Int)).toNat = 0 from rfl] at hx215_0)
     (try rw [Addr.add_zero'] at hx215_0)
     replace p215 := eq_true p215
     replace q215 := eq_true q215
     go_wp2_with (first | ((with_reducible refine gate_callee (f := 54) rfl ?_); refine goesL_ (some 36) rfl rfl Tryz.func54 (by kernel_rfl) rfl #[.string (rdOf ByteArray.empty t212 0), .int .u8 32] rfl zlx ?_; (with_reducible refine (spec_l1Split.calls kj3 (rdOf ByteArray.empty t212 0) 32 t216 _ A18.out).mono ?_); rintro e w107 ⟨v217, rfl, ho0, hb⟩; refine ⟨_, rfl, ?_⟩; have HO218 := Aside0.mk (Kd.R_lower (Kd.R_new' ho0 (Kd.R_lt (zRx HO_7.out))) (below_size (zBz HB.out GE208.out GE209.out))); replace HO_7 := Aside0.mk (Kd.R_elder' (zRx HO_7.out) (Kd.R_base ho0) hb); replace BK208 := zbl BK208.out hb; replace BK209 := zbl BK209.out hb; replace HB := Aside0.mk (below_step (zBz HB.out GE208.out GE209.out) hb); (try clear hb); (try clear ho0); obtain ⟨Ao108, co108, eo108⟩ := Kd.R_slice HO218.out; subst eo108; have hnb109 := NB209_208.out; have hnc109 := NB208_209.out; have hcz110_0 : w107.cell? ⟨gb209, 0, none⟩ = some (.int .i64 0) := (blk_cell BK209.out 0).trans rfl; have hcz110_1 : w107.cell? ⟨gb209, 1, none⟩ = some (.int .i64 0) := (blk_cell BK209.out 1).trans rfl; have hcz110_2 : w107.cell? ⟨gb209, 2, none⟩ = some (.slice none 0 0) := (blk_cell BK209.out 2).trans rfl; have hfz110_0 := blk_frozen BK209.out 0; have hfz110_1 := blk_frozen BK209.out 1; have hfz110_2 := blk_frozen BK209.out 2; have hcz111_0 : w107.cell? ⟨gb208, 0, none⟩ = some (.int .i64 0) := (blk_cell BK208.out 0).trans rfl; have hcz111_1 : w107.cell? ⟨gb208, 1, none⟩ = some (.int .i64 0) := (blk_cell BK208.out 1).trans rfl; have hcz111_2 : w107.cell? ⟨gb208, 2, none⟩ = some (.slice none 0 0) := (blk_cell BK208.out 2).trans rfl; have hfz111_0 := blk_frozen BK208.out 0; have hfz111_1 := blk_frozen BK208.out 1; have hfz111_2 := blk_frozen BK208.out 2))
     refine bodyPost_ret (results_ct rfl _ _ gb208 34 #[.int .i64 0, .int .i64 0, .slice none 0 0] (0, 0) _ rfl (zbp BK208.out) Tryz.underlying34 rfl (by kernel_rfl)) rfl ?_
     exact ⟨_, by first | rfl | (simp [errW_none, errW_some] <;> rfl) | (simp [*, errW_none, errW_some] <;> rfl), by first | exact Kd.R_nil _ _ _ _ _ | exact Kd.N_nil _ _ _ _ _ | exact Kd.V_nil _ _ _ _ _ | exact Kd.Q_nil _ _ _ _ _ | exact Kd.S_nil _ _ _ _ _, by exact zBz HB.out GE208.out GE209.out⟩
   rw [if_pos c19] at H
   have c19b0 : ((t216.length : Int) == 5) = true := beq_iff_eq.mpr c19
   have c19b1 : ((t216.length : Int) != 5) = false := bne_eq_false_iff_eq.mpr c19
   clear c19
   obtain ⟨c20, H⟩ := zin H
   have c20b0 : decide (1 < (t216.length : Int)) = true := decide_eq_true c20
   have c20b1 : decide (1 < t216.length) = true := decide_eq_true (by omega)
   clear c20
   replace H := Option.bind_eq_some_iff.mp H
   obtain ⟨⟨t220, t221⟩, A210, H⟩ := H
   replace H : (if 4 < (t216.length : Int) then ((spec_l1Read.f kj3 (rdOf ByteArray.empty t216 4)).bind fun bt223 => ((some (([] : List (S25)) : List (S25))).bind fun y225 => (if t221 = true then (if bt223.2 = true then (spec_l17Bulletin.j1 kj3 a0 t212 (decide ((t212.length : Int) > 14)) 0 0 t220 bt223.1 y225) else (spec_l17Bulletin.j1 kj3 a0 t212 true 0 0 t220 bt223.1 y225)) else (spec_l17Bulletin.j1 kj3 a0 t212 true 0 0 t220 bt223.1 y225)))) else (none)) = some (r1, r2, r3, r4) := H
   have A21 := Aside0.mk A210
   clear A210
   obtain ⟨c22, H⟩ := zin H
   have c22b0 : decide (4 < (t216.length : Int)) = true := decide_eq_true c22
   have c22b1 : decide (4 < t216.length) = true := decide_eq_true (by omega)
   clear c22
   replace H := Option.bind_eq_some_iff.mp H
   obtain ⟨⟨t223, t224⟩, A230, H⟩ := H
   replace H : ((some (([] : List (S25)) : List (S25))).bind fun y225 => (if t221 = true then (if t224 = true then (spec_l17Bulletin.j1 kj3 a0 t212 (decide ((t212.length : Int) > 14)) 0 0 t220 t223 y225) else (spec_l17Bulletin.j1 kj3 a0 t212 true 0 0 t220 t223 y225)) else (spec_l17Bulletin.j1 kj3 a0 t212 true 0 0 t220 t223 y225))) = some (r1, r2, r3, r4) := H
   have A23 := Aside0.mk A230
   clear A230
   obtain ⟨y225, hy225⟩ : ∃ y_ : List (S25), y_ = (([] : List (S25))) := ⟨_, rfl⟩
   replace H : (if t221 = true then (if t224 = true then (spec_l17Bulletin.j1 kj3 a0 t212 (decide ((t212.length : Int) > 14)) 0 0 t220 t223 y225) else (spec_l17Bulletin.j1 kj3 a0 t212 true 0 0 t220 t223 y225)) else (spec_l17Bulletin.j1 kj3 a0 t212 true 0 0 t220 t223 y225)) = some (r1, r2, r3, r4) := by first | (rw [hy225]; with_reducible exact H) | (have H2_ := (Option.bind_some _ _).symm.trans H; rw [hy225]; with_reducible exact H2_) | (have H2_ := (Option.bind_some _ _).symm.trans H; with_reducible exact H2_) | with_reducible exact H | (rw [hy225]; exact H) | exact H
   have Ny225 := Aside0.mk hy225
   clear hy225
   have HC24 := Aside0.mk H
   clear H
   obtain ⟨Ao25, co25, eo25⟩ := Kd.R_slice HO_7.out
   subst eo25
   have p215 : 0 ≤ (0 : Int) := (by omega)
   have q215 : 0 < (t212.length : Int) := of_decide_eq_true zax
   obtain ⟨ad215, e215, hx215_0⟩ := Kd.at_string (Kd.R_reads' HO_7.out).2.2 0 p215 q215
   cases e215
   have qi215 : (0 < t212.length) = True := eq_true (by omega)
   (try rw [show ((0 : Int)).toNat = 0 from rfl] at hx215_0)
   (try rw [Addr.add_zero'] at hx215_0)
   replace p215 := eq_true p215
   replace q215 := eq_true q215
   go_upto_region 12 with (first | ((with_reducible refine gate_callee (f := 54) rfl ?_); refine goesL_ (some 36) rfl rfl Tryz.func54 (by kernel_rfl) rfl #[.string (rdOf ByteArray.empty t212 0), .int .u8 32] rfl zlx ?_; (with_reducible refine (spec_l1Split.calls kj3 (rdOf ByteArray.empty t212 0) 32 t216 _ A18.out).mono ?_); rintro e w26 ⟨v217, rfl, ho0, hb⟩; refine ⟨_, rfl, ?_⟩; have HO218 := Aside0.mk (Kd.R_lower (Kd.R_new' ho0 (Kd.R_lt (zRx HO_7.out))) (below_size (zBz HB.out GE208.out GE209.out))); replace HO_7 := Aside0.mk (Kd.R_elder' (zRx HO_7.out) (Kd.R_base ho0) hb); replace BK208 := zbl BK208.out hb; replace BK209 := zbl BK209.out hb; replace HB := Aside0.mk (below_step (zBz HB.out GE208.out GE209.out) hb); (try clear hb); (try clear ho0); obtain ⟨Ao27, co27, eo27⟩ := Kd.R_slice HO218.out; subst eo27; have p219 : 0 ≤ (1 : Int) := (by omega); have q219 : 1 < (t216.length : Int) := of_decide_eq_true zax; obtain ⟨ad219, e219, hx219_0⟩ := Kd.at_string (Kd.R_reads' HO218.out).2.2 1 p219 q219; cases e219; (try simp only [show (1 : Int).toNat = 1 from rfl, Nat.reduceMul, Nat.reduceEqDiff, Go.Addr.add, ↓reduceIte] at hx219_0); have qi219 : (1 < t216.length) = True := eq_true (by omega); (try rw [show ((1 : Int)).toNat = 1 from rfl] at hx219_0); replace p219 := eq_true p219; replace q219 := eq_true q219) | ((with_reducible refine gate_callee (f := 55) rfl ?_); refine goesL_ (some 45) rfl rfl Tryz.func55 (by kernel_rfl) rfl #[.string (rdOf ByteArray.empty t216 1)] rfl zlx ?_; (with_reducible refine (spec_l1Read.calls kj3 (rdOf ByteArray.empty t216 1) t220 t221 _ A21.out).mono ?_); rintro e w28 ⟨rfl, hb⟩; refine ⟨_, rfl, ?_⟩; replace HO_7 := Aside0.mk (Kd.R_below (zRx HO_7.out) hb); replace HO218 := Aside0.mk (Kd.R_below (zRx HO218.out) hb); replace BK208 := zbl BK208.out hb; replace BK209 := zbl BK209.out hb; replace HB := Aside0.mk (below_step (zBz HB.out GE208.out GE209.out) hb); (try clear hb); have p222 : 0 ≤ (4 : Int) := (by omega); have q222 : 4 < (t216.length : Int) := of_decide_eq_true zax; obtain ⟨ad222, e222, hx222_0⟩ := Kd.at_string (Kd.R_reads' HO218.out).2.2 4 p222 q222; obtain rfl : ad219 = ad222 := (by injection e222); (try simp only [show (4 : Int).toNat = 4 from rfl, Nat.reduceMul, Nat.reduceEqDiff, Go.Addr.add, ↓reduceIte] at hx222_0); have qi222 : (4 < t216.length) = True := eq_true (by omega); (try rw [show ((4 : Int)).toNat = 4 from rfl] at hx222_0); replace p222 := eq_true p222; replace q222 := eq_true q222) | ((with_reducible refine gate_callee (f := 55) rfl ?_); refine goesL_ (some 52) rfl rfl Tryz.func55 (by kernel_rfl) rfl #[.string (rdOf ByteArray.empty t216 4)] rfl zlx ?_; (with_reducible refine (spec_l1Read.calls kj3 (rdOf ByteArray.empty t216 4) t223 t224 _ A23.out).mono ?_); rintro e w29 ⟨rfl, hb⟩; refine ⟨_, rfl, ?_⟩; replace HO_7 := Aside0.mk (Kd.R_below (zRx HO_7.out) hb); replace HO218 := Aside0.mk (Kd.R_below (zRx HO218.out) hb); replace BK208 := zbl BK208.out hb; replace BK209 := zbl BK209.out hb; replace HB := Aside0.mk (below_step (zBz HB.out GE208.out GE209.out) hb); (try clear hb)) | ((with_reducible refine gate_dst (N := 57) rfl ?_); (try (refine gate_guard (by rfl) ?_; dsimp only)); refine Kd.R_lit k25 _ 25 ?hg (N := 57) ?hd (xs := ([] : List (S25))) (inner := []) (ok := fun _ => True) (okp := fun _ => True) ?hr ?hp (fun _ hk => hk) trivial (Below.refl _ _) (Nat.le_refl _) (by simp) ?_; (case hd => rfl); (case hg => rfl); (case hr => exact zsx); (case hp => exact (Reps.none _ _)); intro v226 w30 ho31 hb hg_ hnew_; clear hg_ hnew_; (first | rw [← Ny225.out] at ho31 | (simp only [Int.reduceToNat] at ho31; rw [← Ny225.out] at ho31)); replace HO_7 := Aside0.mk (Kd.R_below (zRx HO_7.out) hb); replace HO218 := Aside0.mk (Kd.R_below (zRx HO218.out) hb); have HO227 := Aside0.mk (Kd.R_lower ho31 (below_size (zBz HB.out GE208.out GE209.out))); replace BK208 := zbl BK208.out hb; replace BK209 := zbl BK209.out hb; replace HB := Aside0.mk (below_step (zBz HB.out GE208.out GE209.out) hb); clear hb ho31; obtain ⟨Ao32, co32, eo32⟩ := Kd.R_slice HO227.out; subst eo32) | ((with_reducible refine gate_dst (N := 13) rfl ?_); (try (refine gate_guard (by rfl) ?_; dsimp only)); refine box_event ?hg (N := 13) ?hd (cs := #[.int .i64 0, .int .i64 0, .slice none 0 0]) (t := 34) ?hr ?_; (case hd => rfl); (case hg => rfl); (case hr => exact zsx); intro gb228 hg w33 hbox hb; replace HO_7 := Aside0.mk (Kd.R_below (zRx HO_7.out) hb); replace HO218 := Aside0.mk (Kd.R_below (zRx HO218.out) hb); replace HO227 := Aside0.mk (Kd.R_below (zRx HO227.out) hb); have BK228 := Aside0.mk (hbox); have GW228 := zns hg HB.out; have GE228 := zns hg HB.out; replace HB := Aside0.mk (below_step (zBz HB.out GE208.out GE209.out) hb); have NB208_228 := znl hg BK208.out; have NB228_208 := zng hg BK208.out; replace BK208 := zbl BK208.out hb; have NB209_228 := znl hg BK209.out; have NB228_209 := zng hg BK209.out; replace BK209 := zbl BK209.out hb; clear hb hbox hg; have hnb34 := NB228_208.out; have hnc34 := NB208_228.out; have hnb35 := NB228_209.out; have hnc35 := NB209_228.out; have hcz36_0 : w33.cell? ⟨gb228, 0, none⟩ = some (.int .i64 0) := (blk_cell BK228.out 0).trans rfl; have hcz36_1 : w33.cell? ⟨gb228, 1, none⟩ = some (.int .i64 0) := (blk_cell BK228.out 1).trans rfl; have hcz36_2 : w33.cell? ⟨gb228, 2, none⟩ = some (.slice none 0 0) := (blk_cell BK228.out 2).trans rfl; have hfz36_0 := blk_frozen BK228.out 0; have hfz36_1 := blk_frozen BK228.out 1; have hfz36_2 := blk_frozen BK228.out 2))
   (try simp only [Act.put, List.setIfInBounds_toArray, List.set_cons_zero, List.set_cons_succ])
   go_cut [69] (fun v69 wc => ∃ (kq : Nat) (x69_23 : Bool), v69 = .bool x69_23 ∧ Aside0 (spec_l17Bulletin.j1 kq a0 t212 x69_23 0 0 t220 t223 y225 = some (r1, r2, r3, r4)) ∧ Aside0 (kq ≤ kj3) ∧ Aside0 (Kd.R Kd.string 9 wc w.heap.size (fun _ => True) (.slice (some ad215) t212.length co25) t212) ∧ Aside0 (Kd.R k25 25 wc w.heap.size (fun _ => True) (.slice Ao32 y225.length co32) y225) ∧ Aside0 (wc.heap[gb208]? = some (.cells #[.int .i64 0, .int .i64 0, (.slice none 0 0)] 34 (0, 0))) ∧ Aside0 (wc.heap[gb209]? = some (.cells #[.int .i64 0, .int .i64 0, (.slice none 0 0)] 34 (0, 0))) ∧ Aside0 (wc.heap[gb228]? = some (.cells #[.int .i64 t220, .int .i64 t223, (.slice Ao32 y225.length co32)] 34 (0, 0))) ∧ Aside0 (Below w.heap.size w wc))
   case first =>
    have H := HC24.out
    clear HC24
    by_cases c37 : t221 = true
    rotate_left
    ·replace c37 := Bool.eq_false_iff.mpr c37
     subst c37
     rw [if_neg (show ¬ (false = true) by decide)] at H
     focus
      have H' := Aside0.mk H
      clear H
      go_wp2
      go_meet
      case rel => exact ⟨_, (true), zrx, H', ⟨by have := HJ3.out; first | omega | exact Nat.le_refl _⟩, ⟨by refine zDR ?_; exact Kd.R_mono (Kd.R_far (p := ⟨gb228, 2, none⟩) (Kd.R_far (p := ⟨gb228, 1, none⟩) (Kd.R_far (p := ⟨gb228, 0, none⟩) (Kd.R_types HO_7.out BK228.out (by decide)) (fun _ hk => hk.2) (.int .i64 t220)) (fun _ hk => hk.2) (.int .i64 t223)) (fun _ hk => hk.2) (.slice Ao32 y225.length co32)) (fun _ hk => trivial)⟩, ⟨by refine zDR ?_; exact Kd.R_mono (Kd.R_far (p := ⟨gb228, 2, none⟩) (Kd.R_far (p := ⟨gb228, 1, none⟩) (Kd.R_far (p := ⟨gb228, 0, none⟩) (Kd.R_types HO227.out BK228.out (by decide)) (fun _ hk => hk.2) (.int .i64 t220)) (fun _ hk => hk.2) (.int .i64 t223)) (fun _ hk => hk.2) (.slice Ao32 y225.length co32)) (fun _ hk => trivial)⟩, ⟨zbp BK208.out⟩, ⟨zbp BK209.out⟩, ⟨zbp BK228.out⟩, ⟨zhB HB.out⟩⟩
    subst c37
    rw [if_pos rfl] at H
    by_cases c38 : t224 = true
    ·subst c38
     rw [if_pos rfl] at H
     focus
      have H' := Aside0.mk H
      clear H
      go_wp2
      go_meet
      case rel => exact ⟨_, (decide ((t212.length : Int) > 14)), zrx, H', ⟨by have := HJ3.out; first | omega | exact Nat.le_refl _⟩, ⟨by refine zDR ?_; exact Kd.R_mono (Kd.R_far (p := ⟨gb228, 2, none⟩) (Kd.R_far (p := ⟨gb228, 1, none⟩) (Kd.R_far (p := ⟨gb228, 0, none⟩) (Kd.R_types HO_7.out BK228.out (by decide)) (fun _ hk => hk.2) (.int .i64 t220)) (fun _ hk => hk.2) (.int .i64 t223)) (fun _ hk => hk.2) (.slice Ao32 y225.length co32)) (fun _ hk => trivial)⟩, ⟨by refine zDR ?_; exact Kd.R_mono (Kd.R_far (p := ⟨gb228, 2, none⟩) (Kd.R_far (p := ⟨gb228, 1, none⟩) (Kd.R_far (p := ⟨gb228, 0, none⟩) (Kd.R_types HO227.out BK228.out (by decide)) (fun _ hk => hk.2) (.int .i64 t220)) (fun _ hk => hk.2) (.int .i64 t223)) (fun _ hk => hk.2) (.slice Ao32 y225.length co32)) (fun _ hk => trivial)⟩, ⟨zbp BK208.out⟩, ⟨zbp BK209.out⟩, ⟨zbp BK228.out⟩, ⟨zhB HB.out⟩⟩
    ·replace c38 := Bool.eq_false_iff.mpr c38
     subst c38
     rw [if_neg (show ¬ (false = true) by decide)] at H
     focus
      have H' := Aside0.mk H
      clear H
      go_wp2
      go_meet
      case rel => exact ⟨_, (true), zrx, H', ⟨by have := HJ3.out; first | omega | exact Nat.le_refl _⟩, ⟨by refine zDR ?_; exact Kd.R_mono (Kd.R_far (p := ⟨gb228, 2, none⟩) (Kd.R_far (p := ⟨gb228, 1, none⟩) (Kd.R_far (p := ⟨gb228, 0, none⟩) (Kd.R_types HO_7.out BK228.out (by decide)) (fun _ hk => hk.2) (.int .i64 t220)) (fun _ hk => hk.2) (.int .i64 t223)) (fun _ hk => hk.2) (.slice Ao32 y225.length co32)) (fun _ hk => trivial)⟩, ⟨by refine zDR ?_; exact Kd.R_mono (Kd.R_far (p := ⟨gb228, 2, none⟩) (Kd.R_far (p := ⟨gb228, 1, none⟩) (Kd.R_far (p := ⟨gb228, 0, none⟩) (Kd.R_types HO227.out BK228.out (by decide)) (fun _ hk => hk.2) (.int .i64 t220)) (fun _ hk => hk.2) (.int .i64 t223)) (fun _ hk => hk.2) (.slice Ao32 y225.length co32)) (fun _ hk => trivial)⟩, ⟨zbp BK208.out⟩, ⟨zbp BK209.out⟩, ⟨zbp BK228.out⟩, ⟨zhB HB.out⟩⟩
   case rest =>
    clear HC24
    try clear c1
    try clear c2
    try clear p2
    try clear q2
    try clear hx2
    try clear qi2
    try clear c3
    try clear c5
    try clear c7
    try clear c11
    try clear c13
    try clear c14
    try clear c17
    try clear c17b0
    try clear c17b1
    try clear c19
    try clear c19b0
    try clear c19b1
    try clear c20
    try clear c20b0
    try clear c20b1
    try clear p21
    try clear q21
    try clear hx21
    try clear qi21
    try clear c22
    try clear c22b0
    try clear c22b1
    try clear p22
    try clear q22
    try clear hx22
    try clear qi22
    try clear c34
    try clear c35
    try clear c37
    try clear c38
    try clear hcz15_0
    try clear hcz15_1
    try clear hcz15_2
    try clear hcz16_0
    try clear hcz16_1
    try clear hcz16_2
    try clear hcz36_0
    try clear hcz36_1
    try clear hcz36_2
    try clear hcz8_0
    try clear hcz8_1
    try clear hcz8_2
    try clear hfz15_0
    try clear hfz15_1
    try clear hfz15_2
    try clear hfz16_0
    try clear hfz16_1
    try clear hfz16_2
    try clear hfz36_0
    try clear hfz36_1
    try clear hfz36_2
    try clear hfz8_0
    try clear hfz8_1
    try clear hfz8_2
    try clear hx215_0
    try clear hx219_0
    try clear hx222_0
    try clear p2
    try clear p215
    try clear p219
    try clear p222
    try clear q215
    try clear q219
    try clear q222
    obtain ⟨kq, x69_23, rfl, HA, HJ23, HO_7, HO_229002, BK208, BK209, BK228, HB⟩ := hcut
    cases kq with
    | zero => exact absurd HA.out (by simp [spec_l17Bulletin.j1])
    | succ kj23 =>
     have H := HA.out
     clear HA
     simp only [spec_l17Bulletin.j1] at H
     by_cases c39 : x69_23 = true
     ·subst c39
      rw [if_pos rfl] at H
      focus
       simp only [Option.some.injEq, Prod.mk.injEq] at H
       obtain ⟨rfl, rfl, rfl, rfl⟩ := H
       have hnb40 := NB209_208.out
       have hnc40 := NB208_209.out
       have hnb41 := NB209_228.out
       have hnc41 := NB228_209.out
       have hcz42_0 : wc.cell? ⟨gb209, 0, none⟩ = some (.int .i64 0) := (blk_cell BK209.out 0).trans rfl
       have hcz42_1 : wc.cell? ⟨gb209, 1, none⟩ = some (.int .i64 0) := (blk_cell BK209.out 1).trans rfl
       have hcz42_2 : wc.cell? ⟨gb209, 2, none⟩ = some (.slice none 0 0) := (blk_cell BK209.out 2).trans rfl
       have hfz42_0 := blk_frozen BK209.out 0
       have hfz42_1 := blk_frozen BK209.out 1
       have hfz42_2 := blk_frozen BK209.out 2
       have hnb43 := NB208_228.out
       have hnc43 := NB228_208.out
       have hcz44_0 : wc.cell? ⟨gb208, 0, none⟩ = some (.int .i64 0) := (blk_cell BK208.out 0).trans rfl
       have hcz44_1 : wc.cell? ⟨gb208, 1, none⟩ = some (.int .i64 0) := (blk_cell BK208.out 1).trans rfl
       have hcz44_2 : wc.cell? ⟨gb208, 2, none⟩ = some (.slice none 0 0) := (blk_cell BK208.out 2).trans rfl
       have hfz44_0 := blk_frozen BK208.out 0
       have hfz44_1 := blk_frozen BK208.out 1
       have hfz44_2 := blk_frozen BK208.out 2
       go_wp2
       refine bodyPost_ret (results_ct rfl _ _ gb208 34 #[.int .i64 0, .int .i64 0, .slice none 0 0] (0, 0) _ rfl (zbp BK208.out) Tryz.underlying34 rfl (by kernel_rfl)) rfl ?_
       exact ⟨_, by first | rfl | (simp [errW_none, errW_some] <;> rfl) | (simp [*, errW_none, errW_some] <;> rfl), by first | exact Kd.R_nil _ _ _ _ _ | exact Kd.N_nil _ _ _ _ _ | exact Kd.V_nil _ _ _ _ _ | exact Kd.Q_nil _ _ _ _ _ | exact Kd.S_nil _ _ _ _ _, zhB HB.out⟩
     replace c39 := Bool.eq_false_iff.mpr c39
     subst c39
     rw [if_neg (show ¬ (false = true) by decide)] at H
     have H' := Aside0.mk H
     clear H
     go_wp2
     go_loopg [14] kj23 (fun kq v14 w' => ∃ (x14_3 : Int) (x209000_3 : Int) (x209001_3 : Int) (x229002_3 : List (S25)) (u229002 : Value), v14 = .int .i64 x14_3 ∧ Aside0 (spec_l17Bulletin.l0 kq a0 t212 x14_3 0 0 t220 t223 x229002_3 = some (r1, r2, r3, r4)) ∧ Aside0 (kq ≤ kj23) ∧ Aside0 (Kd.R Kd.string 9 w' w.heap.size (fun _ => True) (.slice (some ad215) t212.length co25) t212) ∧ Aside0 (Kd.R k25 25 w' w.heap.size (fun _ => True) u229002 x229002_3) ∧ Aside0 (w'.heap[gb208]? = some (.cells #[.int .i64 x209000_3, .int .i64 x209001_3, (.slice none 0 0)] 34 (0, 0))) ∧ Aside0 (w'.heap[gb209]? = some (.cells #[.int .i64 0, .int .i64 0, (.slice none 0 0)] 34 (0, 0))) ∧ Aside0 (w'.heap[gb228]? = some (.cells #[.int .i64 t220, .int .i64 t223, u229002] 34 (0, 0))) ∧ Aside0 (Below w.heap.size w w'))
     case atStart => exact ⟨(1), (0), (0), (y225), (.slice Ao32 y225.length co32), zrx, H', ⟨Nat.le_refl _⟩, ⟨by refine zDR ?_; exact HO_7.out⟩, ⟨by refine zDR ?_; exact HO_229002.out⟩, ⟨by refine zbx ?_; exact BK208.out⟩, ⟨by refine zbx ?_; exact BK209.out⟩, ⟨by refine zbx ?_; exact BK228.out⟩, ⟨zhB HB.out⟩⟩
     case round =>
      clear H'
      try clear c1
      try clear c2
      try clear p2
      try clear q2
      try clear hx2
      try clear qi2
      try clear c3
      try clear c4
      try clear c5
      try clear c7
      try clear c11
      try clear c13
      try clear c14
      try clear c17
      try clear c17b0
      try clear c17b1
      try clear c19
      try clear c19b0
      try clear c19b1
      try clear c20
      try clear c20b0
      try clear c20b1
      try clear p21
      try clear q21
      try clear hx21
      try clear qi21
      try clear c22
      try clear c22b0
      try clear c22b1
      try clear p22
      try clear q22
      try clear hx22
      try clear qi22
      try clear c34
      try clear c35
      try clear c37
      try clear c38
      try clear c39
      try clear c40
      try clear c41
      try clear c43
      try clear hcz15_0
      try clear hcz15_1
      try clear hcz15_2
      try clear hcz16_0
      try clear hcz16_1
      try clear hcz16_2
      try clear hcz36_0
      try clear hcz36_1
      try clear hcz36_2
      try clear hcz42_0
      try clear hcz42_1
      try clear hcz42_2
      try clear hcz44_0
      try clear hcz44_1
      try clear hcz44_2
      try clear hcz8_0
      try clear hcz8_1
      try clear hcz8_2
      try clear hfz15_0
      try clear hfz15_1
      try clear hfz15_2
      try clear hfz16_0
      try clear hfz16_1
      try clear hfz16_2
      try clear hfz36_0
      try clear hfz36_1
      try clear hfz36_2
      try clear hfz42_0
      try clear hfz42_1
      try clear hfz42_2
      try clear hfz44_0
      try clear hfz44_1
      try clear hfz44_2
      try clear hfz8_0
      try clear hfz8_1
      try clear hfz8_2
      try clear hx215_0
      try clear hx219_0
      try clear hx222_0
      try clear p2
      try clear p21
      try clear p215
      try clear p219
      try clear p22
      try clear p222
      try clear q2
      try clear q21
      try clear q215
      try clear q219
      try clear q22
      try clear q222
      obtain ⟨x14_3, x209000_3, x209001_3, x229002_3, u229002, rfl, HA, HK3, HO_7, HO_229002, BK208, BK209, BK228, HB⟩ := hrel
      cases gk with
      | zero => exact absurd HA.out (by simp [spec_l17Bulletin.l0])
      | succ k3 =>
       have H := HA.out
       clear HA
       simp only [spec_l17Bulletin.l0] at H
       by_cases c45 : x14_3 < (wrap64 ((t212.length : Int) - 1))
       ·rw [if_pos c45] at H
        have c45b0 : decide (x14_3 < (wrap64 ((t212.length : Int) - 1))) = true := decide_eq_true c45
        clear c45
        obtain ⟨c46, H⟩ := zin H
        have c46b0 : decide (0 ≤ x14_3) = true := decide_eq_true c46
        clear c46
        obtain ⟨c47, H⟩ := zin H
        have c47b0 : decide (x14_3 < (t212.length : Int)) = true := decide_eq_true c47
        clear c47
        replace H := Option.bind_eq_some_iff.mp H
        obtain ⟨⟨t230, t231, t232, t233, t234, t235, t236⟩, A480, H⟩ := H
        replace H : (if t236 = true then (if x229002_3.length < 2932031007402 then (spec_l17Bulletin.l0 k3 a0 t212 (wrap64 (x14_3 + 1)) 0 0 t220 t223 (x229002_3 ++ [(⟨t230, t231, t232, t233, t234, t235⟩ : S25)])) else (none)) else (some (0, 0, ([] : List (S25)), false))) = some (r1, r2, r3, r4) := H
        have A48 := Aside0.mk A480
        clear A480
        by_cases c49 : t236 = true
        rotate_left
        ·replace c49 := Bool.eq_false_iff.mpr c49
         subst c49
         rw [if_neg (show ¬ (false = true) by decide)] at H
         focus
          simp only [Option.some.injEq, Prod.mk.injEq] at H
          obtain ⟨rfl, rfl, rfl, rfl⟩ := H
          have p229 : 0 ≤ (x14_3 : Int) := of_decide_eq_true zax
          have q229 : x14_3 < (t212.length : Int) := of_decide_eq_true zax
          obtain ⟨ad229, e229, hx229_0⟩ := Kd.at_string (Kd.R_reads' HO_7.out).2.2 x14_3 p229 q229
          obtain rfl : ad215 = ad229 := (by injection e229)
          replace p229 := eq_true p229
          replace q229 := eq_true q229
          go_wp2_with (first | ((with_reducible refine gate_callee (f := 97) rfl ?_); refine goesL_ (some 83) rfl rfl Tryz.func97 (by kernel_rfl) rfl #[.string (rdOf ByteArray.empty t212 x14_3)] rfl zlx ?_; (with_reducible refine (spec_l17Parse.calls k3 (rdOf ByteArray.empty t212 x14_3) t230 t231 t232 t233 t234 t235 false _ A48.out).mono ?_); rintro e w63 ⟨rfl, hb⟩; refine ⟨_, rfl, ?_⟩; replace HO_7 := Aside0.mk (Kd.R_below (zRx HO_7.out) hb); replace HO_229002 := Aside0.mk (Kd.R_below (zRx HO_229002.out) hb); replace BK208 := zbl BK208.out hb; replace BK209 := zbl BK209.out hb; replace BK228 := zbl BK228.out hb; replace HB := Aside0.mk (below_step (zhB HB.out) hb); (try clear hb)) | ((with_reducible refine gate_dst (N := 15) rfl ?_); (try (refine gate_guard (by rfl) ?_; dsimp only)); refine box_event ?hg (N := 15) ?hd (cs := #[.int .i64 0, .int .i64 0, .int .i64 0, .int .i64 0, .int .i64 0, .int .i64 0]) (t := 25) ?hr ?_; (case hd => rfl); (case hg => rfl); (case hr => exact zsx); intro gb237 hg w64 hbox hb; replace HO_7 := Aside0.mk (Kd.R_below (zRx HO_7.out) hb); replace HO_229002 := Aside0.mk (Kd.R_below (Kd.R_elderB (zRx HO_229002.out) gb237 (Nat.le_of_eq hg.symm)) hb); have BK237 := Aside0.mk (hbox); have GW237 := zns hg HB.out; have GE237 := zns hg HB.out; replace HB := Aside0.mk (below_step (zhB HB.out) hb); have NB208_237 := znl hg BK208.out; have NB237_208 := zng hg BK208.out; replace BK208 := zbl BK208.out hb; have NB209_237 := znl hg BK209.out; have NB237_209 := zng hg BK209.out; replace BK209 := zbl BK209.out hb; have NB228_237 := znl hg BK228.out; have NB237_228 := zng hg BK228.out; replace BK228 := zbl BK228.out hb; clear hb hbox hg; have hnb65 := NB237_208.out; have hnc65 := NB208_237.out; have hnb66 := NB237_209.out; have hnc66 := NB209_237.out; have hnb67 := NB237_228.out; have hnc67 := NB228_237.out; have hcz68_0 : w64.cell? ⟨gb237, 0, none⟩ = some (.int .i64 0) := (blk_cell BK237.out 0).trans rfl; have hcz68_1 : w64.cell? ⟨gb237, 1, none⟩ = some (.int .i64 0) := (blk_cell BK237.out 1).trans rfl; have hcz68_2 : w64.cell? ⟨gb237, 2, none⟩ = some (.int .i64 0) := (blk_cell BK237.out 2).trans rfl; have hcz68_3 : w64.cell? ⟨gb237, 3, none⟩ = some (.int .i64 0) := (blk_cell BK237.out 3).trans rfl; have hcz68_4 : w64.cell? ⟨gb237, 4, none⟩ = some (.int .i64 0) := (blk_cell BK237.out 4).trans rfl; have hcz68_5 : w64.cell? ⟨gb237, 5, none⟩ = some (.int .i64 0) := (blk_cell BK237.out 5).trans rfl; have hfz68_0 := blk_frozen BK237.out 0; have hfz68_1 := blk_frozen BK237.out 1; have hfz68_2 := blk_frozen BK237.out 2; have hfz68_3 := blk_frozen BK237.out 3; have hfz68_4 := blk_frozen BK237.out 4; have hfz68_5 := blk_frozen BK237.out 5; have hnb69 := NB209_208.out; have hnc69 := NB208_209.out; have hnb70 := NB209_228.out; have hnc70 := NB228_209.out; have hcz71_0 : w64.cell? ⟨gb209, 0, none⟩ = some (.int .i64 0) := (blk_cell BK209.out 0).trans rfl; have hcz71_1 : w64.cell? ⟨gb209, 1, none⟩ = some (.int .i64 0) := (blk_cell BK209.out 1).trans rfl; have hcz71_2 : w64.cell? ⟨gb209, 2, none⟩ = some (.slice none 0 0) := (blk_cell BK209.out 2).trans rfl; have hfz71_0 := blk_frozen BK209.out 0; have hfz71_1 := blk_frozen BK209.out 1; have hfz71_2 := blk_frozen BK209.out 2; have hnb72 := NB208_228.out; have hnc72 := NB228_208.out; have hcz73_0 : w64.cell? ⟨gb208, 0, none⟩ = some (.int .i64 x209000_3) := (blk_cell BK208.out 0).trans rfl; have hcz73_1 : w64.cell? ⟨gb208, 1, none⟩ = some (.int .i64 x209001_3) := (blk_cell BK208.out 1).trans rfl; have hcz73_2 : w64.cell? ⟨gb208, 2, none⟩ = some (.slice none 0 0) := (blk_cell BK208.out 2).trans rfl; have hfz73_0 := blk_frozen BK208.out 0; have hfz73_1 := blk_frozen BK208.out 1; have hfz73_2 := blk_frozen BK208.out 2))
          refine bodyPost_ret (results_ct rfl _ _ gb208 34 #[.int .i64 0, .int .i64 0, .slice none 0 0] (0, 0) _ rfl (zbp BK208.out) Tryz.underlying34 rfl (by kernel_rfl)) rfl ?_
          exact ⟨_, by first | rfl | (simp [errW_none, errW_some] <;> rfl) | (simp [*, errW_none, errW_some] <;> rfl), by first | exact Kd.R_nil _ _ _ _ _ | exact Kd.N_nil _ _ _ _ _ | exact Kd.V_nil _ _ _ _ _ | exact Kd.Q_nil _ _ _ _ _ | exact Kd.S_nil _ _ _ _ _, zhB HB.out⟩
        subst c49
        rw [if_pos rfl] at H
        obtain ⟨c50, H⟩ := zin H
        have LMc50 := Aside0.mk c50
        clear c50
        obtain ⟨y238, hy238⟩ : ∃ y_ : List (S25), y_ = (x229002_3 ++ [(⟨t230, t231, t232, t233, t234, t235⟩ : S25)]) := ⟨_, rfl⟩
        replace H : (spec_l17Bulletin.l0 k3 a0 t212 (wrap64 (x14_3 + 1)) 0 0 t220 t223 y238) = some (r1, r2, r3, r4) := by first | (rw [hy238]; with_reducible exact H) | (have H2_ := (Option.bind_some _ _).symm.trans H; rw [hy238]; with_reducible exact H2_) | (have H2_ := (Option.bind_some _ _).symm.trans H; with_reducible exact H2_) | with_reducible exact H | (rw [hy238]; exact H) | exact H
        have Ny238 := Aside0.mk hy238
        clear hy238
        focus
         have H' := Aside0.mk H
         clear H
         have p229 : 0 ≤ (x14_3 : Int) := of_decide_eq_true zax
         have q229 : x14_3 < (t212.length : Int) := of_decide_eq_true zax
         obtain ⟨ad229, e229, hx229_0⟩ := Kd.at_string (Kd.R_reads' HO_7.out).2.2 x14_3 p229 q229
         obtain rfl : ad215 = ad229 := (by injection e229)
         replace p229 := eq_true p229
         replace q229 := eq_true q229
         go_wp2_with (first | ((with_reducible refine gate_callee (f := 97) rfl ?_); refine goesL_ (some 83) rfl rfl Tryz.func97 (by kernel_rfl) rfl #[.string (rdOf ByteArray.empty t212 x14_3)] rfl zlx ?_; (with_reducible refine (spec_l17Parse.calls k3 (rdOf ByteArray.empty t212 x14_3) t230 t231 t232 t233 t234 t235 true _ A48.out).mono ?_); rintro e w51 ⟨rfl, hb⟩; refine ⟨_, rfl, ?_⟩; replace HO_7 := Aside0.mk (Kd.R_below (zRx HO_7.out) hb); replace HO_229002 := Aside0.mk (Kd.R_below (zRx HO_229002.out) hb); replace BK208 := zbl BK208.out hb; replace BK209 := zbl BK209.out hb; replace BK228 := zbl BK228.out hb; replace HB := Aside0.mk (below_step (zhB HB.out) hb); (try clear hb)) | ((with_reducible refine gate_dst (N := 15) rfl ?_); (try (refine gate_guard (by rfl) ?_; dsimp only)); refine box_event ?hg (N := 15) ?hd (cs := #[.int .i64 0, .int .i64 0, .int .i64 0, .int .i64 0, .int .i64 0, .int .i64 0]) (t := 25) ?hr ?_; (case hd => rfl); (case hg => rfl); (case hr => exact zsx); intro gb237 hg w52 hbox hb; replace HO_7 := Aside0.mk (Kd.R_below (zRx HO_7.out) hb); replace HO_229002 := Aside0.mk (Kd.R_below (Kd.R_elderB (zRx HO_229002.out) gb237 (Nat.le_of_eq hg.symm)) hb); have BK237 := Aside0.mk (hbox); have GW237 := zns hg HB.out; have GE237 := zns hg HB.out; replace HB := Aside0.mk (below_step (zhB HB.out) hb); have NB208_237 := znl hg BK208.out; have NB237_208 := zng hg BK208.out; replace BK208 := zbl BK208.out hb; have NB209_237 := znl hg BK209.out; have NB237_209 := zng hg BK209.out; replace BK209 := zbl BK209.out hb; have NB228_237 := znl hg BK228.out; have NB237_228 := zng hg BK228.out; replace BK228 := zbl BK228.out hb; clear hb hbox hg; have hnb53 := NB237_208.out; have hnc53 := NB208_237.out; have hnb54 := NB237_209.out; have hnc54 := NB209_237.out; have hnb55 := NB237_228.out; have hnc55 := NB228_237.out; have hcz56_0 : w52.cell? ⟨gb237, 0, none⟩ = some (.int .i64 0) := (blk_cell BK237.out 0).trans rfl; have hcz56_1 : w52.cell? ⟨gb237, 1, none⟩ = some (.int .i64 0) := (blk_cell BK237.out 1).trans rfl; have hcz56_2 : w52.cell? ⟨gb237, 2, none⟩ = some (.int .i64 0) := (blk_cell BK237.out 2).trans rfl; have hcz56_3 : w52.cell? ⟨gb237, 3, none⟩ = some (.int .i64 0) := (blk_cell BK237.out 3).trans rfl; have hcz56_4 : w52.cell? ⟨gb237, 4, none⟩ = some (.int .i64 0) := (blk_cell BK237.out 4).trans rfl; have hcz56_5 : w52.cell? ⟨gb237, 5, none⟩ = some (.int .i64 0) := (blk_cell BK237.out 5).trans rfl; have hfz56_0 := blk_frozen BK237.out 0; have hfz56_1 := blk_frozen BK237.out 1; have hfz56_2 := blk_frozen BK237.out 2; have hfz56_3 := blk_frozen BK237.out 3; have hfz56_4 := blk_frozen BK237.out 4; have hfz56_5 := blk_frozen BK237.out 5; have hnb57 := NB228_208.out; have hnc57 := NB208_228.out; have hnb58 := NB228_209.out; have hnc58 := NB209_228.out; have hcz59_0 : w52.cell? ⟨gb228, 0, none⟩ = some (.int .i64 t220) := (blk_cell BK228.out 0).trans rfl; have hcz59_1 : w52.cell? ⟨gb228, 1, none⟩ = some (.int .i64 t223) := (blk_cell BK228.out 1).trans rfl; have hcz59_2 : w52.cell? ⟨gb228, 2, none⟩ = some (u229002) := (blk_cell BK228.out 2).trans rfl; have hfz59_0 := blk_frozen BK228.out 0; have hfz59_1 := blk_frozen BK228.out 1; have hfz59_2 := blk_frozen BK228.out 2) | ((with_reducible refine gate_builtin (b := .append) (xs := #[.tmp 90, .tmp 92]) rfl ?_); (try (refine gate_guard (by rfl) ?_; dsimp only)); at_builtin; refine Kd.R_append k25 (w0 := w) w.heap.size rfl (.tmp 90) (.tmp 92) 32 25 (.agg #[(.int .i64 0), (.int .i64 0), (.int .i64 0), (.int .i64 0), (.int .i64 0), (.int .i64 0)]) 48 rfl Tryz.underlying32 info25 rfl (by decide) (by omega) u229002 x229002_3 (⟨t230, t231, t232, t233, t234, t235⟩ : S25) [.int .i64 t230, .int .i64 t231, .int .i64 t232, .int .i64 t233, .int .i64 t234, .int .i64 t235] (fun k_ => k_ ≠ gb237) (fun _ => False) rfl zsx ?aP (fun _ hk => hk.elim) ?aF ?aO ?aB ?aS ?aL ?_; (case aP => exact k25_mkM _ _ _ (⟨t230, t231, t232, t233, t234, t235⟩ : S25)); (case aB => exact (zhB HB.out)); (case aF => exact (fun k_ hk => Kd.freshB (g := gb237) (o := .cells #[.int .i64 t230, .int .i64 t231, .int .i64 t232, .int .i64 t233, .int .i64 t234, .int .i64 t235] 25 (0, 0)) (zbp BK237.out) k_ hk)); (case aO => exact (by refine zDR ?_; exact Kd.R_mono (Kd.R_far (p := ⟨gb237, 5, none⟩) (Kd.R_far (p := ⟨gb237, 4, none⟩) (Kd.R_far (p := ⟨gb237, 3, none⟩) (Kd.R_far (p := ⟨gb237, 2, none⟩) (Kd.R_far (p := ⟨gb237, 1, none⟩) (Kd.R_far (p := ⟨gb237, 0, none⟩) (Kd.R_mono HO_229002.out (fun k_ hk => (⟨hk, hk.2⟩ : _ ∧ k_ ≠ gb237))) (fun _ hk => hk.2) (.int .i64 t230)) (fun _ hk => hk.2) (.int .i64 t231)) (fun _ hk => hk.2) (.int .i64 t232)) (fun _ hk => hk.2) (.int .i64 t233)) (fun _ hk => hk.2) (.int .i64 t234)) (fun _ hk => hk.2) (.int .i64 t235)) (fun _ hk => hk.1.2))); (case aS => exact (below_size (zhB HB.out))); (case aL => have := LMc50.out; omega); intro v239 w60 ho hb hg hat; rw [← Ny238.out] at ho; replace HO_7 := Aside0.mk (Kd.R_over' (by (with_reducible repeat (first | apply Kd.R_alloc | apply Kd.R_drewN | apply Kd.R_drew)); exact (Kd.R_mono (Kd.R_far (p := ⟨gb237, 5, none⟩) (Kd.R_far (p := ⟨gb237, 4, none⟩) (Kd.R_far (p := ⟨gb237, 3, none⟩) (Kd.R_far (p := ⟨gb237, 2, none⟩) (Kd.R_far (p := ⟨gb237, 1, none⟩) (Kd.R_far (p := ⟨gb237, 0, none⟩) (Kd.R_types HO_7.out BK237.out (by decide)) (fun _ hk => hk.2) (.int .i64 t230)) (fun _ hk => hk.2) (.int .i64 t231)) (fun _ hk => hk.2) (.int .i64 t232)) (fun _ hk => hk.2) (.int .i64 t233)) (fun _ hk => hk.2) (.int .i64 t234)) (fun _ hk => hk.2) (.int .i64 t235)) (fun _ h_ => h_.1))) (Kd.R_typed (by (with_reducible repeat (first | apply Kd.R_alloc | apply Kd.R_drewN | apply Kd.R_drew)); exact (Kd.R_mono (Kd.R_far (p := ⟨gb237, 5, none⟩) (Kd.R_far (p := ⟨gb237, 4, none⟩) (Kd.R_far (p := ⟨gb237, 3, none⟩) (Kd.R_far (p := ⟨gb237, 2, none⟩) (Kd.R_far (p := ⟨gb237, 1, none⟩) (Kd.R_far (p := ⟨gb237, 0, none⟩) (Kd.R_mono HO_229002.out (fun k_ hk => (⟨hk, hk.2⟩ : _ ∧ k_ ≠ gb237))) (fun _ hk => hk.2) (.int .i64 t230)) (fun _ hk => hk.2) (.int .i64 t231)) (fun _ hk => hk.2) (.int .i64 t232)) (fun _ hk => hk.2) (.int .i64 t233)) (fun _ hk => hk.2) (.int .i64 t234)) (fun _ hk => hk.2) (.int .i64 t235)) (fun _ h_ => h_.1)))) (by decide) hg); replace BK208 := Aside0.mk (blk_grown (g := gb208) (o := .cells #[.int .i64 x209000_3, .int .i64 x209001_3, .slice none 0 0] 34 (0, 0)) (zbq BK208.out) hg (Kd.R_ne HO_229002.out BK208.out (by decide))); replace BK209 := Aside0.mk (blk_grown (g := gb209) (o := .cells #[.int .i64 0, .int .i64 0, .slice none 0 0] 34 (0, 0)) (zbq BK209.out) hg (Kd.R_ne HO_229002.out BK209.out (by decide))); replace BK228 := Aside0.mk (blk_grown (g := gb228) (o := .cells #[.int .i64 t220, .int .i64 t223, u229002] 34 (0, 0)) (zbq BK228.out) hg (Kd.R_ne HO_229002.out BK228.out (by decide))); replace BK237 := Aside0.mk (blk_grown (g := gb237) (o := .cells #[.int .i64 t230, .int .i64 t231, .int .i64 t232, .int .i64 t233, .int .i64 t234, .int .i64 t235] 25 (0, 0)) (zbp BK237.out) hg (Kd.R_away HO_229002.out (fun _ hk => hk.2))); replace HB := Aside0.mk (hb); have HO240 := Aside0.mk (ho); clear HO_229002; clear ho hb hg hat; obtain ⟨Ao61, co61, eo61⟩ := Kd.R_slice HO240.out; subst eo61; have hcz62_0 : w60.cell? ⟨gb228, 0, none⟩ = some (.int .i64 t220) := (blk_cell BK228.out 0).trans rfl; have hcz62_1 : w60.cell? ⟨gb228, 1, none⟩ = some (.int .i64 t223) := (blk_cell BK228.out 1).trans rfl; have hcz62_2 : w60.cell? ⟨gb228, 2, none⟩ = some (u229002) := (blk_cell BK228.out 2).trans rfl; have hfz62_0 := blk_frozen BK228.out 0; have hfz62_1 := blk_frozen BK228.out 1; have hfz62_2 := blk_frozen BK228.out 2))
         go_roundg k3
         case measure => have := HJ3.out; have := HJ23.out; have := HK3.out; omega
         case rel => exact ⟨(wrap64 (x14_3 + 1)), (x209000_3), (x209001_3), (y238), (.slice Ao61 y238.length co61), zrx, H', ⟨by have := HJ3.out; have := HJ23.out; have := HK3.out; omega⟩, ⟨by refine zDR ?_; exact Kd.R_mono (Kd.R_far (p := ⟨gb228, 2, none⟩) (Kd.R_types HO_7.out BK228.out (by decide)) (fun _ hk => hk.2) (.slice Ao61 y238.length co61)) (fun _ hk => trivial)⟩, ⟨by refine zDR ?_; exact Kd.R_mono (Kd.R_far (p := ⟨gb228, 2, none⟩) (Kd.R_types HO240.out BK228.out (by decide)) (fun _ hk => hk.2) (.slice Ao61 y238.length co61)) (fun _ hk => trivial)⟩, ⟨zbp BK208.out⟩, ⟨zbp BK209.out⟩, ⟨zbp BK228.out⟩, ⟨zhB HB.out⟩⟩
       rw [if_neg c45] at H
       have c45b0 : decide (x14_3 < (wrap64 ((t212.length : Int) - 1))) = false := decide_eq_false c45
       clear c45
       replace H := Option.bind_eq_some_iff.mp H
       obtain ⟨t241, A740, H⟩ := H
       replace H : (if t241 = true then ((spec_l17Text.f k3 t220 t223 x229002_3).bind fun t242 => (if t242.toList = a0.toList then (some (t220, t223, x229002_3, true)) else (some (0, 0, ([] : List (S25)), false)))) else (some (0, 0, ([] : List (S25)), false))) = some (r1, r2, r3, r4) := H
       have A74 := Aside0.mk A740
       clear A740
       by_cases c75 : t241 = true
       rotate_left
       ·replace c75 := Bool.eq_false_iff.mpr c75
        subst c75
        rw [if_neg (show ¬ (false = true) by decide)] at H
        focus
         simp only [Option.some.injEq, Prod.mk.injEq] at H
         obtain ⟨rfl, rfl, rfl, rfl⟩ := H
         have hnb98 := NB228_208.out
         have hnc98 := NB208_228.out
         have hnb99 := NB228_209.out
         have hnc99 := NB209_228.out
         have hcz100_0 : wr.cell? ⟨gb228, 0, none⟩ = some (.int .i64 t220) := (blk_cell BK228.out 0).trans rfl
         have hcz100_1 : wr.cell? ⟨gb228, 1, none⟩ = some (.int .i64 t223) := (blk_cell BK228.out 1).trans rfl
         have hcz100_2 : wr.cell? ⟨gb228, 2, none⟩ = some (u229002) := (blk_cell BK228.out 2).trans rfl
         have hfz100_0 := blk_frozen BK228.out 0
         have hfz100_1 := blk_frozen BK228.out 1
         have hfz100_2 := blk_frozen BK228.out 2
         obtain ⟨Ao101, co101, eo101⟩ := Kd.R_slice HO_229002.out
         subst eo101
         go_wp2_with (first | ((with_reducible refine gate_callee (f := 67) rfl ?_); refine goesL_ (some 96) rfl rfl Tryz.func67 (by kernel_rfl) rfl #[.agg #[.int .i64 t220, .int .i64 t223, .slice Ao101 x229002_3.length co101]] rfl zlx ?_; (with_reducible refine (spec_l17Good.calls k3 t220 t223 _ _ x229002_3 false _ ?side1 ?side2 A74.out).mono ?_); (case side1 => exact zCx (Kd.R_reads' HO_229002.out).2.2); (case side2 => exact (Kd.R_reads' HO_229002.out).2.1); rintro e w102 ⟨rfl, hb⟩; refine ⟨_, rfl, ?_⟩; replace HO_7 := Aside0.mk (Kd.R_below (zRx HO_7.out) hb); replace HO_229002 := Aside0.mk (Kd.R_below (zRx HO_229002.out) hb); replace BK208 := zbl BK208.out hb; replace BK209 := zbl BK209.out hb; replace BK228 := zbl BK228.out hb; replace HB := Aside0.mk (below_step (zhB HB.out) hb); (try clear hb); have hnb103 := NB209_208.out; have hnc103 := NB208_209.out; have hcz104_0 : w102.cell? ⟨gb209, 0, none⟩ = some (.int .i64 0) := (blk_cell BK209.out 0).trans rfl; have hcz104_1 : w102.cell? ⟨gb209, 1, none⟩ = some (.int .i64 0) := (blk_cell BK209.out 1).trans rfl; have hcz104_2 : w102.cell? ⟨gb209, 2, none⟩ = some (.slice none 0 0) := (blk_cell BK209.out 2).trans rfl; have hfz104_0 := blk_frozen BK209.out 0; have hfz104_1 := blk_frozen BK209.out 1; have hfz104_2 := blk_frozen BK209.out 2; have hcz105_0 : w102.cell? ⟨gb208, 0, none⟩ = some (.int .i64 x209000_3) := (blk_cell BK208.out 0).trans rfl; have hcz105_1 : w102.cell? ⟨gb208, 1, none⟩ = some (.int .i64 x209001_3) := (blk_cell BK208.out 1).trans rfl; have hcz105_2 : w102.cell? ⟨gb208, 2, none⟩ = some (.slice none 0 0) := (blk_cell BK208.out 2).trans rfl; have hfz105_0 := blk_frozen BK208.out 0; have hfz105_1 := blk_frozen BK208.out 1; have hfz105_2 := blk_frozen BK208.out 2))
         refine bodyPost_ret (results_ct rfl _ _ gb208 34 #[.int .i64 0, .int .i64 0, .slice none 0 0] (0, 0) _ rfl (zbp BK208.out) Tryz.underlying34 rfl (by kernel_rfl)) rfl ?_
         exact ⟨_, by first | rfl | (simp [errW_none, errW_some] <;> rfl) | (simp [*, errW_none, errW_some] <;> rfl), by first | exact Kd.R_nil _ _ _ _ _ | exact Kd.N_nil _ _ _ _ _ | exact Kd.V_nil _ _ _ _ _ | exact Kd.Q_nil _ _ _ _ _ | exact Kd.S_nil _ _ _ _ _, zhB HB.out⟩
       subst c75
       rw [if_pos rfl] at H
       replace H := Option.bind_eq_some_iff.mp H
       obtain ⟨t242, A760, H⟩ := H
       replace H : (if t242.toList = a0.toList then (some (t220, t223, x229002_3, true)) else (some (0, 0, ([] : List (S25)), false))) = some (r1, r2, r3, r4) := H
       have A76 := Aside0.mk A760
       clear A760
       by_cases c77 : t242.toList = a0.toList
       rotate_left
       ·rw [if_neg c77] at H
        have c77b0 : (t242.toList == a0.toList) = false := beq_eq_false_iff_ne.mpr c77
        have c77b1 : (t242.toList != a0.toList) = true := bne_iff_ne.mpr c77
        focus
         simp only [Option.some.injEq, Prod.mk.injEq] at H
         obtain ⟨rfl, rfl, rfl, rfl⟩ := H
         have hnb88 := NB228_208.out
         have hnc88 := NB208_228.out
         have hnb89 := NB228_209.out
         have hnc89 := NB209_228.out
         have hcz90_0 : wr.cell? ⟨gb228, 0, none⟩ = some (.int .i64 t220) := (blk_cell BK228.out 0).trans rfl
         have hcz90_1 : wr.cell? ⟨gb228, 1, none⟩ = some (.int .i64 t223) := (blk_cell BK228.out 1).trans rfl
         have hcz90_2 : wr.cell? ⟨gb228, 2, none⟩ = some (u229002) := (blk_cell BK228.out 2).trans rfl
         have hfz90_0 := blk_frozen BK228.out 0
         have hfz90_1 := blk_frozen BK228.out 1
         have hfz90_2 := blk_frozen BK228.out 2
         obtain ⟨Ao91, co91, eo91⟩ := Kd.R_slice HO_229002.out
         subst eo91
         go_wp2_with (first | ((with_reducible refine gate_callee (f := 67) rfl ?_); refine goesL_ (some 96) rfl rfl Tryz.func67 (by kernel_rfl) rfl #[.agg #[.int .i64 t220, .int .i64 t223, .slice Ao91 x229002_3.length co91]] rfl zlx ?_; (with_reducible refine (spec_l17Good.calls k3 t220 t223 _ _ x229002_3 true _ ?side1 ?side2 A74.out).mono ?_); (case side1 => exact zCx (Kd.R_reads' HO_229002.out).2.2); (case side2 => exact (Kd.R_reads' HO_229002.out).2.1); rintro e w92 ⟨rfl, hb⟩; refine ⟨_, rfl, ?_⟩; replace HO_7 := Aside0.mk (Kd.R_below (zRx HO_7.out) hb); replace HO_229002 := Aside0.mk (Kd.R_below (zRx HO_229002.out) hb); replace BK208 := zbl BK208.out hb; replace BK209 := zbl BK209.out hb; replace BK228 := zbl BK228.out hb; replace HB := Aside0.mk (below_step (zhB HB.out) hb); (try clear hb); (try clear hb2); (try clear hk); (try clear hi); have hcz93_0 : w92.cell? ⟨gb228, 0, none⟩ = some (.int .i64 t220) := (blk_cell BK228.out 0).trans rfl; have hcz93_1 : w92.cell? ⟨gb228, 1, none⟩ = some (.int .i64 t223) := (blk_cell BK228.out 1).trans rfl; have hcz93_2 : w92.cell? ⟨gb228, 2, none⟩ = some (.slice Ao91 x229002_3.length co91) := (blk_cell BK228.out 2).trans rfl; have hfz93_0 := blk_frozen BK228.out 0; have hfz93_1 := blk_frozen BK228.out 1; have hfz93_2 := blk_frozen BK228.out 2) | (go_at_call 68; (with_reducible refine (spec_l17Text.calls k3 t220 t223 _ _ x229002_3 t242 _ ?side1 ?side2 A76.out).mono ?_); (case side1 => exact zCx (Kd.R_reads' HO_229002.out).2.2); (case side2 => exact (Kd.R_reads' HO_229002.out).2.1); rintro e w94 ⟨rfl, hb⟩; replace HO_7 := Aside0.mk (Kd.R_below (zRx HO_7.out) hb); replace HO_229002 := Aside0.mk (Kd.R_below (zRx HO_229002.out) hb); replace BK208 := zbl BK208.out hb; replace BK209 := zbl BK209.out hb; replace BK228 := zbl BK228.out hb; replace HB := Aside0.mk (below_step (zhB HB.out) hb); (try clear hb); (try clear hb2); (try clear hk); (try clear hi); have hnb95 := NB209_208.out; have hnc95 := NB208_209.out; have hcz96_0 : w94.cell? ⟨gb209, 0, none⟩ = some (.int .i64 0) := (blk_cell BK209.out 0).trans rfl; have hcz96_1 : w94.cell? ⟨gb209, 1, none⟩ = some (.int .i64 0) := (blk_cell BK209.out 1).trans rfl; have hcz96_2 : w94.cell? ⟨gb209, 2, none⟩ = some (.slice none 0 0) := (blk_cell BK209.out 2).trans rfl; have hfz96_0 := blk_frozen BK209.out 0; have hfz96_1 := blk_frozen BK209.out 1; have hfz96_2 := blk_frozen BK209.out 2; have hcz97_0 : w94.cell? ⟨gb208, 0, none⟩ = some (.int .i64 x209000_3) := (blk_cell BK208.out 0).trans rfl; have hcz97_1 : w94.cell? ⟨gb208, 1, none⟩ = some (.int .i64 x209001_3) := (blk_cell BK208.out 1).trans rfl; have hcz97_2 : w94.cell? ⟨gb208, 2, none⟩ = some (.slice none 0 0) := (blk_cell BK208.out 2).trans rfl; have hfz97_0 := blk_frozen BK208.out 0; have hfz97_1 := blk_frozen BK208.out 1; have hfz97_2 := blk_frozen BK208.out 2))
         refine bodyPost_ret (results_ct rfl _ _ gb208 34 #[.int .i64 0, .int .i64 0, .slice none 0 0] (0, 0) _ rfl (zbp BK208.out) Tryz.underlying34 rfl (by kernel_rfl)) rfl ?_
         exact ⟨_, by first | rfl | (simp [errW_none, errW_some] <;> rfl) | (simp [*, errW_none, errW_some] <;> rfl), by first | exact Kd.R_nil _ _ _ _ _ | exact Kd.N_nil _ _ _ _ _ | exact Kd.V_nil _ _ _ _ _ | exact Kd.Q_nil _ _ _ _ _ | exact Kd.S_nil _ _ _ _ _, zhB HB.out⟩
       rw [if_pos c77] at H
       have c77b0 : (t242.toList == a0.toList) = true := beq_iff_eq.mpr c77
       have c77b1 : (t242.toList != a0.toList) = false := bne_eq_false_iff_eq.mpr c77
       clear c77
       focus
        simp only [Option.some.injEq, Prod.mk.injEq] at H
        obtain ⟨rfl, rfl, rfl, rfl⟩ := H
        have hnb78 := NB228_208.out
        have hnc78 := NB208_228.out
        have hnb79 := NB228_209.out
        have hnc79 := NB209_228.out
        have hcz80_0 : wr.cell? ⟨gb228, 0, none⟩ = some (.int .i64 t220) := (blk_cell BK228.out 0).trans rfl
        have hcz80_1 : wr.cell? ⟨gb228, 1, none⟩ = some (.int .i64 t223) := (blk_cell BK228.out 1).trans rfl
        have hcz80_2 : wr.cell? ⟨gb228, 2, none⟩ = some (u229002) := (blk_cell BK228.out 2).trans rfl
        have hfz80_0 := blk_frozen BK228.out 0
        have hfz80_1 := blk_frozen BK228.out 1
        have hfz80_2 := blk_frozen BK228.out 2
        obtain ⟨Ao81, co81, eo81⟩ := Kd.R_slice HO_229002.out
        subst eo81
        go_wp2_with (first | ((with_reducible refine gate_callee (f := 67) rfl ?_); refine goesL_ (some 96) rfl rfl Tryz.func67 (by kernel_rfl) rfl #[.agg #[.int .i64 t220, .int .i64 t223, .slice Ao81 x229002_3.length co81]] rfl zlx ?_; (with_reducible refine (spec_l17Good.calls k3 t220 t223 _ _ x229002_3 true _ ?side1 ?side2 A74.out).mono ?_); (case side1 => exact zCx (Kd.R_reads' HO_229002.out).2.2); (case side2 => exact (Kd.R_reads' HO_229002.out).2.1); rintro e w82 ⟨rfl, hb⟩; refine ⟨_, rfl, ?_⟩; replace HO_7 := Aside0.mk (Kd.R_below (zRx HO_7.out) hb); replace HO_229002 := Aside0.mk (Kd.R_below (zRx HO_229002.out) hb); replace BK208 := zbl BK208.out hb; replace BK209 := zbl BK209.out hb; replace BK228 := zbl BK228.out hb; replace HB := Aside0.mk (below_step (zhB HB.out) hb); (try clear hb); (try clear hb2); (try clear hk); (try clear hi); have hcz83_0 : w82.cell? ⟨gb228, 0, none⟩ = some (.int .i64 t220) := (blk_cell BK228.out 0).trans rfl; have hcz83_1 : w82.cell? ⟨gb228, 1, none⟩ = some (.int .i64 t223) := (blk_cell BK228.out 1).trans rfl; have hcz83_2 : w82.cell? ⟨gb228, 2, none⟩ = some (.slice Ao81 x229002_3.length co81) := (blk_cell BK228.out 2).trans rfl; have hfz83_0 := blk_frozen BK228.out 0; have hfz83_1 := blk_frozen BK228.out 1; have hfz83_2 := blk_frozen BK228.out 2) | (go_at_call 68; (with_reducible refine (spec_l17Text.calls k3 t220 t223 _ _ x229002_3 t242 _ ?side1 ?side2 A76.out).mono ?_); (case side1 => exact zCx (Kd.R_reads' HO_229002.out).2.2); (case side2 => exact (Kd.R_reads' HO_229002.out).2.1); rintro e w84 ⟨rfl, hb⟩; replace HO_7 := Aside0.mk (Kd.R_below (zRx HO_7.out) hb); replace HO_229002 := Aside0.mk (Kd.R_below (zRx HO_229002.out) hb); replace BK208 := zbl BK208.out hb; replace BK209 := zbl BK209.out hb; replace BK228 := zbl BK228.out hb; replace HB := Aside0.mk (below_step (zhB HB.out) hb); (try clear hb); (try clear hb2); (try clear hk); (try clear hi); have hcz85_0 : w84.cell? ⟨gb228, 0, none⟩ = some (.int .i64 t220) := (blk_cell BK228.out 0).trans rfl; have hcz85_1 : w84.cell? ⟨gb228, 1, none⟩ = some (.int .i64 t223) := (blk_cell BK228.out 1).trans rfl; have hcz85_2 : w84.cell? ⟨gb228, 2, none⟩ = some (.slice Ao81 x229002_3.length co81) := (blk_cell BK228.out 2).trans rfl; have hfz85_0 := blk_frozen BK228.out 0; have hfz85_1 := blk_frozen BK228.out 1; have hfz85_2 := blk_frozen BK228.out 2; have hnb86 := NB208_209.out; have hnc86 := NB209_208.out; have hcz87_0 : w84.cell? ⟨gb208, 0, none⟩ = some (.int .i64 x209000_3) := (blk_cell BK208.out 0).trans rfl; have hcz87_1 : w84.cell? ⟨gb208, 1, none⟩ = some (.int .i64 x209001_3) := (blk_cell BK208.out 1).trans rfl; have hcz87_2 : w84.cell? ⟨gb208, 2, none⟩ = some (.slice none 0 0) := (blk_cell BK208.out 2).trans rfl; have hfz87_0 := blk_frozen BK208.out 0; have hfz87_1 := blk_frozen BK208.out 1; have hfz87_2 := blk_frozen BK208.out 2))
        refine bodyPost_ret (results_ct rfl _ _ gb208 34 #[.int .i64 t220, .int .i64 t223, .slice Ao81 x229002_3.length co81] (0, 0) _ rfl (zbp BK208.out) Tryz.underlying34 rfl (by kernel_rfl)) rfl ?_
        exact ⟨_, by first | rfl | (simp [errW_none, errW_some] <;> rfl) | (simp [*, errW_none, errW_some] <;> rfl), by refine zDR ?_; exact Kd.R_mono (Kd.R_far (p := ⟨gb208, 2, none⟩) (Kd.R_far (p := ⟨gb208, 1, none⟩) (Kd.R_far (p := ⟨gb208, 0, none⟩) (Kd.R_types HO_229002.out BK208.out (by decide)) (fun _ hk => hk.2) (.int .i64 t220)) (fun _ hk => hk.2) (.int .i64 t223)) (fun _ hk => hk.2) (.slice Ao81 x229002_3.length co81)) (fun _ hk => trivial), zhB HB.out⟩
/-! ### spec_ReadBulletin: function 16 -/
def spec_ReadBulletin.f (k : Nat) (a0 : ByteArray) : Option (Int × Int × (List (S25)) × Bool) := (spec_l17Bulletin.f k a0).bind fun bt244 => (some (bt244.1, bt244.2.1, bt244.2.2.1, bt244.2.2.2))
set_option maxHeartbeats 8000000 in
set_option maxRecDepth 100000 in
theorem spec_ReadBulletin.calls (k : Nat) (a0 : ByteArray) (r1 : Int) (r2 : Int) (r3 : List (S25)) (r4 : Bool) (w : World) (h : spec_ReadBulletin.f k a0 = some (r1, r2, r3, r4)) :
 Calls Tryz.prog 16 #[.string a0] w fun e w' => ∃ v2_ : Value, e = .returned (.tuple #[.agg #[.int .i64 r1, .int .i64 r2, v2_], .bool r4]) ∧ Kd.R k25 25 w' w.heap.size (fun _ => True) v2_ r3 ∧ Below w.heap.size w w' := by
 have hu34 := Tryz.underlying34
 have HB := Aside0.mk (Below.refl w.heap.size w)
 have H : ((spec_l17Bulletin.f k a0).bind fun bt244 => (some (bt244.1, bt244.2.1, bt244.2.2.1, bt244.2.2.2))) = some (r1, r2, r3, r4) := h
 clear h
 replace H := Option.bind_eq_some_iff.mp H
 obtain ⟨⟨t244, t245, t246, t249⟩, A20, H⟩ := H
 replace H : (some (t244, t245, t246, t249)) = some (r1, r2, r3, r4) := H
 have A2 := Aside0.mk A20
 clear A20
 focus
  simp only [Option.some.injEq, Prod.mk.injEq] at H
  obtain ⟨rfl, rfl, rfl, rfl⟩ := H
  go_enter Tryz.func16, Tryz.ntmps16
  go_wp2_with (first | ((with_reducible refine gate_dst (N := 2) rfl ?_); refine box_event ?hg (N := 2) ?hd (cs := #[.int .i64 0, .int .i64 0, .slice none 0 0]) (t := 34) ?hr ?_; (case hd => rfl); (case hg => rfl); (case hr => exact zsx); intro gb243 hg w3 hbox hb; have BK243 := Aside0.mk (hbox); have GW243 := zns hg HB.out; have GE243 := zns hg HB.out; replace HB := Aside0.mk (below_step (zBx HB.out) hb); clear hb hbox hg) | ((with_reducible refine gate_callee (f := 57) rfl ?_); refine goesL_ (some 5) rfl rfl Tryz.func57 (by kernel_rfl) rfl #[.string a0] rfl zlx ?_; (with_reducible refine (spec_l17Bulletin.calls k a0 t244 t245 t246 t249 _ A2.out).mono ?_); rintro e w4 ⟨v247, rfl, ho0, hb⟩; refine ⟨_, rfl, ?_⟩; have HO248 := Aside0.mk (Kd.R_lower ho0 (below_size (zBy HB.out GE243.out))); replace BK243 := zbl BK243.out hb; replace HB := Aside0.mk (below_step (zBy HB.out GE243.out) hb); (try clear hb); (try clear hk); (try clear ho0); have hcz5_0 : w4.cell? ⟨gb243, 0, none⟩ = some (.int .i64 0) := (blk_cell BK243.out 0).trans rfl; have hcz5_1 : w4.cell? ⟨gb243, 1, none⟩ = some (.int .i64 0) := (blk_cell BK243.out 1).trans rfl; have hcz5_2 : w4.cell? ⟨gb243, 2, none⟩ = some (.slice none 0 0) := (blk_cell BK243.out 2).trans rfl; have hfz5_0 := blk_frozen BK243.out 0; have hfz5_1 := blk_frozen BK243.out 1; have hfz5_2 := blk_frozen BK243.out 2; obtain ⟨Ao6, co6, eo6⟩ := Kd.R_slice HO248.out; subst eo6))
  refine bodyPost_ret (results_ct rfl _ _ gb243 34 #[.int .i64 t244, .int .i64 t245, .slice Ao6 t246.length co6] (0, 0) _ rfl (zbp BK243.out) Tryz.underlying34 rfl (by kernel_rfl)) rfl ?_
  exact ⟨_, by first | rfl | (simp [errW_none, errW_some] <;> rfl) | (simp [*, errW_none, errW_some] <;> rfl), by refine zDR ?_; exact Kd.R_mono (Kd.R_far (p := ⟨gb243, 2, none⟩) (Kd.R_far (p := ⟨gb243, 1, none⟩) (Kd.R_far (p := ⟨gb243, 0, none⟩) (Kd.R_types HO248.out BK243.out (by decide)) (fun _ hk => hk.2) (.int .i64 t244)) (fun _ hk => hk.2) (.int .i64 t245)) (fun _ hk => hk.2) (.slice Ao6 t246.length co6)) (fun _ hk => trivial), by exact zBy HB.out GE243.out⟩

end Go.Proofs.YtlfoojgbiafffaaGreatDoor.XFnExactReadBulletin
