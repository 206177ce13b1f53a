-- written by wip/tools/xprint.py (a program of this project) out of the translation
import Derived.Test.YtddgbaohepfekaaXFnLimitsx0
import Derived.Test.YtddgbaohepfekaaXFnLimitsx6
import Derived.Test.YtddgbaohepfekaaXFnLimitsx7
import Derived.Test.YtddgbaohepfekaaXFnLimitsx8
namespace Go.Proofs.Ytddgbaohepfekaa.XFnLimits
open Go.RowKit Go.Proofs.YtddgbaohepfekaaW.PrintWords Go.Proofs.YtddgbaohepfekaaW.PrintLast Go.Proofs.YtddgbaohepfekaaW.PrintMore
attribute [local go_sem] max2_int min2_int max_two min_two max_three min_three max_four min_four   -- for this text's walks alone
set_option linter.unusedVariables false
set_option linter.unusedSimpArgs false

/-! ### spec_l1Cur_like: function 32 -/
def spec_l1Cur_like.l0 : Nat → Int → List Int → Int → Int → Int → Int → List Int → Option (Int × Int × List Int × Int × Int)
 | 0, _, _, _, _, _, _, _ => none
 | k + 1, x6, x1000, x1001, x1002, x275000, x275001, x275002 => if x6 < (x275002.length : Int) then ((spec_l1Cur_pick.f x1000 x1001 x1002 5).bind fun bt275 => (if bt275.1 = 0 then ((spec_l1Cur_pick.f x1000 bt275.2.1 bt275.2.2 40).bind fun bt278 => (if 0 ≤ x6 then (spec_l1Cur_like.l0 k (wrap64 (x6 + 1)) x1000 bt278.2.1 bt278.2.2 x275000 x275001 (x275002.set (x6 : Int).toNat bt278.1)) else (none))) else (if bt275.1 = 1 then ((spec_l1Cur_one.f x1000 bt275.2.1 bt275.2.2 3).bind fun bt282 => (if bt282.1 = true then (if 0 ≤ x6 then (spec_l1Cur_like.l0 k (wrap64 (x6 + 1)) x1000 bt282.2.1 bt282.2.2 x275000 x275001 (x275002.set (x6 : Int).toNat (-9999))) else (none)) else (spec_l1Cur_like.l0 k (wrap64 (x6 + 1)) x1000 bt282.2.1 bt282.2.2 x275000 x275001 x275002))) else (spec_l1Cur_like.l0 k (wrap64 (x6 + 1)) x1000 bt275.2.1 bt275.2.2 x275000 x275001 x275002)))) else ((spec_l1Cur_one.f x1000 x1001 x1002 16).bind fun bt286 => (if bt286.1 = true then ((spec_l1Cur_field.f k x1000 bt286.2.1 bt286.2.2).bind fun bt289 => (some (bt289.1, bt289.2.1, bt289.2.2.1, bt289.2.2.2.1, bt289.2.2.2.2))) else (some (x275000, x275001, x275002, bt286.2.1, bt286.2.2))))
def spec_l1Cur_like.f (k : Nat) (s0_0 : List Int) (s0_1 : Int) (s0_2 : Int) (a1_0 : Int) (a1_1 : Int) (l1_2 : List Int) : Option (Int × Int × List Int × Int × Int) := (spec_l2Own.f a1_0 a1_1 l1_2).bind fun bt269 => (spec_l1Cur_like.l0 k 0 s0_0 s0_1 s0_2 bt269.1 bt269.2.1 bt269.2.2)
theorem spec_l1Cur_like.mono_l : ∀ k, (∀ y0 y1 y2 y3 y4 y5 y6, LeO (spec_l1Cur_like.l0 k y0 y1 y2 y3 y4 y5 y6) (spec_l1Cur_like.l0 (k + 1) y0 y1 y2 y3 y4 y5 y6))
 | 0 => fun _ _ _ _ _ _ _ r h => by simp [spec_l1Cur_like.l0] at h
 | k + 1 => by
  have ih0 := spec_l1Cur_like.mono_l k
  ·intro y0 y1 y2 y3 y4 y5 y6
   unfold spec_l1Cur_like.l0
   repeat' first
   | (with_reducible exact ih0 _ _ _ _ _ _ _)
   | (with_reducible exact spec_l1Cur_field.mono _ _ _ _)
   | (with_reducible exact LeO.refl _)
   | (with_reducible exact LeO.none _)
   | (with_reducible refine LeO.ite ?_ ?_)
   | (with_reducible refine LeO.bind ?_ (fun _ => ?_))
   | exact ih0 _ _ _ _ _ _ _
   | exact spec_l1Cur_field.mono _ _ _ _
   | exact LeO.none _
   | refine LeO.ite ?_ ?_
   | refine LeO.bind ?_ (fun _ => ?_)
theorem spec_l1Cur_like.mono : ∀ a0 a1 a2 a3 a4 a5 k, LeO (spec_l1Cur_like.f k a0 a1 a2 a3 a4 a5) (spec_l1Cur_like.f (k + 1) a0 a1 a2 a3 a4 a5) := by
 intro a0 a1 a2 a3 a4 a5 k
 have ih0 := spec_l1Cur_like.mono_l k
 unfold spec_l1Cur_like.f
 repeat' first
  | (with_reducible exact ih0 _ _ _ _ _ _ _)
  | (with_reducible exact spec_l1Cur_field.mono _ _ _ _)
  | (with_reducible exact LeO.refl _)
  | (with_reducible exact LeO.none _)
  | (with_reducible refine LeO.ite ?_ ?_)
  | (with_reducible refine LeO.bind ?_ (fun _ => ?_))
  | exact ih0 _ _ _ _ _ _ _
  | exact spec_l1Cur_field.mono _ _ _ _
  | exact LeO.none _
  | refine LeO.ite ?_ ?_
  | refine LeO.bind ?_ (fun _ => ?_)
set_option maxHeartbeats 8000000 in
set_option maxRecDepth 100000 in
theorem spec_l1Cur_like.calls (k : Nat) (g : Nat) (s0_0 : List Int) (s0_1 : Int) (s0_2 : Int) (a1_0 : Int) (a1_1 : Int) (A1_2 : Option Addr) (c1_2 : Nat) (l1_2 : List Int) (r1 : Int) (r2 : Int) (r3 : List Int) (r4 : Int) (r5 : Int) (w0 w : World) (hI : IsS51 w0 w g s0_0 s0_1 s0_2) (hB : Below w0.heap.size w0 w) (hr1_2 : Kd.C (Kd.int .i64) w A1_2 l1_2.length l1_2) (hc1_2 : l1_2.length ≤ c1_2) (hf1_2 : ∀ ad, A1_2 = some ad → 0 < l1_2.length → ad.block ≠ g) (h : spec_l1Cur_like.f k s0_0 s0_1 s0_2 a1_0 a1_1 l1_2 = some (r1, r2, r3, r4, r5)) :
 Calls Try.prog 32 #[.pointer (some ⟨g, 0, none⟩), .agg #[.int .i64 a1_0, .int .i64 a1_1, .slice A1_2 l1_2.length c1_2]] w fun e w' => ∃ v2_ : Value, e = .returned (.agg #[.int .i64 r1, .int .i64 r2, v2_]) ∧ Kd.R (Kd.int .i64) 3 w' w.heap.size (fun _ => True) v2_ r3 ∧ IsS51 w0 w' g s0_0 r4 r5 ∧ Below w0.heap.size w0 w' ∧ KeepBut w w' g none := by
 have hu26 := Try.underlying26
 have HR1_2 := Aside0.mk hr1_2
 have HC1_2 := Aside0.mk hc1_2
 clear hr1_2 hc1_2
 have HI0 := Aside0.mk hI
 have HK := Aside0.mk (KeepBut.refl w g none)
 have HL := Aside0.mk hB.size
 clear hI
 have HW0 := Aside0.mk hB.size
 have HB := Aside0.mk hB
 clear hB
 have H : ((spec_l2Own.f a1_0 a1_1 l1_2).bind fun bt269 => (spec_l1Cur_like.l0 k 0 s0_0 s0_1 s0_2 bt269.1 bt269.2.1 bt269.2.2)) = some (r1, r2, r3, r4, r5) := h
 clear h
 replace H := Option.bind_eq_some_iff.mp H
 obtain ⟨⟨t269, t270, t271⟩, A30, H⟩ := H
 replace H : (spec_l1Cur_like.l0 k 0 s0_0 s0_1 s0_2 t269 t270 t271) = some (r1, r2, r3, r4, r5) := H
 have A3 := Aside0.mk A30
 clear A30
 have H' := Aside0.mk H
 clear H
 go_enter Try.func32, Try.ntmps32
 go_wp2_with (first | ((with_reducible refine gate_dst (N := 3) rfl ?_); refine box_event ?hg (N := 3) ?hd (cs := #[.int .i64 a1_0, .int .i64 a1_1, .slice A1_2 l1_2.length c1_2]) (t := 26) ?hr ?_; (case hd => rfl); (case hg => rfl); (case hr => exact zsx); intro gb267 hg w4 hbox hb; replace HB := Aside0.mk (below_step (by first | exact zBy HB.out (IsS51.ge HI0.out) | exact zBx HB.out) hb); have BK267 := Aside0.mk (hbox); have GW267 := Aside0.mk ((by rw [hg]; exact (keep_size (w := w) (g := g) (row := none) (zKx HK.out)) : w.heap.size ≤ gb267)); have GE267 := Aside0.mk ((Nat.le_trans HW0.out (by rw [hg]; exact (keep_size (w := w) (g := g) (row := none) (zKx HK.out)) : w.heap.size ≤ gb267) : w0.heap.size ≤ gb267)); replace HK := Aside0.mk (KeepBut.trans (zKx HK.out) (KeepBut.of_below hb g none) (.inl rfl)); have NB0_267 := Aside0.mk ((by rw [hg]; exact Nat.ne_of_lt (IsS51.lt (show IsS51 w0 _ g s0_0 s0_1 s0_2 from IsS51.zI HI0.out)) : g ≠ gb267)); have NB267_0 := Aside0.mk ((by rw [hg]; exact Nat.ne_of_gt (IsS51.lt (show IsS51 w0 _ g s0_0 s0_1 s0_2 from IsS51.zI HI0.out)) : gb267 ≠ g)); replace HI0 := Aside0.mk (IsS51.below (IsS51.zI HI0.out) hb); clear hb hbox hg) | ((with_reducible refine gate_dst (N := 4) rfl ?_); refine box_event ?hg (N := 4) ?hd (cs := #[.int .i64 0, .int .i64 0, .slice none 0 0]) (t := 26) ?hr ?_; (case hd => rfl); (case hg => rfl); (case hr => exact zsx); intro gb268 hg w5 hbox hb; replace HB := Aside0.mk (below_step (by first | exact zBz HB.out (IsS51.ge HI0.out) GE267.out | exact zBy HB.out GE267.out) hb); have BK268 := Aside0.mk (hbox); have GW268 := Aside0.mk ((by rw [hg]; exact (keep_size (w := w) (g := g) (row := none) (zKy HK.out GW267.out)) : w.heap.size ≤ gb268)); have GE268 := Aside0.mk ((Nat.le_trans HW0.out (by rw [hg]; exact (keep_size (w := w) (g := g) (row := none) (zKy HK.out GW267.out)) : w.heap.size ≤ gb268) : w0.heap.size ≤ gb268)); replace HK := Aside0.mk (KeepBut.trans (zKy HK.out GW267.out) (KeepBut.of_below hb g none) (.inl rfl)); have NB267_268 := znl hg BK267.out; have NB268_267 := zng hg BK267.out; replace BK267 := zbl BK267.out hb; have NB0_268 := Aside0.mk ((by rw [hg]; exact Nat.ne_of_lt (IsS51.lt (show IsS51 w0 _ g s0_0 s0_1 s0_2 from IsS51.zJ HI0.out NB0_267.out)) : g ≠ gb268)); have NB268_0 := Aside0.mk ((by rw [hg]; exact Nat.ne_of_gt (IsS51.lt (show IsS51 w0 _ g s0_0 s0_1 s0_2 from IsS51.zJ HI0.out NB0_267.out)) : gb268 ≠ g)); replace HI0 := Aside0.mk (IsS51.below (IsS51.zF HI0.out NB0_267.out) hb); clear hb hbox hg; have hnb6 := NB267_268.out; have hnc6 := NB268_267.out; have hnb7 := NB267_0.out; have hnc7 := NB0_267.out; have hcz8_0 : w5.cell? ⟨gb267, 0, none⟩ = some (.int .i64 a1_0) := (blk_cell BK267.out 0).trans rfl; have hcz8_1 : w5.cell? ⟨gb267, 1, none⟩ = some (.int .i64 a1_1) := (blk_cell BK267.out 1).trans rfl; have hcz8_2 : w5.cell? ⟨gb267, 2, none⟩ = some (.slice A1_2 l1_2.length c1_2) := (blk_cell BK267.out 2).trans rfl; have hfz8_0 := blk_frozen BK267.out 0; have hfz8_1 := blk_frozen BK267.out 1; have hfz8_2 := blk_frozen BK267.out 2) | ((with_reducible refine gate_callee (f := 53) rfl ?_); refine goesL_ (some 8) rfl rfl Try.func53 (by kernel_rfl) rfl #[.agg #[.int .i64 a1_0, .int .i64 a1_1, .slice A1_2 l1_2.length c1_2]] rfl zlx ?_; (with_reducible refine (spec_l2Own.calls a1_0 a1_1 _ _ l1_2 t269 t270 t271 _ ?side1 ?side2 A3.out).mono ?_); (case side1 => exact Kd.C_keep 0 HR1_2.out (zhK HK.out) hf1_2); (case side2 => exact HC1_2.out); rintro e w9 ⟨v272, rfl, ho0, hb⟩; refine ⟨_, rfl, ?_⟩; have HO273 := Aside0.mk (Kd.R_lower ho0 (keep_size (w := w) (g := g) (row := none) (zhK HK.out))); replace HI0 := Aside0.mk (IsS51.below (zhI51 HI0.out) hb); replace BK267 := zbl BK267.out hb; replace BK268 := zbl BK268.out hb; replace HK := Aside0.mk (KeepBut.trans (zhK HK.out) (KeepBut.of_below hb g none) (.inl rfl)); replace HB := Aside0.mk (below_step (zhB HB.out) hb); (try clear hb); (try clear ho0)) | ((with_reducible refine gate_dst (N := 5) rfl ?_); refine box_event ?hg (N := 5) ?hd (cs := #[.int .i64 0, .int .i64 0, .slice none 0 0]) (t := 26) ?hr ?_; (case hd => rfl); (case hg => rfl); (case hr => exact zsx); intro gb274 hg w10 hbox hb; replace HO273 := Aside0.mk (Kd.R_below (zRx HO273.out) hb); replace HB := Aside0.mk (below_step (zhB HB.out) hb); have BK274 := Aside0.mk (hbox); have GW274 := Aside0.mk ((by rw [hg]; exact (keep_size (w := w) (g := g) (row := none) (zhK HK.out)) : w.heap.size ≤ gb274)); have GE274 := Aside0.mk ((Nat.le_trans HW0.out (by rw [hg]; exact (keep_size (w := w) (g := g) (row := none) (zhK HK.out)) : w.heap.size ≤ gb274) : w0.heap.size ≤ gb274)); replace HK := Aside0.mk (KeepBut.trans (zhK HK.out) (KeepBut.of_below hb g none) (.inl rfl)); have NB267_274 := znl hg BK267.out; have NB274_267 := zng hg BK267.out; replace BK267 := zbl BK267.out hb; have NB268_274 := znl hg BK268.out; have NB274_268 := zng hg BK268.out; replace BK268 := zbl BK268.out hb; have NB0_274 := Aside0.mk ((by rw [hg]; exact Nat.ne_of_lt (IsS51.lt (show IsS51 w0 _ g s0_0 s0_1 s0_2 from zhI51 HI0.out)) : g ≠ gb274)); have NB274_0 := Aside0.mk ((by rw [hg]; exact Nat.ne_of_gt (IsS51.lt (show IsS51 w0 _ g s0_0 s0_1 s0_2 from zhI51 HI0.out)) : gb274 ≠ g)); replace HI0 := Aside0.mk (IsS51.below (zhI51 HI0.out) hb); clear hb hbox hg; have hnb11 := NB274_267.out; have hnc11 := NB267_274.out; have hnb12 := NB274_268.out; have hnc12 := NB268_274.out; have hnb13 := NB274_0.out; have hnc13 := NB0_274.out; have hcz14_0 : w10.cell? ⟨gb274, 0, none⟩ = some (.int .i64 0) := (blk_cell BK274.out 0).trans rfl; have hcz14_1 : w10.cell? ⟨gb274, 1, none⟩ = some (.int .i64 0) := (blk_cell BK274.out 1).trans rfl; have hcz14_2 : w10.cell? ⟨gb274, 2, none⟩ = some (.slice none 0 0) := (blk_cell BK274.out 2).trans rfl; have hfz14_0 := blk_frozen BK274.out 0; have hfz14_1 := blk_frozen BK274.out 1; have hfz14_2 := blk_frozen BK274.out 2; obtain ⟨Ao15, co15, eo15⟩ := Kd.R_slice HO273.out; subst eo15))
 go_loopg [6] k (fun kq v6 w' => ∃ (x6_1 : Int) (x1001_1 : Int) (x1002_1 : Int) (x275002_1 : List Int) (u275002 : Value), v6 = .int .i64 x6_1 ∧ Aside0 (spec_l1Cur_like.l0 kq x6_1 s0_0 x1001_1 x1002_1 t269 t270 x275002_1 = some (r1, r2, r3, r4, r5)) ∧ Aside0 (kq ≤ k) ∧ Aside0 (Kd.R (Kd.int .i64) 3 w' w.heap.size (fun _ => True) u275002 x275002_1) ∧ Aside0 (w'.heap[gb267]? = some (.cells #[.int .i64 a1_0, .int .i64 a1_1, (.slice A1_2 l1_2.length c1_2)] 26 (0, 0))) ∧ Aside0 (w'.heap[gb268]? = some (.cells #[.int .i64 0, .int .i64 0, (.slice none 0 0)] 26 (0, 0))) ∧ Aside0 (w'.heap[gb274]? = some (.cells #[.int .i64 t269, .int .i64 t270, u275002] 26 (0, 0))) ∧ Aside0 (IsS51 w0 w' g s0_0 x1001_1 x1002_1) ∧ Aside0 (KeepBut w w' g none) ∧ Aside0 (Below w0.heap.size w0 w'))
 case atStart => exact ⟨(0), (s0_1), (s0_2), (t271), (.slice Ao15 t271.length co15), zrx, H', ⟨Nat.le_refl _⟩, ⟨by refine zDR ?_; exact Kd.R_mono (Kd.R_far (p := ⟨gb274, 2, none⟩) (Kd.R_far (p := ⟨gb274, 1, none⟩) (Kd.R_far (p := ⟨gb274, 0, none⟩) (Kd.R_types HO273.out BK274.out (by decide)) (fun _ hk => hk.2) (.int .i64 t269)) (fun _ hk => hk.2) (.int .i64 t270)) (fun _ hk => hk.2) (.slice Ao15 t271.length co15)) (fun _ hk => trivial)⟩, ⟨zbp BK267.out⟩, ⟨zbp BK268.out⟩, ⟨zbp BK274.out⟩, ⟨zhI51 HI0.out⟩, ⟨zhK HK.out⟩, ⟨zhB HB.out⟩⟩
 case round =>
  clear H'
  try clear c1
  try clear p2
  try clear c3
  try clear c5
  try clear c6
  try clear c7
  try clear c11
  try clear c12
  try clear c13
  try clear hcz14_0
  try clear hcz14_1
  try clear hcz14_2
  try clear hcz8_0
  try clear hcz8_1
  try clear hcz8_2
  try clear hfz14_0
  try clear hfz14_1
  try clear hfz14_2
  try clear hfz8_0
  try clear hfz8_1
  try clear hfz8_2
  obtain ⟨x6_1, x1001_1, x1002_1, x275002_1, u275002, rfl, HA, HK1, HO_275002, BK267, BK268, BK274, HI0, HK, HB⟩ := hrel
  cases gk with
  | zero => exact absurd HA.out (by simp [spec_l1Cur_like.l0])
  | succ k1 =>
   have H := HA.out
   clear HA
   simp only [spec_l1Cur_like.l0] at H
   by_cases c16 : x6_1 < (x275002_1.length : Int)
   ·rw [if_pos c16] at H
    have c16b0 : decide (x6_1 < (x275002_1.length : Int)) = true := decide_eq_true c16
    clear c16
    replace H := Option.bind_eq_some_iff.mp H
    obtain ⟨⟨t275, t276, t277⟩, A170, H⟩ := H
    replace H : (if t275 = 0 then ((spec_l1Cur_pick.f s0_0 t276 t277 40).bind fun bt278 => (if 0 ≤ x6_1 then (spec_l1Cur_like.l0 k1 (wrap64 (x6_1 + 1)) s0_0 bt278.2.1 bt278.2.2 t269 t270 (x275002_1.set (x6_1 : Int).toNat bt278.1)) else (none))) else (if t275 = 1 then ((spec_l1Cur_one.f s0_0 t276 t277 3).bind fun bt282 => (if bt282.1 = true then (if 0 ≤ x6_1 then (spec_l1Cur_like.l0 k1 (wrap64 (x6_1 + 1)) s0_0 bt282.2.1 bt282.2.2 t269 t270 (x275002_1.set (x6_1 : Int).toNat (-9999))) else (none)) else (spec_l1Cur_like.l0 k1 (wrap64 (x6_1 + 1)) s0_0 bt282.2.1 bt282.2.2 t269 t270 x275002_1))) else (spec_l1Cur_like.l0 k1 (wrap64 (x6_1 + 1)) s0_0 t276 t277 t269 t270 x275002_1))) = some (r1, r2, r3, r4, r5) := H
    have A17 := Aside0.mk A170
    clear A170
    by_cases c18 : t275 = 0
    ·rw [if_pos c18] at H
     have c18b0 : (t275 == 0) = true := beq_iff_eq.mpr c18
     have c18b1 : (t275 != 0) = false := bne_eq_false_iff_eq.mpr c18
     clear c18
     replace H := Option.bind_eq_some_iff.mp H
     obtain ⟨⟨t278, t279, t280⟩, A190, H⟩ := H
     replace H : (if 0 ≤ x6_1 then (spec_l1Cur_like.l0 k1 (wrap64 (x6_1 + 1)) s0_0 t279 t280 t269 t270 (x275002_1.set (x6_1 : Int).toNat t278)) else (none)) = some (r1, r2, r3, r4, r5) := H
     have A19 := Aside0.mk A190
     clear A190
     by_cases c20 : 0 ≤ x6_1
     ·rw [if_pos c20] at H
      have c20b0 : decide (0 ≤ x6_1) = true := decide_eq_true c20
      clear c20
      obtain ⟨y281, hy281⟩ : ∃ y_ : List Int, y_ = (x275002_1.set (x6_1 : Int).toNat t278) := ⟨_, rfl⟩
      replace H : (spec_l1Cur_like.l0 k1 (wrap64 (x6_1 + 1)) s0_0 t279 t280 t269 t270 y281) = some (r1, r2, r3, r4, r5) := by first | (rw [hy281]; with_reducible exact H) | (have H2_ := (Option.bind_some _ _).symm.trans H; rw [hy281]; with_reducible exact H2_) | (have H2_ := (Option.bind_some _ _).symm.trans H; with_reducible exact H2_) | with_reducible exact H | (rw [hy281]; exact H) | exact H
      have Ny281 := Aside0.mk hy281
      clear hy281
      focus
       have H' := Aside0.mk H
       clear H
       have hnb22 := NB274_267.out
       have hnc22 := NB267_274.out
       have hnb23 := NB274_268.out
       have hnc23 := NB268_274.out
       have hnb24 := NB274_0.out
       have hnc24 := NB0_274.out
       have hcz25_0 : wr.cell? ⟨gb274, 0, none⟩ = some (.int .i64 t269) := (blk_cell BK274.out 0).trans rfl
       have hcz25_1 : wr.cell? ⟨gb274, 1, none⟩ = some (.int .i64 t270) := (blk_cell BK274.out 1).trans rfl
       have hcz25_2 : wr.cell? ⟨gb274, 2, none⟩ = some (u275002) := (blk_cell BK274.out 2).trans rfl
       have hfz25_0 := blk_frozen BK274.out 0
       have hfz25_1 := blk_frozen BK274.out 1
       have hfz25_2 := blk_frozen BK274.out 2
       obtain ⟨Ao26, co26, eo26⟩ := Kd.R_slice HO_275002.out
       subst eo26
       try go_wp2_with (first | ((with_reducible refine gate_callee (f := 52) rfl ?_); refine goesL_ (some 17) rfl rfl Try.func52 (by kernel_rfl) rfl #[.pointer (some ⟨g, 0, none⟩), .int .i64 5] rfl zlx ?_; (with_reducible refine (spec_l1Cur_pick.calls g s0_0 x1001_1 x1002_1 5 t275 t276 t277 w0 _ ?side1 ?side2 A17.out).mono ?_); (case side1 => exact zhI51 HI0.out); (case side2 => exact zhB HB.out); rintro e w27 ⟨rfl, hi, hb, hk⟩; refine ⟨_, rfl, ?_⟩; replace HO_275002 := Aside0.mk (Kd.R_mono (Kd.R_keep (IsS51.apart (show IsS51 w0 _ g s0_0 x1001_1 x1002_1 from zhI51 HI0.out) (zRx HO_275002.out) (by decide)) hk (fun _ h => h.2)) (fun _ h => h.1)); replace BK267 := Aside0.mk (KeepBut.blk hk (g' := gb267) (o := .cells #[.int .i64 a1_0, .int .i64 a1_1, .slice A1_2 l1_2.length c1_2] 26 (0, 0)) (zbx BK267.out) NB267_0.out (by simp)); replace BK268 := Aside0.mk (KeepBut.blk hk (g' := gb268) (o := .cells #[.int .i64 0, .int .i64 0, .slice none 0 0] 26 (0, 0)) (zbx BK268.out) NB268_0.out (by simp)); replace BK274 := Aside0.mk (KeepBut.blk hk (g' := gb274) (o := .cells #[.int .i64 t269, .int .i64 t270, .slice Ao26 x275002_1.length co26] 26 (0, 0)) (zbx BK274.out) NB274_0.out (by simp)); replace HK := Aside0.mk (KeepBut.trans (zhK HK.out) hk (.inl rfl)); replace HB := Aside0.mk (hb); replace HI0 := Aside0.mk (hi); (try clear hb); (try clear hb2); (try clear hk); (try clear hi)))
       replace HO_275002 := Aside0.mk (Kd.R_drew HO_275002.out)
       replace BK267 := Aside0.mk (blk_drew BK267.out)
       replace BK268 := Aside0.mk (blk_drew BK268.out)
       replace BK274 := Aside0.mk (blk_drew BK274.out)
       replace HI0 := Aside0.mk (IsS51.drew HI0.out)
       replace HK := Aside0.mk (keep_drew HK.out)
       replace HB := Aside0.mk (below_drew1 HB.out)
       refine start_ (n := 7) (S := fun w' => w'.cell? ⟨gb274, 0, none⟩ = some (.int .i64 t269) ∧ w'.cell? ⟨gb274, 1, none⟩ = some (.int .i64 t270) ∧ w'.cell? ⟨gb274, 2, none⟩ = some (.slice Ao26 x275002_1.length co26)) (ds := [6]) #[F,F,F,F,F,F,F] (by kernel_rfl) rfl rfl ⟨(blk_cell BK274.out 0).trans rfl, (blk_cell BK274.out 1).trans rfl, (blk_cell BK274.out 2).trans rfl⟩ (fun hHeld => ?_)
       generalize w27.drew = w28 at HO_275002 BK267 BK268 BK274 HI0 HK HB hHeld ⊢
       refine pure_ (i := 0) (N := some 20) (v := ?_) (a' := ?_) #[T,F,F,F,F,F,F] rfl rfl (by kernel_rfl) (fun _ _ _ h => h) (Or.inl ⟨by rfl, ?_⟩) ?_ ?_
       rotate_left
       ·exact zwx
       rotate_left
       ·exact zpx
       refine pure_ (i := 2) (N := some 22) (v := ?_) (a' := ?_) #[T,F,T,F,F,F,F] rfl rfl (by kernel_rfl) (fun _ _ _ h => h) (Or.inl ⟨by rfl, ?_⟩) ?_ ?_
       rotate_left
       ·exact zwx
       rotate_left
       ·exact zpx
       refine pure_ (i := 3) (N := some 23) (v := ?_) (a' := ?_) #[T,F,T,T,F,F,F] rfl rfl (by kernel_rfl) (fun _ _ _ h => h) (Or.inl ⟨by rfl, ?_⟩) ?_ ?_
       rotate_left
       ·exact zwx
       rotate_left
       ·exact zpx
       refine take_ (i := 1) (N := some 21) (v := ?_) (a' := ?_) #[T,T,T,T,F,F,F] rfl rfl (by kernel_rfl) (fun _ _ _ h => h) (Or.inl ⟨by rfl, ?_⟩) hHeld ?_ ?_
       rotate_left
       ·rintro w' ⟨s0, s1, s2⟩
        go_simp
        with_reducible rfl
       rotate_left
       ·exact zpx
       refine one_ (i := 4) (N := some 24) #[T,T,T,T,T,F,F] rfl rfl (by kernel_rfl) (by decide) (fun K hK => ?_)
       refine goes_ Try.func52 (by kernel_rfl) rfl #[.pointer (some ⟨g, 0, none⟩), .int .i64 40] (by rfl) rfl rfl zlx ?_
       with_reducible refine (spec_l1Cur_pick.calls g s0_0 t276 t277 40 t278 t279 t280 w0 _ ?side1 ?side2 A19.out).mono ?_
       (case side1 => exact zhI51 HI0.out)
       (case side2 => exact zhB HB.out)
       rintro e w29 ⟨rfl, hi, hb, hk⟩
       refine ⟨_, rfl, ?_⟩
       replace HO_275002 := Aside0.mk (Kd.R_mono (Kd.R_keep (IsS51.apart (show IsS51 w0 _ g s0_0 t276 t277 from zhI51 HI0.out) (zRx HO_275002.out) (by decide)) hk (fun _ h => h.2)) (fun _ h => h.1))
       replace BK267 := Aside0.mk (KeepBut.blk hk (g' := gb267) (o := .cells #[.int .i64 a1_0, .int .i64 a1_1, .slice A1_2 l1_2.length c1_2] 26 (0, 0)) (zbx BK267.out) NB267_0.out (by simp))
       replace BK268 := Aside0.mk (KeepBut.blk hk (g' := gb268) (o := .cells #[.int .i64 0, .int .i64 0, .slice none 0 0] 26 (0, 0)) (zbx BK268.out) NB268_0.out (by simp))
       replace BK274 := Aside0.mk (KeepBut.blk hk (g' := gb274) (o := .cells #[.int .i64 t269, .int .i64 t270, .slice Ao26 x275002_1.length co26] 26 (0, 0)) (zbx BK274.out) NB274_0.out (by simp))
       replace HK := Aside0.mk (KeepBut.trans (zhK HK.out) hk (.inl rfl))
       replace HB := Aside0.mk (hb)
       replace HI0 := Aside0.mk (hi)
       (try clear hb)
       (try clear hb2)
       (try clear hk)
       (try clear hi)
       have p21 : 0 ≤ (x6_1 : Int) := of_decide_eq_true zax
       have q21 : (x6_1 : Int) < ((x275002_1.length : Int) : Int) := of_decide_eq_true zax
       obtain ⟨go21, co21, eo21, gb21, gl21, cl21, HG21⟩ := Kd.R_form HO_275002.out (by omega)
       (first | cases eo21 | (injection eo21 with ea_ en_ ec_; (first | subst ea_ | (injection ea_ with ea_; subst ea_)); subst ec_; clear en_))
       have GB21 := Aside0.mk gb21
       have GG21 := Aside0.mk HG21
       clear gb21 gl21 HG21
       obtain ⟨hx21_0, hf21_0⟩ := Kd.R_celln 0 HO_275002.out (x6_1 : Int) p21 q21
       replace p21 := eq_true p21
       replace q21 := eq_true q21
       have HN0_go21 := Aside0.mk (show g ≠ go21 from by have h_ := IsS51.own_ne HI0.out HO_275002.out (by decide); intro e_; exact h_ (by rw [e_]; rfl))
       have HP30 := Kd.R_putn HO_275002.out (x6_1 : Int) t278
       rw [← Ny281.out] at HP30
       have HQ30 := Aside0.mk HP30
       clear HP30
       refine hK.out _ _ ⟨(blk_cell BK274.out 0).trans rfl, (blk_cell BK274.out 1).trans rfl, (blk_cell BK274.out 2).trans rfl⟩ (fun hHeld => ?_)
       clear hK K
       refine norm_ (a' := ?_) ?_ ?_
       rotate_left
       ·show Act.put _ (some 24) _ = _
        simp only [Act.put, List.setIfInBounds_toArray, List.set_cons_zero, List.set_cons_succ, i64_w, i32_w]
        rfl
       refine pure_ (i := 5) (N := some 25) (v := ?_) (a' := ?_) #[T,T,T,T,T,T,F] rfl rfl (by kernel_rfl) (fun _ _ _ h => h) (Or.inl ⟨by rfl, ?_⟩) ?_ ?_
       rotate_left
       ·exact zwx
       rotate_left
       ·exact zpx
       refine last_ (i := 6) (N := none) #[T,T,T,T,T,T,T] rfl rfl (by kernel_rfl) (by decide) (fun K hK => ?_)
       refine skip_ (w1 := ?_) (by rfl) rfl ?_ ?_
       rotate_left
       ·go_simp
        rfl
       refine hK.out _ _ ?_
       clear hK K
       refine done_ (by kernel_rfl) ?_
       try go_wp2
       go_roundg k1
       case measure => have := HK1.out; omega
       case rel => exact ⟨(wrap64 (x6_1 + 1)), (t279), (t280), (y281), (.slice (some ⟨go21, 0, none⟩) x275002_1.length co26), zrx, H', ⟨by have := HK1.out; omega⟩, ⟨by (with_reducible repeat (first | apply Kd.R_alloc | apply Kd.R_drewN | apply Kd.R_drew)); exact HQ30.out⟩, ⟨by refine zbx ?_; refine blk_far ?_ (by have h_ := Kd.R_ne HO_275002.out BK267.out (by decide); intro e_; exact h_ (by rw [e_]; rfl)) _; refine zbx ?_; exact BK267.out⟩, ⟨by refine zbx ?_; refine blk_far ?_ (by have h_ := Kd.R_ne HO_275002.out BK268.out (by decide); intro e_; exact h_ (by rw [e_]; rfl)) _; refine zbx ?_; exact BK268.out⟩, ⟨by refine zbx ?_; refine blk_far ?_ (by have h_ := Kd.R_ne HO_275002.out BK274.out (by decide); intro e_; exact h_ (by rw [e_]; rfl)) _; refine zbx ?_; exact BK274.out⟩, ⟨zhI51 HI0.out⟩, ⟨zhK HK.out⟩, ⟨by repeat (first | (with_reducible first | exact HB.out | apply below_alloc | apply pw_below_drewN | apply below_drew1 | refine below_set ?_ (Nat.le_trans HL.out GB21.out) | refine below_set ?_ (IsS51.ge HI0.out) | refine below_set ?_ GE267.out | refine below_set ?_ GE268.out | refine below_set ?_ GE274.out) | exact HB.out)⟩⟩
     ·rw [if_neg c20] at H
      exact absurd H (by simp)
    ·rw [if_neg c18] at H
     have c18b0 : (t275 == 0) = false := beq_eq_false_iff_ne.mpr c18
     have c18b1 : (t275 != 0) = true := bne_iff_ne.mpr c18
     by_cases c31 : t275 = 1
     ·rw [if_pos c31] at H
      have c31b0 : (t275 == 1) = true := beq_iff_eq.mpr c31
      have c31b1 : (t275 != 1) = false := bne_eq_false_iff_eq.mpr c31
      clear c31
      replace H := Option.bind_eq_some_iff.mp H
      obtain ⟨⟨t282, t283, t284⟩, A320, H⟩ := H
      replace H : (if t282 = true then (if 0 ≤ x6_1 then (spec_l1Cur_like.l0 k1 (wrap64 (x6_1 + 1)) s0_0 t283 t284 t269 t270 (x275002_1.set (x6_1 : Int).toNat (-9999))) else (none)) else (spec_l1Cur_like.l0 k1 (wrap64 (x6_1 + 1)) s0_0 t283 t284 t269 t270 x275002_1)) = some (r1, r2, r3, r4, r5) := H
      have A32 := Aside0.mk A320
      clear A320
      by_cases c33 : t282 = true
      ·subst c33
       rw [if_pos rfl] at H
       by_cases c34 : 0 ≤ x6_1
       ·rw [if_pos c34] at H
        have c34b0 : decide (0 ≤ x6_1) = true := decide_eq_true c34
        clear c34
        obtain ⟨y285, hy285⟩ : ∃ y_ : List Int, y_ = (x275002_1.set (x6_1 : Int).toNat (-9999)) := ⟨_, rfl⟩
        replace H : (spec_l1Cur_like.l0 k1 (wrap64 (x6_1 + 1)) s0_0 t283 t284 t269 t270 y285) = some (r1, r2, r3, r4, r5) := by first | (rw [hy285]; with_reducible exact H) | (have H2_ := (Option.bind_some _ _).symm.trans H; rw [hy285]; with_reducible exact H2_) | (have H2_ := (Option.bind_some _ _).symm.trans H; with_reducible exact H2_) | with_reducible exact H | (rw [hy285]; exact H) | exact H
        have Ny285 := Aside0.mk hy285
        clear hy285
        focus
         have H' := Aside0.mk H
         clear H
         have hnb36 := NB274_267.out
         have hnc36 := NB267_274.out
         have hnb37 := NB274_268.out
         have hnc37 := NB268_274.out
         have hnb38 := NB274_0.out
         have hnc38 := NB0_274.out
         have hcz39_0 : wr.cell? ⟨gb274, 0, none⟩ = some (.int .i64 t269) := (blk_cell BK274.out 0).trans rfl
         have hcz39_1 : wr.cell? ⟨gb274, 1, none⟩ = some (.int .i64 t270) := (blk_cell BK274.out 1).trans rfl
         have hcz39_2 : wr.cell? ⟨gb274, 2, none⟩ = some (u275002) := (blk_cell BK274.out 2).trans rfl
         have hfz39_0 := blk_frozen BK274.out 0
         have hfz39_1 := blk_frozen BK274.out 1
         have hfz39_2 := blk_frozen BK274.out 2
         obtain ⟨Ao40, co40, eo40⟩ := Kd.R_slice HO_275002.out
         subst eo40
         go_wp2_with (first | ((with_reducible refine gate_callee (f := 52) rfl ?_); refine goesL_ (some 17) rfl rfl Try.func52 (by kernel_rfl) rfl #[.pointer (some ⟨g, 0, none⟩), .int .i64 5] rfl zlx ?_; (with_reducible refine (spec_l1Cur_pick.calls g s0_0 x1001_1 x1002_1 5 t275 t276 t277 w0 _ ?side1 ?side2 A17.out).mono ?_); (case side1 => exact zhI51 HI0.out); (case side2 => exact zhB HB.out); rintro e w41 ⟨rfl, hi, hb, hk⟩; refine ⟨_, rfl, ?_⟩; replace HO_275002 := Aside0.mk (Kd.R_mono (Kd.R_keep (IsS51.apart (show IsS51 w0 _ g s0_0 x1001_1 x1002_1 from zhI51 HI0.out) (zRx HO_275002.out) (by decide)) hk (fun _ h => h.2)) (fun _ h => h.1)); replace BK267 := Aside0.mk (KeepBut.blk hk (g' := gb267) (o := .cells #[.int .i64 a1_0, .int .i64 a1_1, .slice A1_2 l1_2.length c1_2] 26 (0, 0)) (zbx BK267.out) NB267_0.out (by simp)); replace BK268 := Aside0.mk (KeepBut.blk hk (g' := gb268) (o := .cells #[.int .i64 0, .int .i64 0, .slice none 0 0] 26 (0, 0)) (zbx BK268.out) NB268_0.out (by simp)); replace BK274 := Aside0.mk (KeepBut.blk hk (g' := gb274) (o := .cells #[.int .i64 t269, .int .i64 t270, .slice Ao40 x275002_1.length co40] 26 (0, 0)) (zbx BK274.out) NB274_0.out (by simp)); replace HK := Aside0.mk (KeepBut.trans (zhK HK.out) hk (.inl rfl)); replace HB := Aside0.mk (hb); replace HI0 := Aside0.mk (hi); (try clear hb); (try clear hk); (try clear hi)) | ((with_reducible refine gate_callee (f := 54) rfl ?_); refine goesL_ (some 29) rfl rfl Try.func54 (by kernel_rfl) rfl #[.pointer (some ⟨g, 0, none⟩), .int .i64 3] rfl zlx ?_; (with_reducible refine (spec_l1Cur_one.calls g s0_0 t276 t277 3 true t283 t284 w0 _ ?side1 ?side2 A32.out).mono ?_); (case side1 => exact zhI51 HI0.out); (case side2 => exact zhB HB.out); rintro e w42 ⟨rfl, hi, hb, hk⟩; refine ⟨_, rfl, ?_⟩; replace HO_275002 := Aside0.mk (Kd.R_mono (Kd.R_keep (IsS51.apart (show IsS51 w0 _ g s0_0 t276 t277 from zhI51 HI0.out) (zRx HO_275002.out) (by decide)) hk (fun _ h => h.2)) (fun _ h => h.1)); replace BK267 := Aside0.mk (KeepBut.blk hk (g' := gb267) (o := .cells #[.int .i64 a1_0, .int .i64 a1_1, .slice A1_2 l1_2.length c1_2] 26 (0, 0)) (zbx BK267.out) NB267_0.out (by simp)); replace BK268 := Aside0.mk (KeepBut.blk hk (g' := gb268) (o := .cells #[.int .i64 0, .int .i64 0, .slice none 0 0] 26 (0, 0)) (zbx BK268.out) NB268_0.out (by simp)); replace BK274 := Aside0.mk (KeepBut.blk hk (g' := gb274) (o := .cells #[.int .i64 t269, .int .i64 t270, .slice Ao40 x275002_1.length co40] 26 (0, 0)) (zbx BK274.out) NB274_0.out (by simp)); replace HK := Aside0.mk (KeepBut.trans (zhK HK.out) hk (.inl rfl)); replace HB := Aside0.mk (hb); replace HI0 := Aside0.mk (hi); (try clear hb); (try clear hk); (try clear hi); have hcz43_0 : w42.cell? ⟨gb274, 0, none⟩ = some (.int .i64 t269) := (blk_cell BK274.out 0).trans rfl; have hcz43_1 : w42.cell? ⟨gb274, 1, none⟩ = some (.int .i64 t270) := (blk_cell BK274.out 1).trans rfl; have hcz43_2 : w42.cell? ⟨gb274, 2, none⟩ = some (.slice Ao40 x275002_1.length co40) := (blk_cell BK274.out 2).trans rfl; have hfz43_0 := blk_frozen BK274.out 0; have hfz43_1 := blk_frozen BK274.out 1; have hfz43_2 := blk_frozen BK274.out 2; have p35 : 0 ≤ (x6_1 : Int) := of_decide_eq_true zax; have q35 : (x6_1 : Int) < ((x275002_1.length : Int) : Int) := of_decide_eq_true zax; obtain ⟨go35, co35, eo35, gb35, gl35, cl35, HG35⟩ := Kd.R_form HO_275002.out (by omega); (first | cases eo35 | (injection eo35 with ea_ en_ ec_; (first | subst ea_ | (injection ea_ with ea_; subst ea_)); subst ec_; clear en_)); have GB35 := Aside0.mk gb35; have GG35 := Aside0.mk HG35; clear gb35 gl35 HG35; obtain ⟨hx35_0, hf35_0⟩ := Kd.R_celln 0 HO_275002.out (x6_1 : Int) p35 q35; replace p35 := eq_true p35; replace q35 := eq_true q35; obtain ⟨hy44_, hz44_⟩ := Kd.R_celln 0 HO_275002.out (x6_1 : Int) (of_decide_eq_true zax) (of_decide_eq_true zax); have HP44 := Kd.R_putg HO_275002.out (x6_1 : Int) (-9999)) | ((with_reducible refine gate_store (t := 3) (p := 33) rfl ?_); refine store_event (t := 3) (p := 33) (v := ?vo_w45) (w1 := (w42.setCell ⟨go35, (x6_1 : Int).toNat, none⟩ (.int .i64 (-9999)))) ?hg ?ho ?hn ?hr ?_; (case ho => rfl); (case hg => rfl); (case hn => rfl); (case hr => exact zsx); intro w45 hw; have hg : w42.grownBy w45 (some go35) := (by rw [hw]; exact HP44.2); have hp_ : Kd.R (Kd.int .i64) 3 w45 w.heap.size (fun _ => True) (.slice (some ⟨go35, 0, none⟩) x275002_1.length co40) y285 := (by rw [hw, Ny285.out]; exact HP44.1); clear HP44; replace BK267 := Aside0.mk (blk_grown (g := gb267) (o := .cells #[.int .i64 a1_0, .int .i64 a1_1, .slice A1_2 l1_2.length c1_2] 26 (0, 0)) (zbx BK267.out) hg (Kd.R_ne HO_275002.out BK267.out (by decide))); replace BK268 := Aside0.mk (blk_grown (g := gb268) (o := .cells #[.int .i64 0, .int .i64 0, .slice none 0 0] 26 (0, 0)) (zbx BK268.out) hg (Kd.R_ne HO_275002.out BK268.out (by decide))); replace BK274 := Aside0.mk (blk_grown (g := gb274) (o := .cells #[.int .i64 t269, .int .i64 t270, .slice (some ⟨go35, 0, none⟩) x275002_1.length co40] 26 (0, 0)) (zbx BK274.out) hg (Kd.R_ne HO_275002.out BK274.out (by decide))); replace HI0 := Aside0.mk (IsS51.grown (zhI51 HI0.out) hg (IsS51.own_ne HI0.out HO_275002.out (by decide))); replace HB := Aside0.mk ((by rw [hw]; exact below_set (HB.out) (Nat.le_trans HL.out GB35.out) : Below w0.heap.size w0 w45)); replace HK := Aside0.mk (KeepBut.trans (zhK HK.out) (KeepBut.of_grown hg g) (Kd.R_base2 HO_275002.out)); replace HO_275002 := Aside0.mk (hp_); clear hg hw hp_))
         go_roundg k1
         case measure => have := HK1.out; omega
         case rel => exact ⟨(wrap64 (x6_1 + 1)), (t283), (t284), (y285), (.slice (some ⟨go35, 0, none⟩) x275002_1.length co40), zrx, H', ⟨by have := HK1.out; omega⟩, ⟨by refine zDR ?_; exact HO_275002.out⟩, ⟨by refine zbx ?_; exact BK267.out⟩, ⟨by refine zbx ?_; exact BK268.out⟩, ⟨by refine zbx ?_; exact BK274.out⟩, ⟨zhI51 HI0.out⟩, ⟨zhK HK.out⟩, ⟨zhB HB.out⟩⟩
       ·rw [if_neg c34] at H
        exact absurd H (by simp)
      ·replace c33 := Bool.eq_false_iff.mpr c33
       subst c33
       rw [if_neg (show ¬ (false = true) by decide)] at H
       focus
        have H' := Aside0.mk H
        clear H
        have hnb46 := NB274_267.out
        have hnc46 := NB267_274.out
        have hnb47 := NB274_268.out
        have hnc47 := NB268_274.out
        have hnb48 := NB274_0.out
        have hnc48 := NB0_274.out
        have hcz49_0 : wr.cell? ⟨gb274, 0, none⟩ = some (.int .i64 t269) := (blk_cell BK274.out 0).trans rfl
        have hcz49_1 : wr.cell? ⟨gb274, 1, none⟩ = some (.int .i64 t270) := (blk_cell BK274.out 1).trans rfl
        have hcz49_2 : wr.cell? ⟨gb274, 2, none⟩ = some (u275002) := (blk_cell BK274.out 2).trans rfl
        have hfz49_0 := blk_frozen BK274.out 0
        have hfz49_1 := blk_frozen BK274.out 1
        have hfz49_2 := blk_frozen BK274.out 2
        obtain ⟨Ao50, co50, eo50⟩ := Kd.R_slice HO_275002.out
        subst eo50
        go_wp2_with (first | ((with_reducible refine gate_callee (f := 52) rfl ?_); refine goesL_ (some 17) rfl rfl Try.func52 (by kernel_rfl) rfl #[.pointer (some ⟨g, 0, none⟩), .int .i64 5] rfl zlx ?_; (with_reducible refine (spec_l1Cur_pick.calls g s0_0 x1001_1 x1002_1 5 t275 t276 t277 w0 _ ?side1 ?side2 A17.out).mono ?_); (case side1 => exact zhI51 HI0.out); (case side2 => exact zhB HB.out); rintro e w51 ⟨rfl, hi, hb, hk⟩; refine ⟨_, rfl, ?_⟩; replace HO_275002 := Aside0.mk (Kd.R_mono (Kd.R_keep (IsS51.apart (show IsS51 w0 _ g s0_0 x1001_1 x1002_1 from zhI51 HI0.out) (zRx HO_275002.out) (by decide)) hk (fun _ h => h.2)) (fun _ h => h.1)); replace BK267 := Aside0.mk (KeepBut.blk hk (g' := gb267) (o := .cells #[.int .i64 a1_0, .int .i64 a1_1, .slice A1_2 l1_2.length c1_2] 26 (0, 0)) (zbx BK267.out) NB267_0.out (by simp)); replace BK268 := Aside0.mk (KeepBut.blk hk (g' := gb268) (o := .cells #[.int .i64 0, .int .i64 0, .slice none 0 0] 26 (0, 0)) (zbx BK268.out) NB268_0.out (by simp)); replace BK274 := Aside0.mk (KeepBut.blk hk (g' := gb274) (o := .cells #[.int .i64 t269, .int .i64 t270, .slice Ao50 x275002_1.length co50] 26 (0, 0)) (zbx BK274.out) NB274_0.out (by simp)); replace HK := Aside0.mk (KeepBut.trans (zhK HK.out) hk (.inl rfl)); replace HB := Aside0.mk (hb); replace HI0 := Aside0.mk (hi); (try clear hb); (try clear hk); (try clear hi)) | ((with_reducible refine gate_callee (f := 54) rfl ?_); refine goesL_ (some 29) rfl rfl Try.func54 (by kernel_rfl) rfl #[.pointer (some ⟨g, 0, none⟩), .int .i64 3] rfl zlx ?_; (with_reducible refine (spec_l1Cur_one.calls g s0_0 t276 t277 3 false t283 t284 w0 _ ?side1 ?side2 A32.out).mono ?_); (case side1 => exact zhI51 HI0.out); (case side2 => exact zhB HB.out); rintro e w52 ⟨rfl, hi, hb, hk⟩; refine ⟨_, rfl, ?_⟩; replace HO_275002 := Aside0.mk (Kd.R_mono (Kd.R_keep (IsS51.apart (show IsS51 w0 _ g s0_0 t276 t277 from zhI51 HI0.out) (zRx HO_275002.out) (by decide)) hk (fun _ h => h.2)) (fun _ h => h.1)); replace BK267 := Aside0.mk (KeepBut.blk hk (g' := gb267) (o := .cells #[.int .i64 a1_0, .int .i64 a1_1, .slice A1_2 l1_2.length c1_2] 26 (0, 0)) (zbx BK267.out) NB267_0.out (by simp)); replace BK268 := Aside0.mk (KeepBut.blk hk (g' := gb268) (o := .cells #[.int .i64 0, .int .i64 0, .slice none 0 0] 26 (0, 0)) (zbx BK268.out) NB268_0.out (by simp)); replace BK274 := Aside0.mk (KeepBut.blk hk (g' := gb274) (o := .cells #[.int .i64 t269, .int .i64 t270, .slice Ao50 x275002_1.length co50] 26 (0, 0)) (zbx BK274.out) NB274_0.out (by simp)); replace HK := Aside0.mk (KeepBut.trans (zhK HK.out) hk (.inl rfl)); replace HB := Aside0.mk (hb); replace HI0 := Aside0.mk (hi); (try clear hb); (try clear hk); (try clear hi)))
        go_roundg k1
        case measure => have := HK1.out; omega
        case rel => exact ⟨(wrap64 (x6_1 + 1)), (t283), (t284), (x275002_1), (.slice Ao50 x275002_1.length co50), zrx, H', ⟨by have := HK1.out; omega⟩, ⟨by refine zDR ?_; exact HO_275002.out⟩, ⟨by refine zbx ?_; exact BK267.out⟩, ⟨by refine zbx ?_; exact BK268.out⟩, ⟨by refine zbx ?_; exact BK274.out⟩, ⟨zhI51 HI0.out⟩, ⟨zhK HK.out⟩, ⟨zhB HB.out⟩⟩
     ·rw [if_neg c31] at H
      have c31b0 : (t275 == 1) = false := beq_eq_false_iff_ne.mpr c31
      have c31b1 : (t275 != 1) = true := bne_iff_ne.mpr c31
      focus
       have H' := Aside0.mk H
       clear H
       have hnb53 := NB274_267.out
       have hnc53 := NB267_274.out
       have hnb54 := NB274_268.out
       have hnc54 := NB268_274.out
       have hnb55 := NB274_0.out
       have hnc55 := NB0_274.out
       have hcz56_0 : wr.cell? ⟨gb274, 0, none⟩ = some (.int .i64 t269) := (blk_cell BK274.out 0).trans rfl
       have hcz56_1 : wr.cell? ⟨gb274, 1, none⟩ = some (.int .i64 t270) := (blk_cell BK274.out 1).trans rfl
       have hcz56_2 : wr.cell? ⟨gb274, 2, none⟩ = some (u275002) := (blk_cell BK274.out 2).trans rfl
       have hfz56_0 := blk_frozen BK274.out 0
       have hfz56_1 := blk_frozen BK274.out 1
       have hfz56_2 := blk_frozen BK274.out 2
       obtain ⟨Ao57, co57, eo57⟩ := Kd.R_slice HO_275002.out
       subst eo57
       go_wp2_with (first | ((with_reducible refine gate_callee (f := 52) rfl ?_); refine goesL_ (some 17) rfl rfl Try.func52 (by kernel_rfl) rfl #[.pointer (some ⟨g, 0, none⟩), .int .i64 5] rfl zlx ?_; (with_reducible refine (spec_l1Cur_pick.calls g s0_0 x1001_1 x1002_1 5 t275 t276 t277 w0 _ ?side1 ?side2 A17.out).mono ?_); (case side1 => exact zhI51 HI0.out); (case side2 => exact zhB HB.out); rintro e w58 ⟨rfl, hi, hb, hk⟩; refine ⟨_, rfl, ?_⟩; replace HO_275002 := Aside0.mk (Kd.R_mono (Kd.R_keep (IsS51.apart (show IsS51 w0 _ g s0_0 x1001_1 x1002_1 from zhI51 HI0.out) (zRx HO_275002.out) (by decide)) hk (fun _ h => h.2)) (fun _ h => h.1)); replace BK267 := Aside0.mk (KeepBut.blk hk (g' := gb267) (o := .cells #[.int .i64 a1_0, .int .i64 a1_1, .slice A1_2 l1_2.length c1_2] 26 (0, 0)) (zbx BK267.out) NB267_0.out (by simp)); replace BK268 := Aside0.mk (KeepBut.blk hk (g' := gb268) (o := .cells #[.int .i64 0, .int .i64 0, .slice none 0 0] 26 (0, 0)) (zbx BK268.out) NB268_0.out (by simp)); replace BK274 := Aside0.mk (KeepBut.blk hk (g' := gb274) (o := .cells #[.int .i64 t269, .int .i64 t270, .slice Ao57 x275002_1.length co57] 26 (0, 0)) (zbx BK274.out) NB274_0.out (by simp)); replace HK := Aside0.mk (KeepBut.trans (zhK HK.out) hk (.inl rfl)); replace HB := Aside0.mk (hb); replace HI0 := Aside0.mk (hi); (try clear hb); (try clear hk); (try clear hi)))
       go_roundg k1
       case measure => have := HK1.out; omega
       case rel => exact ⟨(wrap64 (x6_1 + 1)), (t276), (t277), (x275002_1), (.slice Ao57 x275002_1.length co57), zrx, H', ⟨by have := HK1.out; omega⟩, ⟨by refine zDR ?_; exact HO_275002.out⟩, ⟨by refine zbx ?_; exact BK267.out⟩, ⟨by refine zbx ?_; exact BK268.out⟩, ⟨by refine zbx ?_; exact BK274.out⟩, ⟨zhI51 HI0.out⟩, ⟨zhK HK.out⟩, ⟨zhB HB.out⟩⟩
   ·rw [if_neg c16] at H
    have c16b0 : decide (x6_1 < (x275002_1.length : Int)) = false := decide_eq_false c16
    clear c16
    replace H := Option.bind_eq_some_iff.mp H
    obtain ⟨⟨t286, t287, t288⟩, A590, H⟩ := H
    replace H : (if t286 = true then ((spec_l1Cur_field.f k1 s0_0 t287 t288).bind fun bt289 => (some (bt289.1, bt289.2.1, bt289.2.2.1, bt289.2.2.2.1, bt289.2.2.2.2))) else (some (t269, t270, x275002_1, t287, t288))) = some (r1, r2, r3, r4, r5) := H
    have A59 := Aside0.mk A590
    clear A590
    by_cases c60 : t286 = true
    ·subst c60
     rw [if_pos rfl] at H
     replace H := Option.bind_eq_some_iff.mp H
     obtain ⟨⟨t289, t290, t291, t294, t295⟩, A610, H⟩ := H
     replace H : (some (t289, t290, t291, t294, t295)) = some (r1, r2, r3, r4, r5) := H
     have A61 := Aside0.mk A610
     clear A610
     focus
      simp only [Option.some.injEq, Prod.mk.injEq] at H
      obtain ⟨rfl, rfl, rfl, rfl, rfl⟩ := H
      have hnb62 := NB274_267.out
      have hnc62 := NB267_274.out
      have hnb63 := NB274_268.out
      have hnc63 := NB268_274.out
      have hnb64 := NB274_0.out
      have hnc64 := NB0_274.out
      have hcz65_0 : wr.cell? ⟨gb274, 0, none⟩ = some (.int .i64 t269) := (blk_cell BK274.out 0).trans rfl
      have hcz65_1 : wr.cell? ⟨gb274, 1, none⟩ = some (.int .i64 t270) := (blk_cell BK274.out 1).trans rfl
      have hcz65_2 : wr.cell? ⟨gb274, 2, none⟩ = some (u275002) := (blk_cell BK274.out 2).trans rfl
      have hfz65_0 := blk_frozen BK274.out 0
      have hfz65_1 := blk_frozen BK274.out 1
      have hfz65_2 := blk_frozen BK274.out 2
      obtain ⟨Ao66, co66, eo66⟩ := Kd.R_slice HO_275002.out
      subst eo66
      go_wp2_with (first | ((with_reducible refine gate_callee (f := 54) rfl ?_); refine goesL_ (some 35) rfl rfl Try.func54 (by kernel_rfl) rfl #[.pointer (some ⟨g, 0, none⟩), .int .i64 16] rfl zlx ?_; (with_reducible refine (spec_l1Cur_one.calls g s0_0 x1001_1 x1002_1 16 true t287 t288 w0 _ ?side1 ?side2 A59.out).mono ?_); (case side1 => exact zhI51 HI0.out); (case side2 => exact zhB HB.out); rintro e w67 ⟨rfl, hi, hb, hk⟩; refine ⟨_, rfl, ?_⟩; replace HO_275002 := Aside0.mk (Kd.R_mono (Kd.R_keep (IsS51.apart (show IsS51 w0 _ g s0_0 x1001_1 x1002_1 from zhI51 HI0.out) (zRx HO_275002.out) (by decide)) hk (fun _ h => h.2)) (fun _ h => h.1)); replace BK267 := Aside0.mk (KeepBut.blk hk (g' := gb267) (o := .cells #[.int .i64 a1_0, .int .i64 a1_1, .slice A1_2 l1_2.length c1_2] 26 (0, 0)) (zbx BK267.out) NB267_0.out (by simp)); replace BK268 := Aside0.mk (KeepBut.blk hk (g' := gb268) (o := .cells #[.int .i64 0, .int .i64 0, .slice none 0 0] 26 (0, 0)) (zbx BK268.out) NB268_0.out (by simp)); replace BK274 := Aside0.mk (KeepBut.blk hk (g' := gb274) (o := .cells #[.int .i64 t269, .int .i64 t270, .slice Ao66 x275002_1.length co66] 26 (0, 0)) (zbx BK274.out) NB274_0.out (by simp)); replace HK := Aside0.mk (KeepBut.trans (zhK HK.out) hk (.inl rfl)); replace HB := Aside0.mk (hb); replace HI0 := Aside0.mk (hi); (try clear hb); (try clear hk); (try clear hi)) | ((with_reducible refine gate_callee (f := 51) rfl ?_); refine goesL_ (some 37) rfl rfl Try.func51 (by kernel_rfl) rfl #[.pointer (some ⟨g, 0, none⟩)] rfl zlx ?_; (with_reducible refine (spec_l1Cur_field.calls k1 g s0_0 t287 t288 t289 t290 t291 t294 t295 w0 _ ?side1 ?side2 A61.out).mono ?_); (case side1 => exact zhI51 HI0.out); (case side2 => exact zhB HB.out); rintro e w68 ⟨v292, rfl, ho0, hi, hb, hk⟩; refine ⟨_, rfl, ?_⟩; replace BK267 := Aside0.mk (KeepBut.blk hk (g' := gb267) (o := .cells #[.int .i64 a1_0, .int .i64 a1_1, .slice A1_2 l1_2.length c1_2] 26 (0, 0)) (zbx BK267.out) NB267_0.out (by simp)); replace BK268 := Aside0.mk (KeepBut.blk hk (g' := gb268) (o := .cells #[.int .i64 0, .int .i64 0, .slice none 0 0] 26 (0, 0)) (zbx BK268.out) NB268_0.out (by simp)); replace BK274 := Aside0.mk (KeepBut.blk hk (g' := gb274) (o := .cells #[.int .i64 t269, .int .i64 t270, .slice Ao66 x275002_1.length co66] 26 (0, 0)) (zbx BK274.out) NB274_0.out (by simp)); have HO293 := Aside0.mk (Kd.R_lower (Kd.R_new' ho0 (Kd.R_lt (zRx HO_275002.out))) (keep_size (w := w) (g := g) (row := none) (zhK HK.out))); replace HO_275002 := Aside0.mk (Kd.R_mono (Kd.R_told (Kd.R_oldK (IsS51.apart (show IsS51 w0 _ g s0_0 t287 t288 from zhI51 HI0.out) (zRx HO_275002.out) (by decide)) hk) (Kd.R_base ho0)) (fun _ h_ => h_.1)); replace HK := Aside0.mk (KeepBut.trans (zhK HK.out) hk (.inl rfl)); replace HB := Aside0.mk (hb); replace HI0 := Aside0.mk (hi); (try clear hb); (try clear hk); (try clear hi); (try clear ho0); have hcz69_0 : w68.cell? ⟨gb274, 0, none⟩ = some (.int .i64 t269) := (blk_cell BK274.out 0).trans rfl; have hcz69_1 : w68.cell? ⟨gb274, 1, none⟩ = some (.int .i64 t270) := (blk_cell BK274.out 1).trans rfl; have hcz69_2 : w68.cell? ⟨gb274, 2, none⟩ = some (.slice Ao66 x275002_1.length co66) := (blk_cell BK274.out 2).trans rfl; have hfz69_0 := blk_frozen BK274.out 0; have hfz69_1 := blk_frozen BK274.out 1; have hfz69_2 := blk_frozen BK274.out 2; obtain ⟨Ao70, co70, eo70⟩ := Kd.R_slice HO293.out; subst eo70; have hnb71 := NB268_267.out; have hnc71 := NB267_268.out; have hnb72 := NB268_0.out; have hnc72 := NB0_268.out; have hcz73_0 : w68.cell? ⟨gb268, 0, none⟩ = some (.int .i64 0) := (blk_cell BK268.out 0).trans rfl; have hcz73_1 : w68.cell? ⟨gb268, 1, none⟩ = some (.int .i64 0) := (blk_cell BK268.out 1).trans rfl; have hcz73_2 : w68.cell? ⟨gb268, 2, none⟩ = some (.slice none 0 0) := (blk_cell BK268.out 2).trans rfl; have hfz73_0 := blk_frozen BK268.out 0; have hfz73_1 := blk_frozen BK268.out 1; have hfz73_2 := blk_frozen BK268.out 2))
      refine bodyPost_ret (results_cell_row rfl _ _ gb268 26 #[.int .i64 t289, .int .i64 t290, .slice Ao70 t291.length co70] (0, 0) _ rfl (zbp BK268.out) Try.underlying26 rfl (by kernel_rfl)) rfl ?_
      exact ⟨_, by first | rfl | (simp [errW_none, errW_some] <;> rfl) | (simp [*, errW_none, errW_some] <;> rfl), by refine zDR ?_; exact Kd.R_mono (Kd.R_far (p := ⟨gb268, 2, none⟩) (Kd.R_far (p := ⟨gb268, 1, none⟩) (Kd.R_far (p := ⟨gb268, 0, none⟩) (Kd.R_far (p := ⟨gb274, 2, none⟩) (Kd.R_far (p := ⟨gb274, 1, none⟩) (Kd.R_far (p := ⟨gb274, 0, none⟩) (Kd.R_types (Kd.R_types HO293.out BK274.out (by decide)) BK268.out (by decide)) (fun _ hk => hk.1.2) (.int .i64 t289)) (fun _ hk => hk.1.2) (.int .i64 t290)) (fun _ hk => hk.1.2) (.slice Ao70 t291.length co70)) (fun _ hk => hk.2) (.int .i64 t289)) (fun _ hk => hk.2) (.int .i64 t290)) (fun _ hk => hk.2) (.slice Ao70 t291.length co70)) (fun _ hk => trivial), zhI51 HI0.out, zhB HB.out, zhK HK.out⟩
    ·replace c60 := Bool.eq_false_iff.mpr c60
     subst c60
     rw [if_neg (show ¬ (false = true) by decide)] at H
     focus
      simp only [Option.some.injEq, Prod.mk.injEq] at H
      obtain ⟨rfl, rfl, rfl, rfl, rfl⟩ := H
      have hnb74 := NB274_267.out
      have hnc74 := NB267_274.out
      have hnb75 := NB274_268.out
      have hnc75 := NB268_274.out
      have hnb76 := NB274_0.out
      have hnc76 := NB0_274.out
      have hcz77_0 : wr.cell? ⟨gb274, 0, none⟩ = some (.int .i64 t269) := (blk_cell BK274.out 0).trans rfl
      have hcz77_1 : wr.cell? ⟨gb274, 1, none⟩ = some (.int .i64 t270) := (blk_cell BK274.out 1).trans rfl
      have hcz77_2 : wr.cell? ⟨gb274, 2, none⟩ = some (u275002) := (blk_cell BK274.out 2).trans rfl
      have hfz77_0 := blk_frozen BK274.out 0
      have hfz77_1 := blk_frozen BK274.out 1
      have hfz77_2 := blk_frozen BK274.out 2
      obtain ⟨Ao78, co78, eo78⟩ := Kd.R_slice HO_275002.out
      subst eo78
      go_wp2_with (first | ((with_reducible refine gate_callee (f := 54) rfl ?_); refine goesL_ (some 35) rfl rfl Try.func54 (by kernel_rfl) rfl #[.pointer (some ⟨g, 0, none⟩), .int .i64 16] rfl zlx ?_; (with_reducible refine (spec_l1Cur_one.calls g s0_0 x1001_1 x1002_1 16 false t287 t288 w0 _ ?side1 ?side2 A59.out).mono ?_); (case side1 => exact zhI51 HI0.out); (case side2 => exact zhB HB.out); rintro e w79 ⟨rfl, hi, hb, hk⟩; refine ⟨_, rfl, ?_⟩; replace HO_275002 := Aside0.mk (Kd.R_mono (Kd.R_keep (IsS51.apart (show IsS51 w0 _ g s0_0 x1001_1 x1002_1 from zhI51 HI0.out) (zRx HO_275002.out) (by decide)) hk (fun _ h => h.2)) (fun _ h => h.1)); replace BK267 := Aside0.mk (KeepBut.blk hk (g' := gb267) (o := .cells #[.int .i64 a1_0, .int .i64 a1_1, .slice A1_2 l1_2.length c1_2] 26 (0, 0)) (zbx BK267.out) NB267_0.out (by simp)); replace BK268 := Aside0.mk (KeepBut.blk hk (g' := gb268) (o := .cells #[.int .i64 0, .int .i64 0, .slice none 0 0] 26 (0, 0)) (zbx BK268.out) NB268_0.out (by simp)); replace BK274 := Aside0.mk (KeepBut.blk hk (g' := gb274) (o := .cells #[.int .i64 t269, .int .i64 t270, .slice Ao78 x275002_1.length co78] 26 (0, 0)) (zbx BK274.out) NB274_0.out (by simp)); replace HK := Aside0.mk (KeepBut.trans (zhK HK.out) hk (.inl rfl)); replace HB := Aside0.mk (hb); replace HI0 := Aside0.mk (hi); (try clear hb); (try clear hk); (try clear hi); have hcz80_0 : w79.cell? ⟨gb274, 0, none⟩ = some (.int .i64 t269) := (blk_cell BK274.out 0).trans rfl; have hcz80_1 : w79.cell? ⟨gb274, 1, none⟩ = some (.int .i64 t270) := (blk_cell BK274.out 1).trans rfl; have hcz80_2 : w79.cell? ⟨gb274, 2, none⟩ = some (.slice Ao78 x275002_1.length co78) := (blk_cell BK274.out 2).trans rfl; have hfz80_0 := blk_frozen BK274.out 0; have hfz80_1 := blk_frozen BK274.out 1; have hfz80_2 := blk_frozen BK274.out 2; have hnb81 := NB268_267.out; have hnc81 := NB267_268.out; have hnb82 := NB268_0.out; have hnc82 := NB0_268.out; have hcz83_0 : w79.cell? ⟨gb268, 0, none⟩ = some (.int .i64 0) := (blk_cell BK268.out 0).trans rfl; have hcz83_1 : w79.cell? ⟨gb268, 1, none⟩ = some (.int .i64 0) := (blk_cell BK268.out 1).trans rfl; have hcz83_2 : w79.cell? ⟨gb268, 2, none⟩ = some (.slice none 0 0) := (blk_cell BK268.out 2).trans rfl; have hfz83_0 := blk_frozen BK268.out 0; have hfz83_1 := blk_frozen BK268.out 1; have hfz83_2 := blk_frozen BK268.out 2))
      refine bodyPost_ret (results_cell_row rfl _ _ gb268 26 #[.int .i64 t269, .int .i64 t270, .slice Ao78 x275002_1.length co78] (0, 0) _ rfl (zbp BK268.out) Try.underlying26 rfl (by kernel_rfl)) rfl ?_
      exact ⟨_, by first | rfl | (simp [errW_none, errW_some] <;> rfl) | (simp [*, errW_none, errW_some] <;> rfl), by refine zDR ?_; exact Kd.R_mono (Kd.R_far (p := ⟨gb268, 2, none⟩) (Kd.R_far (p := ⟨gb268, 1, none⟩) (Kd.R_far (p := ⟨gb268, 0, none⟩) (Kd.R_types HO_275002.out BK268.out (by decide)) (fun _ hk => hk.2) (.int .i64 t269)) (fun _ hk => hk.2) (.int .i64 t270)) (fun _ hk => hk.2) (.slice Ao78 x275002_1.length co78)) (fun _ hk => trivial), zhI51 HI0.out, zhB HB.out, zhK HK.out⟩

/-! ### spec_DrawCountTable: function 6 -/
def spec_DrawCountTable.f (k : Nat) (l0 : List Int) : Option (Int × Int × List Int × Int × Int × List Int × Int) := (spec_l1Cur_anyField.f k l0 0 0).bind fun bt299 => ((spec_l1Cur_like.f k l0 bt299.2.2.2.1 bt299.2.2.2.2 bt299.1 bt299.2.1 bt299.2.2.1).bind fun bt307 => ((spec_l1Cur_among.f l0 bt307.2.2.2.1 bt307.2.2.2.2 (([5, 15, 25, 110, (-30), 0] : List Int))).bind fun bt317 => (some (bt299.1, bt299.2.1, bt299.2.2.1, bt307.1, bt307.2.1, bt307.2.2.1, bt317.1))))
theorem spec_DrawCountTable.mono : ∀ a0 k, LeO (spec_DrawCountTable.f k a0) (spec_DrawCountTable.f (k + 1) a0) := by
 intro a0 k
 unfold spec_DrawCountTable.f
 repeat' first
  | (with_reducible exact spec_l1Cur_anyField.mono _ _ _ _)
  | (with_reducible exact spec_l1Cur_like.mono _ _ _ _ _ _ _)
  | (with_reducible exact LeO.refl _)
  | (with_reducible exact LeO.none _)
  | (with_reducible refine LeO.ite ?_ ?_)
  | (with_reducible refine LeO.bind ?_ (fun _ => ?_))
  | exact spec_l1Cur_anyField.mono _ _ _ _
  | exact spec_l1Cur_like.mono _ _ _ _ _ _ _
  | exact LeO.none _
  | refine LeO.ite ?_ ?_
  | refine LeO.bind ?_ (fun _ => ?_)
def spec_DrawCountTable.T3 : Bool × List (List Nat × List Nat) := (true, [([], []), ([], []), ([], []), ([1, 2], [1, 2]), ([], []), ([], []), ([4, 5, 3], [4, 5]), ([0, 6, 0], [0]), ([3, 7, 0, 1, 2, 3, 7], [3]), ([6, 8, 0, 1, 2, 3, 4, 5, 6, 7, 8], [6])])
def spec_DrawCountTable.B3 : List Nat := [0, 0, 0, 6, 0, 0, 62, 127, 255, 511]
theorem spec_DrawCountTable.tab3 : rtab .any (opsOf Try.f6 3) = spec_DrawCountTable.T3 := by kernel_rfl
theorem spec_DrawCountTable.bits3 : waitsOk spec_DrawCountTable.T3.2 spec_DrawCountTable.B3 = true := by kernel_rfl
set_option maxHeartbeats 8000000 in
set_option maxRecDepth 100000 in
theorem spec_DrawCountTable.calls (k : Nat) (A0 : Option Addr) (c0 : Nat) (l0 : List Int) (r1 : Int) (r2 : Int) (r3 : List Int) (r4 : Int) (r5 : Int) (r6 : List Int) (r7 : Int) (w : World) (hr0 : Kd.C (Kd.int .u8) w A0 l0.length l0) (hc0 : l0.length ≤ c0) (h : spec_DrawCountTable.f k l0 = some (r1, r2, r3, r4, r5, r6, r7)) :
 Calls Try.prog 6 #[.slice A0 l0.length c0] w fun e w' => ∃ v2_ v5_ : Value, e = .returned (.tuple #[.agg #[.int .i64 r1, .int .i64 r2, v2_], .agg #[.int .i64 r4, .int .i64 r5, v5_], .int .i64 r7]) ∧ Kd.Q (Kd.int .i64) 3 w' w.heap.size (fun k_ => some k_ ≠ (v5_ : Value).ownBlock) v2_ r3 ∧ Kd.R (Kd.int .i64) 3 w' w.heap.size (fun k_ => some k_ ≠ (v2_ : Value).ownBlock) v5_ r6 ∧ Below w.heap.size w w' := by
 have hu26 := Try.underlying26
 have hu51 := Try.underlying51
 have HR0 := Aside0.mk hr0
 have HC0 := Aside0.mk hc0
 clear hr0 hc0
 have HB := Aside0.mk (Below.refl w.heap.size w)
 have H : ((spec_l1Cur_anyField.f k l0 0 0).bind fun bt299 => ((spec_l1Cur_like.f k l0 bt299.2.2.2.1 bt299.2.2.2.2 bt299.1 bt299.2.1 bt299.2.2.1).bind fun bt307 => ((spec_l1Cur_among.f l0 bt307.2.2.2.1 bt307.2.2.2.2 (([5, 15, 25, 110, (-30), 0] : List Int))).bind fun bt317 => (some (bt299.1, bt299.2.1, bt299.2.2.1, bt307.1, bt307.2.1, bt307.2.2.1, bt317.1))))) = some (r1, r2, r3, r4, r5, r6, r7) := h
 clear h
 replace H := Option.bind_eq_some_iff.mp H
 obtain ⟨⟨t299, t300, t301, t304, t305⟩, A20, H⟩ := H
 replace H : ((spec_l1Cur_like.f k l0 t304 t305 t299 t300 t301).bind fun bt307 => ((spec_l1Cur_among.f l0 bt307.2.2.2.1 bt307.2.2.2.2 (([5, 15, 25, 110, (-30), 0] : List Int))).bind fun bt317 => (some (t299, t300, t301, bt307.1, bt307.2.1, bt307.2.2.1, bt317.1)))) = some (r1, r2, r3, r4, r5, r6, r7) := H
 have A2 := Aside0.mk A20
 clear A20
 replace H := Option.bind_eq_some_iff.mp H
 obtain ⟨⟨t307, t308, t309, t312, t313⟩, A30, H⟩ := H
 replace H : ((spec_l1Cur_among.f l0 t312 t313 (([5, 15, 25, 110, (-30), 0] : List Int))).bind fun bt317 => (some (t299, t300, t301, t307, t308, t309, bt317.1))) = some (r1, r2, r3, r4, r5, r6, r7) := H
 have A3 := Aside0.mk A30
 clear A30
 obtain ⟨y314, hy314⟩ : ∃ y_ : List Int, y_ = (([5, 15, 25, 110, (-30), 0] : List Int)) := ⟨_, rfl⟩
 replace H : ((spec_l1Cur_among.f l0 t312 t313 y314).bind fun bt317 => (some (t299, t300, t301, t307, t308, t309, bt317.1))) = some (r1, r2, r3, r4, r5, r6, r7) := by first | (rw [hy314]; with_reducible exact H) | (have H2_ := (Option.bind_some _ _).symm.trans H; rw [hy314]; with_reducible exact H2_) | (have H2_ := (Option.bind_some _ _).symm.trans H; with_reducible exact H2_) | with_reducible exact H | (rw [hy314]; exact H) | exact H
 have Ny314 := Aside0.mk hy314
 clear hy314
 replace H := Option.bind_eq_some_iff.mp H
 obtain ⟨⟨t317, t318, t319⟩, A40, H⟩ := H
 replace H : (some (t299, t300, t301, t307, t308, t309, t317)) = some (r1, r2, r3, r4, r5, r6, r7) := H
 have A4 := Aside0.mk A40
 clear A40
 focus
  simp only [Option.some.injEq, Prod.mk.injEq] at H
  obtain ⟨rfl, rfl, rfl, rfl, rfl, rfl, rfl⟩ := H
  go_enter Try.func6, Try.ntmps6
  try go_wp2_with (first | ((with_reducible refine gate_dst (N := 2) rfl ?_); refine box_event ?hg (N := 2) ?hd (cs := #[.int .i64 0, .int .i64 0, .slice none 0 0]) (t := 26) ?hr ?_; (case hd => rfl); (case hg => rfl); (case hr => exact zsx); intro gb296 hg w5 hbox hb; have BK296 := Aside0.mk (hbox); have GW296 := zns hg HB.out; have GE296 := zns hg HB.out; replace HB := Aside0.mk (below_step (zBx HB.out) hb); clear hb hbox hg) | ((with_reducible refine gate_dst (N := 3) rfl ?_); refine box_event ?hg (N := 3) ?hd (cs := #[.int .i64 0, .int .i64 0, .slice none 0 0]) (t := 26) ?hr ?_; (case hd => rfl); (case hg => rfl); (case hr => exact zsx); intro gb297 hg w6 hbox hb; have BK297 := Aside0.mk (hbox); have GW297 := zns hg HB.out; have GE297 := zns hg HB.out; replace HB := Aside0.mk (below_step (zBy HB.out GE296.out) hb); have NB296_297 := znl hg BK296.out; have NB297_296 := zng hg BK296.out; replace BK296 := zbl BK296.out hb; clear hb hbox hg) | ((with_reducible refine gate_dst (N := 9) rfl ?_); refine box_event ?hg (N := 9) ?hd (cs := #[.slice A0 l0.length c0, .int .i64 0, .int .u64 0]) (t := 51) ?hr ?_; (case hd => rfl); (case hg => rfl); (case hr => exact zsx); intro gb298 hg w7 hbox hb; have BK298 := Aside0.mk (hbox); have GW298 := zns hg HB.out; have GE298 := zns hg HB.out; replace HB := Aside0.mk (below_step (zBz HB.out GE296.out GE297.out) hb); have NB296_298 := znl hg BK296.out; have NB298_296 := zng hg BK296.out; replace BK296 := zbl BK296.out hb; have NB297_298 := znl hg BK297.out; have NB298_297 := zng hg BK297.out; replace BK297 := zbl BK297.out hb; clear hb hbox hg) | ((with_reducible refine gate_callee (f := 31) rfl ?_); refine goesL_ (some 11) rfl rfl Try.func31 (by kernel_rfl) rfl #[.pointer (some ⟨gb298, 0, none⟩)] rfl zlx ?_; (with_reducible refine (spec_l1Cur_anyField.calls k gb298 l0 0 0 t299 t300 t301 t304 t305 w _ ?side1 ?side2 A2.out).mono ?_); (case side1 => first | exact ⟨_, _, (zbx BK298.out), GE298.out, HR0.out⟩); (case side2 => exact zhB HB.out); rintro e w8 ⟨v302, rfl, ho0, hi, hb, hk⟩; refine ⟨_, rfl, ?_⟩; replace BK296 := Aside0.mk (KeepBut.blk hk (g' := gb296) (o := .cells #[.int .i64 0, .int .i64 0, .slice none 0 0] 26 (0, 0)) (zbx BK296.out) NB296_298.out (by simp)); replace BK297 := Aside0.mk (KeepBut.blk hk (g' := gb297) (o := .cells #[.int .i64 0, .int .i64 0, .slice none 0 0] 26 (0, 0)) (zbx BK297.out) NB297_298.out (by simp)); have HO303 := Aside0.mk (Kd.Q_lower ho0 (below_size (zhB HB.out))); replace HB := Aside0.mk (hb); have HI298 := Aside0.mk (hi); (try clear hb); (try clear hk); (try clear hi); (try clear ho0)) | ((with_reducible refine gate_dst (N := 6) rfl ?_); refine box_event ?hg (N := 6) ?hd (cs := #[.int .i64 0, .int .i64 0, .slice none 0 0]) (t := 26) ?hr ?_; (case hd => rfl); (case hg => rfl); (case hr => exact zsx); intro gb306 hg w9 hbox hb; replace HO303 := Aside0.mk (Kd.Q_below (by refine zDQ ?_; exact HO303.out) hb); have BK306 := Aside0.mk (hbox); have GW306 := zns hg HB.out; have GE306 := zns hg HB.out; replace HB := Aside0.mk (below_step (zhB HB.out) hb); have NB296_306 := znl hg BK296.out; have NB306_296 := zng hg BK296.out; replace BK296 := zbl BK296.out hb; have NB297_306 := znl hg BK297.out; have NB306_297 := zng hg BK297.out; replace BK297 := zbl BK297.out hb; have NB298_306 := Aside0.mk ((by rw [hg]; exact Nat.ne_of_lt (IsS51.lt (show IsS51 w _ gb298 l0 t304 t305 from zhI51 HI298.out)) : gb298 ≠ gb306)); have NB306_298 := Aside0.mk ((by rw [hg]; exact Nat.ne_of_gt (IsS51.lt (show IsS51 w _ gb298 l0 t304 t305 from zhI51 HI298.out)) : gb306 ≠ gb298)); replace HI298 := Aside0.mk (IsS51.below (zhI51 HI298.out) hb); clear hb hbox hg; have hnb10 := NB306_296.out; have hnc10 := NB296_306.out; have hnb11 := NB306_297.out; have hnc11 := NB297_306.out; have hnb12 := NB306_298.out; have hnc12 := NB298_306.out; have hcz13_0 : w9.cell? ⟨gb306, 0, none⟩ = some (.int .i64 0) := (blk_cell BK306.out 0).trans rfl; have hcz13_1 : w9.cell? ⟨gb306, 1, none⟩ = some (.int .i64 0) := (blk_cell BK306.out 1).trans rfl; have hcz13_2 : w9.cell? ⟨gb306, 2, none⟩ = some (.slice none 0 0) := (blk_cell BK306.out 2).trans rfl; have hfz13_0 := blk_frozen BK306.out 0; have hfz13_1 := blk_frozen BK306.out 1; have hfz13_2 := blk_frozen BK306.out 2; obtain ⟨Ao14, co14, eo14, _⟩ := Kd.Q_slice HO303.out; subst eo14))
  have n0_ : Aside0 (Kd.Q (Kd.int .i64) 3 (((w9.setCell ⟨gb306, 0, none⟩ (.int .i64 t299)).setCell ⟨gb306, 1, none⟩ (.int .i64 t300)).setCell ⟨gb306, 2, none⟩ (.slice Ao14 t301.length co14)) w.heap.size (fun _ => True) (.slice Ao14 t301.length co14) t301) := ⟨by refine zDQ ?_; exact Kd.Q_mono (Kd.Q_far (p := ⟨gb306, 2, none⟩) (Kd.Q_far (p := ⟨gb306, 1, none⟩) (Kd.Q_far (p := ⟨gb306, 0, none⟩) (Kd.Q_types HO303.out BK306.out (by decide)) (fun _ hk => hk.2) (.int .i64 t299)) (fun _ hk => hk.2) (.int .i64 t300)) (fun _ hk => hk.2) (.slice Ao14 t301.length co14)) (fun _ hk => trivial)⟩
  have n1_ : Aside0 ((((w9.setCell ⟨gb306, 0, none⟩ (.int .i64 t299)).setCell ⟨gb306, 1, none⟩ (.int .i64 t300)).setCell ⟨gb306, 2, none⟩ (.slice Ao14 t301.length co14)).heap[gb296]? = some (.cells #[.int .i64 0, .int .i64 0, .slice none 0 0] 26 (0, 0))) := ⟨zbp BK296.out⟩
  have n2_ : Aside0 ((((w9.setCell ⟨gb306, 0, none⟩ (.int .i64 t299)).setCell ⟨gb306, 1, none⟩ (.int .i64 t300)).setCell ⟨gb306, 2, none⟩ (.slice Ao14 t301.length co14)).heap[gb297]? = some (.cells #[.int .i64 0, .int .i64 0, .slice none 0 0] 26 (0, 0))) := ⟨zbp BK297.out⟩
  have n3_ : Aside0 ((((w9.setCell ⟨gb306, 0, none⟩ (.int .i64 t299)).setCell ⟨gb306, 1, none⟩ (.int .i64 t300)).setCell ⟨gb306, 2, none⟩ (.slice Ao14 t301.length co14)).heap[gb306]? = some (.cells #[.int .i64 t299, .int .i64 t300, .slice Ao14 t301.length co14] 26 (0, 0))) := ⟨zbp BK306.out⟩
  have n4_ : Aside0 (IsS51 w (((w9.setCell ⟨gb306, 0, none⟩ (.int .i64 t299)).setCell ⟨gb306, 1, none⟩ (.int .i64 t300)).setCell ⟨gb306, 2, none⟩ (.slice Ao14 t301.length co14)) gb298 l0 t304 t305) := ⟨zhI51 HI298.out⟩
  have n5_ : Aside0 (Below w.heap.size w (((w9.setCell ⟨gb306, 0, none⟩ (.int .i64 t299)).setCell ⟨gb306, 1, none⟩ (.int .i64 t300)).setCell ⟨gb306, 2, none⟩ (.slice Ao14 t301.length co14))) := ⟨zhB HB.out⟩
  (try clear HO303)
  (try clear BK296)
  (try clear BK297)
  (try clear BK306)
  (try clear HI298)
  (try clear HB)
  generalize (((w9.setCell ⟨gb306, 0, none⟩ (.int .i64 t299)).setCell ⟨gb306, 1, none⟩ (.int .i64 t300)).setCell ⟨gb306, 2, none⟩ (.slice Ao14 t301.length co14)) = w15 at n0_ n1_ n2_ n3_ n4_ n5_ ⊢
  have HO303 := n0_
  have BK296 := n1_
  have BK297 := n2_
  have BK306 := n3_
  have HI298 := n4_
  have HB := n5_
  clear n0_ n1_ n2_ n3_ n4_ n5_
  replace HO303 := Aside0.mk (Kd.Q_drew HO303.out)
  replace BK296 := Aside0.mk (blk_drew BK296.out)
  replace BK297 := Aside0.mk (blk_drew BK297.out)
  replace BK306 := Aside0.mk (blk_drew BK306.out)
  replace HI298 := Aside0.mk (IsS51.drew HI298.out)
  replace HB := Aside0.mk (below_drew1 HB.out)
  refine start_ (n := 10) (S := fun w' => True) (ds := []) #[F,F,F,F,F,F,F,F,F,F] (by kernel_rfl) rfl rfl trivial (fun hHeld => ?_); refine with_tabW spec_DrawCountTable.tab3 spec_DrawCountTable.bits3 (fun HT_ HW_ => ?_)
  generalize w15.drew = w16 at HO303 BK296 BK297 BK306 HI298 HB hHeld ⊢
  refine pure_ (i := 1) (N := some 13) (v := ?_) (a' := ?_) #[F,T,F,F,F,F,F,F,F,F] rfl rfl (any_of HT_.out (by kernel_rfl)) (fun _ _ _ h => h) (Or.inl ⟨by rfl, ?_⟩) ?_ ?_
  rotate_left
  ·exact zwx
  rotate_left
  ·exact zpx
  refine pure_ (i := 4) (N := some 16) (v := ?_) (a' := ?_) #[F,T,F,F,T,F,F,F,F,F] rfl rfl (any_of HT_.out (by kernel_rfl)) (fun _ _ _ h => h) (Or.inl ⟨by rfl, ?_⟩) ?_ ?_
  rotate_left
  ·exact zwx
  rotate_left
  ·exact zpx
  refine inv_at [0, 2, 3, 5, 6, 7, 8, 9] (fun a0_ b a w' => ∃ (v310 : Value) (v315 : Value) (m3_ : Value), a = putSel a0_ b [(0, 12, .agg #[.int .i64 t299, .int .i64 t300, .slice Ao14 t301.length co14]), (2, 14, .agg #[.int .i64 t299, .int .i64 t300, .slice Ao14 t301.length co14]), (3, 15, m3_), (5, 17, v315), (6, 18, .int .i64 t317), (9, 4, .int .i64 t317)] ∧ (Kd.Q (Kd.int .i64) 3 w' w.heap.size (fun _ => True) (.slice Ao14 t301.length co14) t301) ∧ (b 7 = false → w'.heap[gb296]? = some (.cells #[.int .i64 0, .int .i64 0, .slice none 0 0] 26 (0, 0))) ∧ (b 8 = false → w'.heap[gb297]? = some (.cells #[.int .i64 0, .int .i64 0, .slice none 0 0] 26 (0, 0))) ∧ (w'.heap[gb306]? = some (.cells #[.int .i64 t299, .int .i64 t300, .slice Ao14 t301.length co14] 26 (0, 0))) ∧ (b 3 = false → IsS51 w w' gb298 l0 t304 t305) ∧ (Below w.heap.size w w') ∧ (b 3 = true → Kd.R (Kd.int .i64) 3 w' w.heap.size (fun k_ => some k_ ≠ (.slice Ao14 t301.length co14 : Value).ownBlock) v310 t309) ∧ (b 3 = true → b 6 = false → IsS51 w w' gb298 l0 t312 t313) ∧ (b 5 = true → Kd.R (Kd.int .i64) 3 w' w.heap.size (fun k_ => some k_ ≠ (.slice Ao14 t301.length co14 : Value).ownBlock) v315 y314) ∧ (b 6 = true → IsS51 w w' gb298 l0 t318 t319) ∧ (b 7 = true → w'.heap[gb296]? = some (.cells #[.int .i64 t299, .int .i64 t300, .slice Ao14 t301.length co14] 26 (0, 0))) ∧ (b 8 = true → w'.heap[gb297]? = some (.cells #[.int .i64 t307, .int .i64 t308, v310] 26 (0, 0))) ∧ (b 3 = true → (m3_ : Value) = .agg #[.int .i64 t307, .int .i64 t308, v310])) HT_.out HW_.out (by kernel_rfl) (by kernel_rfl) ?_ ?_ ?_
  ·exact ⟨.bool false, .bool false, .bool false, by simp only [putSel, Bool.false_eq_true, if_false], HO303.out, fun _ => BK296.out, fun _ => BK297.out, BK306.out, fun _ => HI298.out, HB.out, fun h_ => absurd h_ (by decide), fun h_ => absurd h_ (by decide), fun h_ => absurd h_ (by decide), fun h_ => absurd h_ (by decide), fun h_ => absurd h_ (by decide), fun h_ => absurd h_ (by decide), fun h_ => absurd h_ (by decide)⟩
  ·skip
   clear BK296 BK297 BK306 HB HI298 HO303
   refine steps_cons ?_ ?_
   ·rintro b a w' ⟨v310, v315, m3_, ha, Q_HO303, Q_BK296, Q_BK297, Q_BK306, Q_HI298, Q_HB, Q_HO311, Q_HI298_e3, Q_HO316, Q_HI298_e6, Q_BK296_e7, Q_BK297_e8, Q_X3_⟩ hb_ hon hoff
    refine ⟨_, rfl, fun K hK => ?_⟩
    have e6 : a.tmps[6]? = some (.pointer (some ⟨gb306, 0, none⟩)) := by rw [ha]; exact (putSel_off rfl).trans rfl
    replace ha := Aside0.mk ha
    have HO303 := Aside0.mk Q_HO303
    have BK296 := Aside0.mk (Q_BK296 (hoff 7 (by kernel_rfl)))
    have BK297 := Aside0.mk (Q_BK297 (hoff 8 (by kernel_rfl)))
    have BK306 := Aside0.mk Q_BK306
    have HB := Aside0.mk Q_HB
    have hc0_ : w'.cell? ⟨gb306, 0, none⟩ = some (.int .i64 t299) := (blk_cell BK306.out 0).trans rfl
    have hc1_ : w'.cell? ⟨gb306, 1, none⟩ = some (.int .i64 t300) := (blk_cell BK306.out 1).trans rfl
    have hc2_ : w'.cell? ⟨gb306, 2, none⟩ = some (.slice Ao14 t301.length co14) := (blk_cell BK306.out 2).trans rfl
    refine value_ (w1 := w') (v := .agg #[.int .i64 t299, .int .i64 t300, .slice Ao14 t301.length co14]) (by rfl) rfl ?_ ?_
    ·go_simp
     (try simp only [i64_w])
     try rfl
    refine hK.out _ _ ⟨v310, v315, m3_, (by rw [ha.out]; exact putSel_upk 0 hb_ rfl rfl rfl), Q_HO303, Q_BK296, Q_BK297, Q_BK306, Q_HI298, Q_HB, Q_HO311, Q_HI298_e3, Q_HO316, Q_HI298_e6, fun h0_ => absurd ((hoff 7 (by kernel_rfl)).symm.trans h0_) (by decide), fun h0_ => absurd ((hoff 8 (by kernel_rfl)).symm.trans h0_) (by decide), Q_X3_⟩
   refine steps_cons ?_ ?_
   ·rintro b a w' ⟨v310, v315, m3_, ha, Q_HO303, Q_BK296, Q_BK297, Q_BK306, Q_HI298, Q_HB, Q_HO311, Q_HI298_e3, Q_HO316, Q_HI298_e6, Q_BK296_e7, Q_BK297_e8, Q_X3_⟩ hb_ hon hoff
    refine ⟨_, rfl, fun K hK => ?_⟩
    have e6 : a.tmps[6]? = some (.pointer (some ⟨gb306, 0, none⟩)) := by rw [ha]; exact (putSel_off rfl).trans rfl
    replace ha := Aside0.mk ha
    have HO303 := Aside0.mk Q_HO303
    have BK296 := Aside0.mk (Q_BK296 (hoff 7 (by kernel_rfl)))
    have BK297 := Aside0.mk (Q_BK297 (hoff 8 (by kernel_rfl)))
    have BK306 := Aside0.mk Q_BK306
    have HI298 := Aside0.mk (Q_HI298 (hoff 3 (by kernel_rfl)))
    have HB := Aside0.mk Q_HB
    have hc0_ : w'.cell? ⟨gb306, 0, none⟩ = some (.int .i64 t299) := (blk_cell BK306.out 0).trans rfl
    have hc1_ : w'.cell? ⟨gb306, 1, none⟩ = some (.int .i64 t300) := (blk_cell BK306.out 1).trans rfl
    have hc2_ : w'.cell? ⟨gb306, 2, none⟩ = some (.slice Ao14 t301.length co14) := (blk_cell BK306.out 2).trans rfl
    refine value_ (w1 := w') (v := .agg #[.int .i64 t299, .int .i64 t300, .slice Ao14 t301.length co14]) (by rfl) rfl ?_ ?_
    ·go_simp
     (try simp only [i64_w])
     try rfl
    refine hK.out _ _ ⟨v310, v315, m3_, (by rw [ha.out]; exact putSel_upk 1 hb_ rfl rfl rfl), Q_HO303, Q_BK296, Q_BK297, Q_BK306, Q_HI298, Q_HB, fun h0_ => absurd ((hoff 3 (by kernel_rfl)).symm.trans h0_) (by decide), fun h0_ _ => absurd ((hoff 3 (by kernel_rfl)).symm.trans h0_) (by decide), Q_HO316, fun h0_ => absurd ((hoff 6 (by kernel_rfl)).symm.trans h0_) (by decide), fun h0_ => absurd ((hoff 7 (by kernel_rfl)).symm.trans h0_) (by decide), fun h0_ => absurd ((hoff 8 (by kernel_rfl)).symm.trans h0_) (by decide), fun h0_ => absurd ((hoff 3 (by kernel_rfl)).symm.trans h0_) (by decide)⟩
   refine steps_cons ?_ ?_
   ·rintro b a w' ⟨v310, v315, m3_, ha, Q_HO303, Q_BK296, Q_BK297, Q_BK306, Q_HI298, Q_HB, Q_HO311, Q_HI298_e3, Q_HO316, Q_HI298_e6, Q_BK296_e7, Q_BK297_e8, Q_X3_⟩ hb_ hon hoff
    refine ⟨_, rfl, fun K hK => ?_⟩
    have e13 : a.tmps[13]? = some (.pointer (some ⟨gb298, 0, none⟩)) := by rw [ha]; exact (putSel_off rfl).trans rfl
    have e14 : a.tmps[14]? = some (.agg #[.int .i64 t299, .int .i64 t300, .slice Ao14 t301.length co14]) := by rw [ha]; exact putSel_on (e := (2, 14, .agg #[.int .i64 t299, .int .i64 t300, .slice Ao14 t301.length co14])) 1 rfl rfl (hon 2 (by kernel_rfl)) rfl
    replace ha := Aside0.mk ha
    have HO303 := Aside0.mk Q_HO303
    have BK296 := Aside0.mk (Q_BK296 (hoff 7 (by kernel_rfl)))
    have BK297 := Aside0.mk (Q_BK297 (hoff 8 (by kernel_rfl)))
    have BK306 := Aside0.mk Q_BK306
    have HI298 := Aside0.mk (Q_HI298 hb_)
    have HB := Aside0.mk Q_HB
    refine goes_ Try.func32 (by kernel_rfl) rfl #[.pointer (some ⟨gb298, 0, none⟩), .agg #[.int .i64 t299, .int .i64 t300, .slice Ao14 t301.length co14]] (by rfl) rfl rfl (by first | (simp only [List.map_toArray, List.map_cons, List.map_nil, Act.eval, Array.getD_eq_getD_getElem?, Option.getD_some, e13, e14]; done) | (simp only [List.map_toArray, List.map_cons, List.map_nil, Act.eval, Array.getD_eq_getD_getElem?, Option.getD_some, e13, e14]; rfl)) ?_
    with_reducible refine (spec_l1Cur_like.calls k gb298 l0 t304 t305 t299 t300 _ _ t301 t307 t308 t309 t312 t313 w _ ?side1 ?side2 ?side3 ?side4 ?side5 A3.out).mono ?_
    (case side1 => exact zhI51 HI298.out)
    (case side2 => exact zhB HB.out)
    (case side3 => exact zCx (Kd.Q_reads' HO303.out).2.2)
    (case side4 => exact (Kd.Q_reads' HO303.out).2.1)
    (case side5 => exact far_slice (IsS51.own_neQ HI298.out HO303.out (by decide)))
    rintro e w17 ⟨v310, rfl, ho0, hi, hb, hk⟩
    refine ⟨_, rfl, ?_⟩
    have n0_ := Aside0.mk (KeepBut.blk hk (g' := gb296) (o := .cells #[.int .i64 0, .int .i64 0, .slice none 0 0] 26 (0, 0)) (zbx BK296.out) NB296_298.out (by simp))
    have n1_ := Aside0.mk (KeepBut.blk hk (g' := gb297) (o := .cells #[.int .i64 0, .int .i64 0, .slice none 0 0] 26 (0, 0)) (zbx BK297.out) NB297_298.out (by simp))
    have n2_ := Aside0.mk (Kd.Q_mono (Kd.Q_told (Kd.Q_oldK (IsS51.apartQ (show IsS51 w _ gb298 l0 t304 t305 from zhI51 HI298.out) (by refine zDQ ?_; exact HO303.out) (by decide)) hk) (Kd.R_base ho0)) (fun _ h_ => h_.1))
    have n3_ := Aside0.mk (KeepBut.blk hk (g' := gb306) (o := .cells #[.int .i64 t299, .int .i64 t300, .slice Ao14 t301.length co14] 26 (0, 0)) (zbx BK306.out) NB306_298.out (by simp))
    have n4_ := Aside0.mk (Kd.R_lower (Kd.R_new' ho0 (Kd.Q_lt (by refine zDQ ?_; exact HO303.out))) (below_size (zhB HB.out)))
    have n5_ := Aside0.mk (hb)
    have n6_ := Aside0.mk (hi)
    have z_HO316 := fun (h0_ : b 5 = true) => (show Kd.R (Kd.int .i64) 3 w17 w.heap.size (fun k_ => some k_ ≠ (.slice Ao14 t301.length co14 : Value).ownBlock) v315 y314 from by first | exact (Kd.R_mono (Kd.R_told (Kd.R_oldK (IsS51.apart (show IsS51 w _ gb298 l0 t304 t305 from zhI51 HI298.out) (by (with_reducible repeat (first | apply Kd.R_alloc | apply Kd.R_drewN | apply Kd.R_drew)); exact (Q_HO316 h0_)) (by decide)) hk) (Kd.R_base ho0)) (fun _ h_ => h_.1)) | exact Kd.R_mono (Kd.R_mono (Kd.R_told (Kd.R_oldK (IsS51.apart (show IsS51 w _ gb298 l0 t304 t305 from zhI51 HI298.out) (by (with_reducible repeat (first | apply Kd.R_alloc | apply Kd.R_drewN | apply Kd.R_drew)); exact (Q_HO316 h0_)) (by decide)) hk) (Kd.R_base ho0)) (fun _ h_ => h_.1)) (fun _ h_ => by first | trivial | exact h_ | exact h_.1))
    clear BK296
    clear BK297
    clear HO303
    clear BK306
    clear HB
    clear HI298
    have BK296 := n0_
    have BK297 := n1_
    have HO303 := n2_
    have BK306 := n3_
    have HO311 := n4_
    have HB := n5_
    have HI298 := n6_
    clear n0_ n1_ n2_ n3_ n4_ n5_ n6_
    (try clear hb)
    (try clear hb2)
    (try clear hk)
    (try clear hi)
    (try clear ho0)
    refine hK.out _ _ ⟨v310, v315, (.agg #[.int .i64 t307, .int .i64 t308, v310]), (by rw [ha.out]; exact putSel_upk 2 hb_ rfl rfl rfl), (by refine zDQ ?_; exact Kd.Q_mono HO303.out (fun _ hk => by first | exact hk.2 | trivial | exact hk)), fun _ => (zbx BK296.out), fun _ => (zbx BK297.out), (zbx BK306.out), fun h0_ => absurd ((up_self b 3).symm.trans h0_) (by decide), (zhB HB.out), fun _ => (by refine zDR ?_; exact Kd.R_mono HO311.out (fun _ hk => by first | exact hk.2 | trivial | exact hk)), fun _ _ => (zhI51 HI298.out), z_HO316, fun h0_ => absurd ((hoff 6 (by kernel_rfl)).symm.trans h0_) (by decide), fun h0_ => absurd ((hoff 7 (by kernel_rfl)).symm.trans h0_) (by decide), fun h0_ => absurd ((hoff 8 (by kernel_rfl)).symm.trans h0_) (by decide), fun _ => rfl⟩
   refine steps_cons ?_ ?_
   ·rintro b a w' ⟨v310, v315, m3_, ha, Q_HO303, Q_BK296, Q_BK297, Q_BK306, Q_HI298, Q_HB, Q_HO311, Q_HI298_e3, Q_HO316, Q_HI298_e6, Q_BK296_e7, Q_BK297_e8, Q_X3_⟩ hb_ hon hoff
    refine ⟨_, rfl, fun K hK => ?_⟩
    replace ha := Aside0.mk ha
    have HO303 := Aside0.mk Q_HO303
    have BK296 := Aside0.mk (Q_BK296 (hoff 7 (by kernel_rfl)))
    have BK297 := Aside0.mk (Q_BK297 (hoff 8 (by kernel_rfl)))
    have BK306 := Aside0.mk Q_BK306
    have HB := Aside0.mk Q_HB
    refine Kd.R_lit_step (Kd.int .i64) _ 3 ?hg (N := 17) ?hd (xs := ([5, 15, 25, 110, (-30), 0] : List Int)) (inner := [.int .i64 5, .int .i64 15, .int .i64 25, .int .i64 110, .int .i64 (-30), .int .i64 0]) (ok := fun _ => True) (okp := fun _ => True) ?hr ?hp (fun _ hk => hk) trivial (Below.refl _ _) (Nat.le_refl _) (by simp) ?_; (case hd => rfl); (case hg => rfl); (case hr => exact zsx); (case hp => exact (Reps.one (show Kd.M (Kd.int .i64) _ _ _ 5 [.int .i64 5] from rfl) (Reps.one (show Kd.M (Kd.int .i64) _ _ _ 15 [.int .i64 15] from rfl) (Reps.one (show Kd.M (Kd.int .i64) _ _ _ 25 [.int .i64 25] from rfl) (Reps.one (show Kd.M (Kd.int .i64) _ _ _ 110 [.int .i64 110] from rfl) (Reps.one (show Kd.M (Kd.int .i64) _ _ _ (-30) [.int .i64 (-30)] from rfl) (Reps.one (show Kd.M (Kd.int .i64) _ _ _ 0 [.int .i64 0] from rfl) (Reps.none _ _))))))))
    intro v315 w17 ho18 hb hg_ hnew_
    clear hg_ hnew_
    (first | rw [← Ny314.out] at ho18 | (simp only [Int.reduceToNat] at ho18; rw [← Ny314.out] at ho18))
    have n0_ := Aside0.mk (Kd.Q_elder' (by refine zDQ ?_; exact HO303.out) (Kd.R_base ho18) hb)
    have n1_ := Aside0.mk (Kd.R_lower (Kd.R_new' ho18 (Kd.Q_lt (by refine zDQ ?_; exact HO303.out))) (below_size (zhB HB.out)))
    have n2_ := zbl BK296.out hb
    have n3_ := zbl BK297.out hb
    have n5_ := zbl BK306.out hb
    have n6_ := Aside0.mk (below_step (zhB HB.out) hb)
    have z_HI298 := fun (h0_ : b 3 = false) => (show IsS51 w w17 gb298 l0 t304 t305 from by first | exact (IsS51.below (by repeat (first | (with_reducible first | exact (Q_HI298 h0_) | apply IsS51.alloc | apply IsS51.drewN | apply IsS51.drew | apply IsS51.set_1 | apply IsS51.set_2 | refine IsS51.far ?_ NB298_296.out _ | refine IsS51.far ?_ NB298_297.out _ | refine IsS51.far ?_ NB298_306.out _) | exact (Q_HI298 h0_))) hb))
    have z_HO311 := fun (h0_ : b 3 = true) => (show Kd.R (Kd.int .i64) 3 w17 w.heap.size (fun k_ => some k_ ≠ (.slice Ao14 t301.length co14 : Value).ownBlock) v310 t309 from by first | exact (Kd.R_elder' (by (with_reducible repeat (first | apply Kd.R_alloc | apply Kd.R_drewN | apply Kd.R_drew)); exact (Q_HO311 h0_)) (Kd.R_base ho18) hb) | exact Kd.R_mono (Kd.R_elder' (by (with_reducible repeat (first | apply Kd.R_alloc | apply Kd.R_drewN | apply Kd.R_drew)); exact (Q_HO311 h0_)) (Kd.R_base ho18) hb) (fun _ h_ => by first | trivial | exact h_ | exact h_.1))
    have z_HI298_e3 := fun (h0_ : b 3 = true) (h1_ : b 6 = false) => (show IsS51 w w17 gb298 l0 t312 t313 from by first | exact (IsS51.below (by repeat (first | (with_reducible first | exact (Q_HI298_e3 h0_ h1_) | apply IsS51.alloc | apply IsS51.drewN | apply IsS51.drew | apply IsS51.set_1 | apply IsS51.set_2 | refine IsS51.far ?_ NB298_296.out _ | refine IsS51.far ?_ NB298_297.out _ | refine IsS51.far ?_ NB298_306.out _) | exact (Q_HI298_e3 h0_ h1_))) hb))
    clear HO303
    clear BK296
    clear BK297
    clear BK306
    clear HB
    have HO303 := n0_
    have HO316 := n1_
    have BK296 := n2_
    have BK297 := n3_
    have BK306 := n5_
    have HB := n6_
    clear n0_ n1_ n2_ n3_ n5_ n6_
    clear hb ho18
    refine hK.out _ _ ⟨v310, v315, m3_, (by rw [ha.out]; exact putSel_upk 3 hb_ rfl rfl rfl), (by refine zDQ ?_; exact Kd.Q_mono HO303.out (fun _ hk => by first | exact hk.2 | trivial | exact hk)), fun _ => (zbx BK296.out), fun _ => (zbx BK297.out), (zbx BK306.out), z_HI298, (zhB HB.out), z_HO311, z_HI298_e3, fun _ => (by refine zDR ?_; exact Kd.R_mono HO316.out (fun _ hk => by first | exact hk.2 | trivial | exact hk)), fun h0_ => absurd ((hoff 6 (by kernel_rfl)).symm.trans h0_) (by decide), fun h0_ => absurd ((hoff 7 (by kernel_rfl)).symm.trans h0_) (by decide), fun h0_ => absurd ((hoff 8 (by kernel_rfl)).symm.trans h0_) (by decide), Q_X3_⟩
   refine steps_cons ?_ ?_
   ·rintro b a w' ⟨v310, v315, m3_, ha, Q_HO303, Q_BK296, Q_BK297, Q_BK306, Q_HI298, Q_HB, Q_HO311, Q_HI298_e3, Q_HO316, Q_HI298_e6, Q_BK296_e7, Q_BK297_e8, Q_X3_⟩ hb_ hon hoff
    refine ⟨_, rfl, fun K hK => ?_⟩
    have e16 : a.tmps[16]? = some (.pointer (some ⟨gb298, 0, none⟩)) := by rw [ha]; exact (putSel_off rfl).trans rfl
    have e17 : a.tmps[17]? = some (v315) := by rw [ha]; exact putSel_on (e := (5, 17, v315)) 3 rfl rfl (hon 5 (by kernel_rfl)) rfl
    replace ha := Aside0.mk ha
    have HO303 := Aside0.mk Q_HO303
    have BK296 := Aside0.mk (Q_BK296 (hoff 7 (by kernel_rfl)))
    have BK297 := Aside0.mk (Q_BK297 (hoff 8 (by kernel_rfl)))
    have BK306 := Aside0.mk Q_BK306
    have HB := Aside0.mk Q_HB
    have HO311 := Aside0.mk (Q_HO311 (hon 3 (by kernel_rfl)))
    have HI298 := Aside0.mk (Q_HI298_e3 (hon 3 (by kernel_rfl)) hb_)
    have HO316 := Aside0.mk (Q_HO316 (hon 5 (by kernel_rfl)))
    obtain ⟨Ao21, co21, eo21⟩ := Kd.R_slice HO316.out
    (first | subst eo21 | (injection eo21 with f1_ f2_ f3_; have f4_ := f1_.symm; have f5_ := f3_.symm; clear f1_ f2_ f3_; subst f4_; subst f5_))
    refine goes_ Try.func33 (by kernel_rfl) rfl #[.pointer (some ⟨gb298, 0, none⟩), .slice Ao21 y314.length co21] (by rfl) rfl rfl (by first | (simp only [List.map_toArray, List.map_cons, List.map_nil, Act.eval, Array.getD_eq_getD_getElem?, Option.getD_some, e16, e17]; done) | (simp only [List.map_toArray, List.map_cons, List.map_nil, Act.eval, Array.getD_eq_getD_getElem?, Option.getD_some, e16, e17]; rfl)) ?_
    with_reducible refine (spec_l1Cur_among.calls gb298 l0 t312 t313 _ _ y314 t317 t318 t319 w _ ?side1 ?side2 ?side3 ?side4 ?side5 A4.out).mono ?_
    (case side1 => exact zhI51 HI298.out)
    (case side2 => exact zhB HB.out)
    (case side3 => exact zCx (Kd.R_reads' HO316.out).2.2)
    (case side4 => exact (Kd.R_reads' HO316.out).2.1)
    (case side5 => exact far_slice (IsS51.own_ne HI298.out HO316.out (by decide)))
    rintro e w22 ⟨rfl, hi, hb, hk⟩
    refine ⟨_, rfl, ?_⟩
    replace BK296 := Aside0.mk (KeepBut.blk hk (g' := gb296) (o := .cells #[.int .i64 0, .int .i64 0, .slice none 0 0] 26 (0, 0)) (zbx BK296.out) NB296_298.out (by simp))
    replace BK297 := Aside0.mk (KeepBut.blk hk (g' := gb297) (o := .cells #[.int .i64 0, .int .i64 0, .slice none 0 0] 26 (0, 0)) (zbx BK297.out) NB297_298.out (by simp))
    replace HO303 := Aside0.mk (Kd.Q_mono (Kd.Q_keep (IsS51.apartQ (show IsS51 w _ gb298 l0 t312 t313 from zhI51 HI298.out) (by refine zDQ ?_; exact HO303.out) (by decide)) hk (fun _ h => h.2)) (fun _ h => h.1))
    replace BK306 := Aside0.mk (KeepBut.blk hk (g' := gb306) (o := .cells #[.int .i64 t299, .int .i64 t300, .slice Ao14 t301.length co14] 26 (0, 0)) (zbx BK306.out) NB306_298.out (by simp))
    replace HO311 := Aside0.mk (Kd.R_mono (Kd.R_keep (IsS51.apart (show IsS51 w _ gb298 l0 t312 t313 from zhI51 HI298.out) (zRx HO311.out) (by decide)) hk (fun _ h => h.2)) (fun _ h => h.1))
    replace HO316 := Aside0.mk (Kd.R_mono (Kd.R_keep (IsS51.apart (show IsS51 w _ gb298 l0 t312 t313 from zhI51 HI298.out) (zRx HO316.out) (by decide)) hk (fun _ h => h.2)) (fun _ h => h.1))
    replace HB := Aside0.mk (hb)
    replace HI298 := Aside0.mk (hi)
    (try clear hb)
    (try clear hb2)
    (try clear hk)
    (try clear hi)
    refine hK.out _ _ ⟨v310, .slice Ao21 y314.length co21, m3_, (by rw [ha.out]; exact putSel_upk 4 hb_ rfl rfl rfl), (by refine zDQ ?_; exact HO303.out), fun _ => (zbx BK296.out), fun _ => (zbx BK297.out), (zbx BK306.out), fun h0_ => absurd ((hon 3 (by kernel_rfl)).symm.trans h0_) (by decide), (zhB HB.out), fun _ => (zRx HO311.out), fun _ h1_ => absurd ((up_self b 6).symm.trans h1_) (by decide), fun _ => (zRx HO316.out), fun _ => (zhI51 HI298.out), fun h0_ => absurd ((hoff 7 (by kernel_rfl)).symm.trans h0_) (by decide), fun h0_ => absurd ((hoff 8 (by kernel_rfl)).symm.trans h0_) (by decide), Q_X3_⟩
   refine steps_cons ?_ ?_
   ·rintro b a w' ⟨v310, v315, m3_, ha, Q_HO303, Q_BK296, Q_BK297, Q_BK306, Q_HI298, Q_HB, Q_HO311, Q_HI298_e3, Q_HO316, Q_HI298_e6, Q_BK296_e7, Q_BK297_e8, Q_X3_⟩ hb_ hon hoff
    refine ⟨_, rfl, fun K hK => ?_⟩
    have e2 : a.tmps[2]? = some (.pointer (some ⟨gb296, 0, none⟩)) := by rw [ha]; exact (putSel_off rfl).trans rfl
    have e12 : a.tmps[12]? = some (.agg #[.int .i64 t299, .int .i64 t300, .slice Ao14 t301.length co14]) := by rw [ha]; exact putSel_on (e := (0, 12, .agg #[.int .i64 t299, .int .i64 t300, .slice Ao14 t301.length co14])) 0 rfl rfl (hon 0 (by kernel_rfl)) rfl
    replace ha := Aside0.mk ha
    have HO303 := Aside0.mk Q_HO303
    have BK296 := Aside0.mk (Q_BK296 hb_)
    have BK297 := Aside0.mk (Q_BK297 (hoff 8 (by kernel_rfl)))
    have BK306 := Aside0.mk Q_BK306
    have HB := Aside0.mk Q_HB
    have HO311 := Aside0.mk (Q_HO311 (hon 3 (by kernel_rfl)))
    have HO316 := Aside0.mk (Q_HO316 (hon 5 (by kernel_rfl)))
    have HI298 := Aside0.mk (Q_HI298_e6 (hon 6 (by kernel_rfl)))
    have hs23 : w'.cell? ⟨gb296, 0, none⟩ = some (.int .i64 0) := (blk_cell BK296.out 0).trans rfl
    have hfs23 := blk_frozen BK296.out 0
    have hns23_1 := NB297_296.out
    have hns23_2 := NB306_296.out
    have hms23_1 := NB296_297.out
    have hms23_2 := NB296_306.out
    have hs24 : w'.cell? ⟨gb296, 1, none⟩ = some (.int .i64 0) := (blk_cell BK296.out 1).trans rfl
    have hfs24 := blk_frozen BK296.out 1
    have hns24_1 := NB297_296.out
    have hns24_2 := NB306_296.out
    have hms24_1 := NB296_297.out
    have hms24_2 := NB296_306.out
    have hs25 : w'.cell? ⟨gb296, 2, none⟩ = some (.slice none 0 0) := (blk_cell BK296.out 2).trans rfl
    have hfs25 := blk_frozen BK296.out 2
    have hns25_1 := NB297_296.out
    have hns25_2 := NB306_296.out
    have hms25_1 := NB296_297.out
    have hms25_2 := NB296_306.out
    refine skip_ (w1 := ?_) (by rfl) rfl ?_ ?_
    rotate_left
    ·go_simp
     rfl
    refine hK.out _ _ ⟨v310, v315, m3_, (by rw [ha.out]; exact putSel_none (v := undef) rfl), (by refine zDQ ?_; exact Kd.Q_mono (Kd.Q_far (p := ⟨gb296, 2, none⟩) (Kd.Q_far (p := ⟨gb296, 1, none⟩) (Kd.Q_far (p := ⟨gb296, 0, none⟩) (Kd.Q_types HO303.out BK296.out (by decide)) (fun _ hk => hk.2) (.int .i64 t299)) (fun _ hk => hk.2) (.int .i64 t300)) (fun _ hk => hk.2) (.slice Ao14 t301.length co14)) (fun _ hk => by first | exact ⟨hk.1.1, hk.1.2⟩ | exact ⟨hk.1.2, hk.1.1⟩ | grind)), fun h0_ => absurd ((up_self b 7).symm.trans h0_) (by decide), fun _ => (zbq BK297.out), (zbq BK306.out), fun h0_ => absurd ((hon 3 (by kernel_rfl)).symm.trans h0_) (by decide), (zhB HB.out), fun _ => (by refine zDR ?_; exact Kd.R_mono (Kd.R_far (p := ⟨gb296, 2, none⟩) (Kd.R_far (p := ⟨gb296, 1, none⟩) (Kd.R_far (p := ⟨gb296, 0, none⟩) (Kd.R_types HO311.out BK296.out (by decide)) (fun _ hk => hk.2) (.int .i64 t299)) (fun _ hk => hk.2) (.int .i64 t300)) (fun _ hk => hk.2) (.slice Ao14 t301.length co14)) (fun _ hk => by first | exact ⟨hk.1.1, hk.1.2⟩ | exact ⟨hk.1.2, hk.1.1⟩ | grind)), fun _ h1_ => absurd ((hon 6 (by kernel_rfl)).symm.trans h1_) (by decide), fun _ => (by refine zDR ?_; exact Kd.R_mono (Kd.R_far (p := ⟨gb296, 2, none⟩) (Kd.R_far (p := ⟨gb296, 1, none⟩) (Kd.R_far (p := ⟨gb296, 0, none⟩) (Kd.R_types HO316.out BK296.out (by decide)) (fun _ hk => hk.2) (.int .i64 t299)) (fun _ hk => hk.2) (.int .i64 t300)) (fun _ hk => hk.2) (.slice Ao14 t301.length co14)) (fun _ hk => by first | exact ⟨hk.1.1, hk.1.2⟩ | exact ⟨hk.1.2, hk.1.1⟩ | grind)), fun _ => (zhI51 HI298.out), fun _ => (zbp BK296.out), fun h0_ => absurd ((hoff 8 (by kernel_rfl)).symm.trans h0_) (by decide), Q_X3_⟩
   refine steps_cons ?_ ?_
   ·rintro b a w' ⟨v310, v315, m3_, ha, Q_HO303, Q_BK296, Q_BK297, Q_BK306, Q_HI298, Q_HB, Q_HO311, Q_HI298_e3, Q_HO316, Q_HI298_e6, Q_BK296_e7, Q_BK297_e8, Q_X3_⟩ hb_ hon hoff
    refine ⟨_, rfl, fun K hK => ?_⟩
    have e3 : a.tmps[3]? = some (.pointer (some ⟨gb297, 0, none⟩)) := by rw [ha]; exact (putSel_off rfl).trans rfl
    have e15 : a.tmps[15]? = some (m3_) := by rw [ha]; exact putSel_on (e := (3, 15, m3_)) 2 rfl rfl (hon 3 (by kernel_rfl)) rfl
    rw [Q_X3_ (hon 3 (by kernel_rfl))] at e15
    replace ha := Aside0.mk ha
    have HO303 := Aside0.mk Q_HO303
    have BK297 := Aside0.mk (Q_BK297 hb_)
    have BK306 := Aside0.mk Q_BK306
    have HB := Aside0.mk Q_HB
    have HO311 := Aside0.mk (Q_HO311 (hon 3 (by kernel_rfl)))
    have HO316 := Aside0.mk (Q_HO316 (hon 5 (by kernel_rfl)))
    have HI298 := Aside0.mk (Q_HI298_e6 (hon 6 (by kernel_rfl)))
    have BK296 := Aside0.mk (Q_BK296_e7 (hon 7 (by kernel_rfl)))
    obtain ⟨Ao28, co28, eo28⟩ := Kd.R_slice HO311.out
    (first | subst eo28 | (injection eo28 with f1_ f2_ f3_; have f4_ := f1_.symm; have f5_ := f3_.symm; clear f1_ f2_ f3_; subst f4_; subst f5_))
    have hs26 : w'.cell? ⟨gb297, 0, none⟩ = some (.int .i64 0) := (blk_cell BK297.out 0).trans rfl
    have hfs26 := blk_frozen BK297.out 0
    have hns26_0 := NB296_297.out
    have hns26_2 := NB306_297.out
    have hms26_0 := NB297_296.out
    have hms26_2 := NB297_306.out
    have hs27 : w'.cell? ⟨gb297, 1, none⟩ = some (.int .i64 0) := (blk_cell BK297.out 1).trans rfl
    have hfs27 := blk_frozen BK297.out 1
    have hns27_0 := NB296_297.out
    have hns27_2 := NB306_297.out
    have hms27_0 := NB297_296.out
    have hms27_2 := NB297_306.out
    have hs29 : w'.cell? ⟨gb297, 2, none⟩ = some (.slice none 0 0) := (blk_cell BK297.out 2).trans rfl
    have hfs29 := blk_frozen BK297.out 2
    have hns29_0 := NB296_297.out
    have hns29_2 := NB306_297.out
    have hms29_0 := NB297_296.out
    have hms29_2 := NB297_306.out
    refine skip_ (w1 := ?_) (by rfl) rfl ?_ ?_
    rotate_left
    ·go_simp
     rfl
    refine hK.out _ _ ⟨.slice Ao28 t309.length co28, v315, m3_, (by rw [ha.out]; exact putSel_none (v := undef) rfl), (by refine zDQ ?_; exact Kd.Q_mono (Kd.Q_far (p := ⟨gb297, 2, none⟩) (Kd.Q_far (p := ⟨gb297, 1, none⟩) (Kd.Q_far (p := ⟨gb297, 0, none⟩) (Kd.Q_types HO303.out BK297.out (by decide)) (fun _ hk => hk.2) (.int .i64 t307)) (fun _ hk => hk.2) (.int .i64 t308)) (fun _ hk => hk.2) (.slice Ao28 t309.length co28)) (fun _ hk => by first | exact ⟨hk.1.1, hk.1.2⟩ | exact ⟨hk.1.2, hk.1.1⟩ | grind)), fun h0_ => absurd ((hon 7 (by kernel_rfl)).symm.trans h0_) (by decide), fun h0_ => absurd ((up_self b 8).symm.trans h0_) (by decide), (zbq BK306.out), fun h0_ => absurd ((hon 3 (by kernel_rfl)).symm.trans h0_) (by decide), (zhB HB.out), fun _ => (by refine zDR ?_; exact Kd.R_mono (Kd.R_far (p := ⟨gb297, 2, none⟩) (Kd.R_far (p := ⟨gb297, 1, none⟩) (Kd.R_far (p := ⟨gb297, 0, none⟩) (Kd.R_types HO311.out BK297.out (by decide)) (fun _ hk => hk.2) (.int .i64 t307)) (fun _ hk => hk.2) (.int .i64 t308)) (fun _ hk => hk.2) (.slice Ao28 t309.length co28)) (fun _ hk => by first | exact ⟨hk.1.1, hk.1.2⟩ | exact ⟨hk.1.2, hk.1.1⟩ | grind)), fun _ h1_ => absurd ((hon 6 (by kernel_rfl)).symm.trans h1_) (by decide), fun _ => (by refine zDR ?_; exact Kd.R_mono (Kd.R_far (p := ⟨gb297, 2, none⟩) (Kd.R_far (p := ⟨gb297, 1, none⟩) (Kd.R_far (p := ⟨gb297, 0, none⟩) (Kd.R_types HO316.out BK297.out (by decide)) (fun _ hk => hk.2) (.int .i64 t307)) (fun _ hk => hk.2) (.int .i64 t308)) (fun _ hk => hk.2) (.slice Ao28 t309.length co28)) (fun _ hk => by first | exact ⟨hk.1.1, hk.1.2⟩ | exact ⟨hk.1.2, hk.1.1⟩ | grind)), fun _ => (zhI51 HI298.out), fun _ => (zbq BK296.out), fun _ => (zbp BK297.out), Q_X3_⟩
   refine steps_cons ?_ ?_
   ·rintro b a w' ⟨v310, v315, m3_, ha, Q_HO303, Q_BK296, Q_BK297, Q_BK306, Q_HI298, Q_HB, Q_HO311, Q_HI298_e3, Q_HO316, Q_HI298_e6, Q_BK296_e7, Q_BK297_e8, Q_X3_⟩ hb_ hon hoff
    refine ⟨_, rfl, fun K hK => ?_⟩
    have e18 : a.tmps[18]? = some (.int .i64 t317) := by rw [ha]; exact putSel_on (e := (6, 18, .int .i64 t317)) 4 rfl rfl (hon 6 (by kernel_rfl)) rfl
    replace ha := Aside0.mk ha
    have HO303 := Aside0.mk Q_HO303
    have BK306 := Aside0.mk Q_BK306
    have HB := Aside0.mk Q_HB
    have HO311 := Aside0.mk (Q_HO311 (hon 3 (by kernel_rfl)))
    have HO316 := Aside0.mk (Q_HO316 (hon 5 (by kernel_rfl)))
    have HI298 := Aside0.mk (Q_HI298_e6 (hon 6 (by kernel_rfl)))
    have BK296 := Aside0.mk (Q_BK296_e7 (hon 7 (by kernel_rfl)))
    have BK297 := Aside0.mk (Q_BK297_e8 (hon 8 (by kernel_rfl)))
    refine value_ (w1 := w') (v := .int .i64 t317) (by rfl) rfl ?_ ?_
    ·go_simp
     (try simp only [i64_w])
     try rfl
    refine hK.out _ _ ⟨v310, v315, m3_, (by rw [ha.out]; exact putSel_upk 5 hb_ rfl rfl rfl), Q_HO303, fun h0_ => absurd ((hon 7 (by kernel_rfl)).symm.trans h0_) (by decide), fun h0_ => absurd ((hon 8 (by kernel_rfl)).symm.trans h0_) (by decide), Q_BK306, fun h0_ => absurd ((hon 3 (by kernel_rfl)).symm.trans h0_) (by decide), Q_HB, Q_HO311, fun _ h1_ => absurd ((hon 6 (by kernel_rfl)).symm.trans h1_) (by decide), Q_HO316, Q_HI298_e6, Q_BK296_e7, Q_BK297_e8, Q_X3_⟩
   exact steps_nil
  rintro b a w29 hall ⟨v310, v315, m3_, ha, Q_HO303, Q_BK296, Q_BK297, Q_BK306, Q_HI298, Q_HB, Q_HO311, Q_HI298_e3, Q_HO316, Q_HI298_e6, Q_BK296_e7, Q_BK297_e8, Q_X3_⟩
  clear BK296 BK297 BK306 HB HI298 HO303
  have hb0_ := hall 0 (by kernel_rfl)
  have hb2_ := hall 2 (by kernel_rfl)
  have hb3_ := hall 3 (by kernel_rfl)
  have hb5_ := hall 5 (by kernel_rfl)
  have hb6_ := hall 6 (by kernel_rfl)
  have hb7_ := hall 7 (by kernel_rfl)
  have hb8_ := hall 8 (by kernel_rfl)
  have hb9_ := hall 9 (by kernel_rfl)
  subst ha
  obtain rfl := Q_X3_ hb3_
  simp only [putSel, hb0_, hb2_, hb3_, hb5_, hb6_, hb7_, hb8_, hb9_, if_true, Act.put, List.setIfInBounds_toArray, List.set_cons_zero, List.set_cons_succ]
  have HO303 := Aside0.mk Q_HO303
  clear Q_HO303
  clear Q_BK296
  clear Q_BK297
  have BK306 := Aside0.mk Q_BK306
  clear Q_BK306
  clear Q_HI298
  have HB := Aside0.mk Q_HB
  clear Q_HB
  have HO311 := Aside0.mk (Q_HO311 hb3_)
  clear Q_HO311
  clear Q_HI298_e3
  have HO316 := Aside0.mk (Q_HO316 hb5_)
  clear Q_HO316
  have HI298 := Aside0.mk (Q_HI298_e6 hb6_)
  clear Q_HI298_e6
  have BK296 := Aside0.mk (Q_BK296_e7 hb7_)
  clear Q_BK296_e7
  have BK297 := Aside0.mk (Q_BK297_e8 hb8_)
  clear Q_BK297_e8
  clear hall hb0_ hb2_ hb3_ hb5_ hb6_ hb7_ hb8_ hb9_
  try go_wp2
  refine bodyPost_ret (results_list (rs := [.cell 2 26, .cell 3 26, .tmp 4]) rfl (by simp) (.cell gb296 26 #[.int .i64 t299, .int .i64 t300, .slice Ao14 t301.length co14] (0, 0) _ rfl (zbx BK296.out) Try.underlying26 rfl (by kernel_rfl) (.cell gb297 26 #[.int .i64 t307, .int .i64 t308, v310] (0, 0) _ rfl (zbx BK297.out) Try.underlying26 rfl (by kernel_rfl) (.tmp .nil)))) rfl ?_
  exact ⟨_, _, by first | rfl | (simp [errW_none, errW_some] <;> rfl) | (simp [*, errW_none, errW_some] <;> rfl), by (with_reducible repeat (first | apply Kd.Q_alloc | apply Kd.Q_drewN | apply Kd.Q_drew)); first | exact Kd.Q_mono HO303.out (fun _ hk => hk.1) | exact ⟨fun k_ hk_ e_ => HO311.out.1 k_ e_.symm hk_.symm, HO303.out.2⟩, by refine zDR ?_; exact Kd.R_mono HO311.out (fun _ hk => by first | exact hk.1 | trivial | exact hk), zhB HB.out⟩

end Go.Proofs.Ytddgbaohepfekaa.XFnLimits
