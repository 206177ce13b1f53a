-- written by wip/tools/xprint.py (a program of this project) out of the translation
import Derived.Test.YtddgbaohepfekaaXFnLimitsx0
import Derived.Test.YtddgbaohepfekaaXFnLimitsx6
namespace Go.Proofs.Ytddgbaohepfekaa.XFnLimits
open Go.RowKit Go.Proofs.YtddgbaohepfekaaW.PrintWords Go.Proofs.YtddgbaohepfekaaW.PrintLast Go.Proofs.YtddgbaohepfekaaW.PrintMore
attribute [local go_sem] max2_int min2_int max_two min_two max_three min_three max_four min_four   -- for this text's walks alone
set_option linter.unusedVariables false
set_option linter.unusedSimpArgs false

/-! ### spec_l1Cur_field: function 51 -/
mutual
def spec_l1Cur_field.l0 : Nat → Int → Int → List Int → Int → Int → Int → Int → List Int → Option (Int × Int × List Int × Int × Int)
 | 0, _, _, _, _, _, _, _, _ => none
 | k + 1, x4, x5, x1000, x1001, x1002, x186000, x186001, x186002 => if x5 < (wrap64 (x186000 * x186001)) then ((spec_l1Cur_pick.f x1000 x1001 x1002 40).bind fun bt192 => ((spec_l1Cur_one.f x1000 bt192.2.1 bt192.2.2 12).bind fun bt195 => (if bt195.1 = true then (if x186002.length < 17592186044416 then (spec_l1Cur_field.l0 k x4 (wrap64 (x5 + 1)) x1000 bt195.2.1 bt195.2.2 x186000 x186001 (x186002 ++ [(-9999)])) else (none)) else (if x186002.length < 17592186044416 then (spec_l1Cur_field.l0 k x4 (wrap64 (x5 + 1)) x1000 bt195.2.1 bt195.2.2 x186000 x186001 (x186002 ++ [wrap64 (x4 + bt192.1)])) else (none))))) else ((spec_l1Cur_one.f x1000 x1001 x1002 10).bind fun bt204 => (if bt204.1 = true then ((spec_l1Cur_pick.f x1000 bt204.2.1 bt204.2.2 (x186002.length : Int)).bind fun bt207 => ((spec_l1Cur_among.f x1000 bt207.2.1 bt207.2.2 (([9000, (-9000), 0] : List Int))).bind fun bt213 => (if 0 ≤ bt207.1 then (if bt207.1 < (x186002.length : Int) then (spec_l1Cur_field.j1 k x1000 bt213.2.1 bt213.2.2 x186000 x186001 (x186002.set (bt207.1 : Int).toNat bt213.1)) else (none)) else (none)))) else (spec_l1Cur_field.j1 k x1000 bt204.2.1 bt204.2.2 x186000 x186001 x186002)))
def spec_l1Cur_field.j1 : Nat → List Int → Int → Int → Int → Int → List Int → Option (Int × Int × List Int × Int × Int)
 | 0, _, _, _, _, _, _ => none
 | k + 1, x1000, x1001, x1002, x186000, x186001, x186002 => (spec_l1Cur_one.f x1000 x1001 x1002 24).bind fun bt217 => (if bt217.1 = true then ((spec_l2Fill.f k 8 8 3).bind fun bt220 => (some (bt220.1, bt220.2.1, bt220.2.2, bt217.2.1, bt217.2.2))) else (some (x186000, x186001, x186002, bt217.2.1, bt217.2.2)))
end
def spec_l1Cur_field.f (k : Nat) (s0_0 : List Int) (s0_1 : Int) (s0_2 : Int) : Option (Int × Int × List Int × Int × Int) := (spec_l1Cur_pick.f s0_0 s0_1 s0_2 5).bind fun bt179 => ((spec_l1Cur_pick.f s0_0 bt179.2.1 bt179.2.2 5).bind fun bt182 => ((spec_l1Cur_among.f s0_0 bt182.2.1 bt182.2.2 (([0, 10, 100, (-50)] : List Int))).bind fun bt189 => (spec_l1Cur_field.l0 k bt189.1 0 s0_0 bt189.2.1 bt189.2.2 (wrap64 (1 + bt179.1)) (wrap64 (1 + bt182.1)) ([] : List Int))))
theorem spec_l1Cur_field.mono_l : ∀ k, (∀ y0 y1 y2 y3 y4 y5 y6 y7, LeO (spec_l1Cur_field.l0 k y0 y1 y2 y3 y4 y5 y6 y7) (spec_l1Cur_field.l0 (k + 1) y0 y1 y2 y3 y4 y5 y6 y7)) ∧ (∀ y0 y1 y2 y3 y4 y5, LeO (spec_l1Cur_field.j1 k y0 y1 y2 y3 y4 y5) (spec_l1Cur_field.j1 (k + 1) y0 y1 y2 y3 y4 y5))
 | 0 => ⟨fun _ _ _ _ _ _ _ _ r h => by simp [spec_l1Cur_field.l0] at h, fun _ _ _ _ _ _ r h => by simp [spec_l1Cur_field.j1] at h⟩
 | k + 1 => by
  obtain ⟨ih0, ih1⟩ := spec_l1Cur_field.mono_l k
  refine ⟨?_, ?_⟩
  ·intro y0 y1 y2 y3 y4 y5 y6 y7
   unfold spec_l1Cur_field.l0
   repeat' first
   | (with_reducible exact ih0 _ _ _ _ _ _ _ _)
   | (with_reducible exact ih1 _ _ _ _ _ _)
   | (with_reducible exact spec_l2Fill.mono _ _ _ _)
   | (with_reducible exact LeO.refl _)
   | (with_reducible exact LeO.none _)
   | (with_reducible refine LeO.ite ?_ ?_)
   | (with_reducible refine LeO.bind ?_ (fun _ => ?_))
   | exact ih0 _ _ _ _ _ _ _ _
   | exact ih1 _ _ _ _ _ _
   | exact spec_l2Fill.mono _ _ _ _
   | exact LeO.none _
   | refine LeO.ite ?_ ?_
   | refine LeO.bind ?_ (fun _ => ?_)
  ·intro y0 y1 y2 y3 y4 y5
   unfold spec_l1Cur_field.j1
   repeat' first
   | (with_reducible exact ih0 _ _ _ _ _ _ _ _)
   | (with_reducible exact ih1 _ _ _ _ _ _)
   | (with_reducible exact spec_l2Fill.mono _ _ _ _)
   | (with_reducible exact LeO.refl _)
   | (with_reducible exact LeO.none _)
   | (with_reducible refine LeO.ite ?_ ?_)
   | (with_reducible refine LeO.bind ?_ (fun _ => ?_))
   | exact ih0 _ _ _ _ _ _ _ _
   | exact ih1 _ _ _ _ _ _
   | exact spec_l2Fill.mono _ _ _ _
   | exact LeO.none _
   | refine LeO.ite ?_ ?_
   | refine LeO.bind ?_ (fun _ => ?_)
theorem spec_l1Cur_field.mono : ∀ a0 a1 a2 k, LeO (spec_l1Cur_field.f k a0 a1 a2) (spec_l1Cur_field.f (k + 1) a0 a1 a2) := by
 intro a0 a1 a2 k
 obtain ⟨ih0, ih1⟩ := spec_l1Cur_field.mono_l k
 unfold spec_l1Cur_field.f
 repeat' first
  | (with_reducible exact ih0 _ _ _ _ _ _ _ _)
  | (with_reducible exact ih1 _ _ _ _ _ _)
  | (with_reducible exact spec_l2Fill.mono _ _ _ _)
  | (with_reducible exact LeO.refl _)
  | (with_reducible exact LeO.none _)
  | (with_reducible refine LeO.ite ?_ ?_)
  | (with_reducible refine LeO.bind ?_ (fun _ => ?_))
  | exact ih0 _ _ _ _ _ _ _ _
  | exact ih1 _ _ _ _ _ _
  | exact spec_l2Fill.mono _ _ _ _
  | exact LeO.none _
  | refine LeO.ite ?_ ?_
  | refine LeO.bind ?_ (fun _ => ?_)
def spec_l1Cur_field.T11 : Bool × List (List Nat × List Nat) := (true, [([], []), ([0], [0]), ([], []), ([], []), ([3], [3]), ([4], [4]), ([2, 5], [2, 5]), ([], []), ([], []), ([7, 8, 6], [7, 8]), ([1, 6, 0, 1, 2, 3, 4, 5, 6, 7, 8, 9], [1, 6]), ([10, 9, 9, 0, 1, 2, 3, 4, 5, 6, 7, 8, 9], [9, 10])])
def spec_l1Cur_field.B11 : List Nat := [0, 1, 0, 0, 8, 24, 60, 0, 0, 508, 1023, 2047]
theorem spec_l1Cur_field.tab11 : rtab .any (opsOf Try.f51 11) = spec_l1Cur_field.T11 := by kernel_rfl
theorem spec_l1Cur_field.bits11 : waitsOk spec_l1Cur_field.T11.2 spec_l1Cur_field.B11 = true := by kernel_rfl
set_option maxHeartbeats 8000000 in
set_option maxRecDepth 100000 in
theorem spec_l1Cur_field.calls (k : Nat) (g : Nat) (s0_0 : List Int) (s0_1 : Int) (s0_2 : Int) (r1 : Int) (r2 : Int) (r3 : List Int) (r4 : Int) (r5 : Int) (w0 w : World) (hI : IsS51 w0 w g s0_0 s0_1 s0_2) (hB : Below w0.heap.size w0 w) (h : spec_l1Cur_field.f k s0_0 s0_1 s0_2 = some (r1, r2, r3, r4, r5)) :
 Calls Try.prog 51 #[.pointer (some ⟨g, 0, none⟩)] w fun e w' => ∃ v2_ : Value, e = .returned (.agg #[.int .i64 r1, .int .i64 r2, v2_]) ∧ Kd.R (Kd.int .i64) 3 w' w.heap.size (fun _ => True) v2_ r3 ∧ IsS51 w0 w' g s0_0 r4 r5 ∧ Below w0.heap.size w0 w' ∧ KeepBut w w' g none := by
 have hu26 := Try.underlying26
 have HI0 := Aside0.mk hI
 have HK := Aside0.mk (KeepBut.refl w g none)
 have HL := Aside0.mk hB.size
 clear hI
 have HW0 := Aside0.mk hB.size
 have HB := Aside0.mk hB
 clear hB
 have H : ((spec_l1Cur_pick.f s0_0 s0_1 s0_2 5).bind fun bt179 => ((spec_l1Cur_pick.f s0_0 bt179.2.1 bt179.2.2 5).bind fun bt182 => ((spec_l1Cur_among.f s0_0 bt182.2.1 bt182.2.2 (([0, 10, 100, (-50)] : List Int))).bind fun bt189 => (spec_l1Cur_field.l0 k bt189.1 0 s0_0 bt189.2.1 bt189.2.2 (wrap64 (1 + bt179.1)) (wrap64 (1 + bt182.1)) ([] : List Int))))) = some (r1, r2, r3, r4, r5) := h
 clear h
 replace H := Option.bind_eq_some_iff.mp H
 obtain ⟨⟨t179, t180, t181⟩, A20, H⟩ := H
 replace H : ((spec_l1Cur_pick.f s0_0 t180 t181 5).bind fun bt182 => ((spec_l1Cur_among.f s0_0 bt182.2.1 bt182.2.2 (([0, 10, 100, (-50)] : List Int))).bind fun bt189 => (spec_l1Cur_field.l0 k bt189.1 0 s0_0 bt189.2.1 bt189.2.2 (wrap64 (1 + t179)) (wrap64 (1 + bt182.1)) ([] : List Int)))) = some (r1, r2, r3, r4, r5) := H
 have A2 := Aside0.mk A20
 clear A20
 replace H := Option.bind_eq_some_iff.mp H
 obtain ⟨⟨t182, t183, t184⟩, A30, H⟩ := H
 replace H : ((spec_l1Cur_among.f s0_0 t183 t184 (([0, 10, 100, (-50)] : List Int))).bind fun bt189 => (spec_l1Cur_field.l0 k bt189.1 0 s0_0 bt189.2.1 bt189.2.2 (wrap64 (1 + t179)) (wrap64 (1 + t182)) ([] : List Int))) = some (r1, r2, r3, r4, r5) := H
 have A3 := Aside0.mk A30
 clear A30
 obtain ⟨y186, hy186⟩ : ∃ y_ : List Int, y_ = (([0, 10, 100, (-50)] : List Int)) := ⟨_, rfl⟩
 replace H : ((spec_l1Cur_among.f s0_0 t183 t184 y186).bind fun bt189 => (spec_l1Cur_field.l0 k bt189.1 0 s0_0 bt189.2.1 bt189.2.2 (wrap64 (1 + t179)) (wrap64 (1 + t182)) ([] : List Int))) = some (r1, r2, r3, r4, r5) := by first | (rw [hy186]; with_reducible exact H) | (have H2_ := (Option.bind_some _ _).symm.trans H; rw [hy186]; with_reducible exact H2_) | (have H2_ := (Option.bind_some _ _).symm.trans H; with_reducible exact H2_) | with_reducible exact H | (rw [hy186]; exact H) | exact H
 have Ny186 := Aside0.mk hy186
 clear hy186
 replace H := Option.bind_eq_some_iff.mp H
 obtain ⟨⟨t189, t190, t191⟩, A40, H⟩ := H
 replace H : (spec_l1Cur_field.l0 k t189 0 s0_0 t190 t191 (wrap64 (1 + t179)) (wrap64 (1 + t182)) ([] : List Int)) = some (r1, r2, r3, r4, r5) := H
 have A4 := Aside0.mk A40
 clear A40
 have H' := Aside0.mk H
 clear H
 go_enter Try.func51, Try.ntmps51
 go_wp2_with (first | ((with_reducible refine gate_dst (N := 2) rfl ?_); refine box_event ?hg (N := 2) ?hd (cs := #[.int .i64 0, .int .i64 0, .slice none 0 0]) (t := 26) ?hr ?_; (case hd => rfl); (case hg => rfl); (case hr => exact zsx); intro gb178 hg w5 hbox hb; replace HB := Aside0.mk (below_step (by first | exact zBy HB.out (IsS51.ge HI0.out) | exact zBx HB.out) hb); have BK178 := Aside0.mk (hbox); have GW178 := Aside0.mk ((by rw [hg]; exact (keep_size (w := w) (g := g) (row := none) (zKx HK.out)) : w.heap.size ≤ gb178)); have GE178 := Aside0.mk ((Nat.le_trans HW0.out (by rw [hg]; exact (keep_size (w := w) (g := g) (row := none) (zKx HK.out)) : w.heap.size ≤ gb178) : w0.heap.size ≤ gb178)); replace HK := Aside0.mk (KeepBut.trans (zKx HK.out) (KeepBut.of_below hb g none) (.inl rfl)); have NB0_178 := Aside0.mk ((by rw [hg]; exact Nat.ne_of_lt (IsS51.lt (show IsS51 w0 _ g s0_0 s0_1 s0_2 from IsS51.zI HI0.out)) : g ≠ gb178)); have NB178_0 := Aside0.mk ((by rw [hg]; exact Nat.ne_of_gt (IsS51.lt (show IsS51 w0 _ g s0_0 s0_1 s0_2 from IsS51.zI HI0.out)) : gb178 ≠ g)); replace HI0 := Aside0.mk (IsS51.below (IsS51.zI HI0.out) hb); clear hb hbox hg) | ((with_reducible refine gate_callee (f := 52) rfl ?_); refine goesL_ (some 8) rfl rfl Try.func52 (by kernel_rfl) rfl #[.pointer (some ⟨g, 0, none⟩), .int .i64 5] rfl zlx ?_; (with_reducible refine (spec_l1Cur_pick.calls g s0_0 s0_1 s0_2 5 t179 t180 t181 w0 _ ?side1 ?side2 A2.out).mono ?_); (case side1 => exact IsS51.zJ HI0.out NB0_178.out); (case side2 => first | exact zBz HB.out (IsS51.ge HI0.out) GE178.out | exact zBy HB.out GE178.out); rintro e w6 ⟨rfl, hi, hb, hk⟩; refine ⟨_, rfl, ?_⟩; replace BK178 := Aside0.mk (KeepBut.blk hk (g' := gb178) (o := .cells #[.int .i64 0, .int .i64 0, .slice none 0 0] 26 (0, 0)) (zbx BK178.out) NB178_0.out (by simp)); replace HK := Aside0.mk (KeepBut.trans (zKy HK.out GW178.out) hk (.inl rfl)); replace HB := Aside0.mk (hb); replace HI0 := Aside0.mk (hi); (try clear hb); (try clear hk); (try clear hi)) | ((with_reducible refine gate_callee (f := 52) rfl ?_); refine goesL_ (some 11) rfl rfl Try.func52 (by kernel_rfl) rfl #[.pointer (some ⟨g, 0, none⟩), .int .i64 5] rfl zlx ?_; (with_reducible refine (spec_l1Cur_pick.calls g s0_0 t180 t181 5 t182 t183 t184 w0 _ ?side1 ?side2 A3.out).mono ?_); (case side1 => exact IsS51.zJ HI0.out NB0_178.out); (case side2 => first | exact zBz HB.out (IsS51.ge HI0.out) GE178.out | exact zBy HB.out GE178.out); rintro e w7 ⟨rfl, hi, hb, hk⟩; refine ⟨_, rfl, ?_⟩; replace BK178 := Aside0.mk (KeepBut.blk hk (g' := gb178) (o := .cells #[.int .i64 0, .int .i64 0, .slice none 0 0] 26 (0, 0)) (zbx BK178.out) NB178_0.out (by simp)); replace HK := Aside0.mk (KeepBut.trans (zKy HK.out GW178.out) hk (.inl rfl)); replace HB := Aside0.mk (hb); replace HI0 := Aside0.mk (hi); (try clear hb); (try clear hk); (try clear hi)) | ((with_reducible refine gate_dst (N := 3) rfl ?_); refine box_event ?hg (N := 3) ?hd (cs := #[.int .i64 0, .int .i64 0, .slice none 0 0]) (t := 26) ?hr ?_; (case hd => rfl); (case hg => rfl); (case hr => exact zsx); intro gb185 hg w8 hbox hb; replace HB := Aside0.mk (below_step (by first | exact zBz HB.out (IsS51.ge HI0.out) GE178.out | exact zBy HB.out GE178.out) hb); have BK185 := Aside0.mk (hbox); have GW185 := Aside0.mk ((by rw [hg]; exact (keep_size (w := w) (g := g) (row := none) (zKy HK.out GW178.out)) : w.heap.size ≤ gb185)); have GE185 := Aside0.mk ((Nat.le_trans HW0.out (by rw [hg]; exact (keep_size (w := w) (g := g) (row := none) (zKy HK.out GW178.out)) : w.heap.size ≤ gb185) : w0.heap.size ≤ gb185)); replace HK := Aside0.mk (KeepBut.trans (zKy HK.out GW178.out) (KeepBut.of_below hb g none) (.inl rfl)); have NB178_185 := znl hg BK178.out; have NB185_178 := zng hg BK178.out; replace BK178 := zbl BK178.out hb; have NB0_185 := Aside0.mk ((by rw [hg]; exact Nat.ne_of_lt (IsS51.lt (show IsS51 w0 _ g s0_0 t183 t184 from IsS51.zJ HI0.out NB0_178.out)) : g ≠ gb185)); have NB185_0 := Aside0.mk ((by rw [hg]; exact Nat.ne_of_gt (IsS51.lt (show IsS51 w0 _ g s0_0 t183 t184 from IsS51.zJ HI0.out NB0_178.out)) : gb185 ≠ g)); replace HI0 := Aside0.mk (IsS51.below (IsS51.zF HI0.out NB0_178.out) hb); clear hb hbox hg; have hnb9 := NB185_178.out; have hnc9 := NB178_185.out; have hnb10 := NB185_0.out; have hnc10 := NB0_185.out; have hcz11_0 : w8.cell? ⟨gb185, 0, none⟩ = some (.int .i64 0) := (blk_cell BK185.out 0).trans rfl; have hcz11_1 : w8.cell? ⟨gb185, 1, none⟩ = some (.int .i64 0) := (blk_cell BK185.out 1).trans rfl; have hcz11_2 : w8.cell? ⟨gb185, 2, none⟩ = some (.slice none 0 0) := (blk_cell BK185.out 2).trans rfl; have hfz11_0 := blk_frozen BK185.out 0; have hfz11_1 := blk_frozen BK185.out 1; have hfz11_2 := blk_frozen BK185.out 2) | ((with_reducible refine gate_dst (N := 15) rfl ?_); refine Kd.R_lit (Kd.int .i64) _ 3 ?hg (N := 15) ?hd (xs := ([0, 10, 100, (-50)] : List Int)) (inner := [.int .i64 0, .int .i64 10, .int .i64 100, .int .i64 (-50)]) (ok := fun _ => True) (okp := fun _ => True) ?hr ?hp (fun _ hk => hk) trivial (Below.refl _ _) (Nat.le_refl _) (by simp) ?_; (case hd => rfl); (case hg => rfl); (case hr => exact zsx); (case hp => exact (Reps.one (show Kd.M (Kd.int .i64) _ _ _ 0 [.int .i64 0] from rfl) (Reps.one (show Kd.M (Kd.int .i64) _ _ _ 10 [.int .i64 10] from rfl) (Reps.one (show Kd.M (Kd.int .i64) _ _ _ 100 [.int .i64 100] from rfl) (Reps.one (show Kd.M (Kd.int .i64) _ _ _ (-50) [.int .i64 (-50)] from rfl) (Reps.none _ _)))))); intro v187 w12 ho13 hb hg_ hnew_; clear hg_ hnew_; (first | rw [← Ny186.out] at ho13 | (simp only [Int.reduceToNat] at ho13; rw [← Ny186.out] at ho13)); have HO188 := Aside0.mk (Kd.R_lower ho13 (keep_size (w := w) (g := g) (row := none) (zhK HK.out))); replace HI0 := Aside0.mk (IsS51.below (show IsS51 w0 (((w8.setCell ⟨gb185, 0, none⟩ (.int .i64 (wrap64 (1 + t179)))).setCell ⟨gb185, 1, none⟩ (.int .i64 (wrap64 (1 + t182)))).setCell ⟨gb185, 2, none⟩ (.slice none 0 0)) g s0_0 t183 t184 from zhI51 HI0.out) hb); replace BK178 := zbl BK178.out hb; replace BK185 := Aside0.mk (blk_below (g := gb185) (o := .cells #[.int .i64 (wrap64 (1 + t179)), .int .i64 (wrap64 (1 + t182)), .slice none 0 0] 26 (0, 0)) (zbp BK185.out) hb); replace HK := Aside0.mk (KeepBut.trans (zhK HK.out) (KeepBut.of_below hb g none) (.inl rfl)); replace HB := Aside0.mk (below_step (zhB HB.out) hb); clear hb ho13; obtain ⟨Ao14, co14, eo14⟩ := Kd.R_slice HO188.out; subst eo14) | ((with_reducible refine gate_callee (f := 33) rfl ?_); refine goesL_ (some 16) rfl rfl Try.func33 (by kernel_rfl) rfl #[.pointer (some ⟨g, 0, none⟩), .slice Ao14 y186.length co14] rfl zlx ?_; (with_reducible refine (spec_l1Cur_among.calls g s0_0 t183 t184 _ _ y186 t189 t190 t191 w0 _ ?side1 ?side2 ?side3 ?side4 ?side5 A4.out).mono ?_); (case side1 => exact zhI51 HI0.out); (case side2 => exact zhB HB.out); (case side3 => exact zCx (Kd.R_reads' HO188.out).2.2); (case side4 => exact (Kd.R_reads' HO188.out).2.1); (case side5 => exact far_slice (IsS51.own_ne HI0.out HO188.out (by decide))); rintro e w15 ⟨rfl, hi, hb, hk⟩; refine ⟨_, rfl, ?_⟩; replace BK178 := Aside0.mk (KeepBut.blk hk (g' := gb178) (o := .cells #[.int .i64 0, .int .i64 0, .slice none 0 0] 26 (0, 0)) (zbx BK178.out) NB178_0.out (by simp)); replace BK185 := Aside0.mk (KeepBut.blk hk (g' := gb185) (o := .cells #[.int .i64 (wrap64 (1 + t179)), .int .i64 (wrap64 (1 + t182)), .slice none 0 0] 26 (0, 0)) (zbx BK185.out) NB185_0.out (by simp)); replace HO188 := Aside0.mk (Kd.R_mono (Kd.R_keep (IsS51.apart (show IsS51 w0 _ g s0_0 t183 t184 from zhI51 HI0.out) (zRx HO188.out) (by decide)) hk (fun _ h => h.2)) (fun _ h => h.1)); replace HK := Aside0.mk (KeepBut.trans (zhK HK.out) hk (.inl rfl)); replace HB := Aside0.mk (hb); replace HI0 := Aside0.mk (hi); (try clear hb); (try clear hk); (try clear hi)))
 go_loopg [5] k (fun kq v5 w' => ∃ (x5_1 : Int) (x1001_1 : Int) (x1002_1 : Int) (x186002_1 : List Int) (u186002 : Value), v5 = .int .i64 x5_1 ∧ Aside0 (spec_l1Cur_field.l0 kq t189 x5_1 s0_0 x1001_1 x1002_1 (wrap64 (1 + t179)) (wrap64 (1 + t182)) x186002_1 = some (r1, r2, r3, r4, r5)) ∧ Aside0 (kq ≤ k) ∧ Aside0 (Kd.R (Kd.int .i64) 3 w' w.heap.size (fun _ => True) u186002 x186002_1) ∧ Aside0 (w'.heap[gb178]? = some (.cells #[.int .i64 0, .int .i64 0, (.slice none 0 0)] 26 (0, 0))) ∧ Aside0 (w'.heap[gb185]? = some (.cells #[.int .i64 (wrap64 (1 + t179)), .int .i64 (wrap64 (1 + t182)), u186002] 26 (0, 0))) ∧ Aside0 (IsS51 w0 w' g s0_0 x1001_1 x1002_1) ∧ Aside0 (KeepBut w w' g none) ∧ Aside0 (Below w0.heap.size w0 w'))
 case atStart => exact ⟨(0), (t190), (t191), (([] : List Int)), (.slice none 0 0), zrx, H', ⟨Nat.le_refl _⟩, ⟨by first | exact Kd.R_nil _ _ _ _ _ | exact Kd.N_nil _ _ _ _ _ | exact Kd.V_nil _ _ _ _ _ | exact Kd.Q_nil _ _ _ _ _ | exact Kd.S_nil _ _ _ _ _⟩, ⟨by refine zbx ?_; exact BK178.out⟩, ⟨by refine zbx ?_; exact BK185.out⟩, ⟨zhI51 HI0.out⟩, ⟨zhK HK.out⟩, ⟨zhB HB.out⟩⟩
 case round =>
  clear H'
  try clear c1
  try clear p2
  try clear c3
  try clear c5
  try clear p6
  try clear c9
  try clear c10
  try clear hcz11_0
  try clear hcz11_1
  try clear hcz11_2
  try clear hfz11_0
  try clear hfz11_1
  try clear hfz11_2
  obtain ⟨x5_1, x1001_1, x1002_1, x186002_1, u186002, rfl, HA, HK1, HO_186002, BK178, BK185, HI0, HK, HB⟩ := hrel
  cases gk with
  | zero => exact absurd HA.out (by simp [spec_l1Cur_field.l0])
  | succ k1 =>
   have H := HA.out
   clear HA
   simp only [spec_l1Cur_field.l0] at H
   by_cases c16 : x5_1 < (wrap64 ((wrap64 (1 + t179)) * (wrap64 (1 + t182))))
   ·rw [if_pos c16] at H
    have c16b0 : decide (x5_1 < (wrap64 ((wrap64 (1 + t179)) * (wrap64 (1 + t182))))) = true := decide_eq_true c16
    clear c16
    replace H := Option.bind_eq_some_iff.mp H
    obtain ⟨⟨t192, t193, t194⟩, A170, H⟩ := H
    replace H : ((spec_l1Cur_one.f s0_0 t193 t194 12).bind fun bt195 => (if bt195.1 = true then (if x186002_1.length < 17592186044416 then (spec_l1Cur_field.l0 k1 t189 (wrap64 (x5_1 + 1)) s0_0 bt195.2.1 bt195.2.2 (wrap64 (1 + t179)) (wrap64 (1 + t182)) (x186002_1 ++ [(-9999)])) else (none)) else (if x186002_1.length < 17592186044416 then (spec_l1Cur_field.l0 k1 t189 (wrap64 (x5_1 + 1)) s0_0 bt195.2.1 bt195.2.2 (wrap64 (1 + t179)) (wrap64 (1 + t182)) (x186002_1 ++ [wrap64 (t189 + t192)])) else (none)))) = some (r1, r2, r3, r4, r5) := H
    have A17 := Aside0.mk A170
    clear A170
    replace H := Option.bind_eq_some_iff.mp H
    obtain ⟨⟨t195, t196, t197⟩, A180, H⟩ := H
    replace H : (if t195 = true then (if x186002_1.length < 17592186044416 then (spec_l1Cur_field.l0 k1 t189 (wrap64 (x5_1 + 1)) s0_0 t196 t197 (wrap64 (1 + t179)) (wrap64 (1 + t182)) (x186002_1 ++ [(-9999)])) else (none)) else (if x186002_1.length < 17592186044416 then (spec_l1Cur_field.l0 k1 t189 (wrap64 (x5_1 + 1)) s0_0 t196 t197 (wrap64 (1 + t179)) (wrap64 (1 + t182)) (x186002_1 ++ [wrap64 (t189 + t192)])) else (none))) = some (r1, r2, r3, r4, r5) := H
    have A18 := Aside0.mk A180
    clear A180
    by_cases c19 : t195 = true
    ·subst c19
     rw [if_pos rfl] at H
     by_cases c20 : x186002_1.length < 17592186044416
     ·rw [if_pos c20] at H
      have LMc20 := Aside0.mk c20
      clear c20
      obtain ⟨y198, hy198⟩ : ∃ y_ : List Int, y_ = (x186002_1 ++ [(-9999)]) := ⟨_, rfl⟩
      replace H : (spec_l1Cur_field.l0 k1 t189 (wrap64 (x5_1 + 1)) s0_0 t196 t197 (wrap64 (1 + t179)) (wrap64 (1 + t182)) y198) = some (r1, r2, r3, r4, r5) := by first | (rw [hy198]; with_reducible exact H) | (have H2_ := (Option.bind_some _ _).symm.trans H; rw [hy198]; with_reducible exact H2_) | (have H2_ := (Option.bind_some _ _).symm.trans H; with_reducible exact H2_) | with_reducible exact H | (rw [hy198]; exact H) | exact H
      have Ny198 := Aside0.mk hy198
      clear hy198
      focus
       have H' := Aside0.mk H
       clear H
       have hnb21 := NB185_178.out
       have hnc21 := NB178_185.out
       have hnb22 := NB185_0.out
       have hnc22 := NB0_185.out
       have hcz23_0 : wr.cell? ⟨gb185, 0, none⟩ = some (.int .i64 (wrap64 (1 + t179))) := (blk_cell BK185.out 0).trans rfl
       have hcz23_1 : wr.cell? ⟨gb185, 1, none⟩ = some (.int .i64 (wrap64 (1 + t182))) := (blk_cell BK185.out 1).trans rfl
       have hcz23_2 : wr.cell? ⟨gb185, 2, none⟩ = some (u186002) := (blk_cell BK185.out 2).trans rfl
       have hfz23_0 := blk_frozen BK185.out 0
       have hfz23_1 := blk_frozen BK185.out 1
       have hfz23_2 := blk_frozen BK185.out 2
       go_wp2_with (first | ((with_reducible refine gate_callee (f := 52) rfl ?_); refine goesL_ (some 28) rfl rfl Try.func52 (by kernel_rfl) rfl #[.pointer (some ⟨g, 0, none⟩), .int .i64 40] rfl zlx ?_; (with_reducible refine (spec_l1Cur_pick.calls g s0_0 x1001_1 x1002_1 40 t192 t193 t194 w0 _ ?side1 ?side2 A17.out).mono ?_); (case side1 => exact zhI51 HI0.out); (case side2 => exact zhB HB.out); rintro e w24 ⟨rfl, hi, hb, hk⟩; refine ⟨_, rfl, ?_⟩; replace HO_186002 := Aside0.mk (Kd.R_mono (Kd.R_keep (IsS51.apart (show IsS51 w0 _ g s0_0 x1001_1 x1002_1 from zhI51 HI0.out) (zRx HO_186002.out) (by decide)) hk (fun _ h => h.2)) (fun _ h => h.1)); replace BK178 := Aside0.mk (KeepBut.blk hk (g' := gb178) (o := .cells #[.int .i64 0, .int .i64 0, .slice none 0 0] 26 (0, 0)) (zbx BK178.out) NB178_0.out (by simp)); replace BK185 := Aside0.mk (KeepBut.blk hk (g' := gb185) (o := .cells #[.int .i64 (wrap64 (1 + t179)), .int .i64 (wrap64 (1 + t182)), u186002] 26 (0, 0)) (zbx BK185.out) NB185_0.out (by simp)); replace HK := Aside0.mk (KeepBut.trans (zhK HK.out) hk (.inl rfl)); replace HB := Aside0.mk (hb); replace HI0 := Aside0.mk (hi); (try clear hb); (try clear hk); (try clear hi)) | ((with_reducible refine gate_callee (f := 54) rfl ?_); refine goesL_ (some 31) rfl rfl Try.func54 (by kernel_rfl) rfl #[.pointer (some ⟨g, 0, none⟩), .int .i64 12] rfl zlx ?_; (with_reducible refine (spec_l1Cur_one.calls g s0_0 t193 t194 12 true t196 t197 w0 _ ?side1 ?side2 A18.out).mono ?_); (case side1 => exact zhI51 HI0.out); (case side2 => exact zhB HB.out); rintro e w25 ⟨rfl, hi, hb, hk⟩; refine ⟨_, rfl, ?_⟩; replace HO_186002 := Aside0.mk (Kd.R_mono (Kd.R_keep (IsS51.apart (show IsS51 w0 _ g s0_0 t193 t194 from zhI51 HI0.out) (zRx HO_186002.out) (by decide)) hk (fun _ h => h.2)) (fun _ h => h.1)); replace BK178 := Aside0.mk (KeepBut.blk hk (g' := gb178) (o := .cells #[.int .i64 0, .int .i64 0, .slice none 0 0] 26 (0, 0)) (zbx BK178.out) NB178_0.out (by simp)); replace BK185 := Aside0.mk (KeepBut.blk hk (g' := gb185) (o := .cells #[.int .i64 (wrap64 (1 + t179)), .int .i64 (wrap64 (1 + t182)), u186002] 26 (0, 0)) (zbx BK185.out) NB185_0.out (by simp)); replace HK := Aside0.mk (KeepBut.trans (zhK HK.out) hk (.inl rfl)); replace HB := Aside0.mk (hb); replace HI0 := Aside0.mk (hi); (try clear hb); (try clear hk); (try clear hi); have hcz26_0 : w25.cell? ⟨gb185, 0, none⟩ = some (.int .i64 (wrap64 (1 + t179))) := (blk_cell BK185.out 0).trans rfl; have hcz26_1 : w25.cell? ⟨gb185, 1, none⟩ = some (.int .i64 (wrap64 (1 + t182))) := (blk_cell BK185.out 1).trans rfl; have hcz26_2 : w25.cell? ⟨gb185, 2, none⟩ = some (u186002) := (blk_cell BK185.out 2).trans rfl; have hfz26_0 := blk_frozen BK185.out 0; have hfz26_1 := blk_frozen BK185.out 1; have hfz26_2 := blk_frozen BK185.out 2) | ((with_reducible refine gate_builtin (b := .append) (xs := #[.tmp 33, .tmp 35]) rfl ?_); at_builtin; refine Kd.R_append (Kd.int .i64) w.heap.size rfl (.tmp 33) (.tmp 35) 24 3 (.int .i64 0) 8 rfl Try.underlying24 info3 rfl (by decide) (by omega) u186002 x186002_1 (-9999) [.int .i64 (-9999)] (fun _ => True) (fun _ => False) rfl rfl ?aP (fun _ hk => hk.elim) ?aF ?aO (Below.refl _ _) ?aS ?aL ?_; (case aP => exact rfl); (case aF => exact (fun _ _ => trivial)); (case aO => exact (zRx HO_186002.out)); (case aS => exact (keep_size (w := w) (g := g) (row := none) (zhK HK.out))); (case aL => have := LMc20.out; omega); intro v199 w27 ho hb hg hat; rw [← Ny198.out] at ho; replace BK178 := Aside0.mk (blk_grown (g := gb178) (o := .cells #[.int .i64 0, .int .i64 0, .slice none 0 0] 26 (0, 0)) (zbx BK178.out) hg (Kd.R_ne HO_186002.out BK178.out (by decide))); replace BK185 := Aside0.mk (blk_grown (g := gb185) (o := .cells #[.int .i64 (wrap64 (1 + t179)), .int .i64 (wrap64 (1 + t182)), u186002] 26 (0, 0)) (zbx BK185.out) hg (Kd.R_ne HO_186002.out BK185.out (by decide))); replace HI0 := Aside0.mk (IsS51.grown (zhI51 HI0.out) hg (IsS51.own_ne HI0.out HO_186002.out (by decide))); replace HB := Aside0.mk (below_weaken (zhB HB.out) HL.out hb); replace HK := Aside0.mk (KeepBut.trans (zhK HK.out) (KeepBut.of_grown hg g) (Kd.R_base2 HO_186002.out)); have HO200 := Aside0.mk (ho); clear HO_186002; clear ho hb hg hat; obtain ⟨Ao28, co28, eo28⟩ := Kd.R_slice HO200.out; subst eo28; have hcz29_0 : w27.cell? ⟨gb185, 0, none⟩ = some (.int .i64 (wrap64 (1 + t179))) := (blk_cell BK185.out 0).trans rfl; have hcz29_1 : w27.cell? ⟨gb185, 1, none⟩ = some (.int .i64 (wrap64 (1 + t182))) := (blk_cell BK185.out 1).trans rfl; have hcz29_2 : w27.cell? ⟨gb185, 2, none⟩ = some (u186002) := (blk_cell BK185.out 2).trans rfl; have hfz29_0 := blk_frozen BK185.out 0; have hfz29_1 := blk_frozen BK185.out 1; have hfz29_2 := blk_frozen BK185.out 2))
       go_roundg k1
       case measure => have := HK1.out; omega
       case rel => exact ⟨(wrap64 (x5_1 + 1)), (t196), (t197), (y198), (.slice Ao28 y198.length co28), zrx, H', ⟨by have := HK1.out; omega⟩, ⟨by refine zDR ?_; exact Kd.R_mono (Kd.R_far (p := ⟨gb185, 2, none⟩) (Kd.R_types HO200.out BK185.out (by decide)) (fun _ hk => hk.2) (.slice Ao28 y198.length co28)) (fun _ hk => trivial)⟩, ⟨zbp BK178.out⟩, ⟨zbp BK185.out⟩, ⟨zhI51 HI0.out⟩, ⟨zhK HK.out⟩, ⟨zhB HB.out⟩⟩
     ·rw [if_neg c20] at H
      exact absurd H (by simp)
    ·replace c19 := Bool.eq_false_iff.mpr c19
     subst c19
     rw [if_neg (show ¬ (false = true) by decide)] at H
     by_cases c30 : x186002_1.length < 17592186044416
     ·rw [if_pos c30] at H
      have LMc30 := Aside0.mk c30
      clear c30
      obtain ⟨y201, hy201⟩ : ∃ y_ : List Int, y_ = (x186002_1 ++ [wrap64 (t189 + t192)]) := ⟨_, rfl⟩
      replace H : (spec_l1Cur_field.l0 k1 t189 (wrap64 (x5_1 + 1)) s0_0 t196 t197 (wrap64 (1 + t179)) (wrap64 (1 + t182)) y201) = some (r1, r2, r3, r4, r5) := by first | (rw [hy201]; with_reducible exact H) | (have H2_ := (Option.bind_some _ _).symm.trans H; rw [hy201]; with_reducible exact H2_) | (have H2_ := (Option.bind_some _ _).symm.trans H; with_reducible exact H2_) | with_reducible exact H | (rw [hy201]; exact H) | exact H
      have Ny201 := Aside0.mk hy201
      clear hy201
      focus
       have H' := Aside0.mk H
       clear H
       have hnb31 := NB185_178.out
       have hnc31 := NB178_185.out
       have hnb32 := NB185_0.out
       have hnc32 := NB0_185.out
       have hcz33_0 : wr.cell? ⟨gb185, 0, none⟩ = some (.int .i64 (wrap64 (1 + t179))) := (blk_cell BK185.out 0).trans rfl
       have hcz33_1 : wr.cell? ⟨gb185, 1, none⟩ = some (.int .i64 (wrap64 (1 + t182))) := (blk_cell BK185.out 1).trans rfl
       have hcz33_2 : wr.cell? ⟨gb185, 2, none⟩ = some (u186002) := (blk_cell BK185.out 2).trans rfl
       have hfz33_0 := blk_frozen BK185.out 0
       have hfz33_1 := blk_frozen BK185.out 1
       have hfz33_2 := blk_frozen BK185.out 2
       go_wp2_with (first | ((with_reducible refine gate_callee (f := 52) rfl ?_); refine goesL_ (some 28) rfl rfl Try.func52 (by kernel_rfl) rfl #[.pointer (some ⟨g, 0, none⟩), .int .i64 40] rfl zlx ?_; (with_reducible refine (spec_l1Cur_pick.calls g s0_0 x1001_1 x1002_1 40 t192 t193 t194 w0 _ ?side1 ?side2 A17.out).mono ?_); (case side1 => exact zhI51 HI0.out); (case side2 => exact zhB HB.out); rintro e w34 ⟨rfl, hi, hb, hk⟩; refine ⟨_, rfl, ?_⟩; replace HO_186002 := Aside0.mk (Kd.R_mono (Kd.R_keep (IsS51.apart (show IsS51 w0 _ g s0_0 x1001_1 x1002_1 from zhI51 HI0.out) (zRx HO_186002.out) (by decide)) hk (fun _ h => h.2)) (fun _ h => h.1)); replace BK178 := Aside0.mk (KeepBut.blk hk (g' := gb178) (o := .cells #[.int .i64 0, .int .i64 0, .slice none 0 0] 26 (0, 0)) (zbx BK178.out) NB178_0.out (by simp)); replace BK185 := Aside0.mk (KeepBut.blk hk (g' := gb185) (o := .cells #[.int .i64 (wrap64 (1 + t179)), .int .i64 (wrap64 (1 + t182)), u186002] 26 (0, 0)) (zbx BK185.out) NB185_0.out (by simp)); replace HK := Aside0.mk (KeepBut.trans (zhK HK.out) hk (.inl rfl)); replace HB := Aside0.mk (hb); replace HI0 := Aside0.mk (hi); (try clear hb); (try clear hk); (try clear hi)) | ((with_reducible refine gate_callee (f := 54) rfl ?_); refine goesL_ (some 31) rfl rfl Try.func54 (by kernel_rfl) rfl #[.pointer (some ⟨g, 0, none⟩), .int .i64 12] rfl zlx ?_; (with_reducible refine (spec_l1Cur_one.calls g s0_0 t193 t194 12 false t196 t197 w0 _ ?side1 ?side2 A18.out).mono ?_); (case side1 => exact zhI51 HI0.out); (case side2 => exact zhB HB.out); rintro e w35 ⟨rfl, hi, hb, hk⟩; refine ⟨_, rfl, ?_⟩; replace HO_186002 := Aside0.mk (Kd.R_mono (Kd.R_keep (IsS51.apart (show IsS51 w0 _ g s0_0 t193 t194 from zhI51 HI0.out) (zRx HO_186002.out) (by decide)) hk (fun _ h => h.2)) (fun _ h => h.1)); replace BK178 := Aside0.mk (KeepBut.blk hk (g' := gb178) (o := .cells #[.int .i64 0, .int .i64 0, .slice none 0 0] 26 (0, 0)) (zbx BK178.out) NB178_0.out (by simp)); replace BK185 := Aside0.mk (KeepBut.blk hk (g' := gb185) (o := .cells #[.int .i64 (wrap64 (1 + t179)), .int .i64 (wrap64 (1 + t182)), u186002] 26 (0, 0)) (zbx BK185.out) NB185_0.out (by simp)); replace HK := Aside0.mk (KeepBut.trans (zhK HK.out) hk (.inl rfl)); replace HB := Aside0.mk (hb); replace HI0 := Aside0.mk (hi); (try clear hb); (try clear hk); (try clear hi); have hcz36_0 : w35.cell? ⟨gb185, 0, none⟩ = some (.int .i64 (wrap64 (1 + t179))) := (blk_cell BK185.out 0).trans rfl; have hcz36_1 : w35.cell? ⟨gb185, 1, none⟩ = some (.int .i64 (wrap64 (1 + t182))) := (blk_cell BK185.out 1).trans rfl; have hcz36_2 : w35.cell? ⟨gb185, 2, none⟩ = some (u186002) := (blk_cell BK185.out 2).trans rfl; have hfz36_0 := blk_frozen BK185.out 0; have hfz36_1 := blk_frozen BK185.out 1; have hfz36_2 := blk_frozen BK185.out 2) | ((with_reducible refine gate_builtin (b := .append) (xs := #[.tmp 33, .tmp 35]) rfl ?_); at_builtin; refine Kd.R_append (Kd.int .i64) w.heap.size rfl (.tmp 33) (.tmp 35) 24 3 (.int .i64 0) 8 rfl Try.underlying24 info3 rfl (by decide) (by omega) u186002 x186002_1 (wrap64 (t189 + t192)) [.int .i64 (wrap64 (t189 + t192))] (fun _ => True) (fun _ => False) rfl rfl ?aP (fun _ hk => hk.elim) ?aF ?aO (Below.refl _ _) ?aS ?aL ?_; (case aP => exact rfl); (case aF => exact (fun _ _ => trivial)); (case aO => exact (zRx HO_186002.out)); (case aS => exact (keep_size (w := w) (g := g) (row := none) (zhK HK.out))); (case aL => have := LMc30.out; omega); intro v202 w37 ho hb hg hat; rw [← Ny201.out] at ho; replace BK178 := Aside0.mk (blk_grown (g := gb178) (o := .cells #[.int .i64 0, .int .i64 0, .slice none 0 0] 26 (0, 0)) (zbx BK178.out) hg (Kd.R_ne HO_186002.out BK178.out (by decide))); replace BK185 := Aside0.mk (blk_grown (g := gb185) (o := .cells #[.int .i64 (wrap64 (1 + t179)), .int .i64 (wrap64 (1 + t182)), u186002] 26 (0, 0)) (zbx BK185.out) hg (Kd.R_ne HO_186002.out BK185.out (by decide))); replace HI0 := Aside0.mk (IsS51.grown (zhI51 HI0.out) hg (IsS51.own_ne HI0.out HO_186002.out (by decide))); replace HB := Aside0.mk (below_weaken (zhB HB.out) HL.out hb); replace HK := Aside0.mk (KeepBut.trans (zhK HK.out) (KeepBut.of_grown hg g) (Kd.R_base2 HO_186002.out)); have HO203 := Aside0.mk (ho); clear HO_186002; clear ho hb hg hat; obtain ⟨Ao38, co38, eo38⟩ := Kd.R_slice HO203.out; subst eo38; have hcz39_0 : w37.cell? ⟨gb185, 0, none⟩ = some (.int .i64 (wrap64 (1 + t179))) := (blk_cell BK185.out 0).trans rfl; have hcz39_1 : w37.cell? ⟨gb185, 1, none⟩ = some (.int .i64 (wrap64 (1 + t182))) := (blk_cell BK185.out 1).trans rfl; have hcz39_2 : w37.cell? ⟨gb185, 2, none⟩ = some (u186002) := (blk_cell BK185.out 2).trans rfl; have hfz39_0 := blk_frozen BK185.out 0; have hfz39_1 := blk_frozen BK185.out 1; have hfz39_2 := blk_frozen BK185.out 2))
       go_roundg k1
       case measure => have := HK1.out; omega
       case rel => exact ⟨(wrap64 (x5_1 + 1)), (t196), (t197), (y201), (.slice Ao38 y201.length co38), zrx, H', ⟨by have := HK1.out; omega⟩, ⟨by refine zDR ?_; exact Kd.R_mono (Kd.R_far (p := ⟨gb185, 2, none⟩) (Kd.R_types HO203.out BK185.out (by decide)) (fun _ hk => hk.2) (.slice Ao38 y201.length co38)) (fun _ hk => trivial)⟩, ⟨zbp BK178.out⟩, ⟨zbp BK185.out⟩, ⟨zhI51 HI0.out⟩, ⟨zhK HK.out⟩, ⟨zhB HB.out⟩⟩
     ·rw [if_neg c30] at H
      exact absurd H (by simp)
   ·rw [if_neg c16] at H
    have c16b0 : decide (x5_1 < (wrap64 ((wrap64 (1 + t179)) * (wrap64 (1 + t182))))) = false := decide_eq_false c16
    clear c16
    replace H := Option.bind_eq_some_iff.mp H
    obtain ⟨⟨t204, t205, t206⟩, A400, H⟩ := H
    replace H : (if t204 = true then ((spec_l1Cur_pick.f s0_0 t205 t206 (x186002_1.length : Int)).bind fun bt207 => ((spec_l1Cur_among.f s0_0 bt207.2.1 bt207.2.2 (([9000, (-9000), 0] : List Int))).bind fun bt213 => (if 0 ≤ bt207.1 then (if bt207.1 < (x186002_1.length : Int) then (spec_l1Cur_field.j1 k1 s0_0 bt213.2.1 bt213.2.2 (wrap64 (1 + t179)) (wrap64 (1 + t182)) (x186002_1.set (bt207.1 : Int).toNat bt213.1)) else (none)) else (none)))) else (spec_l1Cur_field.j1 k1 s0_0 t205 t206 (wrap64 (1 + t179)) (wrap64 (1 + t182)) x186002_1)) = some (r1, r2, r3, r4, r5) := H
    have A40 := Aside0.mk A400
    clear A400
    have HC41 := Aside0.mk H
    clear H
    have hnb42 := NB185_178.out
    have hnc42 := NB178_185.out
    have hnb43 := NB185_0.out
    have hnc43 := NB0_185.out
    have hcz44_0 : wr.cell? ⟨gb185, 0, none⟩ = some (.int .i64 (wrap64 (1 + t179))) := (blk_cell BK185.out 0).trans rfl
    have hcz44_1 : wr.cell? ⟨gb185, 1, none⟩ = some (.int .i64 (wrap64 (1 + t182))) := (blk_cell BK185.out 1).trans rfl
    have hcz44_2 : wr.cell? ⟨gb185, 2, none⟩ = some (u186002) := (blk_cell BK185.out 2).trans rfl
    have hfz44_0 := blk_frozen BK185.out 0
    have hfz44_1 := blk_frozen BK185.out 1
    have hfz44_2 := blk_frozen BK185.out 2
    go_upto_if 39 with (first | ((with_reducible refine gate_callee (f := 54) rfl ?_); refine goesL_ (some 39) rfl rfl Try.func54 (by kernel_rfl) rfl #[.pointer (some ⟨g, 0, none⟩), .int .i64 10] rfl zlx ?_; (with_reducible refine (spec_l1Cur_one.calls g s0_0 x1001_1 x1002_1 10 t204 t205 t206 w0 _ ?side1 ?side2 A40.out).mono ?_); (case side1 => exact zhI51 HI0.out); (case side2 => exact zhB HB.out); rintro e w45 ⟨rfl, hi, hb, hk⟩; refine ⟨_, rfl, ?_⟩; replace HO_186002 := Aside0.mk (Kd.R_mono (Kd.R_keep (IsS51.apart (show IsS51 w0 _ g s0_0 x1001_1 x1002_1 from zhI51 HI0.out) (zRx HO_186002.out) (by decide)) hk (fun _ h => h.2)) (fun _ h => h.1)); replace BK178 := Aside0.mk (KeepBut.blk hk (g' := gb178) (o := .cells #[.int .i64 0, .int .i64 0, .slice none 0 0] 26 (0, 0)) (zbx BK178.out) NB178_0.out (by simp)); replace BK185 := Aside0.mk (KeepBut.blk hk (g' := gb185) (o := .cells #[.int .i64 (wrap64 (1 + t179)), .int .i64 (wrap64 (1 + t182)), u186002] 26 (0, 0)) (zbx BK185.out) NB185_0.out (by simp)); replace HK := Aside0.mk (KeepBut.trans (zhK HK.out) hk (.inl rfl)); replace HB := Aside0.mk (hb); replace HI0 := Aside0.mk (hi); (try clear hb); (try clear hb2); (try clear hk); (try clear hi)))
    (try simp only [Act.put, List.setIfInBounds_toArray, List.set_cons_zero, List.set_cons_succ])
    go_cut [] (fun wc => ∃ (kq : Nat) (x1001_40 : Int) (x1002_40 : Int) (x186002_40 : List Int) (u186002 : Value), Aside0 (spec_l1Cur_field.j1 kq s0_0 x1001_40 x1002_40 (wrap64 (1 + t179)) (wrap64 (1 + t182)) x186002_40 = some (r1, r2, r3, r4, r5)) ∧ Aside0 (kq ≤ k1) ∧ Aside0 (Kd.R (Kd.int .i64) 3 wc w.heap.size (fun _ => True) u186002 x186002_40) ∧ Aside0 (wc.heap[gb178]? = some (.cells #[.int .i64 0, .int .i64 0, (.slice none 0 0)] 26 (0, 0))) ∧ Aside0 (wc.heap[gb185]? = some (.cells #[.int .i64 (wrap64 (1 + t179)), .int .i64 (wrap64 (1 + t182)), u186002] 26 (0, 0))) ∧ Aside0 (IsS51 w0 wc g s0_0 x1001_40 x1002_40) ∧ Aside0 (KeepBut w wc g none) ∧ Aside0 (Below w0.heap.size w0 wc))
    case first =>
     have H := HC41.out
     clear HC41
     by_cases c46 : t204 = true
     ·subst c46
      rw [if_pos rfl] at H
      replace H := Option.bind_eq_some_iff.mp H
      obtain ⟨⟨t207, t208, t209⟩, A470, H⟩ := H
      replace H : ((spec_l1Cur_among.f s0_0 t208 t209 (([9000, (-9000), 0] : List Int))).bind fun bt213 => (if 0 ≤ t207 then (if t207 < (x186002_1.length : Int) then (spec_l1Cur_field.j1 k1 s0_0 bt213.2.1 bt213.2.2 (wrap64 (1 + t179)) (wrap64 (1 + t182)) (x186002_1.set (t207 : Int).toNat bt213.1)) else (none)) else (none))) = some (r1, r2, r3, r4, r5) := H
      have A47 := Aside0.mk A470
      clear A470
      obtain ⟨y210, hy210⟩ : ∃ y_ : List Int, y_ = (([9000, (-9000), 0] : List Int)) := ⟨_, rfl⟩
      replace H : ((spec_l1Cur_among.f s0_0 t208 t209 y210).bind fun bt213 => (if 0 ≤ t207 then (if t207 < (x186002_1.length : Int) then (spec_l1Cur_field.j1 k1 s0_0 bt213.2.1 bt213.2.2 (wrap64 (1 + t179)) (wrap64 (1 + t182)) (x186002_1.set (t207 : Int).toNat bt213.1)) else (none)) else (none))) = some (r1, r2, r3, r4, r5) := by first | (rw [hy210]; with_reducible exact H) | (have H2_ := (Option.bind_some _ _).symm.trans H; rw [hy210]; with_reducible exact H2_) | (have H2_ := (Option.bind_some _ _).symm.trans H; with_reducible exact H2_) | with_reducible exact H | (rw [hy210]; exact H) | exact H
      have Ny210 := Aside0.mk hy210
      clear hy210
      replace H := Option.bind_eq_some_iff.mp H
      obtain ⟨⟨t213, t214, t215⟩, A480, H⟩ := H
      replace H : (if 0 ≤ t207 then (if t207 < (x186002_1.length : Int) then (spec_l1Cur_field.j1 k1 s0_0 t214 t215 (wrap64 (1 + t179)) (wrap64 (1 + t182)) (x186002_1.set (t207 : Int).toNat t213)) else (none)) else (none)) = some (r1, r2, r3, r4, r5) := H
      have A48 := Aside0.mk A480
      clear A480
      by_cases c49 : 0 ≤ t207
      ·rw [if_pos c49] at H
       have c49b0 : decide (0 ≤ t207) = true := decide_eq_true c49
       clear c49
       (first | rw [c49b0] | (simp only [i64_w, i32_w]; rw [c49b0]) | skip)
       by_cases c50 : t207 < (x186002_1.length : Int)
       ·rw [if_pos c50] at H
        have c50b0 : decide (t207 < (x186002_1.length : Int)) = true := decide_eq_true c50
        clear c50
        obtain ⟨y216, hy216⟩ : ∃ y_ : List Int, y_ = (x186002_1.set (t207 : Int).toNat t213) := ⟨_, rfl⟩
        replace H : (spec_l1Cur_field.j1 k1 s0_0 t214 t215 (wrap64 (1 + t179)) (wrap64 (1 + t182)) y216) = some (r1, r2, r3, r4, r5) := by first | (rw [hy216]; with_reducible exact H) | (have H2_ := (Option.bind_some _ _).symm.trans H; rw [hy216]; with_reducible exact H2_) | (have H2_ := (Option.bind_some _ _).symm.trans H; with_reducible exact H2_) | with_reducible exact H | (rw [hy216]; exact H) | exact H
        have Ny216 := Aside0.mk hy216
        clear hy216
        focus
         have H' := Aside0.mk H
         clear H
         try go_wp2
         replace HO_186002 := Aside0.mk (Kd.R_drew HO_186002.out)
         replace BK178 := Aside0.mk (blk_drew BK178.out)
         replace BK185 := Aside0.mk (blk_drew BK185.out)
         replace HI0 := Aside0.mk (IsS51.drew HI0.out)
         replace HK := Aside0.mk (keep_drew HK.out)
         replace HB := Aside0.mk (below_drew1 HB.out)
         obtain ⟨Ao53, co53, eo53⟩ := Kd.R_slice HO_186002.out
         (first | subst eo53 | (injection eo53 with f1_ f2_ f3_; have f4_ := f1_.symm; have f5_ := f3_.symm; clear f1_ f2_ f3_; subst f4_; subst f5_))
         refine start_ (n := 12) (S := fun w' => w'.cell? ⟨gb185, 0, none⟩ = some (.int .i64 (wrap64 (1 + t179))) ∧ w'.cell? ⟨gb185, 1, none⟩ = some (.int .i64 (wrap64 (1 + t182))) ∧ w'.cell? ⟨gb185, 2, none⟩ = some (.slice Ao53 x186002_1.length co53)) (ds := [11]) #[F,F,F,F,F,F,F,F,F,F,F,F] (by kernel_rfl) rfl rfl ⟨(blk_cell BK185.out 0).trans rfl, (blk_cell BK185.out 1).trans rfl, (blk_cell BK185.out 2).trans rfl⟩ (fun hHeld => ?_); refine with_tabW spec_l1Cur_field.tab11 spec_l1Cur_field.bits11 (fun HT_ HW_ => ?_)
         generalize w45.drew = w52 at HO_186002 BK178 BK185 HI0 HK HB hHeld ⊢
         refine pure_ (i := 0) (N := some 40) (v := ?_) (a' := ?_) #[T,F,F,F,F,F,F,F,F,F,F,F] rfl rfl (any_of HT_.out (by kernel_rfl)) (fun _ _ _ h => h) (Or.inl ⟨by rfl, ?_⟩) ?_ ?_
         rotate_left
         ·exact zwx
         rotate_left
         ·exact zpx
         refine pure_ (i := 2) (N := some 42) (v := ?_) (a' := ?_) #[T,F,T,F,F,F,F,F,F,F,F,F] rfl rfl (any_of HT_.out (by kernel_rfl)) (fun _ _ _ h => h) (Or.inl ⟨by rfl, ?_⟩) ?_ ?_
         rotate_left
         ·exact zwx
         rotate_left
         ·exact zpx
         refine pure_ (i := 3) (N := some 43) (v := ?_) (a' := ?_) #[T,F,T,T,F,F,F,F,F,F,F,F] rfl rfl (any_of HT_.out (by kernel_rfl)) (fun _ _ _ h => h) (Or.inl ⟨by rfl, ?_⟩) ?_ ?_
         rotate_left
         ·exact zwx
         rotate_left
         ·exact zpx
         refine pure_ (i := 7) (N := some 47) (v := ?_) (a' := ?_) #[T,F,T,T,F,F,F,T,F,F,F,F] rfl rfl (any_of HT_.out (by kernel_rfl)) (fun _ _ _ h => h) (Or.inl ⟨by rfl, ?_⟩) ?_ ?_
         rotate_left
         ·exact zwx
         rotate_left
         ·exact zpx
         refine take_ (i := 1) (N := some 41) (v := ?_) (a' := ?_) #[T,T,T,T,F,F,F,T,F,F,F,F] rfl rfl (take_ofW HT_.out HW_.out (by kernel_rfl)) (fun _ _ _ h => h) (Or.inl ⟨by rfl, ?_⟩) hHeld ?_ ?_
         rotate_left
         ·rintro w' ⟨s0, s1, s2⟩
          go_simp
          with_reducible rfl
         rotate_left
         ·exact zpx
         refine take_ (i := 4) (N := some 44) (v := ?_) (a' := ?_) #[T,T,T,T,T,F,F,T,F,F,F,F] rfl rfl (take_ofW HT_.out HW_.out (by kernel_rfl)) (fun _ _ _ h => h) (Or.inl ⟨by rfl, ?_⟩) hHeld ?_ ?_
         rotate_left
         ·rintro w' ⟨s0, s1, s2⟩
          go_simp
          with_reducible rfl
         rotate_left
         ·exact zpx
         refine pure_ (i := 5) (N := some 45) (v := ?_) (a' := ?_) #[T,T,T,T,T,T,F,T,F,F,F,F] rfl rfl (any_of HT_.out (by kernel_rfl)) (fun _ _ _ h => h) (Or.inl ⟨by rfl, ?_⟩) ?_ ?_
         rotate_left
         ·exact zwx
         rotate_left
         ·exact zpx
         refine join_ (σ := Value) 3 #[T,T,T,T,T,T,T,T,T,F,F,F] (fun s_ => [(46, .int .i64 t207), (48, s_)]) (fun s_ w' => (w'.cell? ⟨gb185, 0, none⟩ = some (.int .i64 (wrap64 (1 + t179))) ∧ w'.cell? ⟨gb185, 1, none⟩ = some (.int .i64 (wrap64 (1 + t182))) ∧ w'.cell? ⟨gb185, 2, none⟩ = some (.slice Ao53 x186002_1.length co53)) ∧ (Kd.R (Kd.int .i64) 3 w' w.heap.size (fun k_ => some k_ ≠ (.slice Ao53 x186002_1.length co53 : Value).ownBlock) s_ y210) ∧ (Kd.R (Kd.int .i64) 3 w' w.heap.size (fun k_ => some k_ ≠ (s_ : Value).ownBlock) (.slice Ao53 x186002_1.length co53) x186002_1) ∧ (w'.heap[gb178]? = some (.cells #[.int .i64 0, .int .i64 0, .slice none 0 0] 26 (0, 0))) ∧ (w'.heap[gb185]? = some (.cells #[.int .i64 (wrap64 (1 + t179)), .int .i64 (wrap64 (1 + t182)), .slice Ao53 x186002_1.length co53] 26 (0, 0))) ∧ (IsS51 w0 w' g s0_0 t208 t209) ∧ (KeepBut w w' g none) ∧ (Below w0.heap.size w0 w')) ?_ ?_
         rotate_left
         ·intro hCont
          refine two_ (i := 6) (j := 8) (Ni := some 46) (Nj := some 48) #[T,T,T,T,T,T,T,T,F,F,F,F] #[T,T,T,T,T,T,F,T,T,F,F,F] rfl rfl rfl rfl (two_of HT_.out (by kernel_rfl)) (by decide) (by decide) (fun K hK => ?_) (fun K hK => ?_)
          ·skip
           refine goes_ Try.func52 (by kernel_rfl) rfl #[.pointer (some ⟨g, 0, none⟩), .int .i64 (x186002_1.length : Int)] (by rfl) rfl rfl zlx ?_
           with_reducible refine (spec_l1Cur_pick.calls g s0_0 t205 t206 (x186002_1.length : Int) t207 t208 t209 w0 _ ?side1 ?side2 A47.out).mono ?_
           (case side1 => exact zhI51 HI0.out)
           (case side2 => exact zhB HB.out)
           rintro e w54 ⟨rfl, hi, hb, hk⟩
           refine ⟨_, rfl, ?_⟩
           replace HO_186002 := Aside0.mk (Kd.R_mono (Kd.R_keep (IsS51.apart (show IsS51 w0 _ g s0_0 t205 t206 from zhI51 HI0.out) (zRx HO_186002.out) (by decide)) hk (fun _ h => h.2)) (fun _ h => h.1))
           replace BK178 := Aside0.mk (KeepBut.blk hk (g' := gb178) (o := .cells #[.int .i64 0, .int .i64 0, .slice none 0 0] 26 (0, 0)) (zbx BK178.out) NB178_0.out (by simp))
           replace BK185 := Aside0.mk (KeepBut.blk hk (g' := gb185) (o := .cells #[.int .i64 (wrap64 (1 + t179)), .int .i64 (wrap64 (1 + t182)), .slice Ao53 x186002_1.length co53] 26 (0, 0)) (zbx BK185.out) NB185_0.out (by simp))
           replace HK := Aside0.mk (KeepBut.trans (zhK HK.out) hk (.inl rfl))
           replace HB := Aside0.mk (hb)
           replace HI0 := Aside0.mk (hi)
           (try clear hb)
           (try clear hb2)
           (try clear hk)
           (try clear hi)
           refine hK.out _ _ ⟨(blk_cell BK185.out 0).trans rfl, (blk_cell BK185.out 1).trans rfl, (blk_cell BK185.out 2).trans rfl⟩ (fun hHeld => ?_)
           clear hK K
           refine norm_ (a' := ?_) ?_ ?_
           rotate_left
           ·show Act.put _ (some 46) _ = _
            simp only [Act.put, List.setIfInBounds_toArray, List.set_cons_zero, List.set_cons_succ, i64_w, i32_w]
            rfl
           refine one_ (i := 8) (N := some 48) #[T,T,T,T,T,T,T,T,T,F,F,F] rfl rfl (one_of HT_.out (by kernel_rfl)) (by decide) (fun K hK => ?_)
           refine Kd.R_lit_step (Kd.int .i64) _ 3 ?hg (N := 48) ?hd (xs := ([9000, (-9000), 0] : List Int)) (inner := [.int .i64 9000, .int .i64 (-9000), .int .i64 0]) (ok := fun _ => True) (okp := fun _ => True) ?hr ?hp (fun _ hk => hk) trivial (Below.refl _ _) (Nat.le_refl _) (by simp) ?_; (case hd => rfl); (case hg => rfl); (case hr => exact zsx); (case hp => exact (Reps.one (show Kd.M (Kd.int .i64) _ _ _ 9000 [.int .i64 9000] from rfl) (Reps.one (show Kd.M (Kd.int .i64) _ _ _ (-9000) [.int .i64 (-9000)] from rfl) (Reps.one (show Kd.M (Kd.int .i64) _ _ _ 0 [.int .i64 0] from rfl) (Reps.none _ _)))))
           intro v211 w55 ho56 hb hg_ hnew_
           clear hg_ hnew_
           (first | rw [← Ny210.out] at ho56 | (simp only [Int.reduceToNat] at ho56; rw [← Ny210.out] at ho56))
           have HO212 := Aside0.mk (Kd.R_lower (Kd.R_new' ho56 (Kd.R_lt (zRx HO_186002.out))) (keep_size (w := w) (g := g) (row := none) (zhK HK.out)))
           replace HO_186002 := Aside0.mk (Kd.R_elder' (zRx HO_186002.out) (Kd.R_base ho56) hb)
           replace BK178 := zbl BK178.out hb
           replace BK185 := zbl BK185.out hb
           replace HI0 := Aside0.mk (IsS51.below (zhI51 HI0.out) hb)
           replace HK := Aside0.mk (KeepBut.trans (zhK HK.out) (KeepBut.of_below hb g none) (.inl rfl))
           replace HB := Aside0.mk (below_step (zhB HB.out) hb)
           clear hb ho56
           refine hK.out _ _ ⟨(blk_cell BK185.out 0).trans rfl, (blk_cell BK185.out 1).trans rfl, (blk_cell BK185.out 2).trans rfl⟩ (fun hHeld => ?_)
           clear hK K
           refine norm_ (a' := ?_) ?_ ?_
           rotate_left
           ·show Act.put _ (some 48) _ = _
            simp only [Act.put, List.setIfInBounds_toArray, List.set_cons_zero, List.set_cons_succ, i64_w, i32_w]
            rfl
           exact norm_ (by simp only [putAll, Act.put, List.setIfInBounds_toArray, List.set_cons_zero, List.set_cons_succ]) (hCont (v211) _ ⟨hHeld, (by refine zDR ?_; exact Kd.R_mono HO212.out (fun _ hk => hk.2)), (by refine zDR ?_; exact Kd.R_mono HO_186002.out (fun _ hk => hk.2)), (zbx BK178.out), (zbx BK185.out), (zhI51 HI0.out), (zhK HK.out), (zhB HB.out)⟩)
          ·skip
           refine Kd.R_lit_step (Kd.int .i64) _ 3 ?hg (N := 48) ?hd (xs := ([9000, (-9000), 0] : List Int)) (inner := [.int .i64 9000, .int .i64 (-9000), .int .i64 0]) (ok := fun _ => True) (okp := fun _ => True) ?hr ?hp (fun _ hk => hk) trivial (Below.refl _ _) (Nat.le_refl _) (by simp) ?_; (case hd => rfl); (case hg => rfl); (case hr => exact zsx); (case hp => exact (Reps.one (show Kd.M (Kd.int .i64) _ _ _ 9000 [.int .i64 9000] from rfl) (Reps.one (show Kd.M (Kd.int .i64) _ _ _ (-9000) [.int .i64 (-9000)] from rfl) (Reps.one (show Kd.M (Kd.int .i64) _ _ _ 0 [.int .i64 0] from rfl) (Reps.none _ _)))))
           intro v211 w54 ho55 hb hg_ hnew_
           clear hg_ hnew_
           (first | rw [← Ny210.out] at ho55 | (simp only [Int.reduceToNat] at ho55; rw [← Ny210.out] at ho55))
           have HO212 := Aside0.mk (Kd.R_lower (Kd.R_new' ho55 (Kd.R_lt (zRx HO_186002.out))) (keep_size (w := w) (g := g) (row := none) (zhK HK.out)))
           replace HO_186002 := Aside0.mk (Kd.R_elder' (zRx HO_186002.out) (Kd.R_base ho55) hb)
           replace BK178 := zbl BK178.out hb
           replace BK185 := zbl BK185.out hb
           replace HI0 := Aside0.mk (IsS51.below (zhI51 HI0.out) hb)
           replace HK := Aside0.mk (KeepBut.trans (zhK HK.out) (KeepBut.of_below hb g none) (.inl rfl))
           replace HB := Aside0.mk (below_step (zhB HB.out) hb)
           clear hb ho55
           refine hK.out _ _ ⟨(blk_cell BK185.out 0).trans rfl, (blk_cell BK185.out 1).trans rfl, (blk_cell BK185.out 2).trans rfl⟩ (fun hHeld => ?_)
           clear hK K
           refine norm_ (a' := ?_) ?_ ?_
           rotate_left
           ·show Act.put _ (some 48) _ = _
            simp only [Act.put, List.setIfInBounds_toArray, List.set_cons_zero, List.set_cons_succ, i64_w, i32_w]
            rfl
           refine one_ (i := 6) (N := some 46) #[T,T,T,T,T,T,T,T,T,F,F,F] rfl rfl (one_of HT_.out (by kernel_rfl)) (by decide) (fun K hK => ?_)
           refine goes_ Try.func52 (by kernel_rfl) rfl #[.pointer (some ⟨g, 0, none⟩), .int .i64 (x186002_1.length : Int)] (by rfl) rfl rfl zlx ?_
           with_reducible refine (spec_l1Cur_pick.calls g s0_0 t205 t206 (x186002_1.length : Int) t207 t208 t209 w0 _ ?side1 ?side2 A47.out).mono ?_
           (case side1 => exact zhI51 HI0.out)
           (case side2 => exact zhB HB.out)
           rintro e w56 ⟨rfl, hi, hb, hk⟩
           refine ⟨_, rfl, ?_⟩
           replace HO_186002 := Aside0.mk (Kd.R_mono (Kd.R_keep (IsS51.apart (show IsS51 w0 _ g s0_0 t205 t206 from zhI51 HI0.out) (zRx HO_186002.out) (by decide)) hk (fun _ h => h.2)) (fun _ h => h.1))
           replace BK178 := Aside0.mk (KeepBut.blk hk (g' := gb178) (o := .cells #[.int .i64 0, .int .i64 0, .slice none 0 0] 26 (0, 0)) (zbx BK178.out) NB178_0.out (by simp))
           replace BK185 := Aside0.mk (KeepBut.blk hk (g' := gb185) (o := .cells #[.int .i64 (wrap64 (1 + t179)), .int .i64 (wrap64 (1 + t182)), .slice Ao53 x186002_1.length co53] 26 (0, 0)) (zbx BK185.out) NB185_0.out (by simp))
           replace HO212 := Aside0.mk (Kd.R_mono (Kd.R_keep (IsS51.apart (show IsS51 w0 _ g s0_0 t205 t206 from zhI51 HI0.out) (zRx HO212.out) (by decide)) hk (fun _ h => h.2)) (fun _ h => h.1))
           replace HK := Aside0.mk (KeepBut.trans (zhK HK.out) hk (.inl rfl))
           replace HB := Aside0.mk (hb)
           replace HI0 := Aside0.mk (hi)
           (try clear hb)
           (try clear hb2)
           (try clear hk)
           (try clear hi)
           refine hK.out _ _ ⟨(blk_cell BK185.out 0).trans rfl, (blk_cell BK185.out 1).trans rfl, (blk_cell BK185.out 2).trans rfl⟩ (fun hHeld => ?_)
           clear hK K
           refine norm_ (a' := ?_) ?_ ?_
           rotate_left
           ·show Act.put _ (some 46) _ = _
            simp only [Act.put, List.setIfInBounds_toArray, List.set_cons_zero, List.set_cons_succ, i64_w, i32_w]
            rfl
           exact norm_ (by simp only [putAll, Act.put, List.setIfInBounds_toArray, List.set_cons_zero, List.set_cons_succ]) (hCont (v211) _ ⟨hHeld, (by refine zDR ?_; exact Kd.R_mono HO212.out (fun _ hk => hk.2)), (by refine zDR ?_; exact Kd.R_mono HO_186002.out (fun _ hk => hk.2)), (zbx BK178.out), (zbx BK185.out), (zhI51 HI0.out), (zhK HK.out), (zhB HB.out)⟩)
         rintro v211 w57 ⟨hS_, h0_, h1_, h2_, h3_, h4_, h5_, h6_⟩
         have HO212 : Aside0 (Kd.R (Kd.int .i64) 3 w57 w.heap.size (fun k_ => some k_ ≠ (.slice Ao53 x186002_1.length co53 : Value).ownBlock) v211 y210) := ⟨h0_⟩
         replace HO_186002 : Aside0 (Kd.R (Kd.int .i64) 3 w57 w.heap.size (fun k_ => some k_ ≠ (v211 : Value).ownBlock) (.slice Ao53 x186002_1.length co53) x186002_1) := ⟨h1_⟩
         replace BK178 : Aside0 (w57.heap[gb178]? = some (.cells #[.int .i64 0, .int .i64 0, .slice none 0 0] 26 (0, 0))) := ⟨h2_⟩
         replace BK185 : Aside0 (w57.heap[gb185]? = some (.cells #[.int .i64 (wrap64 (1 + t179)), .int .i64 (wrap64 (1 + t182)), .slice Ao53 x186002_1.length co53] 26 (0, 0))) := ⟨h3_⟩
         replace HI0 : Aside0 (IsS51 w0 w57 g s0_0 t208 t209) := ⟨h4_⟩
         replace HK : Aside0 (KeepBut w w57 g none) := ⟨h5_⟩
         replace HB : Aside0 (Below w0.heap.size w0 w57) := ⟨h6_⟩
         clear h0_
         clear h1_
         clear h2_
         clear h3_
         clear h4_
         clear h5_
         clear h6_
         have hHeld : w57.cell? ⟨gb185, 0, none⟩ = some (.int .i64 (wrap64 (1 + t179))) ∧ w57.cell? ⟨gb185, 1, none⟩ = some (.int .i64 (wrap64 (1 + t182))) ∧ w57.cell? ⟨gb185, 2, none⟩ = some (.slice Ao53 x186002_1.length co53) := hS_
         obtain ⟨Ao58, co58, eo58⟩ := Kd.R_slice HO212.out
         (first | subst eo58 | (injection eo58 with f1_ f2_ f3_; have f4_ := f1_.symm; have f5_ := f3_.symm; clear f1_ f2_ f3_; subst f4_; subst f5_))
         refine norm_ (a' := ?_) ?_ ?_
         rotate_left
         ·simp only [putAll, Act.put, List.setIfInBounds_toArray, List.set_cons_zero, List.set_cons_succ]
          rfl
         refine one_ (i := 9) (N := some 49) #[T,T,T,T,T,T,T,T,T,T,F,F] rfl rfl (one_of HT_.out (by kernel_rfl)) (by decide) (fun K hK => ?_)
         refine goes_ Try.func33 (by kernel_rfl) rfl #[.pointer (some ⟨g, 0, none⟩), .slice Ao58 y210.length co58] (by rfl) rfl rfl zlx ?_
         with_reducible refine (spec_l1Cur_among.calls g s0_0 t208 t209 _ _ y210 t213 t214 t215 w0 _ ?side1 ?side2 ?side3 ?side4 ?side5 A48.out).mono ?_
         (case side1 => exact zhI51 HI0.out)
         (case side2 => exact zhB HB.out)
         (case side3 => exact zCx (Kd.R_reads' HO212.out).2.2)
         (case side4 => exact (Kd.R_reads' HO212.out).2.1)
         (case side5 => exact far_slice (IsS51.own_ne HI0.out HO212.out (by decide)))
         rintro e w59 ⟨rfl, hi, hb, hk⟩
         refine ⟨_, rfl, ?_⟩
         replace HO_186002 := Aside0.mk (Kd.R_mono (Kd.R_keep (IsS51.apart (show IsS51 w0 _ g s0_0 t208 t209 from zhI51 HI0.out) (zRx HO_186002.out) (by decide)) hk (fun _ h => h.2)) (fun _ h => h.1))
         replace BK178 := Aside0.mk (KeepBut.blk hk (g' := gb178) (o := .cells #[.int .i64 0, .int .i64 0, .slice none 0 0] 26 (0, 0)) (zbx BK178.out) NB178_0.out (by simp))
         replace BK185 := Aside0.mk (KeepBut.blk hk (g' := gb185) (o := .cells #[.int .i64 (wrap64 (1 + t179)), .int .i64 (wrap64 (1 + t182)), .slice Ao53 x186002_1.length co53] 26 (0, 0)) (zbx BK185.out) NB185_0.out (by simp))
         replace HO212 := Aside0.mk (Kd.R_mono (Kd.R_keep (IsS51.apart (show IsS51 w0 _ g s0_0 t208 t209 from zhI51 HI0.out) (zRx HO212.out) (by decide)) hk (fun _ h => h.2)) (fun _ h => h.1))
         replace HK := Aside0.mk (KeepBut.trans (zhK HK.out) hk (.inl rfl))
         replace HB := Aside0.mk (hb)
         replace HI0 := Aside0.mk (hi)
         (try clear hb)
         (try clear hb2)
         (try clear hk)
         (try clear hi)
         have p51 : 0 ≤ (t207 : Int) := of_decide_eq_true zax
         have q51 : (t207 : Int) < ((x186002_1.length : Int) : Int) := of_decide_eq_true zax
         obtain ⟨go51, co51, eo51, gb51, gl51, cl51, HG51⟩ := Kd.R_form HO_186002.out (by omega)
         (first | cases eo51 | (injection eo51 with ea_ en_ ec_; (first | subst ea_ | (injection ea_ with ea_; subst ea_)); subst ec_; clear en_))
         have GB51 := Aside0.mk gb51
         have GG51 := Aside0.mk HG51
         clear gb51 gl51 HG51
         obtain ⟨hx51_0, hf51_0⟩ := Kd.R_celln 0 HO_186002.out (t207 : Int) p51 q51
         replace p51 := eq_true p51
         replace q51 := eq_true q51
         have HN0_go51 := Aside0.mk (show g ≠ go51 from by have h_ := IsS51.own_ne HI0.out HO_186002.out (by decide); intro e_; exact h_ (by rw [e_]; rfl))
         have HP60 := Kd.R_putn HO_186002.out (t207 : Int) t213
         rw [← Ny216.out] at HP60
         have HQ60 := Aside0.mk HP60
         clear HP60
         refine hK.out _ _ ⟨(blk_cell BK185.out 0).trans rfl, (blk_cell BK185.out 1).trans rfl, (blk_cell BK185.out 2).trans rfl⟩ (fun hHeld => ?_)
         clear hK K
         refine norm_ (a' := ?_) ?_ ?_
         rotate_left
         ·show Act.put _ (some 49) _ = _
          simp only [Act.put, List.setIfInBounds_toArray, List.set_cons_zero, List.set_cons_succ, i64_w, i32_w]
          rfl
         refine pure_ (i := 10) (N := some 50) (v := ?_) (a' := ?_) #[T,T,T,T,T,T,T,T,T,T,T,F] rfl rfl (any_of HT_.out (by kernel_rfl)) (fun _ _ _ h => h) (Or.inl ⟨by rfl, ?_⟩) ?_ ?_
         rotate_left
         ·exact zwx
         rotate_left
         ·exact zpx
         refine last_ (i := 11) (N := none) #[T,T,T,T,T,T,T,T,T,T,T,T] rfl rfl (one_of HT_.out (by kernel_rfl)) (by decide) (fun K hK => ?_)
         refine skip_ (w1 := ?_) (by rfl) rfl ?_ ?_
         rotate_left
         ·go_simp
          rfl
         refine hK.out _ _ ?_
         clear hK K
         refine done_ (done_of HT_.out (by kernel_rfl)) ?_
         try go_wp2
         go_meet
         case rel => exact ⟨_, (t214), (t215), (y216), (.slice (some ⟨go51, 0, none⟩) x186002_1.length co53), H', ⟨by have := HK1.out; first | omega | exact Nat.le_refl _⟩, ⟨by refine zDR ?_; exact Kd.R_mono HQ60.out (fun _ hk => trivial)⟩, ⟨by refine zbx ?_; refine blk_far ?_ (by have h_ := Kd.R_ne HO_186002.out BK178.out (by decide); intro e_; exact h_ (by rw [e_]; rfl)) _; refine zbx ?_; exact BK178.out⟩, ⟨by refine zbx ?_; refine blk_far ?_ (by have h_ := Kd.R_ne HO_186002.out BK185.out (by decide); intro e_; exact h_ (by rw [e_]; rfl)) _; refine zbx ?_; exact BK185.out⟩, ⟨zhI51 HI0.out⟩, ⟨zhK HK.out⟩, ⟨by repeat (first | (with_reducible first | exact HB.out | apply below_alloc | apply pw_below_drewN | apply below_drew1 | refine below_set ?_ (Nat.le_trans HL.out GB51.out) | refine below_set ?_ (IsS51.ge HI0.out) | refine below_set ?_ GE178.out | refine below_set ?_ GE185.out) | exact HB.out)⟩⟩
       ·rw [if_neg c50] at H
        exact absurd H (by simp)
      ·rw [if_neg c49] at H
       exact absurd H (by simp)
     ·replace c46 := Bool.eq_false_iff.mpr c46
      subst c46
      rw [if_neg (show ¬ (false = true) by decide)] at H
      focus
       have H' := Aside0.mk H
       clear H
       go_wp2
       go_meet
       case rel => exact ⟨_, (t205), (t206), (x186002_1), (u186002), H', ⟨by have := HK1.out; first | omega | exact Nat.le_refl _⟩, ⟨by refine zDR ?_; exact HO_186002.out⟩, ⟨by refine zbx ?_; exact BK178.out⟩, ⟨by refine zbx ?_; exact BK185.out⟩, ⟨zhI51 HI0.out⟩, ⟨zhK HK.out⟩, ⟨zhB HB.out⟩⟩
    case rest =>
     clear HC41
     try clear c1
     try clear c2
     try clear p2
     try clear c3
     try clear c4
     try clear c5
     try clear p5
     try clear q5
     try clear hx5
     try clear hf5
     try clear p6
     try clear c9
     try clear c10
     try clear c16
     try clear c16b0
     try clear c19
     try clear c20
     try clear c21
     try clear c22
     try clear c30
     try clear c31
     try clear c32
     try clear c33
     try clear c42
     try clear c43
     try clear c46
     try clear c49
     try clear c49b0
     try clear c50
     try clear c50b0
     try clear c51
     try clear p51
     try clear q51
     try clear hx51
     try clear hf51
     try clear c52
     try clear c54
     try clear hcz11_0
     try clear hcz11_1
     try clear hcz11_2
     try clear hcz23_0
     try clear hcz23_1
     try clear hcz23_2
     try clear hcz26_0
     try clear hcz26_1
     try clear hcz26_2
     try clear hcz29_0
     try clear hcz29_1
     try clear hcz29_2
     try clear hcz33_0
     try clear hcz33_1
     try clear hcz33_2
     try clear hcz36_0
     try clear hcz36_1
     try clear hcz36_2
     try clear hcz39_0
     try clear hcz39_1
     try clear hcz39_2
     try clear hcz44_0
     try clear hcz44_1
     try clear hcz44_2
     try clear hfz11_0
     try clear hfz11_1
     try clear hfz11_2
     try clear hfz23_0
     try clear hfz23_1
     try clear hfz23_2
     try clear hfz26_0
     try clear hfz26_1
     try clear hfz26_2
     try clear hfz29_0
     try clear hfz29_1
     try clear hfz29_2
     try clear hfz33_0
     try clear hfz33_1
     try clear hfz33_2
     try clear hfz36_0
     try clear hfz36_1
     try clear hfz36_2
     try clear hfz39_0
     try clear hfz39_1
     try clear hfz39_2
     try clear hfz44_0
     try clear hfz44_1
     try clear hfz44_2
     try clear hx51_0
     try clear p2
     try clear p51
     try clear p6
     try clear q51
     obtain ⟨kq, x1001_40, x1002_40, x186002_40, u186002, HA, HJ40, HO_186002, BK178, BK185, HI0, HK, HB⟩ := hcut
     cases kq with
     | zero => exact absurd HA.out (by simp [spec_l1Cur_field.j1])
     | succ kj40 =>
      have H := HA.out
      clear HA
      simp only [spec_l1Cur_field.j1] at H
      replace H := Option.bind_eq_some_iff.mp H
      obtain ⟨⟨t217, t218, t219⟩, A610, H⟩ := H
      replace H : (if t217 = true then ((spec_l2Fill.f kj40 8 8 3).bind fun bt220 => (some (bt220.1, bt220.2.1, bt220.2.2, t218, t219))) else (some ((wrap64 (1 + t179)), (wrap64 (1 + t182)), x186002_40, t218, t219))) = some (r1, r2, r3, r4, r5) := H
      have A61 := Aside0.mk A610
      clear A610
      by_cases c62 : t217 = true
      ·subst c62
       rw [if_pos rfl] at H
       replace H := Option.bind_eq_some_iff.mp H
       obtain ⟨⟨t220, t221, t222⟩, A630, H⟩ := H
       replace H : (some (t220, t221, t222, t218, t219)) = some (r1, r2, r3, r4, r5) := H
       have A63 := Aside0.mk A630
       clear A630
       focus
        simp only [Option.some.injEq, Prod.mk.injEq] at H
        obtain ⟨rfl, rfl, rfl, rfl, rfl⟩ := H
        go_wp2_with (first | ((with_reducible refine gate_callee (f := 54) rfl ?_); refine goesL_ (some 52) rfl rfl Try.func54 (by kernel_rfl) rfl #[.pointer (some ⟨g, 0, none⟩), .int .i64 24] rfl zlx ?_; (with_reducible refine (spec_l1Cur_one.calls g s0_0 x1001_40 x1002_40 24 true t218 t219 w0 _ ?side1 ?side2 A61.out).mono ?_); (case side1 => exact zhI51 HI0.out); (case side2 => exact zhB HB.out); rintro e w64 ⟨rfl, hi, hb, hk⟩; refine ⟨_, rfl, ?_⟩; replace HO_186002 := Aside0.mk (Kd.R_mono (Kd.R_keep (IsS51.apart (show IsS51 w0 _ g s0_0 x1001_40 x1002_40 from zhI51 HI0.out) (zRx HO_186002.out) (by decide)) hk (fun _ h => h.2)) (fun _ h => h.1)); replace BK178 := Aside0.mk (KeepBut.blk hk (g' := gb178) (o := .cells #[.int .i64 0, .int .i64 0, .slice none 0 0] 26 (0, 0)) (zbx BK178.out) NB178_0.out (by simp)); replace BK185 := Aside0.mk (KeepBut.blk hk (g' := gb185) (o := .cells #[.int .i64 (wrap64 (1 + t179)), .int .i64 (wrap64 (1 + t182)), u186002] 26 (0, 0)) (zbx BK185.out) NB185_0.out (by simp)); replace HK := Aside0.mk (KeepBut.trans (zhK HK.out) hk (.inl rfl)); replace HB := Aside0.mk (hb); replace HI0 := Aside0.mk (hi); (try clear hb); (try clear hk); (try clear hi)) | ((with_reducible refine gate_callee (f := 70) rfl ?_); refine goesL_ (some 53) rfl rfl Try.func70 (by kernel_rfl) rfl #[.int .i64 8, .int .i64 8, .int .i64 3] rfl zlx ?_; (with_reducible refine (spec_l2Fill.calls kj40 8 8 3 t220 t221 t222 _ A63.out).mono ?_); rintro e w65 ⟨v223, rfl, ho0, hb⟩; refine ⟨_, rfl, ?_⟩; have HO224 := Aside0.mk (Kd.R_lower (Kd.R_new' ho0 (Kd.R_lt (zRx HO_186002.out))) (keep_size (w := w) (g := g) (row := none) (zhK HK.out))); replace HO_186002 := Aside0.mk (Kd.R_elder' (zRx HO_186002.out) (Kd.R_base ho0) hb); replace BK178 := zbl BK178.out hb; replace BK185 := zbl BK185.out hb; replace HI0 := Aside0.mk (IsS51.below (zhI51 HI0.out) hb); replace HK := Aside0.mk (KeepBut.trans (zhK HK.out) (KeepBut.of_below hb g none) (.inl rfl)); replace HB := Aside0.mk (below_step (zhB HB.out) hb); (try clear hb); (try clear hk); (try clear ho0); have hnb66 := NB185_178.out; have hnc66 := NB178_185.out; have hnb67 := NB185_0.out; have hnc67 := NB0_185.out; have hcz68_0 : w65.cell? ⟨gb185, 0, none⟩ = some (.int .i64 (wrap64 (1 + t179))) := (blk_cell BK185.out 0).trans rfl; have hcz68_1 : w65.cell? ⟨gb185, 1, none⟩ = some (.int .i64 (wrap64 (1 + t182))) := (blk_cell BK185.out 1).trans rfl; have hcz68_2 : w65.cell? ⟨gb185, 2, none⟩ = some (u186002) := (blk_cell BK185.out 2).trans rfl; have hfz68_0 := blk_frozen BK185.out 0; have hfz68_1 := blk_frozen BK185.out 1; have hfz68_2 := blk_frozen BK185.out 2; obtain ⟨Ao69, co69, eo69⟩ := Kd.R_slice HO224.out; subst eo69; have hnb70 := NB178_0.out; have hnc70 := NB0_178.out; have hcz71_0 : w65.cell? ⟨gb178, 0, none⟩ = some (.int .i64 0) := (blk_cell BK178.out 0).trans rfl; have hcz71_1 : w65.cell? ⟨gb178, 1, none⟩ = some (.int .i64 0) := (blk_cell BK178.out 1).trans rfl; have hcz71_2 : w65.cell? ⟨gb178, 2, none⟩ = some (.slice none 0 0) := (blk_cell BK178.out 2).trans rfl; have hfz71_0 := blk_frozen BK178.out 0; have hfz71_1 := blk_frozen BK178.out 1; have hfz71_2 := blk_frozen BK178.out 2))
        refine bodyPost_ret (results_cell_row rfl _ _ gb178 26 #[.int .i64 t220, .int .i64 t221, .slice Ao69 t222.length co69] (0, 0) _ rfl (zbp BK178.out) Try.underlying26 rfl (by kernel_rfl)) rfl ?_
        exact ⟨_, by first | rfl | (simp [errW_none, errW_some] <;> rfl) | (simp [*, errW_none, errW_some] <;> rfl), by refine zDR ?_; exact Kd.R_mono (Kd.R_far (p := ⟨gb178, 2, none⟩) (Kd.R_far (p := ⟨gb178, 1, none⟩) (Kd.R_far (p := ⟨gb178, 0, none⟩) (Kd.R_far (p := ⟨gb185, 2, none⟩) (Kd.R_far (p := ⟨gb185, 1, none⟩) (Kd.R_far (p := ⟨gb185, 0, none⟩) (Kd.R_types (Kd.R_types HO224.out BK185.out (by decide)) BK178.out (by decide)) (fun _ hk => hk.1.2) (.int .i64 t220)) (fun _ hk => hk.1.2) (.int .i64 t221)) (fun _ hk => hk.1.2) (.slice Ao69 t222.length co69)) (fun _ hk => hk.2) (.int .i64 t220)) (fun _ hk => hk.2) (.int .i64 t221)) (fun _ hk => hk.2) (.slice Ao69 t222.length co69)) (fun _ hk => trivial), zhI51 HI0.out, zhB HB.out, zhK HK.out⟩
      ·replace c62 := Bool.eq_false_iff.mpr c62
       subst c62
       rw [if_neg (show ¬ (false = true) by decide)] at H
       focus
        simp only [Option.some.injEq, Prod.mk.injEq] at H
        obtain ⟨rfl, rfl, rfl, rfl, rfl⟩ := H
        go_wp2_with (first | ((with_reducible refine gate_callee (f := 54) rfl ?_); refine goesL_ (some 52) rfl rfl Try.func54 (by kernel_rfl) rfl #[.pointer (some ⟨g, 0, none⟩), .int .i64 24] rfl zlx ?_; (with_reducible refine (spec_l1Cur_one.calls g s0_0 x1001_40 x1002_40 24 false t218 t219 w0 _ ?side1 ?side2 A61.out).mono ?_); (case side1 => exact zhI51 HI0.out); (case side2 => exact zhB HB.out); rintro e w72 ⟨rfl, hi, hb, hk⟩; refine ⟨_, rfl, ?_⟩; replace HO_186002 := Aside0.mk (Kd.R_mono (Kd.R_keep (IsS51.apart (show IsS51 w0 _ g s0_0 x1001_40 x1002_40 from zhI51 HI0.out) (zRx HO_186002.out) (by decide)) hk (fun _ h => h.2)) (fun _ h => h.1)); replace BK178 := Aside0.mk (KeepBut.blk hk (g' := gb178) (o := .cells #[.int .i64 0, .int .i64 0, .slice none 0 0] 26 (0, 0)) (zbx BK178.out) NB178_0.out (by simp)); replace BK185 := Aside0.mk (KeepBut.blk hk (g' := gb185) (o := .cells #[.int .i64 (wrap64 (1 + t179)), .int .i64 (wrap64 (1 + t182)), u186002] 26 (0, 0)) (zbx BK185.out) NB185_0.out (by simp)); replace HK := Aside0.mk (KeepBut.trans (zhK HK.out) hk (.inl rfl)); replace HB := Aside0.mk (hb); replace HI0 := Aside0.mk (hi); (try clear hb); (try clear hk); (try clear hi); have hnb73 := NB185_178.out; have hnc73 := NB178_185.out; have hnb74 := NB185_0.out; have hnc74 := NB0_185.out; have hcz75_0 : w72.cell? ⟨gb185, 0, none⟩ = some (.int .i64 (wrap64 (1 + t179))) := (blk_cell BK185.out 0).trans rfl; have hcz75_1 : w72.cell? ⟨gb185, 1, none⟩ = some (.int .i64 (wrap64 (1 + t182))) := (blk_cell BK185.out 1).trans rfl; have hcz75_2 : w72.cell? ⟨gb185, 2, none⟩ = some (u186002) := (blk_cell BK185.out 2).trans rfl; have hfz75_0 := blk_frozen BK185.out 0; have hfz75_1 := blk_frozen BK185.out 1; have hfz75_2 := blk_frozen BK185.out 2; have hnb76 := NB178_0.out; have hnc76 := NB0_178.out; have hcz77_0 : w72.cell? ⟨gb178, 0, none⟩ = some (.int .i64 0) := (blk_cell BK178.out 0).trans rfl; have hcz77_1 : w72.cell? ⟨gb178, 1, none⟩ = some (.int .i64 0) := (blk_cell BK178.out 1).trans rfl; have hcz77_2 : w72.cell? ⟨gb178, 2, none⟩ = some (.slice none 0 0) := (blk_cell BK178.out 2).trans rfl; have hfz77_0 := blk_frozen BK178.out 0; have hfz77_1 := blk_frozen BK178.out 1; have hfz77_2 := blk_frozen BK178.out 2; obtain ⟨Ao78, co78, eo78⟩ := Kd.R_slice HO_186002.out; subst eo78))
        refine bodyPost_ret (results_cell_row rfl _ _ gb178 26 #[.int .i64 (wrap64 (1 + t179)), .int .i64 (wrap64 (1 + t182)), .slice Ao78 x186002_40.length co78] (0, 0) _ rfl (zbp BK178.out) Try.underlying26 rfl (by kernel_rfl)) rfl ?_
        exact ⟨_, by first | rfl | (simp [errW_none, errW_some] <;> rfl) | (simp [*, errW_none, errW_some] <;> rfl), by refine zDR ?_; exact Kd.R_mono (Kd.R_far (p := ⟨gb178, 2, none⟩) (Kd.R_far (p := ⟨gb178, 1, none⟩) (Kd.R_far (p := ⟨gb178, 0, none⟩) (Kd.R_types HO_186002.out BK178.out (by decide)) (fun _ hk => hk.2) (.int .i64 (wrap64 (1 + t179)))) (fun _ hk => hk.2) (.int .i64 (wrap64 (1 + t182)))) (fun _ hk => hk.2) (.slice Ao78 x186002_40.length co78)) (fun _ hk => trivial), zhI51 HI0.out, zhB HB.out, zhK HK.out⟩

end Go.Proofs.Ytddgbaohepfekaa.XFnLimits
