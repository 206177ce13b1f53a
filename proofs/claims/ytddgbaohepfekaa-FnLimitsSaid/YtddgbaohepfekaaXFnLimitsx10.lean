-- written by wip/tools/xprint.py (a program of this project) out of the translation
import Derived.Test.YtddgbaohepfekaaXFnLimitsx0
import Derived.Test.YtddgbaohepfekaaXFnLimitsx3
import Derived.Test.YtddgbaohepfekaaXFnLimitsx9
import Derived.Lib.RowBridge
import Derived.Shelf.SlSortCmp.WholeK
import Derived.Test.YtddgbaohepfekaaShelf
namespace Go.Proofs.Ytddgbaohepfekaa.XFnLimits
open Go.RowKit Go.Proofs.YtddgbaohepfekaaW.PrintWords Go.Proofs.YtddgbaohepfekaaW.PrintLast Go.Proofs.YtddgbaohepfekaaW.PrintMore
attribute [local go_sem] max2_int min2_int max_two min_two max_three min_three max_four min_four   -- for this text's walks alone
set_option linter.unusedVariables false
set_option linter.unusedSimpArgs false

/-! ### spec_DrawBestLimit: function 21 -/
def spec_DrawBestLimit.f (k : Nat) (l0 : List Int) : Option (Int × Int × List Int × Int × Int × List Int × Int) := (spec_DrawCountTable.f k l0).bind fun bt322 => (some (bt322.1, bt322.2.1, bt322.2.2.1, bt322.2.2.2.1, bt322.2.2.2.2.1, bt322.2.2.2.2.2.1, bt322.2.2.2.2.2.2))
theorem spec_DrawBestLimit.mono : ∀ a0 k, LeO (spec_DrawBestLimit.f k a0) (spec_DrawBestLimit.f (k + 1) a0) := by
 intro a0 k
 unfold spec_DrawBestLimit.f
 repeat' first
  | (with_reducible exact spec_DrawCountTable.mono _ _)
  | (with_reducible exact LeO.refl _)
  | (with_reducible exact LeO.none _)
  | (with_reducible refine LeO.ite ?_ ?_)
  | (with_reducible refine LeO.bind ?_ (fun _ => ?_))
  | exact spec_DrawCountTable.mono _ _
  | exact LeO.none _
  | refine LeO.ite ?_ ?_
  | refine LeO.bind ?_ (fun _ => ?_)
set_option maxHeartbeats 8000000 in
set_option maxRecDepth 100000 in
theorem spec_DrawBestLimit.calls (k : Nat) (A0 : Option Addr) (c0 : Nat) (l0 : List Int) (r1 : Int) (r2 : Int) (r3 : List Int) (r4 : Int) (r5 : Int) (r6 : List Int) (r7 : Int) (w : World) (hr0 : Kd.C (Kd.int .u8) w A0 l0.length l0) (hc0 : l0.length ≤ c0) (h : spec_DrawBestLimit.f k l0 = some (r1, r2, r3, r4, r5, r6, r7)) :
 Calls Try.prog 21 #[.slice A0 l0.length c0] w fun e w' => ∃ v2_ v5_ : Value, e = .returned (.tuple #[.agg #[.int .i64 r1, .int .i64 r2, v2_], .agg #[.int .i64 r4, .int .i64 r5, v5_], .int .i64 r7]) ∧ Kd.Q (Kd.int .i64) 3 w' w.heap.size (fun k_ => some k_ ≠ (v5_ : Value).ownBlock) v2_ r3 ∧ Kd.R (Kd.int .i64) 3 w' w.heap.size (fun k_ => some k_ ≠ (v2_ : Value).ownBlock) v5_ r6 ∧ Below w.heap.size w w' := by
 have hu26 := Try.underlying26
 have HR0 := Aside0.mk hr0
 have HC0 := Aside0.mk hc0
 clear hr0 hc0
 have HB := Aside0.mk (Below.refl w.heap.size w)
 have H : ((spec_DrawCountTable.f k l0).bind fun bt322 => (some (bt322.1, bt322.2.1, bt322.2.2.1, bt322.2.2.2.1, bt322.2.2.2.2.1, bt322.2.2.2.2.2.1, bt322.2.2.2.2.2.2))) = some (r1, r2, r3, r4, r5, r6, r7) := h
 clear h
 replace H := Option.bind_eq_some_iff.mp H
 obtain ⟨⟨t322, t323, t324, t327, t328, t329, t332⟩, A20, H⟩ := H
 replace H : (some (t322, t323, t324, t327, t328, t329, t332)) = some (r1, r2, r3, r4, r5, r6, r7) := H
 have A2 := Aside0.mk A20
 clear A20
 focus
  simp only [Option.some.injEq, Prod.mk.injEq] at H
  obtain ⟨rfl, rfl, rfl, rfl, rfl, rfl, rfl⟩ := H
  go_enter Try.func21, Try.ntmps21
  go_wp2_with (first | ((with_reducible refine gate_dst (N := 2) rfl ?_); refine box_event ?hg (N := 2) ?hd (cs := #[.int .i64 0, .int .i64 0, .slice none 0 0]) (t := 26) ?hr ?_; (case hd => rfl); (case hg => rfl); (case hr => exact zsx); intro gb320 hg w3 hbox hb; have BK320 := Aside0.mk (hbox); have GW320 := zns hg HB.out; have GE320 := zns hg HB.out; replace HB := Aside0.mk (below_step (zBx HB.out) hb); clear hb hbox hg) | ((with_reducible refine gate_dst (N := 3) rfl ?_); refine box_event ?hg (N := 3) ?hd (cs := #[.int .i64 0, .int .i64 0, .slice none 0 0]) (t := 26) ?hr ?_; (case hd => rfl); (case hg => rfl); (case hr => exact zsx); intro gb321 hg w4 hbox hb; have BK321 := Aside0.mk (hbox); have GW321 := zns hg HB.out; have GE321 := zns hg HB.out; replace HB := Aside0.mk (below_step (zBy HB.out GE320.out) hb); have NB320_321 := znl hg BK320.out; have NB321_320 := zng hg BK320.out; replace BK320 := zbl BK320.out hb; clear hb hbox hg) | ((with_reducible refine gate_callee (f := 6) rfl ?_); refine goesL_ (some 6) rfl rfl Try.func6 (by kernel_rfl) rfl #[.slice A0 l0.length c0] rfl zlx ?_; (with_reducible refine (spec_DrawCountTable.calls k _ _ l0 t322 t323 t324 t327 t328 t329 t332 _ ?side1 ?side2 A2.out).mono ?_); (case side1 => exact zCx (Kd.C_below HR0.out HB.out)); (case side2 => exact HC0.out); rintro e w5 ⟨v325, v330, rfl, ho0, ho1, hb⟩; refine ⟨_, rfl, ?_⟩; have HO326 := Aside0.mk (Kd.Q_lower ho0 (below_size (zBz HB.out GE320.out GE321.out))); have HO331 := Aside0.mk (Kd.R_lower ho1 (below_size (zBz HB.out GE320.out GE321.out))); replace BK320 := zbl BK320.out hb; replace BK321 := zbl BK321.out hb; replace HB := Aside0.mk (below_step (zBz HB.out GE320.out GE321.out) hb); (try clear hb); (try clear hk); (try clear hi); (try clear ho0); (try clear ho1); have hnb6 := NB320_321.out; have hnc6 := NB321_320.out; have hcz7_0 : w5.cell? ⟨gb320, 0, none⟩ = some (.int .i64 0) := (blk_cell BK320.out 0).trans rfl; have hcz7_1 : w5.cell? ⟨gb320, 1, none⟩ = some (.int .i64 0) := (blk_cell BK320.out 1).trans rfl; have hcz7_2 : w5.cell? ⟨gb320, 2, none⟩ = some (.slice none 0 0) := (blk_cell BK320.out 2).trans rfl; have hfz7_0 := blk_frozen BK320.out 0; have hfz7_1 := blk_frozen BK320.out 1; have hfz7_2 := blk_frozen BK320.out 2; obtain ⟨Ao8, co8, eo8, _⟩ := Kd.Q_slice HO326.out; subst eo8; have hcz9_0 : w5.cell? ⟨gb321, 0, none⟩ = some (.int .i64 0) := (blk_cell BK321.out 0).trans rfl; have hcz9_1 : w5.cell? ⟨gb321, 1, none⟩ = some (.int .i64 0) := (blk_cell BK321.out 1).trans rfl; have hcz9_2 : w5.cell? ⟨gb321, 2, none⟩ = some (.slice none 0 0) := (blk_cell BK321.out 2).trans rfl; have hfz9_0 := blk_frozen BK321.out 0; have hfz9_1 := blk_frozen BK321.out 1; have hfz9_2 := blk_frozen BK321.out 2; obtain ⟨Ao10, co10, eo10⟩ := Kd.R_slice HO331.out; subst eo10))
  refine bodyPost_ret (results_list (rs := [.cell 2 26, .cell 3 26, .tmp 4]) rfl (by simp) (.cell gb320 26 #[.int .i64 t322, .int .i64 t323, .slice Ao8 t324.length co8] (0, 0) _ rfl (zbp BK320.out) Try.underlying26 rfl (by kernel_rfl) (.cell gb321 26 #[.int .i64 t327, .int .i64 t328, .slice Ao10 t329.length co10] (0, 0) _ rfl (zbp BK321.out) Try.underlying26 rfl (by kernel_rfl) (.tmp .nil)))) rfl ?_
  exact ⟨_, _, by first | rfl | (simp [errW_none, errW_some] <;> rfl) | (simp [*, errW_none, errW_some] <;> rfl), by refine zDQ ?_; exact Kd.Q_mono (Kd.Q_far (p := ⟨gb321, 2, none⟩) (Kd.Q_far (p := ⟨gb321, 1, none⟩) (Kd.Q_far (p := ⟨gb321, 0, none⟩) (Kd.Q_far (p := ⟨gb320, 2, none⟩) (Kd.Q_far (p := ⟨gb320, 1, none⟩) (Kd.Q_far (p := ⟨gb320, 0, none⟩) (Kd.Q_types (Kd.Q_types HO326.out BK320.out (by decide)) BK321.out (by decide)) (fun _ hk => hk.1.2) (.int .i64 t322)) (fun _ hk => hk.1.2) (.int .i64 t323)) (fun _ hk => hk.1.2) (.slice Ao8 t324.length co8)) (fun _ hk => hk.2) (.int .i64 t327)) (fun _ hk => hk.2) (.int .i64 t328)) (fun _ hk => hk.2) (.slice Ao10 t329.length co10)) (fun _ hk => hk.1.1), by refine zDR ?_; exact Kd.R_mono (Kd.R_far (p := ⟨gb321, 2, none⟩) (Kd.R_far (p := ⟨gb321, 1, none⟩) (Kd.R_far (p := ⟨gb321, 0, none⟩) (Kd.R_far (p := ⟨gb320, 2, none⟩) (Kd.R_far (p := ⟨gb320, 1, none⟩) (Kd.R_far (p := ⟨gb320, 0, none⟩) (Kd.R_types (Kd.R_types HO331.out BK320.out (by decide)) BK321.out (by decide)) (fun _ hk => hk.1.2) (.int .i64 t322)) (fun _ hk => hk.1.2) (.int .i64 t323)) (fun _ hk => hk.1.2) (.slice Ao8 t324.length co8)) (fun _ hk => hk.2) (.int .i64 t327)) (fun _ hk => hk.2) (.int .i64 t328)) (fun _ hk => hk.2) (.slice Ao10 t329.length co10)) (fun _ hk => hk.1.1), by exact zBz HB.out GE320.out GE321.out⟩

/-! ### 'clear(s[j:])' over a row of the call's own -/
section
variable {α : Type} {d : Kd α} {e base n cap g : Nat} {ok okp : Nat → Prop}
def zl (z : α) : List α → Nat → Nat → List α
  | xs, _, 0 => xs
  | xs, j, m + 1 => zl z (xs.set j z) (j + 1) m
theorem zl_get (z : α) (i : Nat) : ∀ (m j : Nat) (xs : List α), i < j → (zl z xs j m)[i]? = xs[i]?
  | 0, _, _, _ => rfl
  | m + 1, j, xs, h => by
    show (zl z (xs.set j z) (j + 1) m)[i]? = _
    rw [zl_get z i m (j + 1) _ (by omega), List.getElem?_set_ne (by omega)]
theorem zl_take (z : α) (m j : Nat) (xs : List α) : (zl z xs j m).take j = xs.take j := by
  apply List.ext_getElem?
  intro i
  rw [List.getElem?_take, List.getElem?_take]
  split
  · rename_i h; exact zl_get z i m j xs h
  · rfl
theorem zl_len (z : α) : ∀ (m j : Nat) (xs : List α), (zl z xs j m).length = xs.length
  | 0, _, _ => rfl
  | m + 1, j, xs => by
    show (zl z (xs.set j z) (j + 1) m).length = _
    rw [zl_len z m (j + 1), List.length_set]
theorem setCells_app (b : Nat) : ∀ (a c : List Value) (o : Nat) (W : World), W.setCells b o (a ++ c) = (W.setCells b o a).setCells b (o + a.length) c
  | [], _, _, _ => rfl
  | v :: a, c, o, W => by
    show ((W.setCell ⟨b, o, none⟩ v).setCells b (o + 1) (a ++ c)) = _
    rw [setCells_app b a c (o + 1)]
    show _ = ((W.setCell ⟨b, o, none⟩ v).setCells b (o + 1) a).setCells b (o + (a.length + 1)) c
    rw [show o + 1 + a.length = o + (a.length + 1) from by omega]
theorem grown_then {a w w' : World} {row : Option Nat} (h : a.grownBy w row) (k : w.grownBy w' row) : a.grownBy w' row :=
  ⟨k.os.trans h.os, k.tape.trans h.tape, k.output.trans h.output, Nat.le_trans h.size k.size, fun i hi hne => (k.block i (Nat.lt_of_lt_of_le hi h.size) hne).trans (h.block i hi hne)⟩
theorem clear_R {z : α} {zv : Value} (hz : ∀ W, d.M W base okp z (List.replicate d.sz zv)) (hokp : ∀ k, okp k → ok k ∧ k ≠ g) : ∀ (m j : Nat) (W : World) (xs : List α), d.R e W base ok (.slice (some ⟨g, 0, none⟩) n cap) xs → j + m = n →
    d.R e (W.setCells g (j * d.sz) (List.replicate (m * d.sz) zv)) base ok (.slice (some ⟨g, 0, none⟩) n cap) (zl z xs j m) ∧ W.grownBy (W.setCells g (j * d.sz) (List.replicate (m * d.sz) zv)) (some g)
  | 0, j, W, xs, h, _ => by
    rw [Nat.zero_mul]
    exact ⟨h, World.grownBy.refl _ _⟩
  | m + 1, j, W, xs, h, hn => by
    obtain ⟨c, hcl, _, hcc, _⟩ := Kd.R_elem h z (j : Int) (by omega) (by omega)
    rw [Int.toNat_natCast] at hcc
    have hs := Kd.R_seg h (j : Int) (by omega) (by omega) (seg := List.replicate d.sz zv) (j := 0) hcl (by rw [Int.toNat_natCast]; exact hcc) (by simp) (x' := z) (okp := okp) (by
      rw [List.take_zero, List.nil_append, List.length_replicate, List.drop_of_length_le (by omega), List.append_nil]; exact hz W) hokp
    rw [Int.toNat_natCast, Nat.add_zero] at hs
    obtain ⟨h1, h2⟩ := hs
    obtain ⟨h3, h4⟩ := clear_R hz hokp m (j + 1) _ _ h1 (by omega)
    have e1 : List.replicate ((m + 1) * d.sz) zv = List.replicate d.sz zv ++ List.replicate (m * d.sz) zv := by rw [List.replicate_append_replicate, Nat.succ_mul, Nat.add_comm]
    rw [e1, setCells_app, List.length_replicate, ← Nat.succ_mul]
    exact ⟨h3, grown_then h2 h4⟩
theorem clear_run {P : Program} {t ty : TypeId} {zz zv : Value} {z : α} (ht : P.underlying t = some (.slice e)) (hv : ∀ w, (zeroValue e).run P w = .ok zz w) (hsz : 0 < d.sz) (hzc : zz.cells = (List.replicate d.sz zv).toArray) (h1 : zv.oneCell' = true)
    (hz : ∀ W, d.M W base (fun _ => False) z (List.replicate d.sz zv)) {W : World} {A : Option Addr} {c : Nat} {xs : List α} (h : d.R e W base ok (.slice A n c) xs) (j : Nat) (hj : j ≤ n) :
    ∃ W2, (Builtin.clear_ #[t] ty #[.slice (if c = j then A else A.map (·.add (j * d.sz))) (n - j) (c - j)]).run P W = .ok (.tuple #[]) W2 ∧ d.R e W2 base ok (.slice A j c) (xs.take j) ∧ W.grownBy W2 (Value.slice A n c).ownBlock := by
  obtain ⟨hn, hnc, _⟩ := Kd.R_reads' h
  by_cases hc : n - j = 0
  · refine ⟨W, ?_, Kd.R_take h (by omega), World.grownBy.refl _ _⟩
    rw [hc]
    cases (if c = j then A else A.map (·.add (j * d.sz))) <;> simp [Builtin.clear_, run_underlying ht]
  · obtain ⟨g, cap, he, _, _, _⟩ := Kd.R_form h (by omega)
    injection he with e1 e2 e3
    subst e1
    subst e3
    have hcj : ¬ c = j := by omega
    rw [if_neg hcj]
    simp only [Option.map_some]
    rw [add_at, Nat.zero_add]
    obtain ⟨r1, r2⟩ := clear_R hz (fun _ hk => hk.elim) (n - j) j W xs h (by omega)
    have cell : ∀ i, i < (n - j) * d.sz → (W.cell? ⟨g, j * d.sz + i, none⟩).isSome = true ∧ W.frozen? ⟨g, j * d.sz + i, none⟩ = false := by
      intro i hi
      have hq : i / d.sz < n - j := Nat.div_lt_of_lt_mul (by rw [Nat.mul_comm]; exact hi)
      have hr : i % d.sz < d.sz := Nat.mod_lt _ hsz
      have hdm := Nat.div_add_mod i d.sz
      obtain ⟨q, hqd⟩ : ∃ q, q = i / d.sz := ⟨_, rfl⟩
      rw [← hqd] at hq hdm
      obtain ⟨cs, hcl, _, hcc, hff⟩ := Kd.R_elem h z ((j + q : Nat) : Int) (by omega) (by omega)
      rw [Int.toNat_natCast] at hcc hff
      have e0 : (j + q) * d.sz + i % d.sz = j * d.sz + i := by rw [Nat.add_mul, Nat.mul_comm q d.sz]; omega
      have a := hcc (i % d.sz) _ (List.getElem?_eq_getElem (by omega))
      have b := hff (i % d.sz)
      rw [e0] at a b
      exact ⟨by rw [a]; rfl, b⟩
    have hzl : (Builtin.zeroCells zz.cells (n - j)).toList = List.replicate ((n - j) * d.sz) zv := by
      rw [hzc]
      apply List.ext_getElem
      · simp [Builtin.zeroCells]
      · intro i h2 h3
        have hr : i % d.sz < d.sz := Nat.mod_lt _ hsz
        simp [Builtin.zeroCells, hr]
    have hst := run_storeCells_cells (P := P) g (j * d.sz) (List.replicate ((n - j) * d.sz) zv) 0 W (by intro i hi; rw [Nat.add_zero]; exact (cell i (by simpa using hi)).1) (by intro i hi; rw [Nat.add_zero]; exact (cell i (by simpa using hi)).2) (by intro v hv'; rw [List.eq_of_mem_replicate hv']; exact h1)
    rw [Nat.add_zero] at hst
    refine ⟨_, ?_, ?_, r2⟩
    · obtain ⟨m, hm⟩ : ∃ m, n - j = m + 1 := ⟨n - j - 1, by omega⟩
      rw [hm] at hzl hst ⊢
      simp [Builtin.clear_, run_underlying ht, hv, hzl, hst]
    · have := Kd.R_take r1 (m := j) (by rw [zl_len]; omega)
      rwa [zl_take] at this
end
/-! ### slices_DeleteFunc_int: function 63 -/
def slices_DeleteFunc_int.l0 : Nat → List Int → Int → Int → Option (List Int)
 | 0, _, _, _ => none
 | k + 1, x0, x5, x6 => if x6 < (x0.length : Int) then (if 0 ≤ x6 then ((impl_valuesOf_1.f (rd x0 x6)).bind fun t335 => (if t335 = true then (slices_DeleteFunc_int.l0 k x0 x5 (wrap64 (x6 + 1))) else (if 0 ≤ x5 then (if x5 < (x0.length : Int) then (slices_DeleteFunc_int.l0 k (x0.set (x5 : Int).toNat (rd x0 x6)) (wrap64 (x5 + 1)) (wrap64 (x6 + 1))) else (none)) else (none)))) else (none)) else (if 0 ≤ x5 then (if x5 ≤ (x0.length : Int) then (some (x0.take (x5 : Int).toNat)) else (none)) else (none))
def slices_DeleteFunc_int.f (k : Nat) (l0 : List Int) : Option (List Int) := (slices_IndexFunc_int.f k l0).bind fun t333 => (if t333 = (-1) then (some l0) else (slices_DeleteFunc_int.l0 k l0 t333 (wrap64 (t333 + 1))))
theorem slices_DeleteFunc_int.mono_l : ∀ k, (∀ y0 y1 y2, LeO (slices_DeleteFunc_int.l0 k y0 y1 y2) (slices_DeleteFunc_int.l0 (k + 1) y0 y1 y2))
 | 0 => fun _ _ _ r h => by simp [slices_DeleteFunc_int.l0] at h
 | k + 1 => by
  have ih0 := slices_DeleteFunc_int.mono_l k
  ·intro y0 y1 y2
   unfold slices_DeleteFunc_int.l0
   repeat' first
   | (with_reducible exact ih0 _ _ _)
   | (with_reducible exact slices_IndexFunc_int.mono _ _)
   | (with_reducible exact LeO.refl _)
   | (with_reducible exact LeO.none _)
   | (with_reducible refine LeO.ite ?_ ?_)
   | (with_reducible refine LeO.bind ?_ (fun _ => ?_))
   | exact ih0 _ _ _
   | exact slices_IndexFunc_int.mono _ _
   | exact LeO.none _
   | refine LeO.ite ?_ ?_
   | refine LeO.bind ?_ (fun _ => ?_)
theorem slices_DeleteFunc_int.mono : ∀ a0 k, LeO (slices_DeleteFunc_int.f k a0) (slices_DeleteFunc_int.f (k + 1) a0) := by
 intro a0 k
 have ih0 := slices_DeleteFunc_int.mono_l k
 unfold slices_DeleteFunc_int.f
 repeat' first
  | (with_reducible exact ih0 _ _ _)
  | (with_reducible exact slices_IndexFunc_int.mono _ _)
  | (with_reducible exact LeO.refl _)
  | (with_reducible exact LeO.none _)
  | (with_reducible refine LeO.ite ?_ ?_)
  | (with_reducible refine LeO.bind ?_ (fun _ => ?_))
  | exact ih0 _ _ _
  | exact slices_IndexFunc_int.mono _ _
  | exact LeO.none _
  | refine LeO.ite ?_ ?_
  | refine LeO.bind ?_ (fun _ => ?_)
set_option maxHeartbeats 8000000 in
set_option maxRecDepth 100000 in
theorem slices_DeleteFunc_int.calls (k : Nat) (P0_ : Nat → Prop) (u9000_ : Value) (l0 : List Int) (r : List Int) (w0 w : World) (hB : Below w0.heap.size w0 w) (ho0 : Kd.R (Kd.int .i64) 3 w w0.heap.size P0_ u9000_ l0) (h : slices_DeleteFunc_int.f k l0 = some r) :
 Calls Try.prog 63 #[u9000_, .func (.func 65) #[] #[]] w fun e w' => ∃ v0_ : Value, e = .returned (v0_) ∧ Kd.R (Kd.int .i64) 3 w' w0.heap.size (fun k_ => (P0_ k_ ∨ w.heap.size ≤ k_)) v0_ r ∧ Below w0.heap.size w0 w' ∧ Kept w w' (fun k_ => P0_ k_) := by
 have HO0 := Aside0.mk (show Kd.R (Kd.int .i64) 3 w w0.heap.size (fun k_ => (P0_ k_ ∨ w.heap.size ≤ k_)) u9000_ l0 from Kd.R_mono ho0 (fun k_ hk => (.inl hk)))
 have HK := Aside0.mk (Kept.refl w (fun k_ => P0_ k_))
 have HW0 := Aside0.mk hB.size
 have HB := Aside0.mk hB
 clear hB
 have H : ((slices_IndexFunc_int.f k l0).bind fun t333 => (if t333 = (-1) then (some l0) else (slices_DeleteFunc_int.l0 k l0 t333 (wrap64 (t333 + 1))))) = some r := h
 clear h
 replace H := Option.bind_eq_some_iff.mp H
 obtain ⟨t333, A20, H⟩ := H
 replace H : (if t333 = (-1) then (some l0) else (slices_DeleteFunc_int.l0 k l0 t333 (wrap64 (t333 + 1)))) = some r := H
 have A2 := Aside0.mk A20
 clear A20
 by_cases c3 : t333 = (-1)
 ·rw [if_pos c3] at H
  have c3b0 : (t333 == (-1)) = true := beq_iff_eq.mpr c3
  have c3b1 : (t333 != (-1)) = false := bne_eq_false_iff_eq.mpr c3
  clear c3
  focus
   obtain rfl := Option.some.inj H
   obtain ⟨Ao4, co4, eo4⟩ := Kd.R_slice HO0.out
   subst eo4
   go_enter Try.func63, Try.ntmps63
   go_wp2_with (first | ((with_reducible refine gate_callee (f := 81) rfl ?_); refine goesL_ (some 10) rfl rfl Try.func81 (by kernel_rfl) rfl #[.slice Ao4 l0.length co4, .func (.func 65) #[] #[]] rfl zlx ?_; (with_reducible refine (slices_IndexFunc_int.calls k _ _ l0 t333 _ ?side1 ?side2 A2.out).mono ?_); (case side1 => exact zCx (Kd.R_reads' HO0.out).2.2); (case side2 => exact (Kd.R_reads' HO0.out).2.1); rintro e w' ⟨rfl, ⟨nd, rfl⟩⟩; refine ⟨_, rfl, ?_⟩))
   go_ret
   exact ⟨_, by first | rfl | (simp [errW_none, errW_some] <;> rfl) | (simp [*, errW_none, errW_some] <;> rfl), by refine zDR ?_; exact HO0.out, by exact zBx HB.out, by repeat (first | (with_reducible first | exact HK.out | apply Kept.alloc | apply Kept.drewN | apply Kept.drew) | exact HK.out)⟩
 ·rw [if_neg c3] at H
  have c3b0 : (t333 == (-1)) = false := beq_eq_false_iff_ne.mpr c3
  have c3b1 : (t333 != (-1)) = true := bne_iff_ne.mpr c3
  have H' := Aside0.mk H
  clear H
  obtain ⟨Ao5, co5, eo5⟩ := Kd.R_slice HO0.out
  subst eo5
  go_enter Try.func63, Try.ntmps63
  go_wp2_with (first | ((with_reducible refine gate_callee (f := 81) rfl ?_); refine goesL_ (some 10) rfl rfl Try.func81 (by kernel_rfl) rfl #[.slice Ao5 l0.length co5, .func (.func 65) #[] #[]] rfl zlx ?_; (with_reducible refine (slices_IndexFunc_int.calls k _ _ l0 t333 _ ?side1 ?side2 A2.out).mono ?_); (case side1 => exact zCx (Kd.R_reads' HO0.out).2.2); (case side2 => exact (Kd.R_reads' HO0.out).2.1); rintro e w' ⟨rfl, ⟨nd, rfl⟩⟩; refine ⟨_, rfl, ?_⟩))
  go_loopg [5, 6] k (fun kq v5 v6 w' => ∃ (x0_1 : List Int) (x5_1 : Int) (x6_1 : Int), v5 = .int .i64 x5_1 ∧ v6 = .int .i64 x6_1 ∧ Aside0 (slices_DeleteFunc_int.l0 kq x0_1 x5_1 x6_1 = some r) ∧ Aside0 (kq ≤ k) ∧ Aside0 (Kd.R (Kd.int .i64) 3 w' w0.heap.size (fun k_ => (P0_ k_ ∨ w.heap.size ≤ k_)) (.slice Ao5 l0.length co5) x0_1) ∧ Aside0 (Kept w w' (fun k_ => P0_ k_)) ∧ Aside0 (Below w0.heap.size w0 w'))
  case atStart => exact ⟨(l0), (t333), (wrap64 (t333 + 1)), zrx, zrx, H', ⟨Nat.le_refl _⟩, ⟨by refine zDR ?_; exact HO0.out⟩, ⟨by repeat (first | (with_reducible first | exact HK.out | apply Kept.alloc | apply Kept.drewN | apply Kept.drew) | exact HK.out)⟩, ⟨by exact zBx HB.out⟩⟩
  case round =>
   clear H'
   try clear p2
   try clear c3
   try clear c3b0
   try clear c3b1
   obtain ⟨x0_1, x5_1, x6_1, rfl, rfl, HA, HK1, HO_0, HK, HB⟩ := hrel
   have hl0_1 := (Kd.R_reads' HO_0.out).1
   rw [hl0_1] at HO_0
   (try simp only [hl0_1])
   cases gk with
   | zero => exact absurd HA.out (by simp [slices_DeleteFunc_int.l0])
   | succ k1 =>
    have H := HA.out
    clear HA
    simp only [slices_DeleteFunc_int.l0] at H
    by_cases c6 : x6_1 < (x0_1.length : Int)
    ·rw [if_pos c6] at H
     have c6b0 : decide (x6_1 < (x0_1.length : Int)) = true := decide_eq_true c6
     clear c6
     by_cases c7 : 0 ≤ x6_1
     ·rw [if_pos c7] at H
      have c7b0 : decide (0 ≤ x6_1) = true := decide_eq_true c7
      clear c7
      replace H := Option.bind_eq_some_iff.mp H
      obtain ⟨t335, A80, H⟩ := H
      replace H : (if t335 = true then (slices_DeleteFunc_int.l0 k1 x0_1 x5_1 (wrap64 (x6_1 + 1))) else (if 0 ≤ x5_1 then (if x5_1 < (x0_1.length : Int) then (slices_DeleteFunc_int.l0 k1 (x0_1.set (x5_1 : Int).toNat (rd x0_1 x6_1)) (wrap64 (x5_1 + 1)) (wrap64 (x6_1 + 1))) else (none)) else (none))) = some r := H
      have A8 := Aside0.mk A80
      clear A80
      by_cases c9 : t335 = true
      ·subst c9
       rw [if_pos rfl] at H
       focus
        have H' := Aside0.mk H
        clear H
        have p334 : 0 ≤ (x6_1 : Int) := of_decide_eq_true zax
        have q334 : x6_1 < (x0_1.length : Int) := of_decide_eq_true zax
        obtain ⟨ad334, e334, hx334_0⟩ := Kd.at_int (Kd.R_reads' HO_0.out).2.2 x6_1 p334 q334
        cases e334
        replace p334 := eq_true p334
        replace q334 := eq_true q334
        go_wp2_with (first | ((with_reducible refine gate_calleeT (t := 26) rfl ?_); refine goesT_ (t := 26) (some 28) rfl rfl Try.func65 (by kernel_rfl) rfl #[.int .i64 (rd x0_1 x6_1)] ⟨rfl, rfl⟩ zlx ?_; (with_reducible refine (impl_valuesOf_1.calls (rd x0_1 x6_1) true _ A8.out).mono ?_); rintro e w' ⟨rfl, ⟨nd, rfl⟩⟩; refine ⟨_, rfl, ?_⟩))
        (try simp only [← hl0_1])
        go_roundg k1
        case measure => have := HK1.out; omega
        case rel => exact ⟨(x0_1), (x5_1), (wrap64 (x6_1 + 1)), zrx, zrx, H', ⟨by have := HK1.out; omega⟩, ⟨by (try simp only [hl0_1]); refine zDR ?_; exact HO_0.out⟩, ⟨by repeat (first | (with_reducible first | exact HK.out | apply Kept.alloc | apply Kept.drewN | apply Kept.drew) | exact HK.out)⟩, ⟨by exact zBx HB.out⟩⟩
      ·replace c9 := Bool.eq_false_iff.mpr c9
       subst c9
       rw [if_neg (show ¬ (false = true) by decide)] at H
       by_cases c10 : 0 ≤ x5_1
       ·rw [if_pos c10] at H
        have c10b0 : decide (0 ≤ x5_1) = true := decide_eq_true c10
        clear c10
        by_cases c11 : x5_1 < (x0_1.length : Int)
        ·rw [if_pos c11] at H
         have c11b0 : decide (x5_1 < (x0_1.length : Int)) = true := decide_eq_true c11
         clear c11
         obtain ⟨y336, hy336⟩ : ∃ y_ : List Int, y_ = (x0_1.set (x5_1 : Int).toNat (rd x0_1 x6_1)) := ⟨_, rfl⟩
         replace H : (slices_DeleteFunc_int.l0 k1 y336 (wrap64 (x5_1 + 1)) (wrap64 (x6_1 + 1))) = some r := by first | (rw [hy336]; with_reducible exact H) | (have H2_ := (Option.bind_some _ _).symm.trans H; rw [hy336]; with_reducible exact H2_) | (have H2_ := (Option.bind_some _ _).symm.trans H; with_reducible exact H2_) | with_reducible exact H | (rw [hy336]; exact H) | exact H
         have Ny336 := Aside0.mk hy336
         clear hy336
         focus
          have H' := Aside0.mk H
          clear H
          have p334 : 0 ≤ (x6_1 : Int) := of_decide_eq_true zax
          have q334 : x6_1 < (x0_1.length : Int) := of_decide_eq_true zax
          obtain ⟨ad334, e334, hx334_0⟩ := Kd.at_int (Kd.R_reads' HO_0.out).2.2 x6_1 p334 q334
          cases e334
          replace p334 := eq_true p334
          replace q334 := eq_true q334
          go_wp2_with (first | ((with_reducible refine gate_calleeT (t := 26) rfl ?_); refine goesT_ (t := 26) (some 28) rfl rfl Try.func65 (by kernel_rfl) rfl #[.int .i64 (rd x0_1 x6_1)] ⟨rfl, rfl⟩ zlx ?_; (with_reducible refine (impl_valuesOf_1.calls (rd x0_1 x6_1) false _ A8.out).mono ?_); rintro e w' ⟨rfl, ⟨nd, rfl⟩⟩; refine ⟨_, rfl, ?_⟩; (try (rw [drewN_self wr]; generalize hq_ : World.drewN wr _ = wr; replace HO_0 : Aside0 (Kd.R (Kd.int .i64) 3 wr w0.heap.size (fun k_ => (P0_ k_ ∨ w.heap.size ≤ k_)) (.slice (some ad334) x0_1.length co5) x0_1) := ⟨by rw [← hq_]; exact (zRx HO_0.out)⟩; replace HK : Aside0 (Kept w wr (fun k_ => P0_ k_)) := ⟨by rw [← hq_]; exact (by repeat (first | (with_reducible first | exact HK.out | apply Kept.alloc | apply Kept.drewN | apply Kept.drew) | exact HK.out))⟩; replace HB : Aside0 (Below w0.heap.size w0 wr) := ⟨by rw [← hq_]; exact (zBx HB.out)⟩; clear hq_)); have p12 : 0 ≤ (x5_1 : Int) := of_decide_eq_true zax; have q12 : (x5_1 : Int) < ((x0_1.length : Int) : Int) := of_decide_eq_true zax; obtain ⟨go12, co12, eo12, gb12, gl12, cl12, HG12⟩ := Kd.R_form HO_0.out (by omega); (first | cases eo12 | (injection eo12 with ea_ en_ ec_; (first | subst ea_ | (injection ea_ with ea_; subst ea_)); subst ec_; clear en_)); have GB12 := Aside0.mk gb12; have GG12 := Aside0.mk HG12; clear gb12 gl12 HG12; have HMgo12 := Aside0.mk (show (P0_ go12 ∨ w.heap.size ≤ go12) from (HO_0.out.1 _ rfl)); (first | simp only [add_plain] at hx334_0 | skip); obtain ⟨hx12_0, hf12_0⟩ := Kd.R_celln 0 HO_0.out (x5_1 : Int) p12 q12; replace p12 := eq_true p12; replace q12 := eq_true q12; obtain ⟨hy13_, hz13_⟩ := Kd.R_celln 0 HO_0.out (x5_1 : Int) (of_decide_eq_true zax) (of_decide_eq_true zax); have HP13 := Kd.R_putg HO_0.out (x5_1 : Int) (rd x0_1 x6_1)) | ((with_reducible refine gate_store (t := 3) (p := 33) rfl ?_); refine store_event (t := 3) (p := 33) (v := ?vo_w14) (w1 := (wr.setCell ⟨go12, (x5_1 : Int).toNat, none⟩ (.int .i64 (rd x0_1 x6_1)))) ?hg ?ho ?hn ?hr ?_; (case ho => rfl); (case hg => rfl); (case hn => rfl); (case hr => exact zsx); intro w14 hw; have hg : wr.grownBy w14 (some go12) := (by rw [hw]; exact HP13.2); have hp_ : Kd.R (Kd.int .i64) 3 w14 w0.heap.size (fun k_ => (P0_ k_ ∨ w.heap.size ≤ k_)) (.slice (some ⟨go12, 0, none⟩) x0_1.length co5) y336 := (by rw [hw, Ny336.out]; exact HP13.1); clear HP13; replace HB := Aside0.mk ((by rw [hw]; exact below_set (HB.out) GB12.out : Below w0.heap.size w0 w14)); replace HK := Aside0.mk (Kept.of_grown (S := (fun k_ => P0_ k_)) hg (by repeat (first | (with_reducible first | exact HK.out | apply Kept.alloc | apply Kept.drewN | apply Kept.drew) | exact HK.out)) (fun k_ e_ => (HO_0.out.1 k_ e_))); replace HO_0 := Aside0.mk (hp_); clear hg hw hp_))
          (try simp only [← hl0_1])
          go_roundg k1
          case measure => have := HK1.out; omega
          case rel => exact ⟨(y336), (wrap64 (x5_1 + 1)), (wrap64 (x6_1 + 1)), zrx, zrx, H', ⟨by have := HK1.out; omega⟩, ⟨by (try simp only [hl0_1]); refine zDR ?_; exact HO_0.out⟩, ⟨by repeat (first | (with_reducible first | exact HK.out | apply Kept.alloc | apply Kept.drewN | apply Kept.drew) | exact HK.out)⟩, ⟨by exact zBx HB.out⟩⟩
        ·rw [if_neg c11] at H
         exact absurd H (by simp)
       ·rw [if_neg c10] at H
        exact absurd H (by simp)
     ·rw [if_neg c7] at H
      exact absurd H (by simp)
    ·rw [if_neg c6] at H
     have c6b0 : decide (x6_1 < (x0_1.length : Int)) = false := decide_eq_false c6
     (try rw [hl0_1] at c6b0)
     clear c6
     by_cases c15 : 0 ≤ x5_1
     ·rw [if_pos c15] at H
      have c15b0 := eq_true c15
      have c15b1 : decide (0 ≤ x5_1) = true := decide_eq_true c15
      clear c15
      by_cases c16 : x5_1 ≤ (x0_1.length : Int)
      ·rw [if_pos c16] at H
       have c16b0 := eq_true c16
       have c16b1 : decide (x5_1 ≤ (x0_1.length : Int)) = true := decide_eq_true c16
       clear c16
       obtain ⟨y337, hy337⟩ : ∃ y_ : List Int, y_ = (x0_1.take (x5_1 : Int).toNat) := ⟨_, rfl⟩
       replace H : (some y337) = some r := by first | (rw [hy337]; with_reducible exact H) | (have H2_ := (Option.bind_some _ _).symm.trans H; rw [hy337]; with_reducible exact H2_) | (have H2_ := (Option.bind_some _ _).symm.trans H; with_reducible exact H2_) | with_reducible exact H | (rw [hy337]; exact H) | exact H
       have Ny337 := Aside0.mk hy337
       clear hy337
       focus
        obtain rfl := Option.some.inj H
        have q17 : (x5_1 : Int) ≤ ((x0_1.length : Int) : Int) := of_decide_eq_true zax
        obtain ⟨i017, hi017, _, hsz17, _⟩ := info_parts info3
        have hcut17 := cut_to (P := Try.prog) 24 3 .i64 Try.underlying24 hi017 Ao5 x0_1.length co5 x5_1 (of_decide_eq_true zax) q17 (Kd.R_reads' HO_0.out).2.1
        obtain ⟨i0z, hi0z, hzz_, _, _⟩ := info_parts info3
        have hzv_ : ∀ w : World, (zeroValue 3).run Try.prog w = .ok (.int .i64 0) w := by intro w; simp [zeroValue, typeInfo, hi0z, hzz_]
        have hcutf := cut_from (P := Try.prog) 24 3 .i64 Try.underlying24 hi017 1 hsz17 Ao5 x0_1.length co5 x5_1 (of_decide_eq_true zax) q17
        obtain ⟨W2, hclr, hR2, hg2⟩ := clear_run (d := Kd.int .i64) (P := Try.prog) (t := 24) (ty := 0) (zz := .int .i64 0) (zv := .int .i64 0) (z := (0 : Int)) Try.underlying24 hzv_ (show 0 < 1 from by decide) rfl rfl (fun _ => rfl) HO_0.out (x5_1 : Int).toNat (by have h_ := (Kd.R_reads' HO_0.out).1; omega)
        rw [show (Kd.int .i64).sz = 1 from rfl] at hclr
        obtain ⟨A'_, hA'_⟩ : ∃ A', (if co5 = (x5_1 : Int).toNat then Ao5 else Ao5.map (·.add ((x5_1 : Int).toNat * 1))) = A' := ⟨_, rfl⟩
        obtain ⟨n'_, hn'_⟩ : ∃ n', x0_1.length - (x5_1 : Int).toNat = n' := ⟨_, rfl⟩
        obtain ⟨c'_, hc'_⟩ : ∃ c', co5 - (x5_1 : Int).toNat = c' := ⟨_, rfl⟩
        rw [hA'_, hn'_, hc'_] at hclr
        simp only [hA'_, hn'_, hc'_] at hcutf
        have n0_ := Aside0.mk (pw_below_grown HB.out _ HB.out.size hg2 (Kd.R_base HO_0.out))
        have n1_ := Aside0.mk (Kept.of_grown hg2 HK.out (fun k_ hk => HO_0.out.1 k_ hk))
        clear HB
        clear HK
        have HB := n0_
        have HK := n1_
        clear n0_ n1_ hzv_ hi0z hzz_ hg2 hA'_ hn'_ hc'_
        have hr17 := hR2
        clear hR2
        have hy17 : y337.length = (x5_1 : Int).toNat := (by rw [Ny337.out, List.length_take]; omega)
        rw [← Ny337.out] at hr17
        rw [← hy17] at hr17 hcut17
        clear hy17 hi017 hsz17 HO_0
        have HO339 := Aside0.mk hr17
        clear hr17
        replace q17 := eq_true q17
        go_wp2
        go_ret
        exact ⟨_, by first | rfl | (simp [errW_none, errW_some] <;> rfl) | (simp [*, errW_none, errW_some] <;> rfl), by refine zDR ?_; exact HO339.out, by exact zBx HB.out, by repeat (first | (with_reducible first | exact HK.out | apply Kept.alloc | apply Kept.drewN | apply Kept.drew) | exact HK.out)⟩
      ·rw [if_neg c16] at H
       exact absurd H (by simp)
     ·rw [if_neg c15] at H
      exact absurd H (by simp)

/-! ### slices_Clone_int: function 64 -/
def slices_Clone_int.f (l0 : List Int) : Option (List Int) := (some (([] : List Int) : List Int)).bind fun y340 => (if y340.length + l0.length < 17592186044416 then (some (y340 ++ l0)) else (none))
set_option maxHeartbeats 8000000 in
set_option maxRecDepth 100000 in
theorem slices_Clone_int.calls_some (ad0_ : Addr) (c0 : Nat) (l0 : List Int) (r : List Int) (w : World) (hr0 : Kd.C (Kd.int .i64) w (some ad0_) l0.length l0) (hc0 : l0.length ≤ c0) (h : slices_Clone_int.f l0 = some r) :
 Calls Try.prog 64 #[.slice (some ad0_) l0.length c0] w fun e w' => ∃ v0_ : Value, e = .returned (v0_) ∧ Kd.R (Kd.int .i64) 3 w' w.heap.size (fun _ => True) v0_ r ∧ Below w.heap.size w w' := by
 have HR0 := Aside0.mk hr0
 have HC0 := Aside0.mk hc0
 clear hr0 hc0
 have HB := Aside0.mk (Below.refl w.heap.size w)
 have H : ((some (([] : List Int) : List Int)).bind fun y340 => (if y340.length + l0.length < 17592186044416 then (some (y340 ++ l0)) else (none))) = some r := h
 clear h
 obtain ⟨y340, hy340⟩ : ∃ y_ : List Int, y_ = (([] : List Int)) := ⟨_, rfl⟩
 replace H : (if y340.length + l0.length < 17592186044416 then (some (y340 ++ l0)) else (none)) = some r := by first | (rw [hy340]; with_reducible exact H) | (have H2_ := (Option.bind_some _ _).symm.trans H; rw [hy340]; with_reducible exact H2_) | (have H2_ := (Option.bind_some _ _).symm.trans H; with_reducible exact H2_) | with_reducible exact H | (rw [hy340]; exact H) | exact H
 have Ny340 := Aside0.mk hy340
 clear hy340
 by_cases c2 : y340.length + l0.length < 17592186044416
 ·rw [if_pos c2] at H
  have LMc2 := Aside0.mk c2
  clear c2
  obtain ⟨y343, hy343⟩ : ∃ y_ : List Int, y_ = (y340 ++ l0) := ⟨_, rfl⟩
  replace H : (some y343) = some r := by first | (rw [hy343]; with_reducible exact H) | (have H2_ := (Option.bind_some _ _).symm.trans H; rw [hy343]; with_reducible exact H2_) | (have H2_ := (Option.bind_some _ _).symm.trans H; with_reducible exact H2_) | with_reducible exact H | (rw [hy343]; exact H) | exact H
  have Ny343 := Aside0.mk hy343
  clear hy343
  focus
   obtain rfl := Option.some.inj H
   have q_ : ∀ W : World, (binOp .eql 24 (.slice (some ad0_) l0.length c0) (.slice none 0 0)).run Try.prog W = .ok (.bool false) W := fun W => Lib.run_eql_slice_nil W _ _ (some ad0_) _ _ _ _ Try.underlying24
   go_enter Try.func64, Try.ntmps64
   go_wp2_with (first | ((with_reducible refine gate_dst (N := 5) rfl ?_); refine Kd.R_lit (Kd.int .i64) _ 3 ?hg (N := 5) ?hd (xs := ([] : List Int)) (inner := []) (ok := fun _ => True) (okp := fun _ => True) ?hr ?hp (fun _ hk => hk) trivial (Below.refl _ _) (Nat.le_refl _) (by simp) ?_; (case hd => rfl); (case hg => rfl); (case hr => exact zsx); (case hp => exact (Reps.none _ _)); intro v341 w3 ho4 hb hg_ hnew_; clear hg_ hnew_; (first | rw [← Ny340.out] at ho4 | (simp only [Int.reduceToNat] at ho4; rw [← Ny340.out] at ho4)); have HO342 := Aside0.mk (Kd.R_lower ho4 (below_size (zBx HB.out))); replace HB := Aside0.mk (below_step (zBx HB.out) hb); clear hb ho4) | ((with_reducible refine gate_builtin (b := .append) (xs := #[.tmp 5, .tmp 6]) rfl ?_); at_builtin; refine Kd.R_append_rows (Kd.int .i64) (w0 := w) w.heap.size rfl (.tmp 5) (.tmp 6) 24 3 (.int .i64 0) 8 rfl Try.underlying24 info3 rfl (by decide) (by omega) v341 y340 l0 _ _ _ (fun _ => True) (fun _ => False) rfl rfl ?aO ?aR (fun _ _ h => h) (fun _ h => h.elim) ?aF ?aB ?aS ?aL ?_; (case aR => repeat (first | exact (Kd.C_below HR0.out HB.out) | (with_reducible refine Kd.C_alloc ?_ _) | (with_reducible refine Kd.C_drewN ?_ _) | (with_reducible refine Kd.C_drew ?_))); (case aB => exact (zBx HB.out)); (case aF => exact (fun _ _ => trivial)); (case aO => exact (zRx HO342.out)); (case aS => exact (below_size (zBx HB.out))); (case aL => have := LMc2.out; omega); intro v344 w5 ho hb hg hat; rw [← Ny343.out] at ho; replace HB := Aside0.mk (hb); have HO345 := Aside0.mk (ho); clear HO342; clear ho hb hg hat))
   go_ret
   exact ⟨_, by first | rfl | (simp [errW_none, errW_some] <;> rfl) | (simp [*, errW_none, errW_some] <;> rfl), by refine zDR ?_; exact HO345.out, by exact zBx HB.out⟩
 ·rw [if_neg c2] at H
  exact absurd H (by simp)
set_option maxHeartbeats 8000000 in
set_option maxRecDepth 100000 in
theorem slices_Clone_int.calls (A0 : Option Addr) (c0 : Nat) (l0 : List Int) (r : List Int) (w : World) (hr0 : Kd.C (Kd.int .i64) w A0 l0.length l0) (hc0 : l0.length ≤ c0) (h : slices_Clone_int.f l0 = some r) :
 Calls Try.prog 64 #[.slice A0 l0.length c0] w fun e w' => ∃ v0_ : Value, e = .returned (v0_) ∧ Kd.R (Kd.int .i64) 3 w' w.heap.size (fun _ => True) v0_ r ∧ Below w.heap.size w w' := by
 cases A0 with
 | some ad => exact slices_Clone_int.calls_some ad c0 l0 r w hr0 hc0 h
 | none =>
  have hl : l0.length = 0 := by
   rcases Nat.eq_zero_or_pos l0.length with h0 | h0
   ·exact h0
   ·obtain ⟨_, e, _⟩ := hr0.2.2 h0
    cases e
  obtain rfl : l0 = [] := List.eq_nil_of_length_eq_zero hl
  obtain rfl : r = [] := by simpa [slices_Clone_int.f] using h.symm
  clear hr0 hc0 h
  have q_ : ∀ W : World, (binOp .eql 24 (.slice none 0 c0) (.slice none 0 0)).run Try.prog W = .ok (.bool true) W := fun W => Lib.run_eql_slice_nil W _ _ none _ _ _ _ Try.underlying24
  go_enter Try.func64, Try.ntmps64
  go_wp2
  go_ret
  exact ⟨_, rfl, Kd.R_nil _ _ _ _ _, Below.refl _ _⟩

/-! ### impl_valuesOf: function 44 -/
def impl_valuesOf.f (k : Nat) (a0_0 : Int) (a0_1 : Int) (l0_2 : List Int) : Option (List Int) := (slices_Clone_int.f l0_2).bind fun t347 => ((slices_DeleteFunc_int.f k t347).bind fun t350 => (some t350))
theorem impl_valuesOf.mono : ∀ a0 a1 a2 k, LeO (impl_valuesOf.f k a0 a1 a2) (impl_valuesOf.f (k + 1) a0 a1 a2) := by
 intro a0 a1 a2 k
 unfold impl_valuesOf.f
 repeat' first
  | (with_reducible exact slices_DeleteFunc_int.mono _ _)
  | (with_reducible exact LeO.refl _)
  | (with_reducible exact LeO.none _)
  | (with_reducible refine LeO.ite ?_ ?_)
  | (with_reducible refine LeO.bind ?_ (fun _ => ?_))
  | exact slices_DeleteFunc_int.mono _ _
  | exact LeO.none _
  | refine LeO.ite ?_ ?_
  | refine LeO.bind ?_ (fun _ => ?_)
set_option maxHeartbeats 8000000 in
set_option maxRecDepth 100000 in
theorem impl_valuesOf.calls (k : Nat) (a0_0 : Int) (a0_1 : Int) (A0_2 : Option Addr) (c0_2 : Nat) (l0_2 : List Int) (r : List Int) (w : World) (hr0_2 : Kd.C (Kd.int .i64) w A0_2 l0_2.length l0_2) (hc0_2 : l0_2.length ≤ c0_2) (h : impl_valuesOf.f k a0_0 a0_1 l0_2 = some r) :
 Calls Try.prog 44 #[.agg #[.int .i64 a0_0, .int .i64 a0_1, .slice A0_2 l0_2.length c0_2]] w fun e w' => ∃ v0_ : Value, e = .returned (v0_) ∧ Kd.R (Kd.int .i64) 3 w' w.heap.size (fun _ => True) v0_ r ∧ Below w.heap.size w w' := by
 have hu26 := Try.underlying26
 have HR0_2 := Aside0.mk hr0_2
 have HC0_2 := Aside0.mk hc0_2
 clear hr0_2 hc0_2
 have HB := Aside0.mk (Below.refl w.heap.size w)
 have H : ((slices_Clone_int.f l0_2).bind fun t347 => ((slices_DeleteFunc_int.f k t347).bind fun t350 => (some t350))) = some r := h
 clear h
 replace H := Option.bind_eq_some_iff.mp H
 obtain ⟨t347, A20, H⟩ := H
 replace H : ((slices_DeleteFunc_int.f k t347).bind fun t350 => (some t350)) = some r := H
 have A2 := Aside0.mk A20
 clear A20
 replace H := Option.bind_eq_some_iff.mp H
 obtain ⟨t350, A30, H⟩ := H
 replace H : (some t350) = some r := H
 have A3 := Aside0.mk A30
 clear A30
 focus
  obtain rfl := Option.some.inj H
  go_enter Try.func44, Try.ntmps44
  go_wp2_with (first | ((with_reducible refine gate_dst (N := 1) rfl ?_); refine box_event ?hg (N := 1) ?hd (cs := #[.int .i64 a0_0, .int .i64 a0_1, .slice A0_2 l0_2.length c0_2]) (t := 26) ?hr ?_; (case hd => rfl); (case hg => rfl); (case hr => exact zsx); intro gb346 hg w4 hbox hb; have BK346 := Aside0.mk (hbox); have GW346 := zns hg HB.out; have GE346 := zns hg HB.out; replace HB := Aside0.mk (below_step (zBx HB.out) hb); clear hb hbox hg; have hcz5_0 : w4.cell? ⟨gb346, 0, none⟩ = some (.int .i64 a0_0) := (blk_cell BK346.out 0).trans rfl; have hcz5_1 : w4.cell? ⟨gb346, 1, none⟩ = some (.int .i64 a0_1) := (blk_cell BK346.out 1).trans rfl; have hcz5_2 : w4.cell? ⟨gb346, 2, none⟩ = some (.slice A0_2 l0_2.length c0_2) := (blk_cell BK346.out 2).trans rfl; have hfz5_0 := blk_frozen BK346.out 0; have hfz5_1 := blk_frozen BK346.out 1; have hfz5_2 := blk_frozen BK346.out 2) | ((with_reducible refine gate_callee (f := 64) rfl ?_); refine goesL_ (some 5) rfl rfl Try.func64 (by kernel_rfl) rfl #[.slice A0_2 l0_2.length c0_2] rfl zlx ?_; (with_reducible refine (slices_Clone_int.calls _ _ l0_2 t347 _ ?side1 ?side2 A2.out).mono ?_); (case side1 => exact zCx (Kd.C_below HR0_2.out HB.out)); (case side2 => exact HC0_2.out); rintro e w6 ⟨v348, rfl, ho0, hb⟩; refine ⟨_, rfl, ?_⟩; have HO349 := Aside0.mk (Kd.R_lower ho0 (below_size (zBy HB.out GE346.out))); replace BK346 := zbl BK346.out hb; replace HB := Aside0.mk (below_step (zBy HB.out GE346.out) hb); (try clear hb); (try clear ho0); obtain ⟨Ao7, co7, eo7⟩ := Kd.R_slice HO349.out; subst eo7) | ((with_reducible refine gate_callee (f := 63) rfl ?_); refine goesL_ (some 6) rfl rfl Try.func63 (by kernel_rfl) rfl #[.slice Ao7 t347.length co7, .func (.func 65) #[] #[]] rfl zlx ?_; (with_reducible refine (slices_DeleteFunc_int.calls k (fun k_ => some k_ = (.slice Ao7 t347.length co7 : Value).ownBlock) (.slice Ao7 t347.length co7) t347 t350 w _ ?side1 ?side2 A3.out).mono ?_); (case side1 => exact zBy HB.out GE346.out); (case side2 => exact Kd.R_tight rfl HO349.out); rintro e w8 ⟨v351, rfl, ho0, hb, hkp⟩; refine ⟨_, rfl, ?_⟩; replace BK346 := Aside0.mk (blk_kept (zbx BK346.out) hkp (fun hs_ => (fun e_ => (Kd.R_ne HO349.out BK346.out (by decide)) e_) hs_)); have HO352 := Aside0.mk (Kd.R_mono (ok' := fun k_ => True) ho0 (fun k_ hk_ => trivial)); replace HB := Aside0.mk (hb); clear HO349; (try clear hb); (try clear hkp); (try clear ho0)))
  go_ret
  exact ⟨_, by first | rfl | (simp [errW_none, errW_some] <;> rfl) | (simp [*, errW_none, errW_some] <;> rfl), by refine zDR ?_; exact HO352.out, by exact zBy HB.out GE346.out⟩

/-! ### slices.SortFunc, slices.Sort over a row of the call's own: the shelf's contracts, told of 'R' -/
section
theorem setCells_app2 (b : Nat) : ∀ (a c : List Value) (o : Nat) (W : World), W.setCells b o (a ++ c) = (W.setCells b o a).setCells b (o + a.length) c
  | [], _, _, _ => rfl
  | v :: a, c, o, W => by
    show ((W.setCell ⟨b, o, none⟩ v).setCells b (o + 1) (a ++ c)) = _
    rw [setCells_app2 b a c (o + 1)]
    show _ = ((W.setCell ⟨b, o, none⟩ v).setCells b (o + 1) a).setCells b (o + (a.length + 1)) c
    rw [show o + 1 + a.length = o + (a.length + 1) from by omega]
theorem grown_then2 {a w w' : World} {row : Option Nat} (h : a.grownBy w row) (k : w.grownBy w' row) : a.grownBy w' row :=
  ⟨k.os.trans h.os, k.tape.trans h.tape, k.output.trans h.output, Nat.le_trans h.size k.size, fun i hi hne => (k.block i (Nat.lt_of_lt_of_le hi h.size) hne).trans (h.block i hi hne)⟩
/-- A row laid whole: element after element. -/
theorem Kd.R_lay {α : Type} {d : Kd α} {e base n cap g : Nat} {ok : Nat → Prop} {enc : α → List Value} (hM : ∀ W x, d.M W base (fun _ => False) x (enc x)) (hl : ∀ x, (enc x).length = d.sz) : ∀ (ys : List α) (j : Nat) (W : World) (xs : List α), d.R e W base ok (.slice (some ⟨g, 0, none⟩) n cap) xs → j + ys.length = n →
    d.R e (W.setCells g (j * d.sz) (ys.flatMap enc)) base ok (.slice (some ⟨g, 0, none⟩) n cap) (xs.take j ++ ys) ∧ W.grownBy (W.setCells g (j * d.sz) (ys.flatMap enc)) (some g)
  | [], j, W, xs, h, hn => by
    have hx := (Kd.R_reads' h).1
    rw [List.length_nil, Nat.add_zero] at hn
    rw [List.flatMap_nil, List.append_nil, List.take_of_length_le (by omega)]
    exact ⟨h, World.grownBy.refl _ _⟩
  | y :: ys, j, W, xs, h, hn => by
    have hx := (Kd.R_reads' h).1
    rw [List.length_cons] at hn
    obtain ⟨c, hcl, _, hcc, _⟩ := Kd.R_elem h y (j : Int) (by omega) (by omega)
    rw [Int.toNat_natCast] at hcc
    have hs := Kd.R_seg h (j : Int) (by omega) (by omega) (seg := enc y) (j := 0) hcl (by rw [Int.toNat_natCast]; exact hcc) (by rw [hl]; omega) (x' := y) (okp := fun _ => False) (by
      rw [List.take_zero, List.nil_append, hl, List.drop_of_length_le (by omega), List.append_nil]; exact hM W y) (fun _ hk => hk.elim)
    rw [Int.toNat_natCast, Nat.add_zero] at hs
    obtain ⟨h1, h2⟩ := hs
    obtain ⟨h3, h4⟩ := Kd.R_lay hM hl ys (j + 1) _ _ h1 (by omega)
    have e1 : W.setCells g (j * d.sz) ((y :: ys).flatMap enc) = (W.setCells g (j * d.sz) (enc y)).setCells g ((j + 1) * d.sz) (ys.flatMap enc) := by
      rw [List.flatMap_cons, setCells_app2, hl, ← Nat.succ_mul]
    have e2 : (xs.set j y).take (j + 1) ++ ys = xs.take j ++ y :: ys := by
      rw [List.take_add_one, List.take_set_of_le (Nat.le_refl _), List.getElem?_set_self (by omega), Option.toList_some, List.append_assoc]; rfl
    rw [e1]
    rw [e2] at h3
    exact ⟨h3, grown_then2 h2 h4⟩
theorem flat_get {α : Type} (enc : α → List Value) (k : Nat) (hk : ∀ x, (enc x).length = k) (z : α) : ∀ (l : List α) (i c : Nat), c < k → i < l.length → (l.flatMap enc)[i * k + c]? = (enc (l.getD i z))[c]?
  | [], i, _, _, h => by simp at h
  | x :: l, 0, c, hc, _ => by
    rw [List.flatMap_cons, Nat.zero_mul, Nat.zero_add, List.getElem?_append_left (by rw [hk]; exact hc)]; rfl
  | x :: l, i + 1, c, hc, h => by
    rw [List.flatMap_cons, List.getElem?_append_right (by rw [hk, Nat.add_mul]; omega), hk, show (i + 1) * k + c - k = i * k + c from by rw [Nat.add_mul]; omega]
    exact flat_get enc k hk z l i c hc (by simpa using h)
theorem flat_len {α : Type} (enc : α → List Value) (k : Nat) (hk : ∀ x, (enc x).length = k) : ∀ (l : List α), (l.flatMap enc).length = l.length * k
  | [] => by simp
  | x :: l => by rw [List.flatMap_cons, List.length_append, flat_len enc k hk l, hk, List.length_cons, Nat.add_mul]; omega
theorem flatK_list {α : Type} [Inhabited α] (enc : α → List Value) (k : Nat) (hk : ∀ x, (enc x).length = k) (hk0 : 0 < k) (l : List α) : Go.Sort.flatK enc k l.toArray = (l.flatMap enc).toArray := by
  refine Go.Sort.ext_get! (by rw [Go.Sort.size_flatK, List.size_toArray, List.size_toArray, flat_len enc k hk]) fun t ht => ?_
  have ht' : t < l.length * k := by simpa using ht
  rw [Go.Sort.get_flatK _ _ _ _ (by simpa using ht')]
  have hi : t / k < l.length := Nat.div_lt_of_lt_mul (by rw [Nat.mul_comm]; exact ht')
  have hc := Nat.mod_lt t hk0
  have hg := flat_get enc k hk default l (t / k) (t % k) hc hi
  rw [show t / k * k + t % k = t from by rw [Nat.mul_comm]; exact Nat.div_add_mod t k] at hg
  have e1 : l.toArray[t / k]! = l.getD (t / k) default := by simp [hi]
  have e2 : (l.flatMap enc).toArray[t]! = ((l.flatMap enc)[t]?).getD default := by simp
  rw [e1, e2, hg]
  simp
theorem Kd.R_holdsK {α : Type} [Inhabited α] {d : Kd α} {e base n cap g : Nat} {ok : Nat → Prop} {w : World} {xs : List α} {enc : α → List Value} (hopen : ∀ {W : World} {b : Nat} {o : Nat → Prop} {x : α} {cs : List Value}, d.M W b o x cs → cs = enc x) (hl : ∀ x, (enc x).length = d.sz) (h0 : 0 < d.sz)
    (h : d.R e w base ok (.slice (some ⟨g, 0, none⟩) n cap) xs) : Go.Sort.HoldsK enc d.sz w g 0 xs.toArray := by
  intro t ht
  have hn := (Kd.R_reads' h).1
  have ht' : t < xs.length * d.sz := by simpa using ht
  have hi : t / d.sz < xs.length := Nat.div_lt_of_lt_mul (by rw [Nat.mul_comm]; exact ht')
  have hc := Nat.mod_lt t h0
  have hdm : t / d.sz * d.sz + t % d.sz = t := by rw [Nat.mul_comm]; exact Nat.div_add_mod t d.sz
  obtain ⟨cs, hcl, hM, hcc, hff⟩ := Kd.R_elem h default ((t / d.sz : Nat) : Int) (Int.natCast_nonneg _) (by rw [hn]; exact Int.ofNat_lt.2 hi)
  rw [Int.toNat_natCast] at hM hcc hff
  obtain rfl := hopen hM
  have a := hcc (t % d.sz) _ (List.getElem?_eq_getElem (by omega))
  have b := hff (t % d.sz)
  rw [hdm] at a b
  rw [Nat.zero_add]
  refine ⟨a.trans ?_, b⟩
  rw [Go.Sort.get_flatK _ _ _ _ (by simpa using ht')]
  have e1 : xs.toArray[t / d.sz]! = xs.getD (t / d.sz) default := by simp [hi]
  show some _ = some (id _)
  rw [id, e1, getElem!_pos _ _ (by omega)]
theorem Kd.R_putK {α : Type} [Inhabited α] {d : Kd α} {e base n cap g q : Nat} {ok : Nat → Prop} {w : World} {xs ys : List α} {os : Array Obj} {enc : α → List Value} (hopen : ∀ {W : World} {b : Nat} {o : Nat → Prop} {x : α} {cs : List Value}, d.M W b o x cs → cs = enc x) (hM : ∀ W x, d.M W base (fun _ => False) x (enc x)) (hl : ∀ x, (enc x).length = d.sz) (h0 : 0 < d.sz)
    (h : d.R e w base ok (.slice (some ⟨g, 0, none⟩) n cap) xs) (hy : ys.length = xs.length) : ∃ W, Go.Sort.grow (Go.Sort.putRowK enc d.sz (Go.Sort.ahead w q) g 0 ys.toArray) os = Go.Sort.grow W os ∧ d.R e W base ok (.slice (some ⟨g, 0, none⟩) n cap) ys ∧ w.grownBy W (some g) := by
  have hn := (Kd.R_reads' h).1
  have hH := Kd.R_holdsK hopen hl h0 h
  have hp : Go.Sort.putRowK enc d.sz (Go.Sort.ahead w q) g 0 ys.toArray = (w.drewN q).setCells g 0 (ys.flatMap enc) := by
    show Go.Sort.putRow id (Go.Sort.ahead w q) g 0 (Go.Sort.flatK enc d.sz ys.toArray) = _
    rw [flatK_list enc d.sz hl h0, Go.Lib.putRow_eq_setCells id w g 0 _ _ q hH (by rw [flat_len enc d.sz hl, Go.Sort.size_flatK, List.size_toArray, hy]), List.map_id]
  obtain ⟨r1, r2⟩ := Kd.R_lay hM hl ys 0 (w.drewN q) xs (Kd.R_drewN h q) (by omega)
  rw [Nat.zero_mul, List.take_zero, List.nil_append] at r1
  rw [Nat.zero_mul] at r2
  exact ⟨_, by rw [hp], r1, grown_then2 (grown_of_below (pw_below_drewN (Below.refl _ _) q) (some g)) r2⟩
theorem below_grow2 (w : World) (os : Array Obj) : Below w.heap.size w (Go.Sort.grow w os) :=
  ⟨rfl, rfl, rfl, by rw [Go.Sort.size_grow]; omega, fun k hk => Go.Sort.heap_grow_old w os hk⟩
end
section
theorem Kd.R_holdsI {e base n cap g : Nat} {ok : Nat → Prop} {w : World} {xs : List Int} (h : Kd.R (Kd.int .i64) e w base ok (.slice (some ⟨g, 0, none⟩) n cap) xs) : Go.Sort.Holds (Value.int .i64) w g 0 xs.toArray := by
  intro t ht
  have hn := (Kd.R_reads' h).1
  have ht' : t < xs.length := by simpa using ht
  obtain ⟨cs, hcl, hM, hcc, hff⟩ := Kd.R_elem h 0 (t : Int) (by omega) (by omega)
  rw [Int.toNat_natCast] at hM hcc hff
  obtain rfl : cs = [.int .i64 (xs.getD t 0)] := hM
  have a := hcc 0 _ rfl
  have b := hff 0
  rw [show (Kd.int .i64).sz = 1 from rfl, Nat.mul_one, Nat.add_zero] at a b
  rw [Nat.zero_add]
  refine ⟨a.trans ?_, b⟩
  have e1 : xs.toArray[t]! = xs.getD t 0 := by simp [ht']
  rw [e1]
theorem Kd.R_putI {e base n cap g q : Nat} {ok : Nat → Prop} {w : World} {xs ys : List Int} (h : Kd.R (Kd.int .i64) e w base ok (.slice (some ⟨g, 0, none⟩) n cap) xs) (hy : ys.length = xs.length) : ∃ W, Go.Sort.putRow (Value.int .i64) (Go.Sort.ahead w q) g 0 ys.toArray = W ∧ Kd.R (Kd.int .i64) e W base ok (.slice (some ⟨g, 0, none⟩) n cap) ys ∧ w.grownBy W (some g) := by
  have hn := (Kd.R_reads' h).1
  have hH := Kd.R_holdsI h
  have hp : Go.Sort.putRow (Value.int .i64) (Go.Sort.ahead w q) g 0 ys.toArray = (w.drewN q).setCells g 0 (ys.map (Value.int .i64)) := Go.Lib.putRow_eq_setCells (Value.int .i64) w g 0 _ _ q hH (by rw [List.size_toArray, hy])
  obtain ⟨r1, r2⟩ := Kd.R_lay (d := Kd.int .i64) (enc := fun x => [.int .i64 x]) (fun _ _ => rfl) (fun _ => rfl) ys 0 (w.drewN q) xs (Kd.R_drewN h q) (by omega)
  rw [Nat.zero_mul, List.take_zero, List.nil_append] at r1
  rw [Nat.zero_mul] at r2
  have e1 : ys.flatMap (fun x => [Value.int .i64 x]) = ys.map (Value.int .i64) := by
    clear h hy hH hp r1 r2 hn
    induction ys with
    | nil => rfl
    | cons y ys ih => rw [List.flatMap_cons, List.map_cons, ih]; rfl
  rw [e1] at r1 r2
  exact ⟨_, hp, r1, grown_then2 (grown_of_below (pw_below_drewN (Below.refl _ _) q) (some g)) r2⟩
end
/-! ### slices_Sort_int: function 45 -/
-- in our own words (wip/stub)
def slices_Sort_int.f (l0 : List Int) : Option (List Int) := if l0.length < 4611686018427387904 then some (l0.mergeSort fun x y => decide (x ≤ y)) else none
theorem slices_Sort_int.calls (P0_ : Nat → Prop) (u9000_ : Value) (l0 : List Int) (r : List Int) (w0 w : World) (hB : Below w0.heap.size w0 w) (ho0 : Kd.R (Kd.int .i64) 3 w w0.heap.size P0_ u9000_ l0) (h : slices_Sort_int.f l0 = some r) :
 Calls Try.prog 45 #[u9000_] w fun e w' => e = .returned (.tuple #[]) ∧ Kd.R (Kd.int .i64) 3 w' w0.heap.size (fun k_ => (P0_ k_ ∨ w.heap.size ≤ k_)) u9000_ r ∧ Below w0.heap.size w0 w' ∧ Kept w w' (fun k_ => P0_ k_) := by
  unfold slices_Sort_int.f at h
  by_cases hc : l0.length < 4611686018427387904
  · rw [if_pos hc] at h
    obtain rfl := Option.some.inj h
    rcases Nat.eq_zero_or_pos l0.length with h0 | h0
    · obtain ⟨A, c, rfl⟩ := Kd.R_slice ho0
      obtain rfl : l0 = [] := List.eq_nil_of_length_eq_zero h0
      have hcon := Go.Proofs.Any.slices_Sort_int_none Try.sortI A c w
      change Calls Try.prog 45 _ _ _ at hcon
      refine hcon.mono ?_
      rintro e w' ⟨rfl, rfl⟩
      rw [List.mergeSort_nil]
      exact ⟨rfl, Kd.R_mono ho0 (fun k hk => .inl hk), hB, Kept.refl _ _⟩
    · obtain ⟨g, cap, rfl, hgb, hgl, _⟩ := Kd.R_form ho0 h0
      have hH := Kd.R_holdsI ho0
      have hcon := Go.calls_of_every_depth fun D => Go.Proofs.AnyS.slices_Sort_int_alone Try.sortI D g 0 cap l0 w hH hgl hc
      change Calls Try.prog 45 _ _ _ at hcon
      refine hcon.mono ?_
      rintro e w' ⟨rfl, n, os, hw⟩
      obtain ⟨W, e1, r1, g1⟩ := Kd.R_putI (q := n) (ys := l0.mergeSort fun x y => decide (x ≤ y)) ho0 (List.length_mergeSort _)
      rw [e1] at hw
      subst hw
      have b1 : Below w0.heap.size w0 W := pw_below_grown hB (some g) hB.size g1 (fun k hk => by cases hk; exact hgb)
      exact ⟨rfl, Kd.R_below (Kd.R_mono r1 (fun k hk => .inl hk)) (below_grow2 W os), below_step b1 (below_grow2 W os), (Kept.of_grown g1 (Kept.refl w _) (fun k hk => by cases hk; exact .inl (ho0.1 _ rfl))).below (below_grow2 W os)⟩
  · rw [if_neg hc] at h; cases h

/-! ### slices_Compact_int: function 46 -/
-- in our own words (wip/stub)
def slices_Compact_int.f (l0 : List Int) : Option (List Int) := if l0.length < 4611686018427387904 then some (Go.Lib.compact l0) else none
theorem slices_Compact_int.calls (P0_ : Nat → Prop) (u9000_ : Value) (l0 : List Int) (r : List Int) (w0 w : World) (hB : Below w0.heap.size w0 w) (ho0 : Kd.R (Kd.int .i64) 3 w w0.heap.size P0_ u9000_ l0) (h : slices_Compact_int.f l0 = some r) :
 Calls Try.prog 46 #[u9000_] w fun e w' => ∃ v0_ : Value, e = .returned (v0_) ∧ Kd.R (Kd.int .i64) 3 w' w0.heap.size (fun k_ => (P0_ k_ ∨ w.heap.size ≤ k_)) v0_ r ∧ Below w0.heap.size w0 w' ∧ Kept w w' (fun k_ => P0_ k_) := by
  unfold slices_Compact_int.f at h
  by_cases hc : l0.length < 4611686018427387904
  · rw [if_pos hc] at h
    obtain rfl := Option.some.inj h
    rcases Nat.eq_zero_or_pos l0.length with h0 | h0
    · obtain ⟨A, c, rfl⟩ := Kd.R_slice ho0
      obtain rfl : l0 = [] := List.eq_nil_of_length_eq_zero h0
      have hcon := Go.Proofs.Any.slices_Compact_int_empty Try.compactI A c w
      change Calls Try.prog 46 _ _ _ at hcon
      refine hcon.mono ?_
      rintro e w' ⟨rfl, rfl⟩
      exact ⟨_, rfl, Kd.R_mono ho0 (fun k hk => .inl hk), hB, Kept.refl _ _⟩
    · obtain ⟨g, cap, rfl, hgb, hgl, _⟩ := Kd.R_form ho0 h0
      have hH := Kd.R_holdsI ho0
      have hcap := (Kd.R_reads' ho0).2.1
      have hcon := Go.Proofs.Any.slices_Compact_int Try.compactI g 0 cap l0 w hH (by omega) hcap
      change Calls Try.prog 46 _ _ _ at hcon
      refine hcon.mono ?_
      rintro e w' ⟨rfl, q, hw⟩
      have hle : (Go.Lib.compact l0).length ≤ l0.length := by
        unfold Go.Lib.compact Go.Lib.compactUpTo
        rw [List.length_map]
        refine Nat.le_trans (List.length_filter_le _ _) ?_
        simp
      obtain ⟨W, e1, r1, g1⟩ := Kd.R_putI (q := q) (ys := Go.Lib.compact l0 ++ List.replicate (l0.length - (Go.Lib.compact l0).length) 0) ho0 (by rw [List.length_append, List.length_replicate]; omega)
      rw [e1] at hw
      subst hw
      have r2 := Kd.R_take (m := (Go.Lib.compact l0).length) r1 (by rw [List.length_append]; omega)
      rw [List.take_left] at r2
      have b1 : Below w0.heap.size w0 w' := pw_below_grown hB (some g) hB.size g1 (fun k hk => by cases hk; exact hgb)
      exact ⟨_, rfl, Kd.R_mono r2 (fun k hk => .inl hk), b1, Kept.of_grown g1 (Kept.refl w _) (fun k hk => by cases hk; exact .inl (ho0.1 _ rfl))⟩
  · rw [if_neg hc] at h; cases h

/-! ### cmp_isNaN_int: function 93 -/
def cmp_isNaN_int.f (a0 : Int) : Option (Bool) := some (a0 != a0)
set_option maxHeartbeats 8000000 in
set_option maxRecDepth 100000 in
theorem cmp_isNaN_int.calls (a0 : Int) (r : Bool) (w : World) (h : cmp_isNaN_int.f a0 = some r) :
 Calls Try.prog 93 #[.int .i64 a0] w fun e w' => e = .returned (.bool r) ∧ Drawn0 w w' := by
 have H : (some (a0 != a0)) = some r := h
 clear h
 focus
  obtain rfl := Option.some.inj H
  go_enter Try.func93, Try.ntmps93
  go_wp2
  go_ret
  exact ⟨by first | rfl | (simp; done) | (simp [*]; done), by repeat (first | exact Drawn0.refl _ | apply Drawn0.step)⟩

/-! ### cmp_Compare_int: function 68 -/
def cmp_Compare_int.f (a0 : Int) (a1 : Int) : Option (Int) := (cmp_isNaN_int.f a0).bind fun t358 => ((cmp_isNaN_int.f a1).bind fun t359 => (if t358 = true then (if t359 = true then (some 0) else (some (-1))) else (if t359 = true then (some 1) else (if a0 < a1 then (some (-1)) else (if a0 > a1 then (some 1) else (some 0))))))
theorem zendXFnLimitsx10_0 {P_ : Prop} (h_ : P_ := by
  obtain rfl := Option.some.inj H
  go_enter Try.func68, Try.ntmps68
  go_wp2_with (first | ((with_reducible refine gate_callee (f := 93) rfl ?_); refine goesL_ (some 8) rfl rfl Try.func93 (by kernel_rfl) rfl #[.int .i64 a0] rfl zlx ?_; (with_reducible refine (cmp_isNaN_int.calls a0 _ _ A3.out).mono ?_); rintro e w' ⟨rfl, ⟨nd, rfl⟩⟩; refine ⟨_, rfl, ?_⟩) | ((with_reducible refine gate_callee (f := 93) rfl ?_); refine goesL_ (some 10) rfl rfl Try.func93 (by kernel_rfl) rfl #[.int .i64 a1] rfl zlx ?_; (with_reducible refine (cmp_isNaN_int.calls a1 _ _ A4.out).mono ?_); rintro e w' ⟨rfl, ⟨nd, rfl⟩⟩; refine ⟨_, rfl, ?_⟩))
  go_ret
  exact ⟨by first | rfl | (simp; done) | (simp [*]; done), by repeat (first | exact Drawn0.refl _ | apply Drawn0.step)⟩) : P_ := h_
set_option maxHeartbeats 8000000 in
set_option maxRecDepth 100000 in
theorem cmp_Compare_int.calls (a0 : Int) (a1 : Int) (r : Int) (w : World) (h : cmp_Compare_int.f a0 a1 = some r) :
 Calls Try.prog 68 #[.int .i64 a0, .int .i64 a1] w fun e w' => e = .returned (.int .i64 r) ∧ Drawn0 w w' := by
 have H : ((cmp_isNaN_int.f a0).bind fun t358 => ((cmp_isNaN_int.f a1).bind fun t359 => (if t358 = true then (if t359 = true then (some 0) else (some (-1))) else (if t359 = true then (some 1) else (if a0 < a1 then (some (-1)) else (if a0 > a1 then (some 1) else (some 0))))))) = some r := h
 clear h
 replace H := Option.bind_eq_some_iff.mp H
 obtain ⟨t358, A30, H⟩ := H
 replace H : ((cmp_isNaN_int.f a1).bind fun t359 => (if t358 = true then (if t359 = true then (some 0) else (some (-1))) else (if t359 = true then (some 1) else (if a0 < a1 then (some (-1)) else (if a0 > a1 then (some 1) else (some 0)))))) = some r := H
 have A3 := Aside0.mk A30
 clear A30
 replace H := Option.bind_eq_some_iff.mp H
 obtain ⟨t359, A40, H⟩ := H
 replace H : (if t358 = true then (if t359 = true then (some 0) else (some (-1))) else (if t359 = true then (some 1) else (if a0 < a1 then (some (-1)) else (if a0 > a1 then (some 1) else (some 0))))) = some r := H
 have A4 := Aside0.mk A40
 clear A40
 by_cases c5 : t358 = true
 ·subst c5
  rw [if_pos rfl] at H
  by_cases c6 : t359 = true
  ·subst c6
   rw [if_pos rfl] at H
   focus
    exact zendXFnLimitsx10_0
  ·replace c6 := Bool.eq_false_iff.mpr c6
   subst c6
   rw [if_neg (show ¬ (false = true) by decide)] at H
   focus
    exact zendXFnLimitsx10_0
 ·replace c5 := Bool.eq_false_iff.mpr c5
  subst c5
  rw [if_neg (show ¬ (false = true) by decide)] at H
  by_cases c7 : t359 = true
  ·subst c7
   rw [if_pos rfl] at H
   focus
    exact zendXFnLimitsx10_0
  ·replace c7 := Bool.eq_false_iff.mpr c7
   subst c7
   rw [if_neg (show ¬ (false = true) by decide)] at H
   by_cases c8 : a0 < a1
   ·rw [if_pos c8] at H
    have c8b0 : decide (a0 < a1) = true := decide_eq_true c8
    clear c8
    focus
     exact zendXFnLimitsx10_0
   ·rw [if_neg c8] at H
    have c8b0 : decide (a0 < a1) = false := decide_eq_false c8
    clear c8
    by_cases c9 : a0 > a1
    ·rw [if_pos c9] at H
     have c9b0 : decide (a1 < a0) = true := decide_eq_true c9
     clear c9
     focus
      exact zendXFnLimitsx10_0
    ·rw [if_neg c9] at H
     have c9b0 : decide (a1 < a0) = false := decide_eq_false c9
     clear c9
     focus
      exact zendXFnLimitsx10_0

/-! ### impl_compareRatios: function 47 -/
def impl_compareRatios.f (a0_0 : Int) (a0_1 : Int) (a1_0 : Int) (a1_1 : Int) : Option (Int) := (cmp_Compare_int.f (wrap64 (a0_0 * a1_1)) (wrap64 (a1_0 * a0_1))).bind fun t362 => (some t362)
set_option maxHeartbeats 8000000 in
set_option maxRecDepth 100000 in
theorem impl_compareRatios.calls (a0_0 : Int) (a0_1 : Int) (a1_0 : Int) (a1_1 : Int) (r : Int) (w : World) (h : impl_compareRatios.f a0_0 a0_1 a1_0 a1_1 = some r) :
 Calls Try.prog 47 #[.agg #[.int .i64 a0_0, .int .i64 a0_1], .agg #[.int .i64 a1_0, .int .i64 a1_1]] w fun e w' => e = .returned (.int .i64 r) ∧ Below w.heap.size w w' := by
 have hu37 := Try.underlying37
 have HB := Aside0.mk (Below.refl w.heap.size w)
 have H : ((cmp_Compare_int.f (wrap64 (a0_0 * a1_1)) (wrap64 (a1_0 * a0_1))).bind fun t362 => (some t362)) = some r := h
 clear h
 replace H := Option.bind_eq_some_iff.mp H
 obtain ⟨t362, A30, H⟩ := H
 replace H : (some t362) = some r := H
 have A3 := Aside0.mk A30
 clear A30
 focus
  obtain rfl := Option.some.inj H
  go_enter Try.func47, Try.ntmps47
  go_wp2_with (first | ((with_reducible refine gate_dst (N := 2) rfl ?_); refine box_event ?hg (N := 2) ?hd (cs := #[.int .i64 a0_0, .int .i64 a0_1]) (t := 37) ?hr ?_; (case hd => rfl); (case hg => rfl); (case hr => exact zsx); intro gb360 hg w4 hbox hb; have BK360 := Aside0.mk (hbox); have GW360 := zns hg HB.out; have GE360 := zns hg HB.out; replace HB := Aside0.mk (below_step (zBx HB.out) hb); clear hb hbox hg) | ((with_reducible refine gate_dst (N := 3) rfl ?_); refine box_event ?hg (N := 3) ?hd (cs := #[.int .i64 a1_0, .int .i64 a1_1]) (t := 37) ?hr ?_; (case hd => rfl); (case hg => rfl); (case hr => exact zsx); intro gb361 hg w5 hbox hb; have BK361 := Aside0.mk (hbox); have GW361 := zns hg HB.out; have GE361 := zns hg HB.out; replace HB := Aside0.mk (below_step (zBy HB.out GE360.out) hb); have NB360_361 := znl hg BK360.out; have NB361_360 := zng hg BK360.out; replace BK360 := zbl BK360.out hb; clear hb hbox hg; have hnb6 := NB360_361.out; have hnc6 := NB361_360.out; have hcz7_0 : w5.cell? ⟨gb360, 0, none⟩ = some (.int .i64 a0_0) := (blk_cell BK360.out 0).trans rfl; have hcz7_1 : w5.cell? ⟨gb360, 1, none⟩ = some (.int .i64 a0_1) := (blk_cell BK360.out 1).trans rfl; have hfz7_0 := blk_frozen BK360.out 0; have hfz7_1 := blk_frozen BK360.out 1; have hcz8_0 : w5.cell? ⟨gb361, 0, none⟩ = some (.int .i64 a1_0) := (blk_cell BK361.out 0).trans rfl; have hcz8_1 : w5.cell? ⟨gb361, 1, none⟩ = some (.int .i64 a1_1) := (blk_cell BK361.out 1).trans rfl; have hfz8_0 := blk_frozen BK361.out 0; have hfz8_1 := blk_frozen BK361.out 1) | ((with_reducible refine gate_callee (f := 68) rfl ?_); refine goesL_ (some 15) rfl rfl Try.func68 (by kernel_rfl) rfl #[.int .i64 (wrap64 (a0_0 * a1_1)), .int .i64 (wrap64 (a1_0 * a0_1))] rfl zlx ?_; (with_reducible refine (cmp_Compare_int.calls (wrap64 (a0_0 * a1_1)) (wrap64 (a1_0 * a0_1)) t362 _ A3.out).mono ?_); rintro e w' ⟨rfl, ⟨nd, rfl⟩⟩; refine ⟨_, rfl, ?_⟩))
  go_ret
  exact ⟨by first | rfl | (simp [errW_none, errW_some] <;> rfl) | (simp [*, errW_none, errW_some] <;> rfl), by exact zBz HB.out GE360.out GE361.out⟩

end Go.Proofs.Ytddgbaohepfekaa.XFnLimits
