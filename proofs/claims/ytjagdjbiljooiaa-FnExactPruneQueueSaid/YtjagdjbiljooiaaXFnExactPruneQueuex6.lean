-- written by wip/tools/xprint.py (a program of this project) out of the translation
import Derived.Test.YtjagdjbiljooiaaXFnExactPruneQueuex0
import Derived.Test.YtjagdjbiljooiaaXFnExactPruneQueuex4
import Derived.Test.YtjagdjbiljooiaaXFnExactPruneQueuex5
namespace Go.Proofs.Ytjagdjbiljooiaa.XFnExactPruneQueue
open Go.RowKit Go.Proofs.YtjagdjbiljooiaaW.PrintWords Go.Proofs.YtjagdjbiljooiaaW.PrintLast Go.Proofs.YtjagdjbiljooiaaW.PrintMore
attribute [local go_sem] max2_int min2_int max_two min_two max_three min_three max_four min_four   -- for this text's walks alone
set_option linter.unusedVariables false
set_option linter.unusedSimpArgs false

/-! ### impl_PruneQueue_1: function 69 -/
def impl_PruneQueue_1.f (a0_0 : Int) (a0_1 : Int) (a0_2 : Int) (a0_3 : Int) : Option (Bool) := (impl_isOpen.f a0_0 a0_1 a0_2 a0_3).bind fun t164 => (some (!t164))
set_option maxHeartbeats 8000000 in
set_option maxRecDepth 100000 in
theorem impl_PruneQueue_1.calls (a0_0 : Int) (a0_1 : Int) (a0_2 : Int) (a0_3 : Int) (r : Bool) (w : World) (h : impl_PruneQueue_1.f a0_0 a0_1 a0_2 a0_3 = some r) :
    Calls Try.prog 69 #[.agg #[.int .i64 a0_0, .int .i64 a0_1, .int .i64 a0_2, .int .i64 a0_3]] w fun e w' => e = .returned (.bool r) ∧ Below w.heap.size w w' := by
  have hu94 := Try.underlying94
  have HB := Aside0.mk (Below.refl w.heap.size w)
  have H : ((impl_isOpen.f a0_0 a0_1 a0_2 a0_3).bind fun t164 => (some (!t164))) = some r := h
  clear h
  replace H := Option.bind_eq_some_iff.mp H
  obtain ⟨t164, A20, H⟩ := H
  replace H : (some (!t164)) = some r := H
  have A2 := Aside0.mk A20
  clear A20
  obtain rfl := Option.some.inj H
  go_enter Try.func69, Try.ntmps69
  go_wp2_with (first | ((with_reducible refine gate_dst (N := 1) rfl ?_); refine box_event ?hg (N := 1) ?hd (cs := #[.int .i64 a0_0, .int .i64 a0_1, .int .i64 a0_2, .int .i64 a0_3]) (t := 94) ?hr ?_; (case hd => rfl); (case hg => rfl); (case hr => exact zsx); intro gb163 hg w3 hbox hb; have n0_ := Aside0.mk (below_step (zBx HB.out) hb); have n1_ := Aside0.mk (hbox); have n2_ := Aside0.mk ((by rw [hg]; exact (below_size (zBx HB.out)) : w.heap.size ≤ gb163)); have n3_ := Aside0.mk ((by rw [hg]; exact (below_size (zBx HB.out)) : w.heap.size ≤ gb163)); clear HB; have HB := n0_; have BK163 := n1_; have GW163 := n2_; have GE163 := n3_; clear n0_ n1_ n2_ n3_; clear hb hbox hg; have hcz4_0 : w3.cell? ⟨gb163, 0, none⟩ = some (.int .i64 a0_0) := (blk_cell BK163.out 0).trans rfl; have hcz4_1 : w3.cell? ⟨gb163, 1, none⟩ = some (.int .i64 a0_1) := (blk_cell BK163.out 1).trans rfl; have hcz4_2 : w3.cell? ⟨gb163, 2, none⟩ = some (.int .i64 a0_2) := (blk_cell BK163.out 2).trans rfl; have hcz4_3 : w3.cell? ⟨gb163, 3, none⟩ = some (.int .i64 a0_3) := (blk_cell BK163.out 3).trans rfl; have hfz4_0 := blk_frozen BK163.out 0; have hfz4_1 := blk_frozen BK163.out 1; have hfz4_2 := blk_frozen BK163.out 2; have hfz4_3 := blk_frozen BK163.out 3) | ((with_reducible refine gate_callee (f := 70) rfl ?_); refine goesL_ (some 4) rfl rfl Try.func70 (by kernel_rfl) rfl #[.agg #[.int .i64 a0_0, .int .i64 a0_1, .int .i64 a0_2, .int .i64 a0_3]] rfl zlx ?_; (with_reducible refine (impl_isOpen.calls a0_0 a0_1 a0_2 a0_3 t164 _ A2.out).mono ?_); rintro e w5 ⟨rfl, hb⟩; refine ⟨_, rfl, ?_⟩; have n0_ := Aside0.mk (blk_below (g := gb163) (o := .cells #[.int .i64 a0_0, .int .i64 a0_1, .int .i64 a0_2, .int .i64 a0_3] 94 (0, 0)) (zbx BK163.out) hb); have n1_ := Aside0.mk (below_step (zBy HB.out GE163.out) hb); clear BK163; clear HB; have BK163 := n0_; have HB := n1_; clear n0_ n1_; (try clear hb); (try clear hb2); (try clear hk); (try clear hi)))
  go_ret
  exact ⟨by first | rfl | (simp [errW_none, errW_some] <;> rfl) | (simp [*, errW_none, errW_some] <;> rfl), by exact zBy HB.out GE163.out⟩

/-! ### slices_IndexFunc_Delivery: function 85 -/
def slices_IndexFunc_Delivery.l0 : Nat → List (S94) → Int → Int → Option (Int)
  | 0, _, _, _ => none
  | k + 1, x0, x7, x8 => if x8 < x7 then (if 0 ≤ x8 then (if x8 < (x0.length : Int) then ((impl_PruneQueue_1.f ((rd_T94 x0 x8).f0) ((rd_T94 x0 x8).f1) ((rd_T94 x0 x8).f2) ((rd_T94 x0 x8).f3)).bind fun t166 => (if t166 = true then (some x8) else (slices_IndexFunc_Delivery.l0 k x0 x7 (wrap64 (x8 + 1))))) else (none)) else (none)) else (some (-1))
def slices_IndexFunc_Delivery.f (k : Nat) (l0 : List (S94)) : Option (Int) := slices_IndexFunc_Delivery.l0 k l0 (l0.length : Int) 0
theorem slices_IndexFunc_Delivery.mono_l : ∀ k, (∀ y0 y1 y2, LeO (slices_IndexFunc_Delivery.l0 k y0 y1 y2) (slices_IndexFunc_Delivery.l0 (k + 1) y0 y1 y2))
  | 0 => fun _ _ _ r h => by simp [slices_IndexFunc_Delivery.l0] at h
  | k + 1 => by
    have ih0 := slices_IndexFunc_Delivery.mono_l k
    · intro y0 y1 y2
      unfold slices_IndexFunc_Delivery.l0
      repeat' first
      | (with_reducible exact ih0 _ _ _)
      | (with_reducible exact LeO.refl _)
      | (with_reducible exact LeO.none _)
      | (with_reducible refine LeO.ite ?_ ?_)
      | (with_reducible refine LeO.bind ?_ (fun _ => ?_))
      | exact ih0 _ _ _
      | exact LeO.none _
      | refine LeO.ite ?_ ?_
      | refine LeO.bind ?_ (fun _ => ?_)
theorem slices_IndexFunc_Delivery.mono : ∀ a0 k, LeO (slices_IndexFunc_Delivery.f k a0) (slices_IndexFunc_Delivery.f (k + 1) a0) := by
  intro a0 k
  have ih0 := slices_IndexFunc_Delivery.mono_l k
  unfold slices_IndexFunc_Delivery.f
  repeat' first
      | (with_reducible exact ih0 _ _ _)
      | (with_reducible exact LeO.refl _)
      | (with_reducible exact LeO.none _)
      | (with_reducible refine LeO.ite ?_ ?_)
      | (with_reducible refine LeO.bind ?_ (fun _ => ?_))
      | exact ih0 _ _ _
      | exact LeO.none _
      | refine LeO.ite ?_ ?_
      | refine LeO.bind ?_ (fun _ => ?_)
set_option maxHeartbeats 8000000 in
set_option maxRecDepth 100000 in
theorem slices_IndexFunc_Delivery.calls (k : Nat) (A0 : Option Addr) (c0 : Nat) (l0 : List (S94)) (r : Int) (w : World) (hr0 : Kd.C k94 w A0 l0.length l0) (hc0 : l0.length ≤ c0) (h : slices_IndexFunc_Delivery.f k l0 = some r) :
    Calls Try.prog 85 #[.slice A0 l0.length c0, .func (.func 69) #[] #[]] w fun e w' => e = .returned (.int .i64 r) ∧ Below w.heap.size w w' := by
  have hu94 := Try.underlying94
  have HR0 := Aside0.mk hr0
  have HC0 := Aside0.mk hc0
  clear hr0 hc0
  have HB := Aside0.mk (Below.refl w.heap.size w)
  have H : (slices_IndexFunc_Delivery.l0 k l0 (l0.length : Int) 0) = some r := h
  clear h
  have H' := Aside0.mk H
  clear H
  go_enter Try.func85, Try.ntmps85
  go_wp2
  go_loopg [8] k (fun kq v8 w' => ∃ (x8_1 : Int), v8 = .int .i64 x8_1 ∧ Aside0 (slices_IndexFunc_Delivery.l0 kq l0 (l0.length : Int) x8_1 = some r) ∧ Aside0 (kq ≤ k) ∧ Aside0 (Below w.heap.size w w'))
  case atStart => exact ⟨(0), zrx, H', ⟨Nat.le_refl _⟩, ⟨by exact zBx HB.out⟩⟩
  case round =>
    clear H'
    obtain ⟨x8_1, rfl, HA, HK1, HB⟩ := hrel
    cases gk with
    | zero => exact absurd HA.out (by simp [slices_IndexFunc_Delivery.l0])
    | succ k1 =>
      have H := HA.out
      clear HA
      simp only [slices_IndexFunc_Delivery.l0] at H
      by_cases c2 : x8_1 < (l0.length : Int)
      · rw [if_pos c2] at H
        have c2b0 : decide (x8_1 < (l0.length : Int)) = true := decide_eq_true c2
        clear c2
        by_cases c3 : 0 ≤ x8_1
        · rw [if_pos c3] at H
          have c3b0 : decide (0 ≤ x8_1) = true := decide_eq_true c3
          clear c3
          by_cases c4 : x8_1 < (l0.length : Int)
          · rw [if_pos c4] at H
            have c4b0 : decide (x8_1 < (l0.length : Int)) = true := decide_eq_true c4
            clear c4
            replace H := Option.bind_eq_some_iff.mp H
            obtain ⟨t166, A50, H⟩ := H
            replace H : (if t166 = true then (some x8_1) else (slices_IndexFunc_Delivery.l0 k1 l0 (l0.length : Int) (wrap64 (x8_1 + 1)))) = some r := H
            have A5 := Aside0.mk A50
            clear A50
            by_cases c6 : t166 = true
            · subst c6
              have H1 : (some x8_1) = some r := by rw [if_pos rfl] at H; exact H
              clear H
              have H := H1
              clear H1
              obtain rfl := Option.some.inj H
              have p165 : 0 ≤ (x8_1 : Int) := of_decide_eq_true zax
              have q165 : x8_1 < (l0.length : Int) := of_decide_eq_true zax
              obtain ⟨ad165, e165, hx165_0, hx165_1, hx165_2, hx165_3⟩ := at_T94 HR0.out x8_1 p165 q165
              cases e165
              replace hx165_0 := (HB.out.cell (World.block_lt_of_cell? w _ hx165_0)).trans hx165_0
              replace hx165_1 := (HB.out.cell (World.block_lt_of_cell? w _ hx165_1)).trans hx165_1
              replace hx165_2 := (HB.out.cell (World.block_lt_of_cell? w _ hx165_2)).trans hx165_2
              replace hx165_3 := (HB.out.cell (World.block_lt_of_cell? w _ hx165_3)).trans hx165_3
              replace p165 := eq_true p165
              replace q165 := eq_true q165
              go_wp2_with (first | ((with_reducible refine gate_calleeT (t := 11) rfl ?_); refine goesT_ (t := 11) (some 16) rfl rfl Try.func69 (by kernel_rfl) rfl #[.agg #[.int .i64 ((rd_T94 l0 x8_1).f0), .int .i64 ((rd_T94 l0 x8_1).f1), .int .i64 ((rd_T94 l0 x8_1).f2), .int .i64 ((rd_T94 l0 x8_1).f3)]] ⟨rfl, rfl⟩ zlx ?_; (with_reducible refine (impl_PruneQueue_1.calls ((rd_T94 l0 x8_1).f0) ((rd_T94 l0 x8_1).f1) ((rd_T94 l0 x8_1).f2) ((rd_T94 l0 x8_1).f3) true _ A5.out).mono ?_); rintro e w7 ⟨rfl, hb⟩; refine ⟨_, rfl, ?_⟩; have n0_ := Aside0.mk (below_step (zBx HB.out) hb); clear HB; have HB := n0_; clear n0_; (try clear hb); (try clear hb2); (try clear hk); (try clear hi)))
              go_ret
              exact ⟨by first | rfl | (simp [errW_none, errW_some] <;> rfl) | (simp [*, errW_none, errW_some] <;> rfl), by exact zBx HB.out⟩
            · replace c6 := Bool.eq_false_iff.mpr c6
              subst c6
              have H1 : (slices_IndexFunc_Delivery.l0 k1 l0 (l0.length : Int) (wrap64 (x8_1 + 1))) = some r := by rw [if_neg (show ¬ (false = true) by decide)] at H; exact H
              clear H
              have H := H1
              clear H1
              have H' := Aside0.mk H
              clear H
              have p165 : 0 ≤ (x8_1 : Int) := of_decide_eq_true zax
              have q165 : x8_1 < (l0.length : Int) := of_decide_eq_true zax
              obtain ⟨ad165, e165, hx165_0, hx165_1, hx165_2, hx165_3⟩ := at_T94 HR0.out x8_1 p165 q165
              cases e165
              replace hx165_0 := (HB.out.cell (World.block_lt_of_cell? w _ hx165_0)).trans hx165_0
              replace hx165_1 := (HB.out.cell (World.block_lt_of_cell? w _ hx165_1)).trans hx165_1
              replace hx165_2 := (HB.out.cell (World.block_lt_of_cell? w _ hx165_2)).trans hx165_2
              replace hx165_3 := (HB.out.cell (World.block_lt_of_cell? w _ hx165_3)).trans hx165_3
              replace p165 := eq_true p165
              replace q165 := eq_true q165
              go_wp2_with (first | ((with_reducible refine gate_calleeT (t := 11) rfl ?_); refine goesT_ (t := 11) (some 16) rfl rfl Try.func69 (by kernel_rfl) rfl #[.agg #[.int .i64 ((rd_T94 l0 x8_1).f0), .int .i64 ((rd_T94 l0 x8_1).f1), .int .i64 ((rd_T94 l0 x8_1).f2), .int .i64 ((rd_T94 l0 x8_1).f3)]] ⟨rfl, rfl⟩ zlx ?_; (with_reducible refine (impl_PruneQueue_1.calls ((rd_T94 l0 x8_1).f0) ((rd_T94 l0 x8_1).f1) ((rd_T94 l0 x8_1).f2) ((rd_T94 l0 x8_1).f3) false _ A5.out).mono ?_); rintro e w8 ⟨rfl, hb⟩; refine ⟨_, rfl, ?_⟩; have n0_ := Aside0.mk (below_step (zBx HB.out) hb); clear HB; have HB := n0_; clear n0_; (try clear hb); (try clear hb2); (try clear hk); (try clear hi)))
              go_roundg k1
              case measure => have := HK1.out; omega
              case rel => exact ⟨(wrap64 (x8_1 + 1)), zrx, H', ⟨by have := HK1.out; omega⟩, ⟨by exact zBx HB.out⟩⟩
          · rw [if_neg c4] at H
            exact absurd H (by simp)
        · rw [if_neg c3] at H
          exact absurd H (by simp)
      · rw [if_neg c2] at H
        have c2b0 : decide (x8_1 < (l0.length : Int)) = false := decide_eq_false c2
        clear c2
        obtain rfl := Option.some.inj H
        go_wp2
        go_ret
        exact ⟨by first | rfl | (simp [errW_none, errW_some] <;> rfl) | (simp [*, errW_none, errW_some] <;> rfl), by exact zBx HB.out⟩

/-! ### 'clear(s[j:])' over a row of the call's own -/
section
variable {α : Type} {d : Kd α} {e base n cap g : Nat} {ok okp : Nat → Prop}
def zl (z : α) : List α → Nat → Nat → List α
  | xs, _, 0 => xs
  | xs, j, m + 1 => zl z (xs.set j z) (j + 1) m
theorem zl_get (z : α) (i : Nat) : ∀ (m j : Nat) (xs : List α), i < j → (zl z xs j m)[i]? = xs[i]?
  | 0, _, _, _ => rfl
  | m + 1, j, xs, h => by
    show (zl z (xs.set j z) (j + 1) m)[i]? = _
    rw [zl_get z i m (j + 1) _ (by omega), List.getElem?_set_ne (by omega)]
theorem zl_take (z : α) (m j : Nat) (xs : List α) : (zl z xs j m).take j = xs.take j := by
  apply List.ext_getElem?
  intro i
  rw [List.getElem?_take, List.getElem?_take]
  split
  · rename_i h; exact zl_get z i m j xs h
  · rfl
theorem zl_len (z : α) : ∀ (m j : Nat) (xs : List α), (zl z xs j m).length = xs.length
  | 0, _, _ => rfl
  | m + 1, j, xs => by
    show (zl z (xs.set j z) (j + 1) m).length = _
    rw [zl_len z m (j + 1), List.length_set]
theorem setCells_app (b : Nat) : ∀ (a c : List Value) (o : Nat) (W : World), W.setCells b o (a ++ c) = (W.setCells b o a).setCells b (o + a.length) c
  | [], _, _, _ => rfl
  | v :: a, c, o, W => by
    show ((W.setCell ⟨b, o, none⟩ v).setCells b (o + 1) (a ++ c)) = _
    rw [setCells_app b a c (o + 1)]
    show _ = ((W.setCell ⟨b, o, none⟩ v).setCells b (o + 1) a).setCells b (o + (a.length + 1)) c
    rw [show o + 1 + a.length = o + (a.length + 1) from by omega]
theorem grown_then {a w w' : World} {row : Option Nat} (h : a.grownBy w row) (k : w.grownBy w' row) : a.grownBy w' row :=
  ⟨k.os.trans h.os, k.tape.trans h.tape, k.output.trans h.output, Nat.le_trans h.size k.size, fun i hi hne => (k.block i (Nat.lt_of_lt_of_le hi h.size) hne).trans (h.block i hi hne)⟩
theorem clear_R {z : α} {zv : Value} (hz : ∀ W, d.M W base okp z (List.replicate d.sz zv)) (hokp : ∀ k, okp k → ok k ∧ k ≠ g) : ∀ (m j : Nat) (W : World) (xs : List α), d.R e W base ok (.slice (some ⟨g, 0, none⟩) n cap) xs → j + m = n →
    d.R e (W.setCells g (j * d.sz) (List.replicate (m * d.sz) zv)) base ok (.slice (some ⟨g, 0, none⟩) n cap) (zl z xs j m) ∧ W.grownBy (W.setCells g (j * d.sz) (List.replicate (m * d.sz) zv)) (some g)
  | 0, j, W, xs, h, _ => by
    rw [Nat.zero_mul]
    exact ⟨h, World.grownBy.refl _ _⟩
  | m + 1, j, W, xs, h, hn => by
    obtain ⟨c, hcl, _, hcc, _⟩ := Kd.R_elem h z (j : Int) (by omega) (by omega)
    rw [Int.toNat_natCast] at hcc
    have hs := Kd.R_seg h (j : Int) (by omega) (by omega) (seg := List.replicate d.sz zv) (j := 0) hcl (by rw [Int.toNat_natCast]; exact hcc) (by simp) (x' := z) (okp := okp) (by
      rw [List.take_zero, List.nil_append, List.length_replicate, List.drop_of_length_le (by omega), List.append_nil]; exact hz W) hokp
    rw [Int.toNat_natCast, Nat.add_zero] at hs
    obtain ⟨h1, h2⟩ := hs
    obtain ⟨h3, h4⟩ := clear_R hz hokp m (j + 1) _ _ h1 (by omega)
    have e1 : List.replicate ((m + 1) * d.sz) zv = List.replicate d.sz zv ++ List.replicate (m * d.sz) zv := by rw [List.replicate_append_replicate, Nat.succ_mul, Nat.add_comm]
    rw [e1, setCells_app, List.length_replicate, ← Nat.succ_mul]
    exact ⟨h3, grown_then h2 h4⟩
theorem clear_run {P : Program} {t ty : TypeId} {zz zv : Value} {z : α} (ht : P.underlying t = some (.slice e)) (hv : ∀ w, (zeroValue e).run P w = .ok zz w) (hsz : 0 < d.sz) (hzc : zz.cells = (List.replicate d.sz zv).toArray) (h1 : zv.oneCell' = true)
    (hz : ∀ W, d.M W base (fun _ => False) z (List.replicate d.sz zv)) {W : World} {A : Option Addr} {c : Nat} {xs : List α} (h : d.R e W base ok (.slice A n c) xs) (j : Nat) (hj : j ≤ n) :
    ∃ W2, (Builtin.clear_ #[t] ty #[.slice (if c = j then A else A.map (·.add (j * d.sz))) (n - j) (c - j)]).run P W = .ok (.tuple #[]) W2 ∧ d.R e W2 base ok (.slice A j c) (xs.take j) ∧ W.grownBy W2 (Value.slice A n c).ownBlock := by
  obtain ⟨hn, hnc, _⟩ := Kd.R_reads' h
  by_cases hc : n - j = 0
  · refine ⟨W, ?_, Kd.R_take h (by omega), World.grownBy.refl _ _⟩
    rw [hc]
    cases (if c = j then A else A.map (·.add (j * d.sz))) <;> simp [Builtin.clear_, run_underlying ht]
  · obtain ⟨g, cap, he, _, _, _⟩ := Kd.R_form h (by omega)
    injection he with e1 e2 e3
    subst e1
    subst e3
    have hcj : ¬ c = j := by omega
    rw [if_neg hcj]
    simp only [Option.map_some]
    rw [add_at, Nat.zero_add]
    obtain ⟨r1, r2⟩ := clear_R hz (fun _ hk => hk.elim) (n - j) j W xs h (by omega)
    have cell : ∀ i, i < (n - j) * d.sz → (W.cell? ⟨g, j * d.sz + i, none⟩).isSome = true ∧ W.frozen? ⟨g, j * d.sz + i, none⟩ = false := by
      intro i hi
      have hq : i / d.sz < n - j := Nat.div_lt_of_lt_mul (by rw [Nat.mul_comm]; exact hi)
      have hr : i % d.sz < d.sz := Nat.mod_lt _ hsz
      have hdm := Nat.div_add_mod i d.sz
      obtain ⟨q, hqd⟩ : ∃ q, q = i / d.sz := ⟨_, rfl⟩
      rw [← hqd] at hq hdm
      obtain ⟨cs, hcl, _, hcc, hff⟩ := Kd.R_elem h z ((j + q : Nat) : Int) (by omega) (by omega)
      rw [Int.toNat_natCast] at hcc hff
      have e0 : (j + q) * d.sz + i % d.sz = j * d.sz + i := by rw [Nat.add_mul, Nat.mul_comm q d.sz]; omega
      have a := hcc (i % d.sz) _ (List.getElem?_eq_getElem (by omega))
      have b := hff (i % d.sz)
      rw [e0] at a b
      exact ⟨by rw [a]; rfl, b⟩
    have hzl : (Builtin.zeroCells zz.cells (n - j)).toList = List.replicate ((n - j) * d.sz) zv := by
      rw [hzc]
      apply List.ext_getElem
      · simp [Builtin.zeroCells]
      · intro i h2 h3
        have hr : i % d.sz < d.sz := Nat.mod_lt _ hsz
        simp [Builtin.zeroCells, hr]
    have hst := run_storeCells_cells (P := P) g (j * d.sz) (List.replicate ((n - j) * d.sz) zv) 0 W (by intro i hi; rw [Nat.add_zero]; exact (cell i (by simpa using hi)).1) (by intro i hi; rw [Nat.add_zero]; exact (cell i (by simpa using hi)).2) (by intro v hv'; rw [List.eq_of_mem_replicate hv']; exact h1)
    rw [Nat.add_zero] at hst
    refine ⟨_, ?_, ?_, r2⟩
    · obtain ⟨m, hm⟩ : ∃ m, n - j = m + 1 := ⟨n - j - 1, by omega⟩
      rw [hm] at hzl hst ⊢
      simp [Builtin.clear_, run_underlying ht, hv, hzl, hst]
    · have := Kd.R_take r1 (m := j) (by rw [zl_len]; omega)
      rwa [zl_take] at this
end
/-! ### slices_DeleteFunc_Delivery: function 68 -/
def slices_DeleteFunc_Delivery.l0 : Nat → List (S94) → Int → Int → Option ((List (S94)))
  | 0, _, _, _ => none
  | k + 1, x0, x5, x6 => if x6 < (x0.length : Int) then (if 0 ≤ x6 then ((impl_PruneQueue_1.f ((rd_T94 x0 x6).f0) ((rd_T94 x0 x6).f1) ((rd_T94 x0 x6).f2) ((rd_T94 x0 x6).f3)).bind fun t170 => (if t170 = true then (slices_DeleteFunc_Delivery.l0 k x0 x5 (wrap64 (x6 + 1))) else (if 0 ≤ x5 then (if x5 < (x0.length : Int) then (slices_DeleteFunc_Delivery.l0 k (x0.set (x5 : Int).toNat (⟨(rd_T94 x0 x6).f0, (rd_T94 x0 x6).f1, (rd_T94 x0 x6).f2, (rd_T94 x0 x6).f3⟩ : S94)) (wrap64 (x5 + 1)) (wrap64 (x6 + 1))) else (none)) else (none)))) else (none)) else (if 0 ≤ x5 then (if x5 ≤ (x0.length : Int) then (some (x0.take (x5 : Int).toNat)) else (none)) else (none))
def slices_DeleteFunc_Delivery.f (k : Nat) (l0 : List (S94)) : Option ((List (S94))) := (slices_IndexFunc_Delivery.f k l0).bind fun t167 => (if t167 = (-1) then (some l0) else (slices_DeleteFunc_Delivery.l0 k l0 t167 (wrap64 (t167 + 1))))
theorem slices_DeleteFunc_Delivery.mono_l : ∀ k, (∀ y0 y1 y2, LeO (slices_DeleteFunc_Delivery.l0 k y0 y1 y2) (slices_DeleteFunc_Delivery.l0 (k + 1) y0 y1 y2))
  | 0 => fun _ _ _ r h => by simp [slices_DeleteFunc_Delivery.l0] at h
  | k + 1 => by
    have ih0 := slices_DeleteFunc_Delivery.mono_l k
    · intro y0 y1 y2
      unfold slices_DeleteFunc_Delivery.l0
      repeat' first
      | (with_reducible exact ih0 _ _ _)
      | (with_reducible exact slices_IndexFunc_Delivery.mono _ _)
      | (with_reducible exact LeO.refl _)
      | (with_reducible exact LeO.none _)
      | (with_reducible refine LeO.ite ?_ ?_)
      | (with_reducible refine LeO.bind ?_ (fun _ => ?_))
      | exact ih0 _ _ _
      | exact slices_IndexFunc_Delivery.mono _ _
      | exact LeO.none _
      | refine LeO.ite ?_ ?_
      | refine LeO.bind ?_ (fun _ => ?_)
theorem slices_DeleteFunc_Delivery.mono : ∀ a0 k, LeO (slices_DeleteFunc_Delivery.f k a0) (slices_DeleteFunc_Delivery.f (k + 1) a0) := by
  intro a0 k
  have ih0 := slices_DeleteFunc_Delivery.mono_l k
  unfold slices_DeleteFunc_Delivery.f
  repeat' first
      | (with_reducible exact ih0 _ _ _)
      | (with_reducible exact slices_IndexFunc_Delivery.mono _ _)
      | (with_reducible exact LeO.refl _)
      | (with_reducible exact LeO.none _)
      | (with_reducible refine LeO.ite ?_ ?_)
      | (with_reducible refine LeO.bind ?_ (fun _ => ?_))
      | exact ih0 _ _ _
      | exact slices_IndexFunc_Delivery.mono _ _
      | exact LeO.none _
      | refine LeO.ite ?_ ?_
      | refine LeO.bind ?_ (fun _ => ?_)
set_option maxHeartbeats 8000000 in
set_option maxRecDepth 100000 in
theorem slices_DeleteFunc_Delivery.calls (k : Nat) (P0_ : Nat → Prop) (u9000_ : Value) (l0 : List (S94)) (r : List (S94)) (w0 w : World) (hB : Below w0.heap.size w0 w) (ho0 : Kd.R k94 94 w w0.heap.size P0_ u9000_ l0) (h : slices_DeleteFunc_Delivery.f k l0 = some r) :
    Calls Try.prog 68 #[u9000_, .func (.func 69) #[] #[]] w fun e w' => ∃ v0_ : Value, e = .returned (v0_) ∧ Kd.R k94 94 w' w0.heap.size (fun k_ => (P0_ k_ ∨ w.heap.size ≤ k_)) v0_ r ∧ Below w0.heap.size w0 w' ∧ Kept w w' (fun k_ => P0_ k_) := by
  have hu94 := Try.underlying94
  have HO0 := Aside0.mk (show Kd.R k94 94 w w0.heap.size (fun k_ => (P0_ k_ ∨ w.heap.size ≤ k_)) u9000_ l0 from Kd.R_mono ho0 (fun k_ hk => (.inl hk)))
  have HK := Aside0.mk (Kept.refl w (fun k_ => P0_ k_))
  have HW0 := Aside0.mk hB.size
  have HB := Aside0.mk hB
  clear hB
  have H : ((slices_IndexFunc_Delivery.f k l0).bind fun t167 => (if t167 = (-1) then (some l0) else (slices_DeleteFunc_Delivery.l0 k l0 t167 (wrap64 (t167 + 1))))) = some r := h
  clear h
  replace H := Option.bind_eq_some_iff.mp H
  obtain ⟨t167, A20, H⟩ := H
  replace H : (if t167 = (-1) then (some l0) else (slices_DeleteFunc_Delivery.l0 k l0 t167 (wrap64 (t167 + 1)))) = some r := H
  have A2 := Aside0.mk A20
  clear A20
  by_cases c3 : t167 = (-1)
  · rw [if_pos c3] at H
    have c3b0 : (t167 == (-1)) = true := beq_iff_eq.mpr c3
    have c3b1 : (t167 != (-1)) = false := bne_eq_false_iff_eq.mpr c3
    clear c3
    obtain rfl := Option.some.inj H
    obtain ⟨Ao4, co4, eo4⟩ := Kd.R_slice HO0.out
    subst eo4
    go_enter Try.func68, Try.ntmps68
    go_wp2_with (first | ((with_reducible refine gate_callee (f := 85) rfl ?_); refine goesL_ (some 10) rfl rfl Try.func85 (by kernel_rfl) rfl #[.slice Ao4 l0.length co4, .func (.func 69) #[] #[]] rfl zlx ?_; (with_reducible refine (slices_IndexFunc_Delivery.calls k _ _ l0 t167 _ ?side1 ?side2 A2.out).mono ?_); (case side1 => repeat (first | exact (Kd.R_reads' HO0.out).2.2 | (with_reducible refine Kd.C_alloc ?_ _) | (with_reducible refine Kd.C_drewN ?_ _) | (with_reducible refine Kd.C_drew ?_))); (case side2 => exact (Kd.R_reads' HO0.out).2.1); rintro e w5 ⟨rfl, hb⟩; refine ⟨_, rfl, ?_⟩; have n0_ := Aside0.mk (Kd.R_below (zRx HO0.out) hb); have n1_ := Aside0.mk (Kept.below (S := (fun k_ => P0_ k_)) (by repeat (first | (with_reducible first | exact HK.out | apply Kept.alloc | apply Kept.drewN | apply Kept.drew) | exact HK.out)) hb); have n2_ := Aside0.mk (below_step (zBx HB.out) hb); clear HO0; clear HK; clear HB; have HO0 := n0_; have HK := n1_; have HB := n2_; clear n0_ n1_ n2_; (try clear hb); (try clear hb2); (try clear hk); (try clear hi)))
    go_ret
    exact ⟨_, by first | rfl | (simp [errW_none, errW_some] <;> rfl) | (simp [*, errW_none, errW_some] <;> rfl), by (with_reducible repeat (first | apply Kd.R_alloc | apply Kd.R_drewN | apply Kd.R_drew)); exact HO0.out, by exact zBx HB.out, by repeat (first | (with_reducible first | exact HK.out | apply Kept.alloc | apply Kept.drewN | apply Kept.drew) | exact HK.out)⟩
  · rw [if_neg c3] at H
    have c3b0 : (t167 == (-1)) = false := beq_eq_false_iff_ne.mpr c3
    have c3b1 : (t167 != (-1)) = true := bne_iff_ne.mpr c3
    have H' := Aside0.mk H
    clear H
    obtain ⟨Ao6, co6, eo6⟩ := Kd.R_slice HO0.out
    subst eo6
    go_enter Try.func68, Try.ntmps68
    go_wp2_with (first | ((with_reducible refine gate_callee (f := 85) rfl ?_); refine goesL_ (some 10) rfl rfl Try.func85 (by kernel_rfl) rfl #[.slice Ao6 l0.length co6, .func (.func 69) #[] #[]] rfl zlx ?_; (with_reducible refine (slices_IndexFunc_Delivery.calls k _ _ l0 t167 _ ?side1 ?side2 A2.out).mono ?_); (case side1 => repeat (first | exact (Kd.R_reads' HO0.out).2.2 | (with_reducible refine Kd.C_alloc ?_ _) | (with_reducible refine Kd.C_drewN ?_ _) | (with_reducible refine Kd.C_drew ?_))); (case side2 => exact (Kd.R_reads' HO0.out).2.1); rintro e w7 ⟨rfl, hb⟩; refine ⟨_, rfl, ?_⟩; have n0_ := Aside0.mk (Kd.R_below (zRx HO0.out) hb); have n1_ := Aside0.mk (Kept.below (S := (fun k_ => P0_ k_)) (by repeat (first | (with_reducible first | exact HK.out | apply Kept.alloc | apply Kept.drewN | apply Kept.drew) | exact HK.out)) hb); have n2_ := Aside0.mk (below_step (zBx HB.out) hb); clear HO0; clear HK; clear HB; have HO0 := n0_; have HK := n1_; have HB := n2_; clear n0_ n1_ n2_; (try clear hb); (try clear hb2); (try clear hk); (try clear hi)))
    go_loopg [5, 6] k (fun kq v5 v6 w' => ∃ (x0_1 : List (S94)) (x5_1 : Int) (x6_1 : Int), v5 = .int .i64 x5_1 ∧ v6 = .int .i64 x6_1 ∧ Aside0 (slices_DeleteFunc_Delivery.l0 kq x0_1 x5_1 x6_1 = some r) ∧ Aside0 (kq ≤ k) ∧ Aside0 (Kd.R k94 94 w' w0.heap.size (fun k_ => (P0_ k_ ∨ w.heap.size ≤ k_)) (.slice Ao6 l0.length co6) x0_1) ∧ Aside0 (Kept w w' (fun k_ => P0_ k_)) ∧ Aside0 (Below w0.heap.size w0 w'))
    case atStart => exact ⟨(l0), (t167), (wrap64 (t167 + 1)), zrx, zrx, H', ⟨Nat.le_refl _⟩, ⟨by (with_reducible repeat (first | apply Kd.R_alloc | apply Kd.R_drewN | apply Kd.R_drew)); exact HO0.out⟩, ⟨by repeat (first | (with_reducible first | exact HK.out | apply Kept.alloc | apply Kept.drewN | apply Kept.drew) | exact HK.out)⟩, ⟨by exact zBx HB.out⟩⟩
    case round =>
      clear H'
      try clear p2
      try clear c3
      try clear c3b0
      try clear c3b1
      try clear c6
      try clear p6
      obtain ⟨x0_1, x5_1, x6_1, rfl, rfl, HA, HK1, HO_0, HK, HB⟩ := hrel
      have hl0_1 := (Kd.R_reads' HO_0.out).1
      rw [hl0_1] at HO_0
      (try simp only [hl0_1])
      cases gk with
      | zero => exact absurd HA.out (by simp [slices_DeleteFunc_Delivery.l0])
      | succ k1 =>
        have H := HA.out
        clear HA
        simp only [slices_DeleteFunc_Delivery.l0] at H
        by_cases c8 : x6_1 < (x0_1.length : Int)
        · rw [if_pos c8] at H
          have c8b0 : decide (x6_1 < (x0_1.length : Int)) = true := decide_eq_true c8
          clear c8
          by_cases c9 : 0 ≤ x6_1
          · rw [if_pos c9] at H
            have c9b0 : decide (0 ≤ x6_1) = true := decide_eq_true c9
            clear c9
            replace H := Option.bind_eq_some_iff.mp H
            obtain ⟨t170, A100, H⟩ := H
            replace H : (if t170 = true then (slices_DeleteFunc_Delivery.l0 k1 x0_1 x5_1 (wrap64 (x6_1 + 1))) else (if 0 ≤ x5_1 then (if x5_1 < (x0_1.length : Int) then (slices_DeleteFunc_Delivery.l0 k1 (x0_1.set (x5_1 : Int).toNat (⟨(rd_T94 x0_1 x6_1).f0, (rd_T94 x0_1 x6_1).f1, (rd_T94 x0_1 x6_1).f2, (rd_T94 x0_1 x6_1).f3⟩ : S94)) (wrap64 (x5_1 + 1)) (wrap64 (x6_1 + 1))) else (none)) else (none))) = some r := H
            have A10 := Aside0.mk A100
            clear A100
            by_cases c11 : t170 = true
            · subst c11
              have H1 : (slices_DeleteFunc_Delivery.l0 k1 x0_1 x5_1 (wrap64 (x6_1 + 1))) = some r := by rw [if_pos rfl] at H; exact H
              clear H
              have H := H1
              clear H1
              have H' := Aside0.mk H
              clear H
              have p168 : 0 ≤ (x6_1 : Int) := of_decide_eq_true zax
              have q168 : x6_1 < (x0_1.length : Int) := of_decide_eq_true zax
              obtain ⟨ad168, e168, hx168_0, hx168_1, hx168_2, hx168_3⟩ := at_T94 (Kd.R_reads' HO_0.out).2.2 x6_1 p168 q168
              cases e168
              replace p168 := eq_true p168
              replace q168 := eq_true q168
              go_wp2_with (first | ((with_reducible refine gate_dst (N := 7) rfl ?_); refine box_event ?hg (N := 7) ?hd (cs := #[.int .i64 0, .int .i64 0, .int .i64 0, .int .i64 0]) (t := 94) ?hr ?_; (case hd => rfl); (case hg => rfl); (case hr => exact zsx); intro gb169 hg w12 hbox hb; have n0_ := Aside0.mk (Kd.R_below (Kd.R_elderB (zRx HO_0.out) gb169 (Nat.le_of_eq hg.symm)) hb); have n1_ := Aside0.mk (Kept.below (S := (fun k_ => P0_ k_)) (by repeat (first | (with_reducible first | exact HK.out | apply Kept.alloc | apply Kept.drewN | apply Kept.drew) | exact HK.out)) hb); have n2_ := Aside0.mk (below_step (zBx HB.out) hb); have n3_ := Aside0.mk (hbox); have n4_ := Aside0.mk ((by rw [hg]; exact (by first | exact HK.out.1 | exact (show Kept w _ (fun k_ => P0_ k_) from by repeat (first | (with_reducible first | exact HK.out | apply Kept.alloc | apply Kept.drewN | apply Kept.drew) | exact HK.out)).1) : w.heap.size ≤ gb169)); have n5_ := Aside0.mk ((by rw [hg]; exact (below_size (zBx HB.out)) : w0.heap.size ≤ gb169)); clear HO_0; clear HK; clear HB; have HO_0 := n0_; have HK := n1_; have HB := n2_; have BK169 := n3_; have GW169 := n4_; have GE169 := n5_; clear n0_ n1_ n2_ n3_ n4_ n5_; clear hb hbox hg; have hcz13_0 : w12.cell? ⟨gb169, 0, none⟩ = some (.int .i64 0) := (blk_cell BK169.out 0).trans rfl; have hcz13_1 : w12.cell? ⟨gb169, 1, none⟩ = some (.int .i64 0) := (blk_cell BK169.out 1).trans rfl; have hcz13_2 : w12.cell? ⟨gb169, 2, none⟩ = some (.int .i64 0) := (blk_cell BK169.out 2).trans rfl; have hcz13_3 : w12.cell? ⟨gb169, 3, none⟩ = some (.int .i64 0) := (blk_cell BK169.out 3).trans rfl; have hfz13_0 := blk_frozen BK169.out 0; have hfz13_1 := blk_frozen BK169.out 1; have hfz13_2 := blk_frozen BK169.out 2; have hfz13_3 := blk_frozen BK169.out 3) | ((with_reducible refine gate_calleeT (t := 26) rfl ?_); refine goesT_ (t := 26) (some 28) rfl rfl Try.func69 (by kernel_rfl) rfl #[.agg #[.int .i64 ((rd_T94 x0_1 x6_1).f0), .int .i64 ((rd_T94 x0_1 x6_1).f1), .int .i64 ((rd_T94 x0_1 x6_1).f2), .int .i64 ((rd_T94 x0_1 x6_1).f3)]] ⟨rfl, rfl⟩ zlx ?_; (with_reducible refine (impl_PruneQueue_1.calls ((rd_T94 x0_1 x6_1).f0) ((rd_T94 x0_1 x6_1).f1) ((rd_T94 x0_1 x6_1).f2) ((rd_T94 x0_1 x6_1).f3) true _ A10.out).mono ?_); rintro e w14 ⟨rfl, hb⟩; refine ⟨_, rfl, ?_⟩; have n0_ := Aside0.mk (Kd.R_below (by (with_reducible repeat (first | apply Kd.R_alloc | apply Kd.R_drewN | apply Kd.R_drew)); exact (Kd.R_mono (Kd.R_far (p := ⟨gb169, 3, none⟩) (Kd.R_far (p := ⟨gb169, 2, none⟩) (Kd.R_far (p := ⟨gb169, 1, none⟩) (Kd.R_far (p := ⟨gb169, 0, none⟩) (Kd.R_mono HO_0.out (fun k_ hk => (⟨hk, hk.2⟩ : _ ∧ k_ ≠ gb169))) (fun _ hk => hk.2) (.int .i64 ((rd_T94 x0_1 x6_1).f0))) (fun _ hk => hk.2) (.int .i64 ((rd_T94 x0_1 x6_1).f1))) (fun _ hk => hk.2) (.int .i64 ((rd_T94 x0_1 x6_1).f2))) (fun _ hk => hk.2) (.int .i64 ((rd_T94 x0_1 x6_1).f3))) (fun _ h_ => h_.1))) hb); have n1_ := Aside0.mk (blk_below (g := gb169) (o := .cells #[.int .i64 ((rd_T94 x0_1 x6_1).f0), .int .i64 ((rd_T94 x0_1 x6_1).f1), .int .i64 ((rd_T94 x0_1 x6_1).f2), .int .i64 ((rd_T94 x0_1 x6_1).f3)] 94 (0, 0)) (by (with_reducible repeat (first | refine blk_drewN ?_ _ | refine blk_drew ?_ | refine blk_alloc ?_ _)); refine blk_put (cs := #[.int .i64 ((rd_T94 x0_1 x6_1).f0), .int .i64 ((rd_T94 x0_1 x6_1).f1), .int .i64 ((rd_T94 x0_1 x6_1).f2), .int .i64 0]) ?_ 3 _ rfl; (with_reducible repeat (first | refine blk_drewN ?_ _ | refine blk_drew ?_ | refine blk_alloc ?_ _)); refine blk_put (cs := #[.int .i64 ((rd_T94 x0_1 x6_1).f0), .int .i64 ((rd_T94 x0_1 x6_1).f1), .int .i64 0, .int .i64 0]) ?_ 2 _ rfl; (with_reducible repeat (first | refine blk_drewN ?_ _ | refine blk_drew ?_ | refine blk_alloc ?_ _)); refine blk_put (cs := #[.int .i64 ((rd_T94 x0_1 x6_1).f0), .int .i64 0, .int .i64 0, .int .i64 0]) ?_ 1 _ rfl; (with_reducible repeat (first | refine blk_drewN ?_ _ | refine blk_drew ?_ | refine blk_alloc ?_ _)); refine blk_put (cs := #[.int .i64 0, .int .i64 0, .int .i64 0, .int .i64 0]) ?_ 0 _ rfl; (with_reducible repeat (first | refine blk_drewN ?_ _ | refine blk_drew ?_ | refine blk_alloc ?_ _)); exact BK169.out) hb); have n2_ := Aside0.mk (Kept.below (S := (fun k_ => P0_ k_)) (by repeat (first | (with_reducible first | exact HK.out | apply Kept.alloc | apply Kept.drewN | apply Kept.drew | refine Kept.setCell ?_ (.inr GW169.out) _) | exact HK.out)) hb); have n3_ := Aside0.mk (below_step (zBy HB.out GE169.out) hb); clear HO_0; clear BK169; clear HK; clear HB; have HO_0 := n0_; have BK169 := n1_; have HK := n2_; have HB := n3_; clear n0_ n1_ n2_ n3_; (try clear hb); (try clear hb2); (try clear hk); (try clear hi)))
              (try simp only [← hl0_1])
              go_roundg k1
              case measure => have := HK1.out; omega
              case rel => exact ⟨(x0_1), (x5_1), (wrap64 (x6_1 + 1)), zrx, zrx, H', ⟨by have := HK1.out; omega⟩, ⟨by (try simp only [hl0_1]); (with_reducible repeat (first | apply Kd.R_alloc | apply Kd.R_drewN | apply Kd.R_drew)); exact Kd.R_mono HO_0.out (fun _ hk => hk.1)⟩, ⟨by repeat (first | (with_reducible first | exact HK.out | apply Kept.alloc | apply Kept.drewN | apply Kept.drew | refine Kept.setCell ?_ (.inr GW169.out) _) | exact HK.out)⟩, ⟨by exact zBy HB.out GE169.out⟩⟩
            · replace c11 := Bool.eq_false_iff.mpr c11
              subst c11
              have H1 : (if 0 ≤ x5_1 then (if x5_1 < (x0_1.length : Int) then (slices_DeleteFunc_Delivery.l0 k1 (x0_1.set (x5_1 : Int).toNat (⟨(rd_T94 x0_1 x6_1).f0, (rd_T94 x0_1 x6_1).f1, (rd_T94 x0_1 x6_1).f2, (rd_T94 x0_1 x6_1).f3⟩ : S94)) (wrap64 (x5_1 + 1)) (wrap64 (x6_1 + 1))) else (none)) else (none)) = some r := by rw [if_neg (show ¬ (false = true) by decide)] at H; exact H
              clear H
              have H := H1
              clear H1
              by_cases c15 : 0 ≤ x5_1
              · rw [if_pos c15] at H
                have c15b0 : decide (0 ≤ x5_1) = true := decide_eq_true c15
                clear c15
                by_cases c16 : x5_1 < (x0_1.length : Int)
                · rw [if_pos c16] at H
                  have c16b0 : decide (x5_1 < (x0_1.length : Int)) = true := decide_eq_true c16
                  clear c16
                  obtain ⟨y171, hy171⟩ : ∃ y_ : List (S94), y_ = (x0_1.set (x5_1 : Int).toNat (⟨(rd_T94 x0_1 x6_1).f0, (rd_T94 x0_1 x6_1).f1, (rd_T94 x0_1 x6_1).f2, (rd_T94 x0_1 x6_1).f3⟩ : S94)) := ⟨_, rfl⟩
                  replace H : (slices_DeleteFunc_Delivery.l0 k1 y171 (wrap64 (x5_1 + 1)) (wrap64 (x6_1 + 1))) = some r := by first | (rw [hy171]; with_reducible exact H) | (have H2_ := (Option.bind_some _ _).symm.trans H; rw [hy171]; with_reducible exact H2_) | (have H2_ := (Option.bind_some _ _).symm.trans H; with_reducible exact H2_) | with_reducible exact H | (rw [hy171]; exact H) | exact H
                  have Ny171 := Aside0.mk hy171
                  clear hy171
                  have H' := Aside0.mk H
                  clear H
                  have p168 : 0 ≤ (x6_1 : Int) := of_decide_eq_true zax
                  have q168 : x6_1 < (x0_1.length : Int) := of_decide_eq_true zax
                  obtain ⟨ad168, e168, hx168_0, hx168_1, hx168_2, hx168_3⟩ := at_T94 (Kd.R_reads' HO_0.out).2.2 x6_1 p168 q168
                  cases e168
                  replace p168 := eq_true p168
                  replace q168 := eq_true q168
                  go_wp2_with (first | ((with_reducible refine gate_dst (N := 7) rfl ?_); refine box_event ?hg (N := 7) ?hd (cs := #[.int .i64 0, .int .i64 0, .int .i64 0, .int .i64 0]) (t := 94) ?hr ?_; (case hd => rfl); (case hg => rfl); (case hr => exact zsx); intro gb169 hg w18 hbox hb; have n0_ := Aside0.mk (Kd.R_below (Kd.R_elderB (zRx HO_0.out) gb169 (Nat.le_of_eq hg.symm)) hb); have n1_ := Aside0.mk (Kept.below (S := (fun k_ => P0_ k_)) (by repeat (first | (with_reducible first | exact HK.out | apply Kept.alloc | apply Kept.drewN | apply Kept.drew) | exact HK.out)) hb); have n2_ := Aside0.mk (below_step (zBx HB.out) hb); have n3_ := Aside0.mk (hbox); have n4_ := Aside0.mk ((by rw [hg]; exact (by first | exact HK.out.1 | exact (show Kept w _ (fun k_ => P0_ k_) from by repeat (first | (with_reducible first | exact HK.out | apply Kept.alloc | apply Kept.drewN | apply Kept.drew) | exact HK.out)).1) : w.heap.size ≤ gb169)); have n5_ := Aside0.mk ((by rw [hg]; exact (below_size (zBx HB.out)) : w0.heap.size ≤ gb169)); clear HO_0; clear HK; clear HB; have HO_0 := n0_; have HK := n1_; have HB := n2_; have BK169 := n3_; have GW169 := n4_; have GE169 := n5_; clear n0_ n1_ n2_ n3_ n4_ n5_; clear hb hbox hg; have hcz19_0 : w18.cell? ⟨gb169, 0, none⟩ = some (.int .i64 0) := (blk_cell BK169.out 0).trans rfl; have hcz19_1 : w18.cell? ⟨gb169, 1, none⟩ = some (.int .i64 0) := (blk_cell BK169.out 1).trans rfl; have hcz19_2 : w18.cell? ⟨gb169, 2, none⟩ = some (.int .i64 0) := (blk_cell BK169.out 2).trans rfl; have hcz19_3 : w18.cell? ⟨gb169, 3, none⟩ = some (.int .i64 0) := (blk_cell BK169.out 3).trans rfl; have hfz19_0 := blk_frozen BK169.out 0; have hfz19_1 := blk_frozen BK169.out 1; have hfz19_2 := blk_frozen BK169.out 2; have hfz19_3 := blk_frozen BK169.out 3) | ((with_reducible refine gate_calleeT (t := 26) rfl ?_); refine goesT_ (t := 26) (some 28) rfl rfl Try.func69 (by kernel_rfl) rfl #[.agg #[.int .i64 ((rd_T94 x0_1 x6_1).f0), .int .i64 ((rd_T94 x0_1 x6_1).f1), .int .i64 ((rd_T94 x0_1 x6_1).f2), .int .i64 ((rd_T94 x0_1 x6_1).f3)]] ⟨rfl, rfl⟩ zlx ?_; (with_reducible refine (impl_PruneQueue_1.calls ((rd_T94 x0_1 x6_1).f0) ((rd_T94 x0_1 x6_1).f1) ((rd_T94 x0_1 x6_1).f2) ((rd_T94 x0_1 x6_1).f3) false _ A10.out).mono ?_); rintro e w20 ⟨rfl, hb⟩; refine ⟨_, rfl, ?_⟩; have n0_ := Aside0.mk (Kd.R_below (by (with_reducible repeat (first | apply Kd.R_alloc | apply Kd.R_drewN | apply Kd.R_drew)); exact (Kd.R_mono (Kd.R_far (p := ⟨gb169, 3, none⟩) (Kd.R_far (p := ⟨gb169, 2, none⟩) (Kd.R_far (p := ⟨gb169, 1, none⟩) (Kd.R_far (p := ⟨gb169, 0, none⟩) (Kd.R_mono HO_0.out (fun k_ hk => (⟨hk, hk.2⟩ : _ ∧ k_ ≠ gb169))) (fun _ hk => hk.2) (.int .i64 ((rd_T94 x0_1 x6_1).f0))) (fun _ hk => hk.2) (.int .i64 ((rd_T94 x0_1 x6_1).f1))) (fun _ hk => hk.2) (.int .i64 ((rd_T94 x0_1 x6_1).f2))) (fun _ hk => hk.2) (.int .i64 ((rd_T94 x0_1 x6_1).f3))) (fun _ h_ => h_.1))) hb); have n1_ := Aside0.mk (blk_below (g := gb169) (o := .cells #[.int .i64 ((rd_T94 x0_1 x6_1).f0), .int .i64 ((rd_T94 x0_1 x6_1).f1), .int .i64 ((rd_T94 x0_1 x6_1).f2), .int .i64 ((rd_T94 x0_1 x6_1).f3)] 94 (0, 0)) (by (with_reducible repeat (first | refine blk_drewN ?_ _ | refine blk_drew ?_ | refine blk_alloc ?_ _)); refine blk_put (cs := #[.int .i64 ((rd_T94 x0_1 x6_1).f0), .int .i64 ((rd_T94 x0_1 x6_1).f1), .int .i64 ((rd_T94 x0_1 x6_1).f2), .int .i64 0]) ?_ 3 _ rfl; (with_reducible repeat (first | refine blk_drewN ?_ _ | refine blk_drew ?_ | refine blk_alloc ?_ _)); refine blk_put (cs := #[.int .i64 ((rd_T94 x0_1 x6_1).f0), .int .i64 ((rd_T94 x0_1 x6_1).f1), .int .i64 0, .int .i64 0]) ?_ 2 _ rfl; (with_reducible repeat (first | refine blk_drewN ?_ _ | refine blk_drew ?_ | refine blk_alloc ?_ _)); refine blk_put (cs := #[.int .i64 ((rd_T94 x0_1 x6_1).f0), .int .i64 0, .int .i64 0, .int .i64 0]) ?_ 1 _ rfl; (with_reducible repeat (first | refine blk_drewN ?_ _ | refine blk_drew ?_ | refine blk_alloc ?_ _)); refine blk_put (cs := #[.int .i64 0, .int .i64 0, .int .i64 0, .int .i64 0]) ?_ 0 _ rfl; (with_reducible repeat (first | refine blk_drewN ?_ _ | refine blk_drew ?_ | refine blk_alloc ?_ _)); exact BK169.out) hb); have n2_ := Aside0.mk (Kept.below (S := (fun k_ => P0_ k_)) (by repeat (first | (with_reducible first | exact HK.out | apply Kept.alloc | apply Kept.drewN | apply Kept.drew | refine Kept.setCell ?_ (.inr GW169.out) _) | exact HK.out)) hb); have n3_ := Aside0.mk (below_step (zBy HB.out GE169.out) hb); clear HO_0; clear BK169; clear HK; clear HB; have HO_0 := n0_; have BK169 := n1_; have HK := n2_; have HB := n3_; clear n0_ n1_ n2_ n3_; (try clear hb); (try clear hb2); (try clear hk); (try clear hi); have hcz21_0 : w20.cell? ⟨gb169, 0, none⟩ = some (.int .i64 ((rd_T94 x0_1 x6_1).f0)) := (blk_cell BK169.out 0).trans rfl; have hcz21_1 : w20.cell? ⟨gb169, 1, none⟩ = some (.int .i64 ((rd_T94 x0_1 x6_1).f1)) := (blk_cell BK169.out 1).trans rfl; have hcz21_2 : w20.cell? ⟨gb169, 2, none⟩ = some (.int .i64 ((rd_T94 x0_1 x6_1).f2)) := (blk_cell BK169.out 2).trans rfl; have hcz21_3 : w20.cell? ⟨gb169, 3, none⟩ = some (.int .i64 ((rd_T94 x0_1 x6_1).f3)) := (blk_cell BK169.out 3).trans rfl; have hfz21_0 := blk_frozen BK169.out 0; have hfz21_1 := blk_frozen BK169.out 1; have hfz21_2 := blk_frozen BK169.out 2; have hfz21_3 := blk_frozen BK169.out 3; have p17 : 0 ≤ (x5_1 : Int) := of_decide_eq_true zax; have q17 : (x5_1 : Int) < ((x0_1.length : Int) : Int) := of_decide_eq_true zax; obtain ⟨go17, co17, eo17, gb17, gl17, cl17, HG17⟩ := Kd.R_form HO_0.out (by omega); (first | cases eo17 | (injection eo17 with ea_ en_ ec_; (first | subst ea_ | (injection ea_ with ea_; subst ea_)); subst ec_; clear en_)); have GB17 := Aside0.mk gb17; have GG17 := Aside0.mk HG17; clear gb17 gl17 HG17; have HMgo17 := Aside0.mk (show (P0_ go17 ∨ w.heap.size ≤ go17) from (HO_0.out.1 _ rfl).1); (first | simp only [add_plain] at hx168_0 | skip); (first | simp only [add_plain] at hx168_1 | skip); (first | simp only [add_plain] at hx168_2 | skip); (first | simp only [add_plain] at hx168_3 | skip); obtain ⟨ce17, hcl17, hM17, hcc17, hfr17⟩ := Kd.R_elem HO_0.out z94 (x5_1 : Int) p17 q17; obtain rfl := k94_openM hM17; have hx17_0 : w20.cell? ⟨go17, (x5_1 : Int).toNat * 4, none⟩ = some (.int .i64 ((rd_T94 x0_1 x5_1).f0)) := hcc17 0 _ rfl; have hx17_1 : w20.cell? ⟨go17, (x5_1 : Int).toNat * 4 + 1, none⟩ = some (.int .i64 ((rd_T94 x0_1 x5_1).f1)) := hcc17 1 _ rfl; have hx17_2 : w20.cell? ⟨go17, (x5_1 : Int).toNat * 4 + 2, none⟩ = some (.int .i64 ((rd_T94 x0_1 x5_1).f2)) := hcc17 2 _ rfl; have hx17_3 : w20.cell? ⟨go17, (x5_1 : Int).toNat * 4 + 3, none⟩ = some (.int .i64 ((rd_T94 x0_1 x5_1).f3)) := hcc17 3 _ rfl; have hf17_0 : w20.frozen? ⟨go17, (x5_1 : Int).toNat * 4, none⟩ = false := hfr17 0; have hf17_1 : w20.frozen? ⟨go17, (x5_1 : Int).toNat * 4 + 1, none⟩ = false := hfr17 1; have hf17_2 : w20.frozen? ⟨go17, (x5_1 : Int).toNat * 4 + 2, none⟩ = false := hfr17 2; have hf17_3 : w20.frozen? ⟨go17, (x5_1 : Int).toNat * 4 + 3, none⟩ = false := hfr17 3; clear hcl17 hcc17 hfr17 hM17; replace p17 := eq_true p17; replace q17 := eq_true q17; have HX22 := Aside0.mk (show Kd.R k94 94 w20 w0.heap.size (fun k_ => (P0_ k_ ∨ w.heap.size ≤ k_) ∧ k_ ≠ gb169) (.slice (some ⟨go17, 0, none⟩) x0_1.length co6) x0_1 from (zRx HO_0.out)); obtain ⟨ce22, hcl22, hM22, hcc22, hfr22⟩ := Kd.R_elem HX22.out z94 (x5_1 : Int) (of_decide_eq_true zax) (by have h_ : (x5_1 : Int) < ((x0_1.length : Int) : Int) := of_decide_eq_true zax; first | exact h_ | (have e_ := (Kd.R_reads' HO_0.out).1; omega) | simpa using h_); obtain rfl := k94_openM hM22; have HP22 := Kd.R_seg HX22.out (x5_1 : Int) (of_decide_eq_true zax) (by have h_ : (x5_1 : Int) < ((x0_1.length : Int) : Int) := of_decide_eq_true zax; first | exact h_ | (have e_ := (Kd.R_reads' HO_0.out).1; omega) | simpa using h_) (seg := [.int .i64 ((rd_T94 x0_1 x6_1).f0), .int .i64 ((rd_T94 x0_1 x6_1).f1), .int .i64 ((rd_T94 x0_1 x6_1).f2), .int .i64 ((rd_T94 x0_1 x6_1).f3)]) (j := 0) hcl22 hcc22 (show 4 ≤ 4 from by decide) (x' := (⟨(rd_T94 x0_1 x6_1).f0, (rd_T94 x0_1 x6_1).f1, (rd_T94 x0_1 x6_1).f2, (rd_T94 x0_1 x6_1).f3⟩ : S94)) (k94_mkM _ _ _ (⟨(rd_T94 x0_1 x6_1).f0, (rd_T94 x0_1 x6_1).f1, (rd_T94 x0_1 x6_1).f2, (rd_T94 x0_1 x6_1).f3⟩ : S94) ) (fun _ hk => hk); have hx22_0 := hcc22 0 _ rfl; (try simp only [show (k94).sz = 4 from rfl, Nat.mul_one, Nat.add_zero] at hx22_0); have hf22_0 := hfr22 0; (try simp only [show (k94).sz = 4 from rfl, Nat.mul_one, Nat.add_zero] at hf22_0); have hx22_1 := hcc22 1 _ rfl; (try simp only [show (k94).sz = 4 from rfl, Nat.mul_one, Nat.add_zero] at hx22_1); have hf22_1 := hfr22 1; (try simp only [show (k94).sz = 4 from rfl, Nat.mul_one, Nat.add_zero] at hf22_1); have hx22_2 := hcc22 2 _ rfl; (try simp only [show (k94).sz = 4 from rfl, Nat.mul_one, Nat.add_zero] at hx22_2); have hf22_2 := hfr22 2; (try simp only [show (k94).sz = 4 from rfl, Nat.mul_one, Nat.add_zero] at hf22_2); have hx22_3 := hcc22 3 _ rfl; (try simp only [show (k94).sz = 4 from rfl, Nat.mul_one, Nat.add_zero] at hx22_3); have hf22_3 := hfr22 3; (try simp only [show (k94).sz = 4 from rfl, Nat.mul_one, Nat.add_zero] at hf22_3); clear hcl22 hcc22 hfr22 hM22) | ((with_reducible refine gate_store (t := 94) (p := 33) rfl ?_); refine store_event (t := 94) (p := 33) (v := ?vo_w23) (w1 := ((((w20.setCell ⟨go17, (x5_1 : Int).toNat * 4, none⟩ (.int .i64 ((rd_T94 x0_1 x6_1).f0))).setCell ⟨go17, (x5_1 : Int).toNat * 4 + 1, none⟩ (.int .i64 ((rd_T94 x0_1 x6_1).f1))).setCell ⟨go17, (x5_1 : Int).toNat * 4 + 2, none⟩ (.int .i64 ((rd_T94 x0_1 x6_1).f2))).setCell ⟨go17, (x5_1 : Int).toNat * 4 + 3, none⟩ (.int .i64 ((rd_T94 x0_1 x6_1).f3)))) ?hg ?ho ?hn ?hr ?_; (case ho => rfl); (case hg => rfl); (case hn => rfl); (case hr => exact zsx); intro w23 hw; have hg : w20.grownBy w23 (some go17) := (by rw [hw]; exact HP22.2); have hp_ : Kd.R k94 94 w23 w0.heap.size (fun k_ => (P0_ k_ ∨ w.heap.size ≤ k_) ∧ k_ ≠ gb169) (.slice (some ⟨go17, 0, none⟩) x0_1.length co6) y171 := (by rw [hw, Ny171.out]; exact HP22.1); clear HP22; have n0_ := Aside0.mk (hp_); have n1_ := Aside0.mk (blk_grown (g := gb169) (o := .cells #[.int .i64 ((rd_T94 x0_1 x6_1).f0), .int .i64 ((rd_T94 x0_1 x6_1).f1), .int .i64 ((rd_T94 x0_1 x6_1).f2), .int .i64 ((rd_T94 x0_1 x6_1).f3)] 94 (0, 0)) (zbx BK169.out) hg (Kd.R_away HO_0.out (fun _ hk => hk.2))); have n2_ := Aside0.mk ((by rw [hw]; exact below_set (below_set (below_set (below_set (HB.out) GB17.out) GB17.out) GB17.out) GB17.out : Below w0.heap.size w0 w23)); have n3_ := Aside0.mk (Kept.of_grown (S := (fun k_ => P0_ k_)) hg (by repeat (first | (with_reducible first | exact HK.out | apply Kept.alloc | apply Kept.drewN | apply Kept.drew | refine Kept.setCell ?_ (.inr GW169.out) _) | exact HK.out)) (fun k_ e_ => (HO_0.out.1 k_ e_).1)); clear HO_0; clear BK169; clear HB; clear HK; have HO_0 := n0_; have BK169 := n1_; have HB := n2_; have HK := n3_; clear n0_ n1_ n2_ n3_; clear hg hw hp_))
                  (try simp only [← hl0_1])
                  go_roundg k1
                  case measure => have := HK1.out; omega
                  case rel => exact ⟨(y171), (wrap64 (x5_1 + 1)), (wrap64 (x6_1 + 1)), zrx, zrx, H', ⟨by have := HK1.out; omega⟩, ⟨by (try simp only [hl0_1]); (with_reducible repeat (first | apply Kd.R_alloc | apply Kd.R_drewN | apply Kd.R_drew)); exact Kd.R_mono HO_0.out (fun _ hk => hk.1)⟩, ⟨by repeat (first | (with_reducible first | exact HK.out | apply Kept.alloc | apply Kept.drewN | apply Kept.drew | refine Kept.setCell ?_ (.inr GW169.out) _) | exact HK.out)⟩, ⟨by exact zBy HB.out GE169.out⟩⟩
                · rw [if_neg c16] at H
                  exact absurd H (by simp)
              · rw [if_neg c15] at H
                exact absurd H (by simp)
          · rw [if_neg c9] at H
            exact absurd H (by simp)
        · rw [if_neg c8] at H
          have c8b0 : decide (x6_1 < (x0_1.length : Int)) = false := decide_eq_false c8
          (try rw [hl0_1] at c8b0)
          clear c8
          by_cases c24 : 0 ≤ x5_1
          · rw [if_pos c24] at H
            have c24b0 := eq_true c24
            have c24b1 : decide (0 ≤ x5_1) = true := decide_eq_true c24
            clear c24
            by_cases c25 : x5_1 ≤ (x0_1.length : Int)
            · rw [if_pos c25] at H
              have c25b0 := eq_true c25
              have c25b1 : decide (x5_1 ≤ (x0_1.length : Int)) = true := decide_eq_true c25
              clear c25
              obtain ⟨y172, hy172⟩ : ∃ y_ : List (S94), y_ = (x0_1.take (x5_1 : Int).toNat) := ⟨_, rfl⟩
              replace H : (some y172) = some r := by first | (rw [hy172]; with_reducible exact H) | (have H2_ := (Option.bind_some _ _).symm.trans H; rw [hy172]; with_reducible exact H2_) | (have H2_ := (Option.bind_some _ _).symm.trans H; with_reducible exact H2_) | with_reducible exact H | (rw [hy172]; exact H) | exact H
              have Ny172 := Aside0.mk hy172
              clear hy172
              obtain rfl := Option.some.inj H
              have q26 : (x5_1 : Int) ≤ ((x0_1.length : Int) : Int) := of_decide_eq_true zax
              obtain ⟨i026, hi026, _, hsz26, _⟩ := info_parts info94
              have hcut26 := cut_to (P := Try.prog) 54 94 .i64 Try.underlying54 hi026 Ao6 x0_1.length co6 x5_1 (of_decide_eq_true zax) q26 (Kd.R_reads' HO_0.out).2.1
              obtain ⟨i0z, hi0z, hzz_, _, _⟩ := info_parts info94
              have hzv_ : ∀ w : World, (zeroValue 94).run Try.prog w = .ok (.agg #[.int .i64 0, .int .i64 0, .int .i64 0, .int .i64 0]) w := by intro w; simp [zeroValue, typeInfo, hi0z, hzz_]
              have hcutf := cut_from (P := Try.prog) 54 94 .i64 Try.underlying54 hi026 4 hsz26 Ao6 x0_1.length co6 x5_1 (of_decide_eq_true zax) q26
              obtain ⟨W2, hclr, hR2, hg2⟩ := clear_run (d := k94) (P := Try.prog) (t := 54) (ty := 0) (zz := .agg #[.int .i64 0, .int .i64 0, .int .i64 0, .int .i64 0]) (zv := .int .i64 0) (z := (⟨0, 0, 0, 0⟩ : S94)) Try.underlying54 hzv_ (show 0 < 4 from by decide) rfl rfl (fun W => k94_mkM W _ _ ⟨0, 0, 0, 0⟩) HO_0.out (x5_1 : Int).toNat (by have h_ := (Kd.R_reads' HO_0.out).1; omega)
              rw [show (k94).sz = 4 from rfl] at hclr
              obtain ⟨A'_, hA'_⟩ : ∃ A', (if co6 = (x5_1 : Int).toNat then Ao6 else Ao6.map (·.add ((x5_1 : Int).toNat * 4))) = A' := ⟨_, rfl⟩
              obtain ⟨n'_, hn'_⟩ : ∃ n', x0_1.length - (x5_1 : Int).toNat = n' := ⟨_, rfl⟩
              obtain ⟨c'_, hc'_⟩ : ∃ c', co6 - (x5_1 : Int).toNat = c' := ⟨_, rfl⟩
              rw [hA'_, hn'_, hc'_] at hclr
              simp only [hA'_, hn'_, hc'_] at hcutf
              have n0_ := Aside0.mk (pw_below_grown HB.out _ HB.out.size hg2 (Kd.R_base HO_0.out))
              have n1_ := Aside0.mk (Kept.of_grown hg2 HK.out (fun k_ hk => HO_0.out.1 k_ hk))
              clear HB
              clear HK
              have HB := n0_
              have HK := n1_
              clear n0_ n1_ hzv_ hi0z hzz_ hg2 hA'_ hn'_ hc'_
              have hr26 := hR2
              clear hR2
              have hy26 : y172.length = (x5_1 : Int).toNat := (by rw [Ny172.out, List.length_take]; omega)
              rw [← Ny172.out] at hr26
              rw [← hy26] at hr26 hcut26
              clear hy26 hi026 hsz26 HO_0
              have HO174 := Aside0.mk hr26
              clear hr26
              replace q26 := eq_true q26
              go_wp2
              go_ret
              exact ⟨_, by first | rfl | (simp [errW_none, errW_some] <;> rfl) | (simp [*, errW_none, errW_some] <;> rfl), by (with_reducible repeat (first | apply Kd.R_alloc | apply Kd.R_drewN | apply Kd.R_drew)); exact HO174.out, by exact zBx HB.out, by repeat (first | (with_reducible first | exact HK.out | apply Kept.alloc | apply Kept.drewN | apply Kept.drew) | exact HK.out)⟩
            · rw [if_neg c25] at H
              exact absurd H (by simp)
          · rw [if_neg c24] at H
            exact absurd H (by simp)

/-! ### impl_PruneQueue: function 39 -/
def impl_PruneQueue.f (k : Nat) (l0 : List (S94)) : Option ((List (S94)) × Bool) := (impl_IsValidQueue.f k l0).bind fun t175 => (if t175 = true then ((slices_Clone_Delivery.f l0).bind fun t176 => ((slices_DeleteFunc_Delivery.f k t176).bind fun t179 => (some (t179, true)))) else (some (([] : List (S94)), false)))
theorem impl_PruneQueue.mono : ∀ a0 k, LeO (impl_PruneQueue.f k a0) (impl_PruneQueue.f (k + 1) a0) := by
  intro a0 k
  unfold impl_PruneQueue.f
  repeat' first
      | (with_reducible exact impl_IsValidQueue.mono _ _)
      | (with_reducible exact slices_DeleteFunc_Delivery.mono _ _)
      | (with_reducible exact LeO.refl _)
      | (with_reducible exact LeO.none _)
      | (with_reducible refine LeO.ite ?_ ?_)
      | (with_reducible refine LeO.bind ?_ (fun _ => ?_))
      | exact impl_IsValidQueue.mono _ _
      | exact slices_DeleteFunc_Delivery.mono _ _
      | exact LeO.none _
      | refine LeO.ite ?_ ?_
      | refine LeO.bind ?_ (fun _ => ?_)
set_option maxHeartbeats 8000000 in
set_option maxRecDepth 100000 in
theorem impl_PruneQueue.calls (k : Nat) (A0 : Option Addr) (c0 : Nat) (l0 : List (S94)) (r1 : List (S94)) (r2 : Bool) (w : World) (hr0 : Kd.C k94 w A0 l0.length l0) (hc0 : l0.length ≤ c0) (h : impl_PruneQueue.f k l0 = some (r1, r2)) :
    Calls Try.prog 39 #[.slice A0 l0.length c0] w fun e w' => ∃ v0_ : Value, e = .returned (.tuple #[v0_, .bool r2]) ∧ Kd.R k94 94 w' w.heap.size (fun _ => True) v0_ r1 ∧ Below w.heap.size w w' := by
  have HR0 := Aside0.mk hr0
  have HC0 := Aside0.mk hc0
  clear hr0 hc0
  have HB := Aside0.mk (Below.refl w.heap.size w)
  have H : ((impl_IsValidQueue.f k l0).bind fun t175 => (if t175 = true then ((slices_Clone_Delivery.f l0).bind fun t176 => ((slices_DeleteFunc_Delivery.f k t176).bind fun t179 => (some (t179, true)))) else (some (([] : List (S94)), false)))) = some (r1, r2) := h
  clear h
  replace H := Option.bind_eq_some_iff.mp H
  obtain ⟨t175, A20, H⟩ := H
  replace H : (if t175 = true then ((slices_Clone_Delivery.f l0).bind fun t176 => ((slices_DeleteFunc_Delivery.f k t176).bind fun t179 => (some (t179, true)))) else (some (([] : List (S94)), false))) = some (r1, r2) := H
  have A2 := Aside0.mk A20
  clear A20
  by_cases c3 : t175 = true
  · subst c3
    have H1 : ((slices_Clone_Delivery.f l0).bind fun t176 => ((slices_DeleteFunc_Delivery.f k t176).bind fun t179 => (some (t179, true)))) = some (r1, r2) := by rw [if_pos rfl] at H; exact H
    clear H
    have H := H1
    clear H1
    replace H := Option.bind_eq_some_iff.mp H
    obtain ⟨t176, A40, H⟩ := H
    replace H : ((slices_DeleteFunc_Delivery.f k t176).bind fun t179 => (some (t179, true))) = some (r1, r2) := H
    have A4 := Aside0.mk A40
    clear A40
    replace H := Option.bind_eq_some_iff.mp H
    obtain ⟨t179, A50, H⟩ := H
    replace H : (some (t179, true)) = some (r1, r2) := H
    have A5 := Aside0.mk A50
    clear A50
    simp only [Option.some.injEq, Prod.mk.injEq] at H
    obtain ⟨rfl, rfl⟩ := H
    go_enter Try.func39, Try.ntmps39
    go_wp2_with (first | ((with_reducible refine gate_callee (f := 64) rfl ?_); refine goesL_ (some 5) rfl rfl Try.func64 (by kernel_rfl) rfl #[.slice A0 l0.length c0] rfl zlx ?_; (with_reducible refine (impl_IsValidQueue.calls k _ _ l0 true _ ?side1 ?side2 A2.out).mono ?_); (case side1 => exact zCx HR0.out); (case side2 => exact HC0.out); rintro e w6 ⟨rfl, hb⟩; refine ⟨_, rfl, ?_⟩; have n0_ := Aside0.mk (below_step (zBx HB.out) hb); clear HB; have HB := n0_; clear n0_; (try clear hb); (try clear hb2); (try clear hk); (try clear hi)) | ((with_reducible refine gate_callee (f := 66) rfl ?_); refine goesL_ (some 8) rfl rfl Try.func66 (by kernel_rfl) rfl #[.slice A0 l0.length c0] rfl zlx ?_; (with_reducible refine (slices_Clone_Delivery.calls _ _ l0 t176 _ ?side1 ?side2 A4.out).mono ?_); (case side1 => repeat (first | exact (Kd.C_below HR0.out HB.out) | (with_reducible refine Kd.C_alloc ?_ _) | (with_reducible refine Kd.C_drewN ?_ _) | (with_reducible refine Kd.C_drew ?_))); (case side2 => exact HC0.out); rintro e w7 ⟨v177, rfl, ho0, hb⟩; refine ⟨_, rfl, ?_⟩; have n0_ := Aside0.mk (Kd.R_lower ho0 (below_size (zBx HB.out))); have n1_ := Aside0.mk (below_step (zBx HB.out) hb); clear HB; have HO178 := n0_; have HB := n1_; clear n0_ n1_; (try clear hb); (try clear hb2); (try clear hk); (try clear hi); (try clear ho0); obtain ⟨Ao8, co8, eo8⟩ := Kd.R_slice HO178.out; subst eo8) | ((with_reducible refine gate_callee (f := 68) rfl ?_); refine goesL_ (some 9) rfl rfl Try.func68 (by kernel_rfl) rfl #[.slice Ao8 t176.length co8, .func (.func 69) #[] #[]] rfl zlx ?_; (with_reducible refine (slices_DeleteFunc_Delivery.calls k (fun k_ => some k_ = (.slice Ao8 t176.length co8 : Value).ownBlock) (.slice Ao8 t176.length co8) t176 t179 w _ ?side1 ?side2 A5.out).mono ?_); (case side1 => exact zBx HB.out); (case side2 => exact Kd.R_tight rfl HO178.out); rintro e w9 ⟨v180, rfl, ho0, hb, hkp⟩; refine ⟨_, rfl, ?_⟩; have n0_ := Aside0.mk (Kd.R_mono (ok' := fun k_ => True) ho0 (fun k_ hk_ => trivial)); have n1_ := Aside0.mk (hb); clear HB; clear HO178; have HO181 := n0_; have HB := n1_; clear n0_ n1_; (try clear hb); (try clear hkp); (try clear ho0)))
    go_ret2
    exact ⟨_, by first | rfl | (simp [errW_none, errW_some] <;> rfl) | (simp [*, errW_none, errW_some] <;> rfl), by (with_reducible repeat (first | apply Kd.R_alloc | apply Kd.R_drewN | apply Kd.R_drew)); exact HO181.out, by exact zBx HB.out⟩
  · replace c3 := Bool.eq_false_iff.mpr c3
    subst c3
    have H1 : (some (([] : List (S94)), false)) = some (r1, r2) := by rw [if_neg (show ¬ (false = true) by decide)] at H; exact H
    clear H
    have H := H1
    clear H1
    simp only [Option.some.injEq, Prod.mk.injEq] at H
    obtain ⟨rfl, rfl⟩ := H
    go_enter Try.func39, Try.ntmps39
    go_wp2_with (first | ((with_reducible refine gate_callee (f := 64) rfl ?_); refine goesL_ (some 5) rfl rfl Try.func64 (by kernel_rfl) rfl #[.slice A0 l0.length c0] rfl zlx ?_; (with_reducible refine (impl_IsValidQueue.calls k _ _ l0 false _ ?side1 ?side2 A2.out).mono ?_); (case side1 => exact zCx HR0.out); (case side2 => exact HC0.out); rintro e w10 ⟨rfl, hb⟩; refine ⟨_, rfl, ?_⟩; have n0_ := Aside0.mk (below_step (zBx HB.out) hb); clear HB; have HB := n0_; clear n0_; (try clear hb); (try clear hb2); (try clear hk); (try clear hi)))
    go_ret2
    exact ⟨_, by first | rfl | (simp [errW_none, errW_some] <;> rfl) | (simp [*, errW_none, errW_some] <;> rfl), by first | exact Kd.R_nil _ _ _ _ _ | exact Kd.N_nil _ _ _ _ _ | exact Kd.V_nil _ _ _ _ _ | exact Kd.Q_nil _ _ _ _ _ | exact Kd.S_nil _ _ _ _ _, by exact zBx HB.out⟩

end Go.Proofs.Ytjagdjbiljooiaa.XFnExactPruneQueue
