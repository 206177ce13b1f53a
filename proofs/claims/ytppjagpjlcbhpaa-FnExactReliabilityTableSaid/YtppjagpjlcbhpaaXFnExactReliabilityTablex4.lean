-- written by wip/tools/xprint.py (a program of this project) out of the translation
import Derived.Test.YtppjagpjlcbhpaaXFnExactReliabilityTablex0
import Derived.Test.YtppjagpjlcbhpaaXFnExactReliabilityTablex1
import Derived.Test.YtppjagpjlcbhpaaXFnExactReliabilityTablex2
import Derived.Test.YtppjagpjlcbhpaaXFnExactReliabilityTablex3
namespace Go.Proofs.Ytppjagpjlcbhpaa.XFnExactReliabilityTable
open Go.RowKit Go.Proofs.YtppjagpjlcbhpaaW.PrintWords Go.Proofs.YtppjagpjlcbhpaaW.PrintLast Go.Proofs.YtppjagpjlcbhpaaW.PrintMore
attribute [local go_sem] max2_int min2_int max_two min_two max_three min_three max_four min_four   -- for this text's walks alone
set_option linter.unusedVariables false
set_option linter.unusedSimpArgs false

/-! ### laws_markChanceS: function 21 -/
def laws_markChanceS.l0 : Nat → List (S76) → Int → Int → Option (Int × (List (S76)))
 | 0, _, _, _ => none
 | k + 1, x0, x1, x5 => if x5 < (x0.length : Int) then (if 0 ≤ x5 then ((some (x0.set (x5 : Int).toNat (⟨x1, (rd_T76 x0 x5).f1⟩ : S76) : List (S76))).bind fun y166 => (laws_markChanceS.l0 k (y166.set (x5 : Int).toNat (⟨(rd_T76 y166 x5).f0, ((Int.tmod (wrap64 (x1 + 1)) 3) == 0)⟩ : S76)) (wrap64 ((wrap64 (x1 + 1)) + 1)) (wrap64 (x5 + 1)))) else (none)) else (some (x1, x0))
def laws_markChanceS.f (k : Nat) (l0 : List (S76)) (a1 : Int) : Option (Int × (List (S76))) := laws_markChanceS.l0 k l0 a1 0
theorem laws_markChanceS.mono_l : ∀ k, (∀ y0 y1 y2, LeO (laws_markChanceS.l0 k y0 y1 y2) (laws_markChanceS.l0 (k + 1) y0 y1 y2))
 | 0 => fun _ _ _ r h => by simp [laws_markChanceS.l0] at h
 | k + 1 => by
  have ih0 := laws_markChanceS.mono_l k
  ·intro y0 y1 y2
   unfold laws_markChanceS.l0
   repeat' first
   | (with_reducible exact ih0 _ _ _)
   | (with_reducible exact LeO.refl _)
   | (with_reducible exact LeO.none _)
   | (with_reducible refine LeO.ite ?_ ?_)
   | (with_reducible refine LeO.bind ?_ (fun _ => ?_))
   | exact ih0 _ _ _
   | exact LeO.none _
   | refine LeO.ite ?_ ?_
   | refine LeO.bind ?_ (fun _ => ?_)
theorem laws_markChanceS.mono : ∀ a0 a1 k, LeO (laws_markChanceS.f k a0 a1) (laws_markChanceS.f (k + 1) a0 a1) := by
 intro a0 a1 k
 have ih0 := laws_markChanceS.mono_l k
 unfold laws_markChanceS.f
 repeat' first
  | (with_reducible exact ih0 _ _ _)
  | (with_reducible exact LeO.refl _)
  | (with_reducible exact LeO.none _)
  | (with_reducible refine LeO.ite ?_ ?_)
  | (with_reducible refine LeO.bind ?_ (fun _ => ?_))
  | exact ih0 _ _ _
  | exact LeO.none _
  | refine LeO.ite ?_ ?_
  | refine LeO.bind ?_ (fun _ => ?_)
set_option maxHeartbeats 8000000 in
set_option maxRecDepth 100000 in
theorem laws_markChanceS.calls (k : Nat) (P0_ : Nat → Prop) (u9000_ : Value) (l0 : List (S76)) (a1 : Int) (r1 : Int) (r2 : List (S76)) (w0 w : World) (hB : Below w0.heap.size w0 w) (ho0 : Kd.R k76 76 w w0.heap.size P0_ u9000_ l0) (h : laws_markChanceS.f k l0 a1 = some (r1, r2)) :
 Calls Try.prog 21 #[u9000_, .int .i64 a1] w fun e w' => e = .returned (.int .i64 r1) ∧ Kd.R k76 76 w' w0.heap.size (fun k_ => (P0_ k_ ∨ w.heap.size ≤ k_)) u9000_ r2 ∧ Below w0.heap.size w0 w' ∧ Kept w w' (fun k_ => P0_ k_) := by
 have HO0 := Aside0.mk (show Kd.R k76 76 w w0.heap.size (fun k_ => (P0_ k_ ∨ w.heap.size ≤ k_)) u9000_ l0 from Kd.R_mono ho0 (fun k_ hk => (.inl hk)))
 have HK := Aside0.mk (Kept.refl w (fun k_ => P0_ k_))
 have HW0 := Aside0.mk hB.size
 have HB := Aside0.mk hB
 clear hB
 have H : (laws_markChanceS.l0 k l0 a1 0) = some (r1, r2) := h
 clear h
 have H' := Aside0.mk H
 clear H
 go_enter Try.func21, Try.ntmps21
 go_wp2
 go_loopg [1, 5] k (fun kq v1 v5 w' => ∃ (x0_1 : List (S76)) (x1_1 : Int) (x5_1 : Int), v1 = .int .i64 x1_1 ∧ v5 = .int .i64 x5_1 ∧ Aside0 (laws_markChanceS.l0 kq x0_1 x1_1 x5_1 = some (r1, r2)) ∧ Aside0 (kq ≤ k) ∧ Aside0 (Kd.R k76 76 w' w0.heap.size (fun k_ => (P0_ k_ ∨ w.heap.size ≤ k_)) u9000_ x0_1) ∧ Aside0 (Kept w w' (fun k_ => P0_ k_)) ∧ Aside0 (Below w0.heap.size w0 w'))
 case atStart => exact ⟨(l0), (a1), (0), zrx, zrx, H', ⟨Nat.le_refl _⟩, ⟨by (with_reducible repeat (first | apply Kd.R_alloc | apply Kd.R_drewN | apply Kd.R_drew)); exact HO0.out⟩, ⟨by repeat (first | (with_reducible first | exact HK.out | apply Kept.alloc | apply Kept.drewN | apply Kept.drew) | exact HK.out)⟩, ⟨by exact zBx HB.out⟩⟩
 case round =>
  clear H'
  try clear c2
  try clear p2
  obtain ⟨x0_1, x1_1, x5_1, rfl, rfl, HA, HK1, HO_0, HK, HB⟩ := hrel
  cases gk with
  | zero => exact absurd HA.out (by simp [laws_markChanceS.l0])
  | succ k1 =>
   have H := HA.out
   clear HA
   simp only [laws_markChanceS.l0] at H
   by_cases c3 : x5_1 < (x0_1.length : Int)
   ·rw [if_pos c3] at H
    have c3b0 : decide (x5_1 < (x0_1.length : Int)) = true := decide_eq_true c3
    clear c3
    by_cases c4 : 0 ≤ x5_1
    ·rw [if_pos c4] at H
     have c4b0 : decide (0 ≤ x5_1) = true := decide_eq_true c4
     clear c4
     obtain ⟨y166, hy166⟩ : ∃ y_ : List (S76), y_ = (x0_1.set (x5_1 : Int).toNat (⟨x1_1, (rd_T76 x0_1 x5_1).f1⟩ : S76)) := ⟨_, rfl⟩
     replace H : (laws_markChanceS.l0 k1 (y166.set (x5_1 : Int).toNat (⟨(rd_T76 y166 x5_1).f0, ((Int.tmod (wrap64 (x1_1 + 1)) 3) == 0)⟩ : S76)) (wrap64 ((wrap64 (x1_1 + 1)) + 1)) (wrap64 (x5_1 + 1))) = some (r1, r2) := by first | (rw [hy166]; with_reducible exact H) | (have H2_ := (Option.bind_some _ _).symm.trans H; rw [hy166]; with_reducible exact H2_) | (have H2_ := (Option.bind_some _ _).symm.trans H; with_reducible exact H2_) | with_reducible exact H | (rw [hy166]; exact H) | exact H
     have Ny166 := Aside0.mk hy166
     clear hy166
     obtain ⟨y167, hy167⟩ : ∃ y_ : List (S76), y_ = (y166.set (x5_1 : Int).toNat (⟨(rd_T76 y166 x5_1).f0, ((Int.tmod (wrap64 (x1_1 + 1)) 3) == 0)⟩ : S76)) := ⟨_, rfl⟩
     replace H : (laws_markChanceS.l0 k1 y167 (wrap64 ((wrap64 (x1_1 + 1)) + 1)) (wrap64 (x5_1 + 1))) = some (r1, r2) := by first | (rw [hy167]; with_reducible exact H) | (have H2_ := (Option.bind_some _ _).symm.trans H; rw [hy167]; with_reducible exact H2_) | (have H2_ := (Option.bind_some _ _).symm.trans H; with_reducible exact H2_) | with_reducible exact H | (rw [hy167]; exact H) | exact H
     have Ny167 := Aside0.mk hy167
     clear hy167
     focus
      have H' := Aside0.mk H
      clear H
      obtain ⟨Ao7, co7, eo7⟩ := Kd.R_slice HO_0.out
      subst eo7
      have p5 : 0 ≤ (x5_1 : Int) := of_decide_eq_true zax
      have q5 : (x5_1 : Int) < ((x0_1.length : Int) : Int) := of_decide_eq_true zax
      obtain ⟨go5, co5, eo5, gb5, gl5, cl5, HG5⟩ := Kd.R_form HO_0.out (by omega)
      (first | cases eo5 | (injection eo5 with ea_ en_ ec_; (first | subst ea_ | (injection ea_ with ea_; subst ea_)); subst ec_; clear en_))
      have GB5 := Aside0.mk gb5
      have GG5 := Aside0.mk HG5
      clear gb5 gl5 HG5
      have HMgo5 := Aside0.mk (show (P0_ go5 ∨ w.heap.size ≤ go5) from (HO_0.out.1 _ rfl))
      obtain ⟨ce5, hcl5, hM5, hcc5, hfr5⟩ := Kd.R_elem HO_0.out z76 (x5_1 : Int) p5 q5
      obtain rfl := k76_openM hM5
      have hx5_0 : wr.cell? ⟨go5, (x5_1 : Int).toNat * 2, none⟩ = some (.int .i64 ((rd_T76 x0_1 x5_1).f0)) := hcc5 0 _ rfl
      have hx5_1 : wr.cell? ⟨go5, (x5_1 : Int).toNat * 2 + 1, none⟩ = some (.bool ((rd_T76 x0_1 x5_1).f1)) := hcc5 1 _ rfl
      have hf5_0 : wr.frozen? ⟨go5, (x5_1 : Int).toNat * 2, none⟩ = false := hfr5 0
      have hf5_1 : wr.frozen? ⟨go5, (x5_1 : Int).toNat * 2 + 1, none⟩ = false := hfr5 1
      clear hcl5 hcc5 hfr5 hM5
      replace p5 := eq_true p5
      replace q5 := eq_true q5
      have HX8 := Aside0.mk (show Kd.R k76 76 wr w0.heap.size (fun k_ => (P0_ k_ ∨ w.heap.size ≤ k_)) (.slice (some ⟨go5, 0, none⟩) x0_1.length co7) x0_1 from (zRx HO_0.out))
      obtain ⟨ce8, hcl8, hM8, hcc8, hfr8⟩ := Kd.R_elem HX8.out z76 (x5_1 : Int) (of_decide_eq_true zax) (by have h_ : (x5_1 : Int) < ((x0_1.length : Int) : Int) := of_decide_eq_true zax; first | exact h_ | (have e_ := (Kd.R_reads' HO_0.out).1; omega) | simpa using h_)
      obtain rfl := k76_openM hM8
      have HP8 := Kd.R_seg HX8.out (x5_1 : Int) (of_decide_eq_true zax) (by have h_ : (x5_1 : Int) < ((x0_1.length : Int) : Int) := of_decide_eq_true zax; first | exact h_ | (have e_ := (Kd.R_reads' HO_0.out).1; omega) | simpa using h_) (seg := [.int .i64 x1_1]) (j := 0) hcl8 hcc8 (show 1 ≤ 2 from by decide) (x' := (⟨x1_1, (rd_T76 x0_1 x5_1).f1⟩ : S76)) (k76_mkM _ _ _ (⟨x1_1, (rd_T76 x0_1 x5_1).f1⟩ : S76) ) (fun _ hk => hk)
      have hx8_0 := hcc8 0 _ rfl
      (try simp only [show (k76).sz = 2 from rfl, Nat.mul_one, Nat.add_zero] at hx8_0)
      have hf8_0 := hfr8 0
      (try simp only [show (k76).sz = 2 from rfl, Nat.mul_one, Nat.add_zero] at hf8_0)
      clear hcl8 hcc8 hfr8 hM8
      go_wp2_with (first | ((with_reducible refine gate_store (t := 3) (p := 16) rfl ?_); refine store_event (t := 3) (p := 16) (v := ?vo_w9) (w1 := (wr.setCell ⟨go5, (x5_1 : Int).toNat * 2, none⟩ (.int .i64 x1_1))) ?hg ?ho ?hn ?hr ?_; (case ho => rfl); (case hg => rfl); (case hn => rfl); (case hr => exact zsx); intro w9 hw; have hg : wr.grownBy w9 (some go5) := (by rw [hw]; exact HP8.2); have hp_ : Kd.R k76 76 w9 w0.heap.size (fun k_ => (P0_ k_ ∨ w.heap.size ≤ k_)) (.slice (some ⟨go5, 0, none⟩) x0_1.length co7) y166 := (by rw [hw, Ny166.out]; exact HP8.1); clear HP8; have n0_ := Aside0.mk (hp_); have n1_ := Aside0.mk ((by rw [hw]; exact below_set (HB.out) GB5.out : Below w0.heap.size w0 w9)); have n2_ := Aside0.mk (Kept.of_grown (S := (fun k_ => P0_ k_)) hg (by repeat (first | (with_reducible first | exact HK.out | apply Kept.alloc | apply Kept.drewN | apply Kept.drew) | exact HK.out)) (fun k_ e_ => (HO_0.out.1 k_ e_))); clear HO_0; clear HB; clear HK; have HO_0 := n0_; have HB := n1_; have HK := n2_; clear n0_ n1_ n2_; clear hg hw hp_; have p6 : 0 ≤ (x5_1 : Int) := of_decide_eq_true zax; have q6 : (x5_1 : Int) < ((x0_1.length : Int) : Int) := of_decide_eq_true zax; obtain ⟨ce6, hcl6, hM6, hcc6, hfr6⟩ := Kd.R_elem HO_0.out z76 (x5_1 : Int) p6 q6; obtain rfl := k76_openM hM6; have hx6_0 : w9.cell? ⟨go5, (x5_1 : Int).toNat * 2, none⟩ = some (.int .i64 ((rd_T76 y166 x5_1).f0)) := hcc6 0 _ rfl; have hx6_1 : w9.cell? ⟨go5, (x5_1 : Int).toNat * 2 + 1, none⟩ = some (.bool ((rd_T76 y166 x5_1).f1)) := hcc6 1 _ rfl; have hf6_0 : w9.frozen? ⟨go5, (x5_1 : Int).toNat * 2, none⟩ = false := hfr6 0; have hf6_1 : w9.frozen? ⟨go5, (x5_1 : Int).toNat * 2 + 1, none⟩ = false := hfr6 1; clear hcl6 hcc6 hfr6 hM6; replace p6 := eq_true p6; replace q6 := eq_true q6; have HX10 := Aside0.mk (show Kd.R k76 76 w9 w0.heap.size (fun k_ => (P0_ k_ ∨ w.heap.size ≤ k_)) (.slice (some ⟨go5, 0, none⟩) x0_1.length co7) y166 from (zRx HO_0.out)); obtain ⟨ce10, hcl10, hM10, hcc10, hfr10⟩ := Kd.R_elem HX10.out z76 (x5_1 : Int) (of_decide_eq_true zax) (by have h_ : (x5_1 : Int) < ((x0_1.length : Int) : Int) := of_decide_eq_true zax; first | exact h_ | (have e_ := (Kd.R_reads' HO_0.out).1; omega) | simpa using h_); obtain rfl := k76_openM hM10; have HP10 := Kd.R_seg HX10.out (x5_1 : Int) (of_decide_eq_true zax) (by have h_ : (x5_1 : Int) < ((x0_1.length : Int) : Int) := of_decide_eq_true zax; first | exact h_ | (have e_ := (Kd.R_reads' HO_0.out).1; omega) | simpa using h_) (seg := [.bool ((Int.tmod (wrap64 (x1_1 + 1)) 3) == 0)]) (j := 1) hcl10 hcc10 (show 2 ≤ 2 from by decide) (x' := (⟨(rd_T76 y166 x5_1).f0, ((Int.tmod (wrap64 (x1_1 + 1)) 3) == 0)⟩ : S76)) (k76_mkM _ _ _ (⟨(rd_T76 y166 x5_1).f0, ((Int.tmod (wrap64 (x1_1 + 1)) 3) == 0)⟩ : S76) ) (fun _ hk => hk); have hx10_1 := hcc10 1 _ rfl; (try simp only [show (k76).sz = 2 from rfl, Nat.mul_one, Nat.add_zero] at hx10_1); have hf10_1 := hfr10 1; (try simp only [show (k76).sz = 2 from rfl, Nat.mul_one, Nat.add_zero] at hf10_1); clear hcl10 hcc10 hfr10 hM10) | ((with_reducible refine gate_store (t := 4) (p := 25) rfl ?_); refine store_event (t := 4) (p := 25) (v := ?vo_w11) (w1 := (w9.setCell ⟨go5, (x5_1 : Int).toNat * 2 + 1, none⟩ (.bool ((Int.tmod (wrap64 (x1_1 + 1)) 3) == 0)))) ?hg ?ho ?hn ?hr ?_; (case ho => rfl); (case hg => rfl); (case hn => rfl); (case hr => exact zsx); intro w11 hw; have hg : w9.grownBy w11 (some go5) := (by rw [hw]; exact HP10.2); have hp_ : Kd.R k76 76 w11 w0.heap.size (fun k_ => (P0_ k_ ∨ w.heap.size ≤ k_)) (.slice (some ⟨go5, 0, none⟩) x0_1.length co7) y167 := (by rw [hw, Ny167.out]; exact HP10.1); clear HP10; have n0_ := Aside0.mk (hp_); have n1_ := Aside0.mk ((by rw [hw]; exact below_set (HB.out) GB5.out : Below w0.heap.size w0 w11)); have n2_ := Aside0.mk (Kept.of_grown (S := (fun k_ => P0_ k_)) hg (by repeat (first | (with_reducible first | exact HK.out | apply Kept.alloc | apply Kept.drewN | apply Kept.drew) | exact HK.out)) (fun k_ e_ => (HO_0.out.1 k_ e_))); clear HO_0; clear HB; clear HK; have HO_0 := n0_; have HB := n1_; have HK := n2_; clear n0_ n1_ n2_; clear hg hw hp_))
      go_roundg k1
      case measure => have := HK1.out; omega
      case rel => exact ⟨(y167), (wrap64 ((wrap64 (x1_1 + 1)) + 1)), (wrap64 (x5_1 + 1)), zrx, zrx, H', ⟨by have := HK1.out; omega⟩, ⟨by (with_reducible repeat (first | apply Kd.R_alloc | apply Kd.R_drewN | apply Kd.R_drew)); exact HO_0.out⟩, ⟨by repeat (first | (with_reducible first | exact HK.out | apply Kept.alloc | apply Kept.drewN | apply Kept.drew) | exact HK.out)⟩, ⟨by exact zBx HB.out⟩⟩
    ·rw [if_neg c4] at H
     exact absurd H (by simp)
   ·rw [if_neg c3] at H
    have c3b0 : decide (x5_1 < (x0_1.length : Int)) = false := decide_eq_false c3
    clear c3
    focus
     simp only [Option.some.injEq, Prod.mk.injEq] at H
     obtain ⟨rfl, rfl⟩ := H
     obtain ⟨Ao12, co12, eo12⟩ := Kd.R_slice HO_0.out
     subst eo12
     go_wp2
     go_ret
     exact ⟨by first | rfl | (simp [errW_none, errW_some] <;> rfl) | (simp [*, errW_none, errW_some] <;> rfl), by (with_reducible repeat (first | apply Kd.R_alloc | apply Kd.R_drewN | apply Kd.R_drew)); exact HO_0.out, by exact zBx HB.out, by repeat (first | (with_reducible first | exact HK.out | apply Kept.alloc | apply Kept.drewN | apply Kept.drew) | exact HK.out)⟩

/-! ### laws_FnExactReliabilityTable: function 4 -/
mutual
def laws_FnExactReliabilityTable.j0 : Nat → List (S78) → List (List Int) → Bool → List (S76) → List (List Int) → Bool → Bool → Option (Bool)
 | 0, _, _, _, _, _, _, _ => none
 | k + 1, x0, x4, x5, x6, x7, x8, x40 => if x40 = true then (some false) else ((laws_toChanceS.f k x0).bind fun t184 => ((laws_eqChanceS.f k x6 t184).bind fun t187 => (if t187 = true then ((laws_markChanceS.f k x6 1).bind fun bt188 => (if bt188.1 < 0 then (laws_FnExactReliabilityTable.j1 k x0 x4 x5 x7 true) else ((laws_eqIntSS.f k x7 x4).bind fun t190 => (if t190 = true then (laws_FnExactReliabilityTable.j1 k x0 x4 x5 x7 (x8 != x5)) else (laws_FnExactReliabilityTable.j1 k x0 x4 x5 x7 true))))) else (some false))))
def laws_FnExactReliabilityTable.j1 : Nat → List (S78) → List (List Int) → Bool → List (List Int) → Bool → Option (Bool)
 | 0, _, _, _, _, _ => none
 | k + 1, x0, x4, x5, x7, x61 => if x61 = true then (some false) else ((laws_markIntSS.f k x7 1).bind fun bt191 => ((laws_heldIntSS.f k bt191.2 1).bind fun t192 => (if t192 < 0 then (some false) else (if t192 = bt191.1 then ((laws_toChanceS.f k x0).bind fun t193 => ((impl_ReliabilityTable.f k t193).bind fun bt196 => ((laws_eqIntSS.f k bt196.1 x4).bind fun t200 => (if t200 = true then (laws_FnExactReliabilityTable.j2 k bt191.2 bt191.1 (bt196.2 != x5)) else (laws_FnExactReliabilityTable.j2 k bt191.2 bt191.1 true))))) else (some false)))))
def laws_FnExactReliabilityTable.j2 : Nat → List (List Int) → Int → Bool → Option (Bool)
 | 0, _, _, _ => none
 | k + 1, x7, x10, x87 => if x87 = true then (some false) else ((laws_heldIntSS.f k x7 1).bind fun t201 => (if t201 < 0 then (some false) else (if t201 = x10 then (some true) else (some false))))
end
def laws_FnExactReliabilityTable.f (k : Nat) (l0 : List (S78)) : Option (Bool) := (laws_szChanceS.f l0 1048576).bind fun t168 => (if t168 < 0 then (some true) else ((laws_toChanceS.f k l0).bind fun t169 => ((spec_ReliabilityTable.f k t169).bind fun bt172 => ((laws_toChanceS.f k l0).bind fun t176 => ((impl_ReliabilityTable.f k t176).bind fun bt179 => ((laws_eqIntSS.f k bt179.1 bt172.1).bind fun t183 => (if t183 = true then (laws_FnExactReliabilityTable.j0 k l0 bt172.1 bt172.2 t176 bt179.1 bt179.2 (bt179.2 != bt172.2)) else (laws_FnExactReliabilityTable.j0 k l0 bt172.1 bt172.2 t176 bt179.1 bt179.2 true))))))))
theorem laws_FnExactReliabilityTable.mono_l : ∀ k, (∀ y0 y1 y2 y3 y4 y5 y6, LeO (laws_FnExactReliabilityTable.j0 k y0 y1 y2 y3 y4 y5 y6) (laws_FnExactReliabilityTable.j0 (k + 1) y0 y1 y2 y3 y4 y5 y6)) ∧ (∀ y0 y1 y2 y3 y4, LeO (laws_FnExactReliabilityTable.j1 k y0 y1 y2 y3 y4) (laws_FnExactReliabilityTable.j1 (k + 1) y0 y1 y2 y3 y4)) ∧ (∀ y0 y1 y2, LeO (laws_FnExactReliabilityTable.j2 k y0 y1 y2) (laws_FnExactReliabilityTable.j2 (k + 1) y0 y1 y2))
 | 0 => ⟨fun _ _ _ _ _ _ _ r h => by simp [laws_FnExactReliabilityTable.j0] at h, fun _ _ _ _ _ r h => by simp [laws_FnExactReliabilityTable.j1] at h, fun _ _ _ r h => by simp [laws_FnExactReliabilityTable.j2] at h⟩
 | k + 1 => by
  obtain ⟨ih0, ih1, ih2⟩ := laws_FnExactReliabilityTable.mono_l k
  refine ⟨?_, ?_, ?_⟩
  ·intro y0 y1 y2 y3 y4 y5 y6
   unfold laws_FnExactReliabilityTable.j0
   repeat' first
   | (with_reducible exact ih0 _ _ _ _ _ _ _)
   | (with_reducible exact ih1 _ _ _ _ _)
   | (with_reducible exact ih2 _ _ _)
   | (with_reducible exact impl_ReliabilityTable.mono _ _)
   | (with_reducible exact laws_eqChanceS.mono _ _ _)
   | (with_reducible exact laws_eqIntSS.mono _ _ _)
   | (with_reducible exact laws_heldIntSS.mono _ _ _)
   | (with_reducible exact laws_markChanceS.mono _ _ _)
   | (with_reducible exact laws_markIntSS.mono _ _ _)
   | (with_reducible exact laws_toChanceS.mono _ _)
   | (with_reducible exact spec_ReliabilityTable.mono _ _)
   | (with_reducible exact LeO.refl _)
   | (with_reducible exact LeO.none _)
   | (with_reducible refine LeO.ite ?_ ?_)
   | (with_reducible refine LeO.bind ?_ (fun _ => ?_))
   | exact ih0 _ _ _ _ _ _ _
   | exact ih1 _ _ _ _ _
   | exact ih2 _ _ _
   | exact impl_ReliabilityTable.mono _ _
   | exact laws_eqChanceS.mono _ _ _
   | exact laws_eqIntSS.mono _ _ _
   | exact laws_heldIntSS.mono _ _ _
   | exact laws_markChanceS.mono _ _ _
   | exact laws_markIntSS.mono _ _ _
   | exact laws_toChanceS.mono _ _
   | exact spec_ReliabilityTable.mono _ _
   | exact LeO.none _
   | refine LeO.ite ?_ ?_
   | refine LeO.bind ?_ (fun _ => ?_)
  ·intro y0 y1 y2 y3 y4
   unfold laws_FnExactReliabilityTable.j1
   repeat' first
   | (with_reducible exact ih0 _ _ _ _ _ _ _)
   | (with_reducible exact ih1 _ _ _ _ _)
   | (with_reducible exact ih2 _ _ _)
   | (with_reducible exact impl_ReliabilityTable.mono _ _)
   | (with_reducible exact laws_eqChanceS.mono _ _ _)
   | (with_reducible exact laws_eqIntSS.mono _ _ _)
   | (with_reducible exact laws_heldIntSS.mono _ _ _)
   | (with_reducible exact laws_markChanceS.mono _ _ _)
   | (with_reducible exact laws_markIntSS.mono _ _ _)
   | (with_reducible exact laws_toChanceS.mono _ _)
   | (with_reducible exact spec_ReliabilityTable.mono _ _)
   | (with_reducible exact LeO.refl _)
   | (with_reducible exact LeO.none _)
   | (with_reducible refine LeO.ite ?_ ?_)
   | (with_reducible refine LeO.bind ?_ (fun _ => ?_))
   | exact ih0 _ _ _ _ _ _ _
   | exact ih1 _ _ _ _ _
   | exact ih2 _ _ _
   | exact impl_ReliabilityTable.mono _ _
   | exact laws_eqChanceS.mono _ _ _
   | exact laws_eqIntSS.mono _ _ _
   | exact laws_heldIntSS.mono _ _ _
   | exact laws_markChanceS.mono _ _ _
   | exact laws_markIntSS.mono _ _ _
   | exact laws_toChanceS.mono _ _
   | exact spec_ReliabilityTable.mono _ _
   | exact LeO.none _
   | refine LeO.ite ?_ ?_
   | refine LeO.bind ?_ (fun _ => ?_)
  ·intro y0 y1 y2
   unfold laws_FnExactReliabilityTable.j2
   repeat' first
   | (with_reducible exact ih0 _ _ _ _ _ _ _)
   | (with_reducible exact ih1 _ _ _ _ _)
   | (with_reducible exact ih2 _ _ _)
   | (with_reducible exact impl_ReliabilityTable.mono _ _)
   | (with_reducible exact laws_eqChanceS.mono _ _ _)
   | (with_reducible exact laws_eqIntSS.mono _ _ _)
   | (with_reducible exact laws_heldIntSS.mono _ _ _)
   | (with_reducible exact laws_markChanceS.mono _ _ _)
   | (with_reducible exact laws_markIntSS.mono _ _ _)
   | (with_reducible exact laws_toChanceS.mono _ _)
   | (with_reducible exact spec_ReliabilityTable.mono _ _)
   | (with_reducible exact LeO.refl _)
   | (with_reducible exact LeO.none _)
   | (with_reducible refine LeO.ite ?_ ?_)
   | (with_reducible refine LeO.bind ?_ (fun _ => ?_))
   | exact ih0 _ _ _ _ _ _ _
   | exact ih1 _ _ _ _ _
   | exact ih2 _ _ _
   | exact impl_ReliabilityTable.mono _ _
   | exact laws_eqChanceS.mono _ _ _
   | exact laws_eqIntSS.mono _ _ _
   | exact laws_heldIntSS.mono _ _ _
   | exact laws_markChanceS.mono _ _ _
   | exact laws_markIntSS.mono _ _ _
   | exact laws_toChanceS.mono _ _
   | exact spec_ReliabilityTable.mono _ _
   | exact LeO.none _
   | refine LeO.ite ?_ ?_
   | refine LeO.bind ?_ (fun _ => ?_)
theorem laws_FnExactReliabilityTable.mono : ∀ a0 k, LeO (laws_FnExactReliabilityTable.f k a0) (laws_FnExactReliabilityTable.f (k + 1) a0) := by
 intro a0 k
 obtain ⟨ih0, ih1, ih2⟩ := laws_FnExactReliabilityTable.mono_l k
 unfold laws_FnExactReliabilityTable.f
 repeat' first
  | (with_reducible exact ih0 _ _ _ _ _ _ _)
  | (with_reducible exact ih1 _ _ _ _ _)
  | (with_reducible exact ih2 _ _ _)
  | (with_reducible exact impl_ReliabilityTable.mono _ _)
  | (with_reducible exact laws_eqChanceS.mono _ _ _)
  | (with_reducible exact laws_eqIntSS.mono _ _ _)
  | (with_reducible exact laws_heldIntSS.mono _ _ _)
  | (with_reducible exact laws_markChanceS.mono _ _ _)
  | (with_reducible exact laws_markIntSS.mono _ _ _)
  | (with_reducible exact laws_toChanceS.mono _ _)
  | (with_reducible exact spec_ReliabilityTable.mono _ _)
  | (with_reducible exact LeO.refl _)
  | (with_reducible exact LeO.none _)
  | (with_reducible refine LeO.ite ?_ ?_)
  | (with_reducible refine LeO.bind ?_ (fun _ => ?_))
  | exact ih0 _ _ _ _ _ _ _
  | exact ih1 _ _ _ _ _
  | exact ih2 _ _ _
  | exact impl_ReliabilityTable.mono _ _
  | exact laws_eqChanceS.mono _ _ _
  | exact laws_eqIntSS.mono _ _ _
  | exact laws_heldIntSS.mono _ _ _
  | exact laws_markChanceS.mono _ _ _
  | exact laws_markIntSS.mono _ _ _
  | exact laws_toChanceS.mono _ _
  | exact spec_ReliabilityTable.mono _ _
  | exact LeO.none _
  | refine LeO.ite ?_ ?_
  | refine LeO.bind ?_ (fun _ => ?_)
set_option maxHeartbeats 8000000 in
set_option maxRecDepth 100000 in
theorem laws_FnExactReliabilityTable.calls (k : Nat) (A0 : Option Addr) (c0 : Nat) (l0 : List (S78)) (r : Bool) (w : World) (hr0 : Kd.C k78 w A0 l0.length l0) (hc0 : l0.length ≤ c0) (h : laws_FnExactReliabilityTable.f k l0 = some r) (hr_ : r = true) :
 Calls Try.prog 4 #[.slice A0 l0.length c0] w fun e w' => e = .returned (.bool r) ∧ Below w.heap.size w w' := by
 have HR0 := Aside0.mk hr0
 have HC0 := Aside0.mk hc0
 clear hr0 hc0
 have HB := Aside0.mk (Below.refl w.heap.size w)
 have H : ((laws_szChanceS.f l0 1048576).bind fun t168 => (if t168 < 0 then (some true) else ((laws_toChanceS.f k l0).bind fun t169 => ((spec_ReliabilityTable.f k t169).bind fun bt172 => ((laws_toChanceS.f k l0).bind fun t176 => ((impl_ReliabilityTable.f k t176).bind fun bt179 => ((laws_eqIntSS.f k bt179.1 bt172.1).bind fun t183 => (if t183 = true then (laws_FnExactReliabilityTable.j0 k l0 bt172.1 bt172.2 t176 bt179.1 bt179.2 (bt179.2 != bt172.2)) else (laws_FnExactReliabilityTable.j0 k l0 bt172.1 bt172.2 t176 bt179.1 bt179.2 true))))))))) = some r := h
 clear h
 replace H := Option.bind_eq_some_iff.mp H
 obtain ⟨t168, A20, H⟩ := H
 replace H : (if t168 < 0 then (some true) else ((laws_toChanceS.f k l0).bind fun t169 => ((spec_ReliabilityTable.f k t169).bind fun bt172 => ((laws_toChanceS.f k l0).bind fun t176 => ((impl_ReliabilityTable.f k t176).bind fun bt179 => ((laws_eqIntSS.f k bt179.1 bt172.1).bind fun t183 => (if t183 = true then (laws_FnExactReliabilityTable.j0 k l0 bt172.1 bt172.2 t176 bt179.1 bt179.2 (bt179.2 != bt172.2)) else (laws_FnExactReliabilityTable.j0 k l0 bt172.1 bt172.2 t176 bt179.1 bt179.2 true)))))))) = some r := H
 have A2 := Aside0.mk A20
 clear A20
 by_cases c3 : t168 < 0
 ·rw [if_pos c3] at H
  have c3b0 : decide (t168 < 0) = true := decide_eq_true c3
  clear c3
  as_aux_lemma =>
   obtain rfl := Option.some.inj H
   go_enter Try.func4, Try.ntmps4
   go_wp2_with (first | ((with_reducible refine gate_callee (f := 16) rfl ?_); refine goesL_ (some 16) rfl rfl Try.func16 (by kernel_rfl) rfl #[.slice A0 l0.length c0, .int .i64 1048576] rfl zlx ?_; (with_reducible refine (laws_szChanceS.calls _ _ l0 1048576 t168 _ ?side1 ?side2 A2.out).mono ?_); (case side1 => exact zCx HR0.out); (case side2 => exact HC0.out); rintro e w' ⟨rfl, ⟨nd, rfl⟩⟩; refine ⟨_, rfl, ?_⟩))
   go_ret
   exact ⟨by first | rfl | (simp [errW_none, errW_some] <;> rfl) | (simp [*, errW_none, errW_some] <;> rfl), by exact zBx HB.out⟩
 ·rw [if_neg c3] at H
  have c3b0 : decide (t168 < 0) = false := decide_eq_false c3
  clear c3
  replace H := Option.bind_eq_some_iff.mp H
  obtain ⟨t169, A40, H⟩ := H
  replace H : ((spec_ReliabilityTable.f k t169).bind fun bt172 => ((laws_toChanceS.f k l0).bind fun t176 => ((impl_ReliabilityTable.f k t176).bind fun bt179 => ((laws_eqIntSS.f k bt179.1 bt172.1).bind fun t183 => (if t183 = true then (laws_FnExactReliabilityTable.j0 k l0 bt172.1 bt172.2 t176 bt179.1 bt179.2 (bt179.2 != bt172.2)) else (laws_FnExactReliabilityTable.j0 k l0 bt172.1 bt172.2 t176 bt179.1 bt179.2 true)))))) = some r := H
  have A4 := Aside0.mk A40
  clear A40
  replace H := Option.bind_eq_some_iff.mp H
  obtain ⟨⟨t172, t173⟩, A50, H⟩ := H
  replace H : ((laws_toChanceS.f k l0).bind fun t176 => ((impl_ReliabilityTable.f k t176).bind fun bt179 => ((laws_eqIntSS.f k bt179.1 t172).bind fun t183 => (if t183 = true then (laws_FnExactReliabilityTable.j0 k l0 t172 t173 t176 bt179.1 bt179.2 (bt179.2 != t173)) else (laws_FnExactReliabilityTable.j0 k l0 t172 t173 t176 bt179.1 bt179.2 true))))) = some r := H
  have A5 := Aside0.mk A50
  clear A50
  replace H := Option.bind_eq_some_iff.mp H
  obtain ⟨t176, A60, H⟩ := H
  replace H : ((impl_ReliabilityTable.f k t176).bind fun bt179 => ((laws_eqIntSS.f k bt179.1 t172).bind fun t183 => (if t183 = true then (laws_FnExactReliabilityTable.j0 k l0 t172 t173 t176 bt179.1 bt179.2 (bt179.2 != t173)) else (laws_FnExactReliabilityTable.j0 k l0 t172 t173 t176 bt179.1 bt179.2 true)))) = some r := H
  have A6 := Aside0.mk A60
  clear A60
  replace H := Option.bind_eq_some_iff.mp H
  obtain ⟨⟨t179, t180⟩, A70, H⟩ := H
  replace H : ((laws_eqIntSS.f k t179 t172).bind fun t183 => (if t183 = true then (laws_FnExactReliabilityTable.j0 k l0 t172 t173 t176 t179 t180 (t180 != t173)) else (laws_FnExactReliabilityTable.j0 k l0 t172 t173 t176 t179 t180 true))) = some r := H
  have A7 := Aside0.mk A70
  clear A70
  have HC8 := Aside0.mk H
  clear H
  go_enter Try.func4, Try.ntmps4
  go_upto_region 8 with (first | ((with_reducible refine gate_callee (f := 16) rfl ?_); refine goesL_ (some 16) rfl rfl Try.func16 (by kernel_rfl) rfl #[.slice A0 l0.length c0, .int .i64 1048576] rfl zlx ?_; (with_reducible refine (laws_szChanceS.calls _ _ l0 1048576 t168 _ ?side1 ?side2 A2.out).mono ?_); (case side1 => exact zCx HR0.out); (case side2 => exact HC0.out); rintro e w' ⟨rfl, ⟨nd, rfl⟩⟩; refine ⟨_, rfl, ?_⟩) | ((with_reducible refine gate_callee (f := 18) rfl ?_); refine goesL_ (some 21) rfl rfl Try.func18 (by kernel_rfl) rfl #[.slice A0 l0.length c0] rfl zlx ?_; (with_reducible refine (laws_toChanceS.calls k _ _ l0 t169 _ ?side1 ?side2 A4.out).mono ?_); (case side1 => exact zCx HR0.out); (case side2 => exact HC0.out); rintro e w9 ⟨v170, rfl, ho0, hb⟩; refine ⟨_, rfl, ?_⟩; have n0_ := Aside0.mk (Kd.R_lower ho0 (below_size (zBx HB.out))); have n1_ := Aside0.mk (below_step (zBx HB.out) hb); clear HB; have HO171 := n0_; have HB := n1_; clear n0_ n1_; (try clear hb); (try clear hb2); (try clear hk); (try clear hi); (try clear ho0); obtain ⟨Ao10, co10, eo10⟩ := Kd.R_slice HO171.out; subst eo10) | ((with_reducible refine gate_callee (f := 17) rfl ?_); refine goesL_ (some 22) rfl rfl Try.func17 (by kernel_rfl) rfl #[.slice Ao10 t169.length co10] rfl zlx ?_; (with_reducible refine (spec_ReliabilityTable.calls k _ _ t169 t172 t173 _ ?side1 ?side2 A5.out).mono ?_); (case side1 => repeat (first | exact (Kd.R_reads' HO171.out).2.2 | (with_reducible refine Kd.C_alloc ?_ _) | (with_reducible refine Kd.C_drewN ?_ _) | (with_reducible refine Kd.C_drew ?_))); (case side2 => exact (Kd.R_reads' HO171.out).2.1); rintro e w11 ⟨v174, rfl, ho0, hb⟩; refine ⟨_, rfl, ?_⟩; have n0_ := Aside0.mk (Kd.R_below (zRx HO171.out) hb); have n1_ := Aside0.mk (Kd.S_lower ho0 (below_size (zBx HB.out))); have n2_ := Aside0.mk (below_step (zBx HB.out) hb); clear HO171; clear HB; have HO171 := n0_; have HO175 := n1_; have HB := n2_; clear n0_ n1_ n2_; (try clear hb); (try clear hb2); (try clear hk); (try clear hi); (try clear ho0)) | ((with_reducible refine gate_callee (f := 18) rfl ?_); refine goesL_ (some 26) rfl rfl Try.func18 (by kernel_rfl) rfl #[.slice A0 l0.length c0] rfl zlx ?_; (with_reducible refine (laws_toChanceS.calls k _ _ l0 t176 _ ?side1 ?side2 A6.out).mono ?_); (case side1 => repeat (first | exact (Kd.C_below HR0.out HB.out) | (with_reducible refine Kd.C_alloc ?_ _) | (with_reducible refine Kd.C_drewN ?_ _) | (with_reducible refine Kd.C_drew ?_))); (case side2 => exact HC0.out); rintro e w12 ⟨v177, rfl, ho0, hb⟩; refine ⟨_, rfl, ?_⟩; have n0_ := Aside0.mk (Kd.R_elder' (zRx HO171.out) (Kd.R_base ho0) hb); have n1_ := Aside0.mk (Kd.S_below (zSx HO175.out) hb); have n2_ := Aside0.mk (Kd.R_lower (Kd.R_new' ho0 (Kd.R_lt (zRx HO171.out))) (below_size (zBx HB.out))); have n3_ := Aside0.mk (below_step (zBx HB.out) hb); clear HO171; clear HO175; clear HB; have HO171 := n0_; have HO175 := n1_; have HO178 := n2_; have HB := n3_; clear n0_ n1_ n2_ n3_; (try clear hb); (try clear hb2); (try clear hk); (try clear hi); (try clear ho0); obtain ⟨Ao13, co13, eo13⟩ := Kd.R_slice HO178.out; subst eo13) | ((with_reducible refine gate_callee (f := 19) rfl ?_); refine goesL_ (some 29) rfl rfl Try.func19 (by kernel_rfl) rfl #[.slice Ao13 t176.length co13] rfl zlx ?_; (with_reducible refine (impl_ReliabilityTable.calls k _ _ t176 t179 t180 _ ?side1 ?side2 A7.out).mono ?_); (case side1 => repeat (first | exact (Kd.R_reads' HO178.out).2.2 | (with_reducible refine Kd.C_alloc ?_ _) | (with_reducible refine Kd.C_drewN ?_ _) | (with_reducible refine Kd.C_drew ?_))); (case side2 => exact (Kd.R_reads' HO178.out).2.1); rintro e w14 ⟨v181, rfl, ho0, hb⟩; refine ⟨_, rfl, ?_⟩; obtain ⟨N_, ha_, hb_⟩ := Kd.S_two (zSx HO175.out) ho0 hb (below_size (zBx HB.out)); have n0_ := Aside0.mk (Kd.R_below (zRx HO171.out) hb); have n1_ := Aside0.mk ha_; clear ha_; have n2_ := Aside0.mk (Kd.R_below (zRx HO178.out) hb); have n3_ := Aside0.mk hb_; clear hb_; have n4_ := Aside0.mk (below_step (zBx HB.out) hb); clear HO171; clear HO175; clear HO178; clear HB; have HO171 := n0_; have HO175 := n1_; have HO178 := n2_; have HO182 := n3_; have HB := n4_; clear n0_ n1_ n2_ n3_ n4_; (try clear hb); (try clear hb2); (try clear hk); (try clear hi); (try clear ho0)))
  (try simp only [Act.put, List.setIfInBounds_toArray, List.set_cons_zero, List.set_cons_succ])
  go_cut [40] (fun v40 wc => ∃ (kq : Nat) (x40_7 : Bool), v40 = .bool x40_7 ∧ Aside0 (laws_FnExactReliabilityTable.j0 kq l0 t172 t173 t176 t179 t180 x40_7 = some r) ∧ Aside0 (kq ≤ k) ∧ Aside0 (Kd.S (Kd.slice 3 (Kd.int .i64)) 51 wc w.heap.size (fun k_ => (some k_ ≠ (v181 : Value).ownBlock ∧ k_ < N_)) v174 t172) ∧ Aside0 (Kd.R k76 76 wc w.heap.size (fun _ => True) (.slice Ao13 t176.length co13) t176) ∧ Aside0 (Kd.S (Kd.slice 3 (Kd.int .i64)) 51 wc w.heap.size (fun k_ => (some k_ ≠ (v174 : Value).ownBlock ∧ N_ ≤ k_)) v181 t179) ∧ Aside0 (Below w.heap.size w wc))
  case first =>
   as_aux_lemma =>
   have H := HC8.out
   clear HC8
   replace H := Option.bind_eq_some_iff.mp H
   obtain ⟨t183, A150, H⟩ := H
   replace H : (if t183 = true then (laws_FnExactReliabilityTable.j0 k l0 t172 t173 t176 t179 t180 (t180 != t173)) else (laws_FnExactReliabilityTable.j0 k l0 t172 t173 t176 t179 t180 true)) = some r := H
   have A15 := Aside0.mk A150
   clear A150
   by_cases c16 : t183 = true
   ·subst c16
    have H1 : (laws_FnExactReliabilityTable.j0 k l0 t172 t173 t176 t179 t180 (t180 != t173)) = some r := by rw [if_pos rfl] at H; exact H
    clear H
    have H := H1
    clear H1
    as_aux_lemma =>
     have H' := Aside0.mk H
     clear H
     obtain ⟨Ao17, co17, eo17⟩ := Kd.S_slice HO182.out
     subst eo17
     obtain ⟨Ao18, co18, eo18⟩ := Kd.S_slice HO175.out
     subst eo18
     go_wp2_with (first | ((with_reducible refine gate_callee (f := 11) rfl ?_); refine goesL_ (some 34) rfl rfl Try.func11 (by kernel_rfl) rfl #[.slice Ao17 t179.length co17, .slice Ao18 t172.length co18] rfl zlx ?_; (with_reducible refine (laws_eqIntSS.calls k _ _ t179 _ _ t172 true _ ?side1 ?side2 ?side3 ?side4 A15.out).mono ?_); (case side1 => repeat (first | exact (Kd.S_reads' HO182.out).2.2 | (with_reducible refine Kd.C_alloc ?_ _) | (with_reducible refine Kd.C_drewN ?_ _) | (with_reducible refine Kd.C_drew ?_))); (case side2 => exact (Kd.S_reads' HO182.out).2.1); (case side3 => repeat (first | exact (Kd.S_reads' HO175.out).2.2 | (with_reducible refine Kd.C_alloc ?_ _) | (with_reducible refine Kd.C_drewN ?_ _) | (with_reducible refine Kd.C_drew ?_))); (case side4 => exact (Kd.S_reads' HO175.out).2.1); rintro e w' ⟨rfl, ⟨nd, rfl⟩⟩; refine ⟨_, rfl, ?_⟩))
     go_meet
     case rel => exact ⟨_, ((t180 != t173)), zrx, H', ⟨by first | omega | exact Nat.le_refl _⟩, ⟨by (with_reducible repeat (first | apply Kd.S_alloc | apply Kd.S_drewN | apply Kd.S_drew)); exact Kd.S_mono HO175.out (fun _ hk => hk.2)⟩, ⟨by (with_reducible repeat (first | apply Kd.R_alloc | apply Kd.R_drewN | apply Kd.R_drew)); exact Kd.R_mono HO178.out (fun _ hk => trivial)⟩, ⟨by (with_reducible repeat (first | apply Kd.S_alloc | apply Kd.S_drewN | apply Kd.S_drew)); exact Kd.S_mono HO182.out (fun _ hk => hk.2)⟩, ⟨by exact zBx HB.out⟩⟩
   ·replace c16 := Bool.eq_false_iff.mpr c16
    subst c16
    have H1 : (laws_FnExactReliabilityTable.j0 k l0 t172 t173 t176 t179 t180 true) = some r := by rw [if_neg (show ¬ (false = true) by decide)] at H; exact H
    clear H
    have H := H1
    clear H1
    as_aux_lemma =>
     have H' := Aside0.mk H
     clear H
     obtain ⟨Ao19, co19, eo19⟩ := Kd.S_slice HO182.out
     subst eo19
     obtain ⟨Ao20, co20, eo20⟩ := Kd.S_slice HO175.out
     subst eo20
     go_wp2_with (first | ((with_reducible refine gate_callee (f := 11) rfl ?_); refine goesL_ (some 34) rfl rfl Try.func11 (by kernel_rfl) rfl #[.slice Ao19 t179.length co19, .slice Ao20 t172.length co20] rfl zlx ?_; (with_reducible refine (laws_eqIntSS.calls k _ _ t179 _ _ t172 false _ ?side1 ?side2 ?side3 ?side4 A15.out).mono ?_); (case side1 => repeat (first | exact (Kd.S_reads' HO182.out).2.2 | (with_reducible refine Kd.C_alloc ?_ _) | (with_reducible refine Kd.C_drewN ?_ _) | (with_reducible refine Kd.C_drew ?_))); (case side2 => exact (Kd.S_reads' HO182.out).2.1); (case side3 => repeat (first | exact (Kd.S_reads' HO175.out).2.2 | (with_reducible refine Kd.C_alloc ?_ _) | (with_reducible refine Kd.C_drewN ?_ _) | (with_reducible refine Kd.C_drew ?_))); (case side4 => exact (Kd.S_reads' HO175.out).2.1); rintro e w' ⟨rfl, ⟨nd, rfl⟩⟩; refine ⟨_, rfl, ?_⟩))
     go_meet
     case rel => exact ⟨_, (true), zrx, H', ⟨by first | omega | exact Nat.le_refl _⟩, ⟨by (with_reducible repeat (first | apply Kd.S_alloc | apply Kd.S_drewN | apply Kd.S_drew)); exact Kd.S_mono HO175.out (fun _ hk => hk.2)⟩, ⟨by (with_reducible repeat (first | apply Kd.R_alloc | apply Kd.R_drewN | apply Kd.R_drew)); exact Kd.R_mono HO178.out (fun _ hk => trivial)⟩, ⟨by (with_reducible repeat (first | apply Kd.S_alloc | apply Kd.S_drewN | apply Kd.S_drew)); exact Kd.S_mono HO182.out (fun _ hk => hk.2)⟩, ⟨by exact zBx HB.out⟩⟩
  case rest =>
   as_aux_lemma =>
   clear HC8
   try clear c1
   try clear p2
   try clear c3
   try clear c3b0
   try clear c4
   try clear c11
   try clear c16
   try clear c17
   try clear c18
   try clear c19
   obtain ⟨kq, x40_7, rfl, HA, HJ7, HO_4, HO_6, HO_7, HB⟩ := hcut
   cases kq with
   | zero => exact absurd HA.out (by simp [laws_FnExactReliabilityTable.j0])
   | succ kj7 =>
    have H := HA.out
    clear HA
    simp only [laws_FnExactReliabilityTable.j0] at H
    by_cases c21 : x40_7 = true
    ·subst c21
     have H1 : (some false) = some r := by rw [if_pos rfl] at H; exact H
     clear H
     have H := H1
     clear H1
     as_aux_lemma =>
      exact absurd (Option.some.inj H) (by rw [hr_]; decide)
    ·replace c21 := Bool.eq_false_iff.mpr c21
     subst c21
     have H1 : ((laws_toChanceS.f kj7 l0).bind fun t184 => ((laws_eqChanceS.f kj7 t176 t184).bind fun t187 => (if t187 = true then ((laws_markChanceS.f kj7 t176 1).bind fun bt188 => (if bt188.1 < 0 then (laws_FnExactReliabilityTable.j1 kj7 l0 t172 t173 t179 true) else ((laws_eqIntSS.f kj7 t179 t172).bind fun t190 => (if t190 = true then (laws_FnExactReliabilityTable.j1 kj7 l0 t172 t173 t179 (t180 != t173)) else (laws_FnExactReliabilityTable.j1 kj7 l0 t172 t173 t179 true))))) else (some false)))) = some r := by rw [if_neg (show ¬ (false = true) by decide)] at H; exact H
     clear H
     have H := H1
     clear H1
     replace H := Option.bind_eq_some_iff.mp H
     obtain ⟨t184, A220, H⟩ := H
     replace H : ((laws_eqChanceS.f kj7 t176 t184).bind fun t187 => (if t187 = true then ((laws_markChanceS.f kj7 t176 1).bind fun bt188 => (if bt188.1 < 0 then (laws_FnExactReliabilityTable.j1 kj7 l0 t172 t173 t179 true) else ((laws_eqIntSS.f kj7 t179 t172).bind fun t190 => (if t190 = true then (laws_FnExactReliabilityTable.j1 kj7 l0 t172 t173 t179 (t180 != t173)) else (laws_FnExactReliabilityTable.j1 kj7 l0 t172 t173 t179 true))))) else (some false))) = some r := H
     have A22 := Aside0.mk A220
     clear A220
     replace H := Option.bind_eq_some_iff.mp H
     obtain ⟨t187, A230, H⟩ := H
     replace H : (if t187 = true then ((laws_markChanceS.f kj7 t176 1).bind fun bt188 => (if bt188.1 < 0 then (laws_FnExactReliabilityTable.j1 kj7 l0 t172 t173 t179 true) else ((laws_eqIntSS.f kj7 t179 t172).bind fun t190 => (if t190 = true then (laws_FnExactReliabilityTable.j1 kj7 l0 t172 t173 t179 (t180 != t173)) else (laws_FnExactReliabilityTable.j1 kj7 l0 t172 t173 t179 true))))) else (some false)) = some r := H
     have A23 := Aside0.mk A230
     clear A230
     by_cases c24 : t187 = true
     ·subst c24
      have H1 : ((laws_markChanceS.f kj7 t176 1).bind fun bt188 => (if bt188.1 < 0 then (laws_FnExactReliabilityTable.j1 kj7 l0 t172 t173 t179 true) else ((laws_eqIntSS.f kj7 t179 t172).bind fun t190 => (if t190 = true then (laws_FnExactReliabilityTable.j1 kj7 l0 t172 t173 t179 (t180 != t173)) else (laws_FnExactReliabilityTable.j1 kj7 l0 t172 t173 t179 true))))) = some r := by rw [if_pos rfl] at H; exact H
      clear H
      have H := H1
      clear H1
      replace H := Option.bind_eq_some_iff.mp H
      obtain ⟨⟨t188, t189⟩, A250, H⟩ := H
      replace H : (if t188 < 0 then (laws_FnExactReliabilityTable.j1 kj7 l0 t172 t173 t179 true) else ((laws_eqIntSS.f kj7 t179 t172).bind fun t190 => (if t190 = true then (laws_FnExactReliabilityTable.j1 kj7 l0 t172 t173 t179 (t180 != t173)) else (laws_FnExactReliabilityTable.j1 kj7 l0 t172 t173 t179 true)))) = some r := H
      have A25 := Aside0.mk A250
      clear A250
      have HC26 := Aside0.mk H
      clear H
      go_upto_region 14 with (first | ((with_reducible refine gate_callee (f := 18) rfl ?_); refine goesL_ (some 43) rfl rfl Try.func18 (by kernel_rfl) rfl #[.slice A0 l0.length c0] rfl zlx ?_; (with_reducible refine (laws_toChanceS.calls kj7 _ _ l0 t184 _ ?side1 ?side2 A22.out).mono ?_); (case side1 => repeat (first | exact (Kd.C_below HR0.out HB.out) | (with_reducible refine Kd.C_alloc ?_ _) | (with_reducible refine Kd.C_drewN ?_ _) | (with_reducible refine Kd.C_drew ?_))); (case side2 => exact HC0.out); rintro e w27 ⟨v185, rfl, ho0, hb⟩; refine ⟨_, rfl, ?_⟩; have n0_ := Aside0.mk (Kd.S_below (zSx HO_4.out) hb); have n1_ := Aside0.mk (Kd.R_elder' (zRx HO_6.out) (Kd.R_base ho0) hb); have n2_ := Aside0.mk (Kd.S_below (zSx HO_7.out) hb); have n3_ := Aside0.mk (Kd.R_lower (Kd.R_new' ho0 (Kd.R_lt (zRx HO_6.out))) (below_size (zBx HB.out))); have n4_ := Aside0.mk (below_step (zBx HB.out) hb); clear HO_4; clear HO_6; clear HO_7; clear HB; have HO_4 := n0_; have HO_6 := n1_; have HO_7 := n2_; have HO186 := n3_; have HB := n4_; clear n0_ n1_ n2_ n3_ n4_; (try clear hb); (try clear hb2); (try clear hk); (try clear hi); (try clear ho0); obtain ⟨Ao28, co28, eo28⟩ := Kd.R_slice HO186.out; subst eo28) | ((with_reducible refine gate_callee (f := 20) rfl ?_); refine goesL_ (some 44) rfl rfl Try.func20 (by kernel_rfl) rfl #[.slice Ao13 t176.length co13, .slice Ao28 t184.length co28] rfl zlx ?_; (with_reducible refine (laws_eqChanceS.calls kj7 _ _ t176 _ _ t184 true _ ?side1 ?side2 ?side3 ?side4 A23.out).mono ?_); (case side1 => repeat (first | exact (Kd.R_reads' HO_6.out).2.2 | (with_reducible refine Kd.C_alloc ?_ _) | (with_reducible refine Kd.C_drewN ?_ _) | (with_reducible refine Kd.C_drew ?_))); (case side2 => exact (Kd.R_reads' HO_6.out).2.1); (case side3 => repeat (first | exact (Kd.R_reads' HO186.out).2.2 | (with_reducible refine Kd.C_alloc ?_ _) | (with_reducible refine Kd.C_drewN ?_ _) | (with_reducible refine Kd.C_drew ?_))); (case side4 => exact (Kd.R_reads' HO186.out).2.1); rintro e w29 ⟨rfl, hb⟩; refine ⟨_, rfl, ?_⟩; have n0_ := Aside0.mk (Kd.S_below (zSx HO_4.out) hb); have n1_ := Aside0.mk (Kd.R_below (zRx HO_6.out) hb); have n2_ := Aside0.mk (Kd.S_below (zSx HO_7.out) hb); have n3_ := Aside0.mk (Kd.R_below (zRx HO186.out) hb); have n4_ := Aside0.mk (below_step (zBx HB.out) hb); clear HO_4; clear HO_6; clear HO_7; clear HO186; clear HB; have HO_4 := n0_; have HO_6 := n1_; have HO_7 := n2_; have HO186 := n3_; have HB := n4_; clear n0_ n1_ n2_ n3_ n4_; (try clear hb); (try clear hb2); (try clear hk); (try clear hi)) | ((with_reducible refine gate_callee (f := 21) rfl ?_); refine goesL_ (some 48) rfl rfl Try.func21 (by kernel_rfl) rfl #[.slice Ao13 t176.length co13, .int .i64 1] rfl zlx ?_; (with_reducible refine (laws_markChanceS.calls kj7 (fun k_ => some k_ = (.slice Ao13 t176.length co13 : Value).ownBlock) (.slice Ao13 t176.length co13) t176 1 t188 t189 w _ ?side1 ?side2 A25.out).mono ?_); (case side1 => exact zBx HB.out); (case side2 => exact Kd.R_tight rfl HO_6.out); rintro e w30 ⟨rfl, hy0, hb, hkp⟩; refine ⟨_, rfl, ?_⟩; have n0_ := Aside0.mk (Kd.S_mono (ok' := fun k_ => (some k_ ≠ (v181 : Value).ownBlock ∧ k_ < N_)) (Kd.S_keptB ((Kd.S_apart' HO_4.out (Kd.R_typed HO_6.out) (by decide))) hkp (fun k_ hk_ hs_ => (hk_.2) hs_)) (fun k_ hk_ => hk_.1.1)); have n1_ := Aside0.mk (Kd.R_reok rfl hy0 (fun k_ e_ => HO_6.out.1 k_ e_)); have n2_ := Aside0.mk (Kd.S_mono (ok' := fun k_ => (some k_ ≠ (v174 : Value).ownBlock ∧ N_ ≤ k_)) (Kd.S_keptB ((Kd.S_apart' HO_7.out (Kd.R_typed HO_6.out) (by decide))) hkp (fun k_ hk_ hs_ => (hk_.2) hs_)) (fun k_ hk_ => hk_.1.1)); have n3_ := Aside0.mk (Kd.R_mono (ok' := fun k_ => some k_ ≠ (.slice Ao13 t176.length co13 : Value).ownBlock) (Kd.R_keptB (HO186.out) hkp (fun k_ hk_ hs_ => (hk_.2) hs_)) (fun k_ hk_ => hk_.1.2)); have n4_ := Aside0.mk (hb); clear HO_4; clear HO_6; clear HO_7; clear HO186; clear HB; have HO_4 := n0_; have HO_6 := n1_; have HO_7 := n2_; have HO186 := n3_; have HB := n4_; clear n0_ n1_ n2_ n3_ n4_; (try clear hb); (try clear hkp); (try clear hy0)))
      (try simp only [Act.put, List.setIfInBounds_toArray, List.set_cons_zero, List.set_cons_succ])
      go_cut [61] (fun v61 wc => ∃ (kq : Nat) (x61_25 : Bool), v61 = .bool x61_25 ∧ Aside0 (laws_FnExactReliabilityTable.j1 kq l0 t172 t173 t179 x61_25 = some r) ∧ Aside0 (kq ≤ kj7) ∧ Aside0 (Kd.S (Kd.slice 3 (Kd.int .i64)) 51 wc w.heap.size (fun k_ => (some k_ ≠ (v181 : Value).ownBlock ∧ k_ < N_)) v174 t172) ∧ Aside0 (Kd.S (Kd.slice 3 (Kd.int .i64)) 51 wc w.heap.size (fun k_ => (some k_ ≠ (v174 : Value).ownBlock ∧ N_ ≤ k_)) v181 t179) ∧ Aside0 (Below w.heap.size w wc))
      case first =>
       as_aux_lemma =>
       have H := HC26.out
       clear HC26
       by_cases c31 : t188 < 0
       ·rw [if_pos c31] at H
        have c31b0 : decide (t188 < 0) = true := decide_eq_true c31
        clear c31
        (first | rw [c31b0] | (simp only [i64_w, i32_w]; rw [c31b0]) | skip)
        as_aux_lemma =>
         have H' := Aside0.mk H
         clear H
         go_wp2
         go_meet
         case rel => exact ⟨_, (true), zrx, H', ⟨by have := HJ7.out; first | omega | exact Nat.le_refl _⟩, ⟨by (with_reducible repeat (first | apply Kd.S_alloc | apply Kd.S_drewN | apply Kd.S_drew)); exact HO_4.out⟩, ⟨by (with_reducible repeat (first | apply Kd.S_alloc | apply Kd.S_drewN | apply Kd.S_drew)); exact HO_7.out⟩, ⟨by exact zBx HB.out⟩⟩
       ·rw [if_neg c31] at H
        have c31b0 : decide (t188 < 0) = false := decide_eq_false c31
        clear c31
        (first | rw [c31b0] | (simp only [i64_w, i32_w]; rw [c31b0]) | skip)
        replace H := Option.bind_eq_some_iff.mp H
        obtain ⟨t190, A320, H⟩ := H
        replace H : (if t190 = true then (laws_FnExactReliabilityTable.j1 kj7 l0 t172 t173 t179 (t180 != t173)) else (laws_FnExactReliabilityTable.j1 kj7 l0 t172 t173 t179 true)) = some r := H
        have A32 := Aside0.mk A320
        clear A320
        by_cases c33 : t190 = true
        ·subst c33
         have H1 : (laws_FnExactReliabilityTable.j1 kj7 l0 t172 t173 t179 (t180 != t173)) = some r := by rw [if_pos rfl] at H; exact H
         clear H
         have H := H1
         clear H1
         as_aux_lemma =>
          have H' := Aside0.mk H
          clear H
          obtain ⟨Ao34, co34, eo34⟩ := Kd.S_slice HO_7.out
          subst eo34
          obtain ⟨Ao35, co35, eo35⟩ := Kd.S_slice HO_4.out
          subst eo35
          go_wp2_with (first | (go_at_call 11; (with_reducible refine (laws_eqIntSS.calls kj7 _ _ t179 _ _ t172 true _ ?side1 ?side2 ?side3 ?side4 A32.out).mono ?_); (case side1 => repeat (first | exact (Kd.S_reads' HO_7.out).2.2 | (with_reducible refine Kd.C_alloc ?_ _) | (with_reducible refine Kd.C_drewN ?_ _) | (with_reducible refine Kd.C_drew ?_))); (case side2 => exact (Kd.S_reads' HO_7.out).2.1); (case side3 => repeat (first | exact (Kd.S_reads' HO_4.out).2.2 | (with_reducible refine Kd.C_alloc ?_ _) | (with_reducible refine Kd.C_drewN ?_ _) | (with_reducible refine Kd.C_drew ?_))); (case side4 => exact (Kd.S_reads' HO_4.out).2.1); rintro e w' ⟨rfl, ⟨nd, rfl⟩⟩))
          go_meet
          case rel => exact ⟨_, ((t180 != t173)), zrx, H', ⟨by have := HJ7.out; first | omega | exact Nat.le_refl _⟩, ⟨by (with_reducible repeat (first | apply Kd.S_alloc | apply Kd.S_drewN | apply Kd.S_drew)); exact HO_4.out⟩, ⟨by (with_reducible repeat (first | apply Kd.S_alloc | apply Kd.S_drewN | apply Kd.S_drew)); exact HO_7.out⟩, ⟨by exact zBx HB.out⟩⟩
        ·replace c33 := Bool.eq_false_iff.mpr c33
         subst c33
         have H1 : (laws_FnExactReliabilityTable.j1 kj7 l0 t172 t173 t179 true) = some r := by rw [if_neg (show ¬ (false = true) by decide)] at H; exact H
         clear H
         have H := H1
         clear H1
         as_aux_lemma =>
          have H' := Aside0.mk H
          clear H
          obtain ⟨Ao36, co36, eo36⟩ := Kd.S_slice HO_7.out
          subst eo36
          obtain ⟨Ao37, co37, eo37⟩ := Kd.S_slice HO_4.out
          subst eo37
          go_wp2_with (first | (go_at_call 11; (with_reducible refine (laws_eqIntSS.calls kj7 _ _ t179 _ _ t172 false _ ?side1 ?side2 ?side3 ?side4 A32.out).mono ?_); (case side1 => repeat (first | exact (Kd.S_reads' HO_7.out).2.2 | (with_reducible refine Kd.C_alloc ?_ _) | (with_reducible refine Kd.C_drewN ?_ _) | (with_reducible refine Kd.C_drew ?_))); (case side2 => exact (Kd.S_reads' HO_7.out).2.1); (case side3 => repeat (first | exact (Kd.S_reads' HO_4.out).2.2 | (with_reducible refine Kd.C_alloc ?_ _) | (with_reducible refine Kd.C_drewN ?_ _) | (with_reducible refine Kd.C_drew ?_))); (case side4 => exact (Kd.S_reads' HO_4.out).2.1); rintro e w' ⟨rfl, ⟨nd, rfl⟩⟩))
          go_meet
          case rel => exact ⟨_, (true), zrx, H', ⟨by have := HJ7.out; first | omega | exact Nat.le_refl _⟩, ⟨by (with_reducible repeat (first | apply Kd.S_alloc | apply Kd.S_drewN | apply Kd.S_drew)); exact HO_4.out⟩, ⟨by (with_reducible repeat (first | apply Kd.S_alloc | apply Kd.S_drewN | apply Kd.S_drew)); exact HO_7.out⟩, ⟨by exact zBx HB.out⟩⟩
      case rest =>
       as_aux_lemma =>
       clear HC26
       try clear c1
       try clear c2
       try clear p2
       try clear c3
       try clear c3b0
       try clear c4
       try clear c11
       try clear c16
       try clear c17
       try clear c18
       try clear c19
       try clear c20
       try clear c21
       try clear c24
       try clear c31
       try clear c31b0
       try clear c33
       try clear p2
       obtain ⟨kq, x61_25, rfl, HA, HJ25, HO_4, HO_7, HB⟩ := hcut
       cases kq with
       | zero => exact absurd HA.out (by simp [laws_FnExactReliabilityTable.j1])
       | succ kj25 =>
        have H := HA.out
        clear HA
        simp only [laws_FnExactReliabilityTable.j1] at H
        by_cases c38 : x61_25 = true
        ·subst c38
         have H1 : (some false) = some r := by rw [if_pos rfl] at H; exact H
         clear H
         have H := H1
         clear H1
         as_aux_lemma =>
          exact absurd (Option.some.inj H) (by rw [hr_]; decide)
        ·replace c38 := Bool.eq_false_iff.mpr c38
         subst c38
         have H1 : ((laws_markIntSS.f kj25 t179 1).bind fun bt191 => ((laws_heldIntSS.f kj25 bt191.2 1).bind fun t192 => (if t192 < 0 then (some false) else (if t192 = bt191.1 then ((laws_toChanceS.f kj25 l0).bind fun t193 => ((impl_ReliabilityTable.f kj25 t193).bind fun bt196 => ((laws_eqIntSS.f kj25 bt196.1 t172).bind fun t200 => (if t200 = true then (laws_FnExactReliabilityTable.j2 kj25 bt191.2 bt191.1 (bt196.2 != t173)) else (laws_FnExactReliabilityTable.j2 kj25 bt191.2 bt191.1 true))))) else (some false))))) = some r := by rw [if_neg (show ¬ (false = true) by decide)] at H; exact H
         clear H
         have H := H1
         clear H1
         replace H := Option.bind_eq_some_iff.mp H
         obtain ⟨⟨t191, t179m⟩, A390, H⟩ := H
         replace H : ((laws_heldIntSS.f kj25 t179m 1).bind fun t192 => (if t192 < 0 then (some false) else (if t192 = t191 then ((laws_toChanceS.f kj25 l0).bind fun t193 => ((impl_ReliabilityTable.f kj25 t193).bind fun bt196 => ((laws_eqIntSS.f kj25 bt196.1 t172).bind fun t200 => (if t200 = true then (laws_FnExactReliabilityTable.j2 kj25 t179m t191 (bt196.2 != t173)) else (laws_FnExactReliabilityTable.j2 kj25 t179m t191 true))))) else (some false)))) = some r := H
         have A39 := Aside0.mk A390
         clear A390
         replace H := Option.bind_eq_some_iff.mp H
         obtain ⟨t192, A400, H⟩ := H
         replace H : (if t192 < 0 then (some false) else (if t192 = t191 then ((laws_toChanceS.f kj25 l0).bind fun t193 => ((impl_ReliabilityTable.f kj25 t193).bind fun bt196 => ((laws_eqIntSS.f kj25 bt196.1 t172).bind fun t200 => (if t200 = true then (laws_FnExactReliabilityTable.j2 kj25 t179m t191 (bt196.2 != t173)) else (laws_FnExactReliabilityTable.j2 kj25 t179m t191 true))))) else (some false))) = some r := H
         have A40 := Aside0.mk A400
         clear A400
         by_cases c41 : t192 < 0
         ·rw [if_pos c41] at H
          have c41b0 : decide (t192 < 0) = true := decide_eq_true c41
          clear c41
          as_aux_lemma =>
           exact absurd (Option.some.inj H) (by rw [hr_]; decide)
         ·rw [if_neg c41] at H
          have c41b0 : decide (t192 < 0) = false := decide_eq_false c41
          clear c41
          by_cases c43 : t192 = t191
          ·rw [if_pos c43] at H
           have c43b0 : (t192 == t191) = true := beq_iff_eq.mpr c43
           have c43b1 : (t192 != t191) = false := bne_eq_false_iff_eq.mpr c43
           clear c43
           replace H := Option.bind_eq_some_iff.mp H
           obtain ⟨t193, A440, H⟩ := H
           replace H : ((impl_ReliabilityTable.f kj25 t193).bind fun bt196 => ((laws_eqIntSS.f kj25 bt196.1 t172).bind fun t200 => (if t200 = true then (laws_FnExactReliabilityTable.j2 kj25 t179m t191 (bt196.2 != t173)) else (laws_FnExactReliabilityTable.j2 kj25 t179m t191 true)))) = some r := H
           have A44 := Aside0.mk A440
           clear A440
           replace H := Option.bind_eq_some_iff.mp H
           obtain ⟨⟨t196, t197⟩, A450, H⟩ := H
           replace H : ((laws_eqIntSS.f kj25 t196 t172).bind fun t200 => (if t200 = true then (laws_FnExactReliabilityTable.j2 kj25 t179m t191 (t197 != t173)) else (laws_FnExactReliabilityTable.j2 kj25 t179m t191 true))) = some r := H
           have A45 := Aside0.mk A450
           clear A450
           have HC46 := Aside0.mk H
           clear H
           obtain ⟨Ao47, co47, eo47⟩ : ∃ A c, v181 = .slice A t179m.length c := by
             rw [laws_markIntSS.len A39.out]
             exact Kd.S_slice HO_7.out
           subst eo47
           go_upto_region 25 with (first | ((with_reducible refine gate_callee (f := 14) rfl ?_); refine goesL_ (some 64) rfl rfl Try.func14 (by kernel_rfl) rfl #[.slice Ao47 t179m.length co47, .int .i64 1] rfl zlx ?_; (with_reducible refine (laws_markIntSS.calls kj25 (fun k_ => (some k_ ≠ (v174 : Value).ownBlock ∧ N_ ≤ k_)) (.slice Ao47 t179m.length co47) t179 1 t191 t179m w _ ?side1 ?side2 A39.out).mono ?_); (case side1 => exact zBx HB.out); (case side2 => exact zSx HO_7.out); rintro e wm_ ⟨rfl, hy0, hb, hkp⟩; refine ⟨_, rfl, ?_⟩; have n0_ := Aside0.mk (Kd.S_kept (ok := fun k_ => (some k_ ≠ (.slice Ao47 t179m.length co47 : Value).ownBlock ∧ k_ < N_)) (zSx HO_4.out) hkp (fun k_ hk_ hs_ => Nat.not_lt.2 hs_.2 hk_.2)); have n1_ := Aside0.mk hy0; have n2_ := Aside0.mk hb; clear HO_4; clear HO_7; clear HB; have HO_4 := n0_; have HO_7 := n1_; have HB := n2_; clear n0_ n1_ n2_; (try clear hb); (try clear hkp); (try clear hy0)) | ((with_reducible refine gate_callee (f := 15) rfl ?_); refine goesL_ (some 67) rfl rfl Try.func15 (by kernel_rfl) rfl #[.slice Ao47 t179m.length co47, .int .i64 1] rfl zlx ?_; (with_reducible refine (laws_heldIntSS.calls kj25 _ _ t179m 1 t192 _ ?side1 ?side2 A40.out).mono ?_); (case side1 => repeat (first | exact (Kd.S_reads' HO_7.out).2.2 | (with_reducible refine Kd.C_alloc ?_ _) | (with_reducible refine Kd.C_drewN ?_ _) | (with_reducible refine Kd.C_drew ?_))); (case side2 => exact (Kd.S_reads' HO_7.out).2.1); rintro e w' ⟨rfl, ⟨nd, rfl⟩⟩; refine ⟨_, rfl, ?_⟩) | ((with_reducible refine gate_callee (f := 18) rfl ?_); refine goesL_ (some 75) rfl rfl Try.func18 (by kernel_rfl) rfl #[.slice A0 l0.length c0] rfl zlx ?_; (with_reducible refine (laws_toChanceS.calls kj25 _ _ l0 t193 _ ?side1 ?side2 A44.out).mono ?_); (case side1 => repeat (first | exact (Kd.C_below HR0.out (zBx HB.out)) | (with_reducible refine Kd.C_alloc ?_ _) | (with_reducible refine Kd.C_drewN ?_ _) | (with_reducible refine Kd.C_drew ?_))); (case side2 => exact HC0.out); rintro e w48 ⟨v194, rfl, ho0, hb⟩; refine ⟨_, rfl, ?_⟩; have n0_ := Aside0.mk (Kd.S_below (zSx HO_4.out) hb); have n1_ := Aside0.mk (Kd.S_below (zSx HO_7.out) hb); have n2_ := Aside0.mk (Kd.R_lower ho0 (below_size (zBx HB.out))); have n3_ := Aside0.mk (below_step (zBx HB.out) hb); clear HO_4; clear HO_7; clear HB; have HO_4 := n0_; have HO_7 := n1_; have HO195 := n2_; have HB := n3_; clear n0_ n1_ n2_ n3_; (try clear hb); (try clear hb2); (try clear hk); (try clear hi); (try clear ho0); obtain ⟨Ao49, co49, eo49⟩ := Kd.R_slice HO195.out; subst eo49) | ((with_reducible refine gate_callee (f := 19) rfl ?_); refine goesL_ (some 76) rfl rfl Try.func19 (by kernel_rfl) rfl #[.slice Ao49 t193.length co49] rfl zlx ?_; (with_reducible refine (impl_ReliabilityTable.calls kj25 _ _ t193 t196 t197 _ ?side1 ?side2 A45.out).mono ?_); (case side1 => repeat (first | exact (Kd.R_reads' HO195.out).2.2 | (with_reducible refine Kd.C_alloc ?_ _) | (with_reducible refine Kd.C_drewN ?_ _) | (with_reducible refine Kd.C_drew ?_))); (case side2 => exact (Kd.R_reads' HO195.out).2.1); rintro e w50 ⟨v198, rfl, ho0, hb⟩; refine ⟨_, rfl, ?_⟩; have n0_ := Aside0.mk (Kd.S_elder' (zSx HO_4.out) (Kd.S_base ho0) hb); have n1_ := Aside0.mk (Kd.S_elder' (zSx HO_7.out) (Kd.S_base ho0) hb); have n2_ := Aside0.mk (Kd.R_below (zRx HO195.out) hb); have n3_ := Aside0.mk (Kd.S_lower (Kd.S_new' (Kd.S_new' ho0 (Kd.S_lt (zSx HO_4.out))) (Kd.S_lt (zSx HO_7.out))) (below_size (zBx HB.out))); have n4_ := Aside0.mk (below_step (zBx HB.out) hb); clear HO_4; clear HO_7; clear HO195; clear HB; have HO_4 := n0_; have HO_7 := n1_; have HO195 := n2_; have HO199 := n3_; have HB := n4_; clear n0_ n1_ n2_ n3_ n4_; (try clear hb); (try clear hb2); (try clear hk); (try clear hi); (try clear ho0)))
           (try simp only [Act.put, List.setIfInBounds_toArray, List.set_cons_zero, List.set_cons_succ])
           go_cut [87] (fun v87 wc => ∃ (kq : Nat) (x87_45 : Bool), v87 = .bool x87_45 ∧ Aside0 (laws_FnExactReliabilityTable.j2 kq t179m t191 x87_45 = some r) ∧ Aside0 (kq ≤ kj25) ∧ Aside0 (Kd.S (Kd.slice 3 (Kd.int .i64)) 51 wc w.heap.size (fun _ => True) (.slice Ao47 t179m.length co47) t179m) ∧ Aside0 (Below w.heap.size w wc))
           case first =>
            as_aux_lemma =>
            have H := HC46.out
            clear HC46
            replace H := Option.bind_eq_some_iff.mp H
            obtain ⟨t200, A510, H⟩ := H
            replace H : (if t200 = true then (laws_FnExactReliabilityTable.j2 kj25 t179m t191 (t197 != t173)) else (laws_FnExactReliabilityTable.j2 kj25 t179m t191 true)) = some r := H
            have A51 := Aside0.mk A510
            clear A510
            by_cases c52 : t200 = true
            ·subst c52
             have H1 : (laws_FnExactReliabilityTable.j2 kj25 t179m t191 (t197 != t173)) = some r := by rw [if_pos rfl] at H; exact H
             clear H
             have H := H1
             clear H1
             as_aux_lemma =>
              have H' := Aside0.mk H
              clear H
              obtain ⟨Ao53, co53, eo53⟩ := Kd.S_slice HO199.out
              subst eo53
              obtain ⟨Ao54, co54, eo54⟩ := Kd.S_slice HO_4.out
              subst eo54
              go_wp2_with (first | ((with_reducible refine gate_callee (f := 11) rfl ?_); refine goesL_ (some 81) rfl rfl Try.func11 (by kernel_rfl) rfl #[.slice Ao53 t196.length co53, .slice Ao54 t172.length co54] rfl zlx ?_; (with_reducible refine (laws_eqIntSS.calls kj25 _ _ t196 _ _ t172 true _ ?side1 ?side2 ?side3 ?side4 A51.out).mono ?_); (case side1 => repeat (first | exact (Kd.S_reads' HO199.out).2.2 | (with_reducible refine Kd.C_alloc ?_ _) | (with_reducible refine Kd.C_drewN ?_ _) | (with_reducible refine Kd.C_drew ?_))); (case side2 => exact (Kd.S_reads' HO199.out).2.1); (case side3 => repeat (first | exact (Kd.S_reads' HO_4.out).2.2 | (with_reducible refine Kd.C_alloc ?_ _) | (with_reducible refine Kd.C_drewN ?_ _) | (with_reducible refine Kd.C_drew ?_))); (case side4 => exact (Kd.S_reads' HO_4.out).2.1); rintro e w' ⟨rfl, ⟨nd, rfl⟩⟩; refine ⟨_, rfl, ?_⟩))
              go_meet
              case rel => exact ⟨_, ((t197 != t173)), zrx, H', ⟨by have := HJ7.out; have := HJ25.out; first | omega | exact Nat.le_refl _⟩, ⟨by (with_reducible repeat (first | apply Kd.S_alloc | apply Kd.S_drewN | apply Kd.S_drew)); exact Kd.S_mono HO_7.out (fun _ hk => trivial)⟩, ⟨by exact zBx HB.out⟩⟩
            ·replace c52 := Bool.eq_false_iff.mpr c52
             subst c52
             have H1 : (laws_FnExactReliabilityTable.j2 kj25 t179m t191 true) = some r := by rw [if_neg (show ¬ (false = true) by decide)] at H; exact H
             clear H
             have H := H1
             clear H1
             as_aux_lemma =>
              have H' := Aside0.mk H
              clear H
              obtain ⟨Ao55, co55, eo55⟩ := Kd.S_slice HO199.out
              subst eo55
              obtain ⟨Ao56, co56, eo56⟩ := Kd.S_slice HO_4.out
              subst eo56
              go_wp2_with (first | ((with_reducible refine gate_callee (f := 11) rfl ?_); refine goesL_ (some 81) rfl rfl Try.func11 (by kernel_rfl) rfl #[.slice Ao55 t196.length co55, .slice Ao56 t172.length co56] rfl zlx ?_; (with_reducible refine (laws_eqIntSS.calls kj25 _ _ t196 _ _ t172 false _ ?side1 ?side2 ?side3 ?side4 A51.out).mono ?_); (case side1 => repeat (first | exact (Kd.S_reads' HO199.out).2.2 | (with_reducible refine Kd.C_alloc ?_ _) | (with_reducible refine Kd.C_drewN ?_ _) | (with_reducible refine Kd.C_drew ?_))); (case side2 => exact (Kd.S_reads' HO199.out).2.1); (case side3 => repeat (first | exact (Kd.S_reads' HO_4.out).2.2 | (with_reducible refine Kd.C_alloc ?_ _) | (with_reducible refine Kd.C_drewN ?_ _) | (with_reducible refine Kd.C_drew ?_))); (case side4 => exact (Kd.S_reads' HO_4.out).2.1); rintro e w' ⟨rfl, ⟨nd, rfl⟩⟩; refine ⟨_, rfl, ?_⟩))
              go_meet
              case rel => exact ⟨_, (true), zrx, H', ⟨by have := HJ7.out; have := HJ25.out; first | omega | exact Nat.le_refl _⟩, ⟨by (with_reducible repeat (first | apply Kd.S_alloc | apply Kd.S_drewN | apply Kd.S_drew)); exact Kd.S_mono HO_7.out (fun _ hk => trivial)⟩, ⟨by exact zBx HB.out⟩⟩
           case rest =>
            as_aux_lemma =>
            clear HC46
            try clear c1
            try clear c2
            try clear p2
            try clear c3
            try clear c3b0
            try clear c4
            try clear c5
            try clear c11
            try clear c14
            try clear c15
            try clear c16
            try clear c17
            try clear c18
            try clear c19
            try clear c20
            try clear c21
            try clear c24
            try clear c31
            try clear c31b0
            try clear c33
            try clear c38
            try clear c41
            try clear c41b0
            try clear c43
            try clear c43b0
            try clear c43b1
            try clear c52
            try clear p2
            obtain ⟨kq, x87_45, rfl, HA, HJ45, HO_7, HB⟩ := hcut
            cases kq with
            | zero => exact absurd HA.out (by simp [laws_FnExactReliabilityTable.j2])
            | succ kj45 =>
             have H := HA.out
             clear HA
             simp only [laws_FnExactReliabilityTable.j2] at H
             by_cases c57 : x87_45 = true
             ·subst c57
              have H1 : (some false) = some r := by rw [if_pos rfl] at H; exact H
              clear H
              have H := H1
              clear H1
              as_aux_lemma =>
               exact absurd (Option.some.inj H) (by rw [hr_]; decide)
             ·replace c57 := Bool.eq_false_iff.mpr c57
              subst c57
              have H1 : ((laws_heldIntSS.f kj45 t179m 1).bind fun t201 => (if t201 < 0 then (some false) else (if t201 = t191 then (some true) else (some false)))) = some r := by rw [if_neg (show ¬ (false = true) by decide)] at H; exact H
              clear H
              have H := H1
              clear H1
              replace H := Option.bind_eq_some_iff.mp H
              obtain ⟨t201, A580, H⟩ := H
              replace H : (if t201 < 0 then (some false) else (if t201 = t191 then (some true) else (some false))) = some r := H
              have A58 := Aside0.mk A580
              clear A580
              by_cases c59 : t201 < 0
              ·rw [if_pos c59] at H
               have c59b0 : decide (t201 < 0) = true := decide_eq_true c59
               clear c59
               as_aux_lemma =>
                exact absurd (Option.some.inj H) (by rw [hr_]; decide)
              ·rw [if_neg c59] at H
               have c59b0 : decide (t201 < 0) = false := decide_eq_false c59
               clear c59
               by_cases c60 : t201 = t191
               ·rw [if_pos c60] at H
                have c60b0 : (t201 == t191) = true := beq_iff_eq.mpr c60
                have c60b1 : (t201 != t191) = false := bne_eq_false_iff_eq.mpr c60
                clear c60
                as_aux_lemma =>
                 obtain rfl := Option.some.inj H
                 go_wp2_with (first | ((with_reducible refine gate_callee (f := 15) rfl ?_); refine goesL_ (some 90) rfl rfl Try.func15 (by kernel_rfl) rfl #[.slice Ao47 t179m.length co47, .int .i64 1] rfl zlx ?_; (with_reducible refine (laws_heldIntSS.calls kj45 _ _ t179m 1 t201 _ ?side1 ?side2 A58.out).mono ?_); (case side1 => repeat (first | exact (Kd.S_reads' HO_7.out).2.2 | (with_reducible refine Kd.C_alloc ?_ _) | (with_reducible refine Kd.C_drewN ?_ _) | (with_reducible refine Kd.C_drew ?_))); (case side2 => exact (Kd.S_reads' HO_7.out).2.1); rintro e w' ⟨rfl, ⟨nd, rfl⟩⟩; refine ⟨_, rfl, ?_⟩))
                 go_ret
                 exact ⟨by first | rfl | (simp [errW_none, errW_some] <;> rfl) | (simp [*, errW_none, errW_some] <;> rfl), by exact zBx HB.out⟩
               ·rw [if_neg c60] at H
                have c60b0 : (t201 == t191) = false := beq_eq_false_iff_ne.mpr c60
                have c60b1 : (t201 != t191) = true := bne_iff_ne.mpr c60
                as_aux_lemma =>
                 exact absurd (Option.some.inj H) (by rw [hr_]; decide)
          ·rw [if_neg c43] at H
           have c43b0 : (t192 == t191) = false := beq_eq_false_iff_ne.mpr c43
           have c43b1 : (t192 != t191) = true := bne_iff_ne.mpr c43
           as_aux_lemma =>
            exact absurd (Option.some.inj H) (by rw [hr_]; decide)
     ·replace c24 := Bool.eq_false_iff.mpr c24
      subst c24
      have H1 : (some false) = some r := by rw [if_neg (show ¬ (false = true) by decide)] at H; exact H
      clear H
      have H := H1
      clear H1
      as_aux_lemma =>
       exact absurd (Option.some.inj H) (by rw [hr_]; decide)

end Go.Proofs.Ytppjagpjlcbhpaa.XFnExactReliabilityTable
