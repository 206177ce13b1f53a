-- written by wip/tools/xprint.py (a program of this project) out of the translation
import Derived.Test.YtkegkbpadhddkaaXFnTwoCoursesx0
import Derived.Test.YtkegkbpadhddkaaXFnTwoCoursesx4
namespace Go.Proofs.Ytkegkbpadhddkaa.XFnTwoCourses
open Go.RowKit Go.Proofs.YtkegkbpadhddkaaW.PrintWords Go.Proofs.YtkegkbpadhddkaaW.PrintLast Go.Proofs.YtkegkbpadhddkaaW.PrintMore
attribute [local go_sem] max2_int min2_int max_two min_two max_three min_three max_four min_four   -- for this text's walks alone
set_option linter.unusedVariables false
set_option linter.unusedSimpArgs false

/-! ### impl_courseOf: function 74 -/
def impl_courseOf.l0 : Nat → List (S41) → List Int → Int → Int → Option ((List (S41)) × Bool)
 | 0, _, _, _, _ => none
 | k + 1, x4, x8, x9, x10 => if x10 < x9 then (if 0 ≤ x10 then (if x10 < (x8.length : Int) then (if (rd x8 x10) = 0 then (impl_courseOf.l0 k x4 x8 x9 (wrap64 (x10 + 1))) else (if (x4.length : Int) > 0 then (if 0 ≤ (wrap64 ((x4.length : Int) - 1)) then (if (wrap64 ((x4.length : Int) - 1)) < (x4.length : Int) then (if ((rd_T41 x4 (wrap64 ((x4.length : Int) - 1))).f1) = x10 then (if ((rd_T41 x4 (wrap64 ((x4.length : Int) - 1))).f2) = (rd x8 x10) then (impl_courseOf.l0 k (x4.set ((wrap64 ((x4.length : Int) - 1)) : Int).toNat (⟨(rd_T41 x4 (wrap64 ((x4.length : Int) - 1))).f0, wrap64 (((rd_T41 x4 (wrap64 ((x4.length : Int) - 1))).f1) + 1), (rd_T41 x4 (wrap64 ((x4.length : Int) - 1))).f2⟩ : S41)) x8 x9 (wrap64 (x10 + 1))) else (if x4.length < 5864062014805 then (impl_courseOf.l0 k (x4 ++ [(⟨x10, wrap64 (x10 + 1), rd x8 x10⟩ : S41)]) x8 x9 (wrap64 (x10 + 1))) else (none))) else (if x4.length < 5864062014805 then (impl_courseOf.l0 k (x4 ++ [(⟨x10, wrap64 (x10 + 1), rd x8 x10⟩ : S41)]) x8 x9 (wrap64 (x10 + 1))) else (none))) else (none)) else (none)) else (if x4.length < 5864062014805 then (impl_courseOf.l0 k (x4 ++ [(⟨x10, wrap64 (x10 + 1), rd x8 x10⟩ : S41)]) x8 x9 (wrap64 (x10 + 1))) else (none)))) else (none)) else (none)) else (if (x4.length : Int) > 12 then (some (([] : List (S41)), false)) else (some (x4, true)))
def impl_courseOf.f (k : Nat) (l0 : List Int) : Option ((List (S41)) × Bool) := impl_courseOf.l0 k ([] : List (S41)) l0 (l0.length : Int) 0
theorem impl_courseOf.mono_l : ∀ k, (∀ y0 y1 y2 y3, LeO (impl_courseOf.l0 k y0 y1 y2 y3) (impl_courseOf.l0 (k + 1) y0 y1 y2 y3))
 | 0 => fun _ _ _ _ r h => by simp [impl_courseOf.l0] at h
 | k + 1 => by
  have ih0 := impl_courseOf.mono_l k
  ·intro y0 y1 y2 y3
   unfold impl_courseOf.l0
   repeat' first
   | (with_reducible exact ih0 _ _ _ _)
   | (with_reducible exact LeO.refl _)
   | (with_reducible exact LeO.none _)
   | (with_reducible refine LeO.ite ?_ ?_)
   | (with_reducible refine LeO.bind ?_ (fun _ => ?_))
   | exact ih0 _ _ _ _
   | exact LeO.none _
   | refine LeO.ite ?_ ?_
   | refine LeO.bind ?_ (fun _ => ?_)
theorem impl_courseOf.mono : ∀ a0 k, LeO (impl_courseOf.f k a0) (impl_courseOf.f (k + 1) a0) := by
 intro a0 k
 have ih0 := impl_courseOf.mono_l k
 unfold impl_courseOf.f
 repeat' first
  | (with_reducible exact ih0 _ _ _ _)
  | (with_reducible exact LeO.refl _)
  | (with_reducible exact LeO.none _)
  | (with_reducible refine LeO.ite ?_ ?_)
  | (with_reducible refine LeO.bind ?_ (fun _ => ?_))
  | exact ih0 _ _ _ _
  | exact LeO.none _
  | refine LeO.ite ?_ ?_
  | refine LeO.bind ?_ (fun _ => ?_)
set_option maxHeartbeats 8000000 in
set_option maxRecDepth 100000 in
theorem impl_courseOf.calls (k : Nat) (A0 : Option Addr) (c0 : Nat) (l0 : List Int) (r1 : List (S41)) (r2 : Bool) (w : World) (hr0 : Kd.C (Kd.int .i64) w A0 l0.length l0) (hc0 : l0.length ≤ c0) (h : impl_courseOf.f k l0 = some (r1, r2)) :
 Calls Try.prog 74 #[.slice A0 l0.length c0] w fun e w' => ∃ v0_ : Value, e = .returned (.tuple #[v0_, .bool r2]) ∧ Kd.R k41 41 w' w.heap.size (fun _ => True) v0_ r1 ∧ Below w.heap.size w w' := by
 have hu41 := Try.underlying41
 have HR0 := Aside0.mk hr0
 have HC0 := Aside0.mk hc0
 clear hr0 hc0
 have HB := Aside0.mk (Below.refl w.heap.size w)
 have H : (impl_courseOf.l0 k ([] : List (S41)) l0 (l0.length : Int) 0) = some (r1, r2) := h
 clear h
 have H' := Aside0.mk H
 clear H
 go_enter Try.func74, Try.ntmps74
 go_wp2
 go_loopg [4, 10] k (fun kq v4 v10 w' => ∃ (x4_1 : List (S41)) (x10_1 : Int), v10 = .int .i64 x10_1 ∧ Aside0 (impl_courseOf.l0 kq x4_1 l0 (l0.length : Int) x10_1 = some (r1, r2)) ∧ Aside0 (kq ≤ k) ∧ Aside0 (Kd.R k41 41 w' w.heap.size (fun _ => True) v4 x4_1) ∧ Aside0 (Below w.heap.size w w'))
 case atStart => exact ⟨(([] : List (S41))), (0), zrx, H', ⟨Nat.le_refl _⟩, ⟨by first | exact Kd.R_nil _ _ _ _ _ | exact Kd.N_nil _ _ _ _ _ | exact Kd.V_nil _ _ _ _ _ | exact Kd.Q_nil _ _ _ _ _ | exact Kd.S_nil _ _ _ _ _⟩, ⟨by exact zBx HB.out⟩⟩
 case round =>
  clear H'
  obtain ⟨x4_1, x10_1, rfl, HA, HK1, HO_4, HB⟩ := hrel
  cases gk with
  | zero => exact absurd HA.out (by simp [impl_courseOf.l0])
  | succ k1 =>
   have H := HA.out
   clear HA
   simp only [impl_courseOf.l0] at H
   by_cases c2 : x10_1 < (l0.length : Int)
   ·rw [if_pos c2] at H
    have c2b0 : decide (x10_1 < (l0.length : Int)) = true := decide_eq_true c2
    clear c2
    by_cases c3 : 0 ≤ x10_1
    ·rw [if_pos c3] at H
     have c3b0 : decide (0 ≤ x10_1) = true := decide_eq_true c3
     clear c3
     by_cases c4 : x10_1 < (l0.length : Int)
     ·rw [if_pos c4] at H
      have c4b0 : decide (x10_1 < (l0.length : Int)) = true := decide_eq_true c4
      clear c4
      by_cases c5 : (rd l0 x10_1) = 0
      ·rw [if_pos c5] at H
       have c5b0 : ((rd l0 x10_1) == 0) = true := beq_iff_eq.mpr c5
       have c5b1 : ((rd l0 x10_1) != 0) = false := bne_eq_false_iff_eq.mpr c5
       clear c5
       focus
        have H' := Aside0.mk H
        clear H
        have p236 : 0 ≤ (x10_1 : Int) := of_decide_eq_true zax
        have q236 : x10_1 < (l0.length : Int) := of_decide_eq_true zax
        obtain ⟨ad236, e236, hx236_0⟩ := Kd.at_int HR0.out x10_1 p236 q236
        cases e236
        replace hx236_0 := (HB.out.cell (World.block_lt_of_cell? w _ hx236_0)).trans hx236_0
        replace p236 := eq_true p236
        replace q236 := eq_true q236
        go_wp2
        go_roundg k1
        case measure => have := HK1.out; omega
        case rel => exact ⟨(x4_1), (wrap64 (x10_1 + 1)), zrx, H', ⟨by have := HK1.out; omega⟩, ⟨by (with_reducible repeat (first | apply Kd.R_alloc | apply Kd.R_drewN | apply Kd.R_drew)); exact HO_4.out⟩, ⟨by exact zBx HB.out⟩⟩
      ·rw [if_neg c5] at H
       have c5b0 : ((rd l0 x10_1) == 0) = false := beq_eq_false_iff_ne.mpr c5
       have c5b1 : ((rd l0 x10_1) != 0) = true := bne_iff_ne.mpr c5
       by_cases c6 : (x4_1.length : Int) > 0
       ·rw [if_pos c6] at H
        have c6b0 : decide (0 < (x4_1.length : Int)) = true := decide_eq_true c6
        have c6b1 : decide (0 < x4_1.length) = true := decide_eq_true (by omega)
        clear c6
        obtain ⟨ji7, hji7⟩ : ∃ j_ : Int, (wrap64 ((x4_1.length : Int) - 1)) = j_ := ⟨_, rfl⟩
        replace H : (if 0 ≤ (ji7) then (if (ji7) < (x4_1.length : Int) then (if ((rd_T41 x4_1 (ji7)).f1) = x10_1 then (if ((rd_T41 x4_1 (ji7)).f2) = (rd l0 x10_1) then (impl_courseOf.l0 k1 (x4_1.set ((ji7) : Int).toNat (⟨(rd_T41 x4_1 (ji7)).f0, wrap64 (((rd_T41 x4_1 (ji7)).f1) + 1), (rd_T41 x4_1 (ji7)).f2⟩ : S41)) l0 (l0.length : Int) (wrap64 (x10_1 + 1))) else (if x4_1.length < 5864062014805 then (impl_courseOf.l0 k1 (x4_1 ++ [(⟨x10_1, wrap64 (x10_1 + 1), rd l0 x10_1⟩ : S41)]) l0 (l0.length : Int) (wrap64 (x10_1 + 1))) else (none))) else (if x4_1.length < 5864062014805 then (impl_courseOf.l0 k1 (x4_1 ++ [(⟨x10_1, wrap64 (x10_1 + 1), rd l0 x10_1⟩ : S41)]) l0 (l0.length : Int) (wrap64 (x10_1 + 1))) else (none))) else (none)) else (none)) = some (r1, r2) := by first | (rw [hji7] at H; exact H) | (simp only [hji7] at H ⊢; exact H)
        have hji7w : (IntKind.i64.wrap ((x4_1.length : Int) - 1)) = ji7 := (i64_w _).trans hji7
        by_cases c8 : 0 ≤ (ji7)
        ·rw [if_pos c8] at H
         have c8b0 : decide (0 ≤ (ji7)) = true := decide_eq_true c8
         clear c8
         by_cases c9 : (ji7) < (x4_1.length : Int)
         ·rw [if_pos c9] at H
          have c9b0 : decide ((ji7) < (x4_1.length : Int)) = true := decide_eq_true c9
          clear c9
          by_cases c10 : ((rd_T41 x4_1 (ji7)).f1) = x10_1
          ·rw [if_pos c10] at H
           have c10b0 : (((rd_T41 x4_1 (ji7)).f1) == x10_1) = true := beq_iff_eq.mpr c10
           have c10b1 : (((rd_T41 x4_1 (ji7)).f1) != x10_1) = false := bne_eq_false_iff_eq.mpr c10
           clear c10
           by_cases c11 : ((rd_T41 x4_1 (ji7)).f2) = (rd l0 x10_1)
           ·rw [if_pos c11] at H
            have c11b0 : (((rd_T41 x4_1 (ji7)).f2) == (rd l0 x10_1)) = true := beq_iff_eq.mpr c11
            have c11b1 : (((rd_T41 x4_1 (ji7)).f2) != (rd l0 x10_1)) = false := bne_eq_false_iff_eq.mpr c11
            clear c11
            obtain ⟨y240, hy240⟩ : ∃ y_ : List (S41), y_ = (x4_1.set ((ji7) : Int).toNat (⟨(rd_T41 x4_1 (ji7)).f0, wrap64 (((rd_T41 x4_1 (ji7)).f1) + 1), (rd_T41 x4_1 (ji7)).f2⟩ : S41)) := ⟨_, rfl⟩
            replace H : (impl_courseOf.l0 k1 y240 l0 (l0.length : Int) (wrap64 (x10_1 + 1))) = some (r1, r2) := by first | (rw [hy240]; with_reducible exact H) | (have H2_ := (Option.bind_some _ _).symm.trans H; rw [hy240]; with_reducible exact H2_) | (have H2_ := (Option.bind_some _ _).symm.trans H; with_reducible exact H2_) | with_reducible exact H | (rw [hy240]; exact H) | exact H
            have Ny240 := Aside0.mk hy240
            clear hy240
            focus
             have H' := Aside0.mk H
             clear H
             have p236 : 0 ≤ (x10_1 : Int) := of_decide_eq_true zax
             have q236 : x10_1 < (l0.length : Int) := of_decide_eq_true zax
             obtain ⟨ad236, e236, hx236_0⟩ := Kd.at_int HR0.out x10_1 p236 q236
             cases e236
             replace hx236_0 := (HB.out.cell (World.block_lt_of_cell? w _ hx236_0)).trans hx236_0
             replace p236 := eq_true p236
             replace q236 := eq_true q236
             obtain ⟨Ao13, co13, eo13⟩ := Kd.R_slice HO_4.out
             subst eo13
             have p237 : 0 ≤ ((ji7) : Int) := of_decide_eq_true zax
             have q237 : (ji7) < (x4_1.length : Int) := of_decide_eq_true zax
             obtain ⟨ad237, e237, hx237_0, hx237_1, hx237_2⟩ := at_T41 (Kd.R_reads' HO_4.out).2.2 (ji7) p237 q237
             cases e237
             replace p237 := eq_true p237
             replace q237 := eq_true q237
             have p238 : 0 ≤ ((ji7) : Int) := of_decide_eq_true zax
             have q238 : (ji7) < (x4_1.length : Int) := of_decide_eq_true zax
             obtain ⟨ad238, e238, hx238_0, hx238_1, hx238_2⟩ := at_T41 (Kd.R_reads' HO_4.out).2.2 (ji7) p238 q238
             obtain rfl : ad237 = ad238 := (by injection e238)
             replace p238 := eq_true p238
             replace q238 := eq_true q238
             have p239 : 0 ≤ ((ji7) : Int) := of_decide_eq_true zax
             have q239 : (ji7) < (x4_1.length : Int) := of_decide_eq_true zax
             obtain ⟨ad239, e239, hx239_0, hx239_1, hx239_2⟩ := at_T41 (Kd.R_reads' HO_4.out).2.2 (ji7) p239 q239
             obtain rfl : ad237 = ad239 := (by injection e239)
             replace p239 := eq_true p239
             replace q239 := eq_true q239
             have p12 : 0 ≤ ((ji7) : Int) := of_decide_eq_true zax
             have q12 : ((ji7) : Int) < ((x4_1.length : Int) : Int) := of_decide_eq_true zax
             obtain ⟨go12, co12, eo12, gb12, gl12, cl12, HG12⟩ := Kd.R_form HO_4.out (by omega)
             (first | cases eo12 | (injection eo12 with ea_ en_ ec_; (first | subst ea_ | (injection ea_ with ea_; subst ea_)); subst ec_; clear en_))
             have GB12 := Aside0.mk gb12
             have GG12 := Aside0.mk HG12
             clear gb12 gl12 HG12
             (first | simp only [add_plain] at hx237_0 | skip)
             (first | simp only [add_plain] at hx237_1 | skip)
             (first | simp only [add_plain] at hx237_2 | skip)
             (first | simp only [add_plain] at hx238_0 | skip)
             (first | simp only [add_plain] at hx238_1 | skip)
             (first | simp only [add_plain] at hx238_2 | skip)
             (first | simp only [add_plain] at hx239_0 | skip)
             (first | simp only [add_plain] at hx239_1 | skip)
             (first | simp only [add_plain] at hx239_2 | skip)
             obtain ⟨ce12, hcl12, hM12, hcc12, hfr12⟩ := Kd.R_elem HO_4.out z41 ((ji7) : Int) p12 q12
             obtain rfl := k41_openM hM12
             have hx12_0 : wr.cell? ⟨go12, ((ji7) : Int).toNat * 3, none⟩ = some (.int .i64 ((rd_T41 x4_1 (ji7)).f0)) := hcc12 0 _ rfl
             have hx12_1 : wr.cell? ⟨go12, ((ji7) : Int).toNat * 3 + 1, none⟩ = some (.int .i64 ((rd_T41 x4_1 (ji7)).f1)) := hcc12 1 _ rfl
             have hx12_2 : wr.cell? ⟨go12, ((ji7) : Int).toNat * 3 + 2, none⟩ = some (.int .i64 ((rd_T41 x4_1 (ji7)).f2)) := hcc12 2 _ rfl
             have hf12_0 : wr.frozen? ⟨go12, ((ji7) : Int).toNat * 3, none⟩ = false := hfr12 0
             have hf12_1 : wr.frozen? ⟨go12, ((ji7) : Int).toNat * 3 + 1, none⟩ = false := hfr12 1
             have hf12_2 : wr.frozen? ⟨go12, ((ji7) : Int).toNat * 3 + 2, none⟩ = false := hfr12 2
             clear hcl12 hcc12 hfr12 hM12
             replace p12 := eq_true p12
             replace q12 := eq_true q12
             have HX14 := Aside0.mk (show Kd.R k41 41 wr w.heap.size (fun _ => True) (.slice (some ⟨go12, 0, none⟩) x4_1.length co13) x4_1 from (zRx HO_4.out))
             obtain ⟨ce14, hcl14, hM14, hcc14, hfr14⟩ := Kd.R_elem HX14.out z41 ((ji7) : Int) (of_decide_eq_true zax) (by have h_ : ((ji7) : Int) < ((x4_1.length : Int) : Int) := of_decide_eq_true zax; first | exact h_ | (have e_ := (Kd.R_reads' HO_4.out).1; omega) | simpa using h_)
             obtain rfl := k41_openM hM14
             have HP14 := Kd.R_seg HX14.out ((ji7) : Int) (of_decide_eq_true zax) (by have h_ : ((ji7) : Int) < ((x4_1.length : Int) : Int) := of_decide_eq_true zax; first | exact h_ | (have e_ := (Kd.R_reads' HO_4.out).1; omega) | simpa using h_) (seg := [.int .i64 (wrap64 (((rd_T41 x4_1 (ji7)).f1) + 1))]) (j := 1) hcl14 hcc14 (show 2 ≤ 3 from by decide) (x' := (⟨(rd_T41 x4_1 (ji7)).f0, wrap64 (((rd_T41 x4_1 (ji7)).f1) + 1), (rd_T41 x4_1 (ji7)).f2⟩ : S41)) (k41_mkM _ _ _ (⟨(rd_T41 x4_1 (ji7)).f0, wrap64 (((rd_T41 x4_1 (ji7)).f1) + 1), (rd_T41 x4_1 (ji7)).f2⟩ : S41) ) (fun _ hk => hk)
             have hx14_1 := hcc14 1 _ rfl
             (try simp only [show (k41).sz = 3 from rfl, Nat.mul_one, Nat.add_zero] at hx14_1)
             have hf14_1 := hfr14 1
             (try simp only [show (k41).sz = 3 from rfl, Nat.mul_one, Nat.add_zero] at hf14_1)
             clear hcl14 hcc14 hfr14 hM14
             go_wp2_with (first | ((with_reducible refine gate_store (t := 3) (p := 49) rfl ?_); refine store_event (t := 3) (p := 49) (v := ?vo_w15) (w1 := (wr.setCell ⟨go12, ((ji7) : Int).toNat * 3 + 1, none⟩ (.int .i64 (wrap64 (((rd_T41 x4_1 (ji7)).f1) + 1))))) ?hg ?ho ?hn ?hr ?_; (case ho => rfl); (case hg => rfl); (case hn => rfl); (case hr => exact zsx); intro w15 hw; have hg : wr.grownBy w15 (some go12) := (by rw [hw]; exact HP14.2); have hp_ : Kd.R k41 41 w15 w.heap.size (fun _ => True) (.slice (some ⟨go12, 0, none⟩) x4_1.length co13) y240 := (by rw [hw, Ny240.out]; exact HP14.1); clear HP14; have n0_ := Aside0.mk (hp_); have n1_ := Aside0.mk ((by rw [hw]; exact below_set (HB.out) GB12.out : Below w.heap.size w w15)); clear HO_4; clear HB; have HO_4 := n0_; have HB := n1_; clear n0_ n1_; clear hg hw hp_))
             go_roundg k1
             case measure => have := HK1.out; omega
             case rel => exact ⟨(y240), (wrap64 (x10_1 + 1)), zrx, H', ⟨by have := HK1.out; omega⟩, ⟨by (with_reducible repeat (first | apply Kd.R_alloc | apply Kd.R_drewN | apply Kd.R_drew)); exact HO_4.out⟩, ⟨by exact zBx HB.out⟩⟩
           ·rw [if_neg c11] at H
            have c11b0 : (((rd_T41 x4_1 (ji7)).f2) == (rd l0 x10_1)) = false := beq_eq_false_iff_ne.mpr c11
            have c11b1 : (((rd_T41 x4_1 (ji7)).f2) != (rd l0 x10_1)) = true := bne_iff_ne.mpr c11
            by_cases c16 : x4_1.length < 5864062014805
            ·rw [if_pos c16] at H
             have LMc16 := Aside0.mk c16
             clear c16
             obtain ⟨y241, hy241⟩ : ∃ y_ : List (S41), y_ = (x4_1 ++ [(⟨x10_1, wrap64 (x10_1 + 1), rd l0 x10_1⟩ : S41)]) := ⟨_, rfl⟩
             replace H : (impl_courseOf.l0 k1 y241 l0 (l0.length : Int) (wrap64 (x10_1 + 1))) = some (r1, r2) := by first | (rw [hy241]; with_reducible exact H) | (have H2_ := (Option.bind_some _ _).symm.trans H; rw [hy241]; with_reducible exact H2_) | (have H2_ := (Option.bind_some _ _).symm.trans H; with_reducible exact H2_) | with_reducible exact H | (rw [hy241]; exact H) | exact H
             have Ny241 := Aside0.mk hy241
             clear hy241
             focus
              have H' := Aside0.mk H
              clear H
              have p236 : 0 ≤ (x10_1 : Int) := of_decide_eq_true zax
              have q236 : x10_1 < (l0.length : Int) := of_decide_eq_true zax
              obtain ⟨ad236, e236, hx236_0⟩ := Kd.at_int HR0.out x10_1 p236 q236
              cases e236
              replace hx236_0 := (HB.out.cell (World.block_lt_of_cell? w _ hx236_0)).trans hx236_0
              replace p236 := eq_true p236
              replace q236 := eq_true q236
              obtain ⟨Ao17, co17, eo17⟩ := Kd.R_slice HO_4.out
              subst eo17
              have p237 : 0 ≤ ((ji7) : Int) := of_decide_eq_true zax
              have q237 : (ji7) < (x4_1.length : Int) := of_decide_eq_true zax
              obtain ⟨ad237, e237, hx237_0, hx237_1, hx237_2⟩ := at_T41 (Kd.R_reads' HO_4.out).2.2 (ji7) p237 q237
              cases e237
              replace p237 := eq_true p237
              replace q237 := eq_true q237
              have p238 : 0 ≤ ((ji7) : Int) := of_decide_eq_true zax
              have q238 : (ji7) < (x4_1.length : Int) := of_decide_eq_true zax
              obtain ⟨ad238, e238, hx238_0, hx238_1, hx238_2⟩ := at_T41 (Kd.R_reads' HO_4.out).2.2 (ji7) p238 q238
              obtain rfl : ad237 = ad238 := (by injection e238)
              replace p238 := eq_true p238
              replace q238 := eq_true q238
              go_wp2_with (first | ((with_reducible refine gate_builtin (b := .append) (xs := #[.tmp 50, .tmp 56]) rfl ?_); at_builtin; refine Kd.R_append k41 (w0 := w) w.heap.size rfl (.tmp 50) (.tmp 56) 24 41 (.agg #[(.int .i64 0), (.int .i64 0), (.int .i64 0)]) 24 rfl Try.underlying24 info41 rfl (by decide) (by omega) (.slice (some ad237) x4_1.length co17) x4_1 (⟨x10_1, wrap64 (x10_1 + 1), rd l0 x10_1⟩ : S41) [.int .i64 x10_1, .int .i64 (wrap64 (x10_1 + 1)), .int .i64 (rd l0 x10_1)] (fun _ => True) (fun _ => False) rfl rfl ?aP (fun _ hk => hk.elim) ?aF ?aO ?aB ?aS ?aL ?_; (case aP => exact k41_mkM _ _ _ (⟨x10_1, wrap64 (x10_1 + 1), rd l0 x10_1⟩ : S41)); (case aB => exact (zBx HB.out)); (case aF => exact (fun _ _ => trivial)); (case aO => exact (zRx HO_4.out)); (case aS => exact (below_size (zBx HB.out))); (case aL => have := LMc16.out; omega); intro v242 w18 ho hb hg hat; rw [← Ny241.out] at ho; have n0_ := Aside0.mk (hb); have n1_ := Aside0.mk (ho); clear HB; clear HO_4; have HB := n0_; have HO243 := n1_; clear n0_ n1_; clear ho hb hg hat))
              go_roundg k1
              case measure => have := HK1.out; omega
              case rel => exact ⟨(y241), (wrap64 (x10_1 + 1)), zrx, H', ⟨by have := HK1.out; omega⟩, ⟨by (with_reducible repeat (first | apply Kd.R_alloc | apply Kd.R_drewN | apply Kd.R_drew)); exact HO243.out⟩, ⟨by exact zBx HB.out⟩⟩
            ·rw [if_neg c16] at H
             exact absurd H (by simp)
          ·rw [if_neg c10] at H
           have c10b0 : (((rd_T41 x4_1 (ji7)).f1) == x10_1) = false := beq_eq_false_iff_ne.mpr c10
           have c10b1 : (((rd_T41 x4_1 (ji7)).f1) != x10_1) = true := bne_iff_ne.mpr c10
           by_cases c19 : x4_1.length < 5864062014805
           ·rw [if_pos c19] at H
            have LMc19 := Aside0.mk c19
            clear c19
            obtain ⟨y244, hy244⟩ : ∃ y_ : List (S41), y_ = (x4_1 ++ [(⟨x10_1, wrap64 (x10_1 + 1), rd l0 x10_1⟩ : S41)]) := ⟨_, rfl⟩
            replace H : (impl_courseOf.l0 k1 y244 l0 (l0.length : Int) (wrap64 (x10_1 + 1))) = some (r1, r2) := by first | (rw [hy244]; with_reducible exact H) | (have H2_ := (Option.bind_some _ _).symm.trans H; rw [hy244]; with_reducible exact H2_) | (have H2_ := (Option.bind_some _ _).symm.trans H; with_reducible exact H2_) | with_reducible exact H | (rw [hy244]; exact H) | exact H
            have Ny244 := Aside0.mk hy244
            clear hy244
            focus
             have H' := Aside0.mk H
             clear H
             have p236 : 0 ≤ (x10_1 : Int) := of_decide_eq_true zax
             have q236 : x10_1 < (l0.length : Int) := of_decide_eq_true zax
             obtain ⟨ad236, e236, hx236_0⟩ := Kd.at_int HR0.out x10_1 p236 q236
             cases e236
             replace hx236_0 := (HB.out.cell (World.block_lt_of_cell? w _ hx236_0)).trans hx236_0
             replace p236 := eq_true p236
             replace q236 := eq_true q236
             obtain ⟨Ao20, co20, eo20⟩ := Kd.R_slice HO_4.out
             subst eo20
             have p237 : 0 ≤ ((ji7) : Int) := of_decide_eq_true zax
             have q237 : (ji7) < (x4_1.length : Int) := of_decide_eq_true zax
             obtain ⟨ad237, e237, hx237_0, hx237_1, hx237_2⟩ := at_T41 (Kd.R_reads' HO_4.out).2.2 (ji7) p237 q237
             cases e237
             replace p237 := eq_true p237
             replace q237 := eq_true q237
             go_wp2_with (first | ((with_reducible refine gate_builtin (b := .append) (xs := #[.tmp 50, .tmp 56]) rfl ?_); at_builtin; refine Kd.R_append k41 (w0 := w) w.heap.size rfl (.tmp 50) (.tmp 56) 24 41 (.agg #[(.int .i64 0), (.int .i64 0), (.int .i64 0)]) 24 rfl Try.underlying24 info41 rfl (by decide) (by omega) (.slice (some ad237) x4_1.length co20) x4_1 (⟨x10_1, wrap64 (x10_1 + 1), rd l0 x10_1⟩ : S41) [.int .i64 x10_1, .int .i64 (wrap64 (x10_1 + 1)), .int .i64 (rd l0 x10_1)] (fun _ => True) (fun _ => False) rfl rfl ?aP (fun _ hk => hk.elim) ?aF ?aO ?aB ?aS ?aL ?_; (case aP => exact k41_mkM _ _ _ (⟨x10_1, wrap64 (x10_1 + 1), rd l0 x10_1⟩ : S41)); (case aB => exact (zBx HB.out)); (case aF => exact (fun _ _ => trivial)); (case aO => exact (zRx HO_4.out)); (case aS => exact (below_size (zBx HB.out))); (case aL => have := LMc19.out; omega); intro v245 w21 ho hb hg hat; rw [← Ny244.out] at ho; have n0_ := Aside0.mk (hb); have n1_ := Aside0.mk (ho); clear HB; clear HO_4; have HB := n0_; have HO246 := n1_; clear n0_ n1_; clear ho hb hg hat))
             go_roundg k1
             case measure => have := HK1.out; omega
             case rel => exact ⟨(y244), (wrap64 (x10_1 + 1)), zrx, H', ⟨by have := HK1.out; omega⟩, ⟨by (with_reducible repeat (first | apply Kd.R_alloc | apply Kd.R_drewN | apply Kd.R_drew)); exact HO246.out⟩, ⟨by exact zBx HB.out⟩⟩
           ·rw [if_neg c19] at H
            exact absurd H (by simp)
         ·rw [if_neg c9] at H
          exact absurd H (by simp)
        ·rw [if_neg c8] at H
         exact absurd H (by simp)
       ·rw [if_neg c6] at H
        have c6b0 : decide (0 < (x4_1.length : Int)) = false := decide_eq_false c6
        have c6b1 : decide (0 < x4_1.length) = false := decide_eq_false (by omega)
        clear c6
        by_cases c22 : x4_1.length < 5864062014805
        ·rw [if_pos c22] at H
         have LMc22 := Aside0.mk c22
         clear c22
         obtain ⟨y247, hy247⟩ : ∃ y_ : List (S41), y_ = (x4_1 ++ [(⟨x10_1, wrap64 (x10_1 + 1), rd l0 x10_1⟩ : S41)]) := ⟨_, rfl⟩
         replace H : (impl_courseOf.l0 k1 y247 l0 (l0.length : Int) (wrap64 (x10_1 + 1))) = some (r1, r2) := by first | (rw [hy247]; with_reducible exact H) | (have H2_ := (Option.bind_some _ _).symm.trans H; rw [hy247]; with_reducible exact H2_) | (have H2_ := (Option.bind_some _ _).symm.trans H; with_reducible exact H2_) | with_reducible exact H | (rw [hy247]; exact H) | exact H
         have Ny247 := Aside0.mk hy247
         clear hy247
         focus
          have H' := Aside0.mk H
          clear H
          have p236 : 0 ≤ (x10_1 : Int) := of_decide_eq_true zax
          have q236 : x10_1 < (l0.length : Int) := of_decide_eq_true zax
          obtain ⟨ad236, e236, hx236_0⟩ := Kd.at_int HR0.out x10_1 p236 q236
          cases e236
          replace hx236_0 := (HB.out.cell (World.block_lt_of_cell? w _ hx236_0)).trans hx236_0
          replace p236 := eq_true p236
          replace q236 := eq_true q236
          obtain ⟨Ao23, co23, eo23⟩ := Kd.R_slice HO_4.out
          subst eo23
          go_wp2_with (first | ((with_reducible refine gate_builtin (b := .append) (xs := #[.tmp 50, .tmp 56]) rfl ?_); at_builtin; refine Kd.R_append k41 (w0 := w) w.heap.size rfl (.tmp 50) (.tmp 56) 24 41 (.agg #[(.int .i64 0), (.int .i64 0), (.int .i64 0)]) 24 rfl Try.underlying24 info41 rfl (by decide) (by omega) (.slice Ao23 x4_1.length co23) x4_1 (⟨x10_1, wrap64 (x10_1 + 1), rd l0 x10_1⟩ : S41) [.int .i64 x10_1, .int .i64 (wrap64 (x10_1 + 1)), .int .i64 (rd l0 x10_1)] (fun _ => True) (fun _ => False) rfl rfl ?aP (fun _ hk => hk.elim) ?aF ?aO ?aB ?aS ?aL ?_; (case aP => exact k41_mkM _ _ _ (⟨x10_1, wrap64 (x10_1 + 1), rd l0 x10_1⟩ : S41)); (case aB => exact (zBx HB.out)); (case aF => exact (fun _ _ => trivial)); (case aO => exact (zRx HO_4.out)); (case aS => exact (below_size (zBx HB.out))); (case aL => have := LMc22.out; omega); intro v248 w24 ho hb hg hat; rw [← Ny247.out] at ho; have n0_ := Aside0.mk (hb); have n1_ := Aside0.mk (ho); clear HB; clear HO_4; have HB := n0_; have HO249 := n1_; clear n0_ n1_; clear ho hb hg hat))
          go_roundg k1
          case measure => have := HK1.out; omega
          case rel => exact ⟨(y247), (wrap64 (x10_1 + 1)), zrx, H', ⟨by have := HK1.out; omega⟩, ⟨by (with_reducible repeat (first | apply Kd.R_alloc | apply Kd.R_drewN | apply Kd.R_drew)); exact HO249.out⟩, ⟨by exact zBx HB.out⟩⟩
        ·rw [if_neg c22] at H
         exact absurd H (by simp)
     ·rw [if_neg c4] at H
      exact absurd H (by simp)
    ·rw [if_neg c3] at H
     exact absurd H (by simp)
   ·rw [if_neg c2] at H
    have c2b0 : decide (x10_1 < (l0.length : Int)) = false := decide_eq_false c2
    clear c2
    by_cases c25 : (x4_1.length : Int) > 12
    ·rw [if_pos c25] at H
     have c25b0 : decide (12 < (x4_1.length : Int)) = true := decide_eq_true c25
     have c25b1 : decide (12 < x4_1.length) = true := decide_eq_true (by omega)
     clear c25
     focus
      simp only [Option.some.injEq, Prod.mk.injEq] at H
      obtain ⟨rfl, rfl⟩ := H
      obtain ⟨Ao26, co26, eo26⟩ := Kd.R_slice HO_4.out
      subst eo26
      go_wp2
      go_ret2
      exact ⟨_, by first | rfl | (simp [errW_none, errW_some] <;> rfl) | (simp [*, errW_none, errW_some] <;> rfl), by first | exact Kd.R_nil _ _ _ _ _ | exact Kd.N_nil _ _ _ _ _ | exact Kd.V_nil _ _ _ _ _ | exact Kd.Q_nil _ _ _ _ _ | exact Kd.S_nil _ _ _ _ _, by exact zBx HB.out⟩
    ·rw [if_neg c25] at H
     have c25b0 : decide (12 < (x4_1.length : Int)) = false := decide_eq_false c25
     have c25b1 : decide (12 < x4_1.length) = false := decide_eq_false (by omega)
     clear c25
     focus
      simp only [Option.some.injEq, Prod.mk.injEq] at H
      obtain ⟨rfl, rfl⟩ := H
      obtain ⟨Ao27, co27, eo27⟩ := Kd.R_slice HO_4.out
      subst eo27
      go_wp2
      go_ret2
      exact ⟨_, by first | rfl | (simp [errW_none, errW_some] <;> rfl) | (simp [*, errW_none, errW_some] <;> rfl), by (with_reducible repeat (first | apply Kd.R_alloc | apply Kd.R_drewN | apply Kd.R_drew)); exact HO_4.out, by exact zBx HB.out⟩

/-! ### impl_joinedCourse: function 58 -/
mutual
def impl_joinedCourse.j0 : Nat → List (S41) → List (S41) → Bool → Option ((List (S41)) × Bool)
 | 0, _, _, _ => none
 | k + 1, x0, x1, x18 => if x18 = true then (some (([] : List (S41)), false)) else ((impl_levelsOf.f k x0).bind fun t252 => ((impl_levelsOf.f k x1).bind fun t255 => (impl_joinedCourse.l0 k t252 t255 (t255.length : Int) 0)))
def impl_joinedCourse.l0 : Nat → List Int → List Int → Int → Int → Option ((List (S41)) × Bool)
 | 0, _, _, _, _ => none
 | k + 1, x8, x22, x23, x24 => if x24 < x23 then (if 0 ≤ x24 then (if x24 < (x22.length : Int) then (if x24 < (x8.length : Int) then ((impl_HigherCourse_1.f (rd x8 x24) (rd x22 x24)).bind fun t260 => (impl_joinedCourse.l0 k (x8.set (x24 : Int).toNat t260) x22 x23 (wrap64 (x24 + 1)))) else (none)) else (none)) else (none)) else ((impl_courseOf.f k x8).bind fun bt262 => (some (bt262.1, bt262.2)))
end
def impl_joinedCourse.f (k : Nat) (l0 : List (S41)) (l1 : List (S41)) : Option ((List (S41)) × Bool) := (impl_IsValidCourse.f k l0).bind fun t250 => (if t250 = true then ((impl_IsValidCourse.f k l1).bind fun t251 => (impl_joinedCourse.j0 k l0 l1 (!t251))) else (impl_joinedCourse.j0 k l0 l1 true))
theorem impl_joinedCourse.mono_l : ∀ k, (∀ y0 y1 y2, LeO (impl_joinedCourse.j0 k y0 y1 y2) (impl_joinedCourse.j0 (k + 1) y0 y1 y2)) ∧ (∀ y0 y1 y2 y3, LeO (impl_joinedCourse.l0 k y0 y1 y2 y3) (impl_joinedCourse.l0 (k + 1) y0 y1 y2 y3))
 | 0 => ⟨fun _ _ _ r h => by simp [impl_joinedCourse.j0] at h, fun _ _ _ _ r h => by simp [impl_joinedCourse.l0] at h⟩
 | k + 1 => by
  obtain ⟨ih0, ih1⟩ := impl_joinedCourse.mono_l k
  refine ⟨?_, ?_⟩
  ·intro y0 y1 y2
   unfold impl_joinedCourse.j0
   repeat' first
   | (with_reducible exact ih0 _ _ _)
   | (with_reducible exact ih1 _ _ _ _)
   | (with_reducible exact impl_IsValidCourse.mono _ _)
   | (with_reducible exact impl_courseOf.mono _ _)
   | (with_reducible exact impl_levelsOf.mono _ _)
   | (with_reducible exact LeO.refl _)
   | (with_reducible exact LeO.none _)
   | (with_reducible refine LeO.ite ?_ ?_)
   | (with_reducible refine LeO.bind ?_ (fun _ => ?_))
   | exact ih0 _ _ _
   | exact ih1 _ _ _ _
   | exact impl_IsValidCourse.mono _ _
   | exact impl_courseOf.mono _ _
   | exact impl_levelsOf.mono _ _
   | exact LeO.none _
   | refine LeO.ite ?_ ?_
   | refine LeO.bind ?_ (fun _ => ?_)
  ·intro y0 y1 y2 y3
   unfold impl_joinedCourse.l0
   repeat' first
   | (with_reducible exact ih0 _ _ _)
   | (with_reducible exact ih1 _ _ _ _)
   | (with_reducible exact impl_IsValidCourse.mono _ _)
   | (with_reducible exact impl_courseOf.mono _ _)
   | (with_reducible exact impl_levelsOf.mono _ _)
   | (with_reducible exact LeO.refl _)
   | (with_reducible exact LeO.none _)
   | (with_reducible refine LeO.ite ?_ ?_)
   | (with_reducible refine LeO.bind ?_ (fun _ => ?_))
   | exact ih0 _ _ _
   | exact ih1 _ _ _ _
   | exact impl_IsValidCourse.mono _ _
   | exact impl_courseOf.mono _ _
   | exact impl_levelsOf.mono _ _
   | exact LeO.none _
   | refine LeO.ite ?_ ?_
   | refine LeO.bind ?_ (fun _ => ?_)
theorem impl_joinedCourse.mono : ∀ a0 a1 k, LeO (impl_joinedCourse.f k a0 a1) (impl_joinedCourse.f (k + 1) a0 a1) := by
 intro a0 a1 k
 obtain ⟨ih0, ih1⟩ := impl_joinedCourse.mono_l k
 unfold impl_joinedCourse.f
 repeat' first
  | (with_reducible exact ih0 _ _ _)
  | (with_reducible exact ih1 _ _ _ _)
  | (with_reducible exact impl_IsValidCourse.mono _ _)
  | (with_reducible exact impl_courseOf.mono _ _)
  | (with_reducible exact impl_levelsOf.mono _ _)
  | (with_reducible exact LeO.refl _)
  | (with_reducible exact LeO.none _)
  | (with_reducible refine LeO.ite ?_ ?_)
  | (with_reducible refine LeO.bind ?_ (fun _ => ?_))
  | exact ih0 _ _ _
  | exact ih1 _ _ _ _
  | exact impl_IsValidCourse.mono _ _
  | exact impl_courseOf.mono _ _
  | exact impl_levelsOf.mono _ _
  | exact LeO.none _
  | refine LeO.ite ?_ ?_
  | refine LeO.bind ?_ (fun _ => ?_)
set_option maxHeartbeats 8000000 in
set_option maxRecDepth 100000 in
theorem impl_joinedCourse.calls (k : Nat) (A0 : Option Addr) (c0 : Nat) (l0 : List (S41)) (A1 : Option Addr) (c1 : Nat) (l1 : List (S41)) (r1 : List (S41)) (r2 : Bool) (w : World) (hr0 : Kd.C k41 w A0 l0.length l0) (hc0 : l0.length ≤ c0) (hr1 : Kd.C k41 w A1 l1.length l1) (hc1 : l1.length ≤ c1) (h : impl_joinedCourse.f k l0 l1 = some (r1, r2)) :
 Calls Try.prog 58 #[.slice A0 l0.length c0, .slice A1 l1.length c1, .func (.func 59) #[] #[]] w fun e w' => ∃ v0_ : Value, e = .returned (.tuple #[v0_, .bool r2]) ∧ Kd.R k41 41 w' w.heap.size (fun _ => True) v0_ r1 ∧ Below w.heap.size w w' := by
 have HR0 := Aside0.mk hr0
 have HC0 := Aside0.mk hc0
 clear hr0 hc0
 have HR1 := Aside0.mk hr1
 have HC1 := Aside0.mk hc1
 clear hr1 hc1
 have HB := Aside0.mk (Below.refl w.heap.size w)
 have H : ((impl_IsValidCourse.f k l0).bind fun t250 => (if t250 = true then ((impl_IsValidCourse.f k l1).bind fun t251 => (impl_joinedCourse.j0 k l0 l1 (!t251))) else (impl_joinedCourse.j0 k l0 l1 true))) = some (r1, r2) := h
 clear h
 have HC3 := Aside0.mk H
 clear H
 go_enter Try.func58, Try.ntmps58
 go_upto_region 1 with (fail)
 go_cut [18] (fun v18 wc => ∃ (kq : Nat) (x18_2 : Bool), v18 = .bool x18_2 ∧ Aside0 (impl_joinedCourse.j0 kq l0 l1 x18_2 = some (r1, r2)) ∧ Aside0 (kq ≤ k) ∧ Aside0 (Below w.heap.size w wc))
 case first =>
  have H := HC3.out
  clear HC3
  replace H := Option.bind_eq_some_iff.mp H
  obtain ⟨t250, A40, H⟩ := H
  replace H : (if t250 = true then ((impl_IsValidCourse.f k l1).bind fun t251 => (impl_joinedCourse.j0 k l0 l1 (!t251))) else (impl_joinedCourse.j0 k l0 l1 true)) = some (r1, r2) := H
  have A4 := Aside0.mk A40
  clear A40
  by_cases c5 : t250 = true
  ·subst c5
   have H1 : ((impl_IsValidCourse.f k l1).bind fun t251 => (impl_joinedCourse.j0 k l0 l1 (!t251))) = some (r1, r2) := by rw [if_pos rfl] at H; exact H
   clear H
   have H := H1
   clear H1
   replace H := Option.bind_eq_some_iff.mp H
   obtain ⟨t251, A60, H⟩ := H
   replace H : (impl_joinedCourse.j0 k l0 l1 (!t251)) = some (r1, r2) := H
   have A6 := Aside0.mk A60
   clear A60
   focus
    have H' := Aside0.mk H
    clear H
    go_wp2_with (first | ((with_reducible refine gate_callee (f := 29) rfl ?_); refine goesL_ (some 12) rfl rfl Try.func29 (by kernel_rfl) rfl #[.slice A0 l0.length c0] rfl zlx ?_; (with_reducible refine (impl_IsValidCourse.calls k _ _ l0 true _ ?side1 ?side2 A4.out).mono ?_); (case side1 => repeat (first | exact (Kd.C_below HR0.out HB.out) | (with_reducible refine Kd.C_alloc ?_ _) | (with_reducible refine Kd.C_drewN ?_ _) | (with_reducible refine Kd.C_drew ?_))); (case side2 => exact HC0.out); rintro e w7 ⟨rfl, hb⟩; refine ⟨_, rfl, ?_⟩; have n0_ := Aside0.mk (below_step (zBx HB.out) hb); clear HB; have HB := n0_; clear n0_; (try clear hb); (try clear hb2); (try clear hk); (try clear hi)) | (go_at_call 29; (with_reducible refine (impl_IsValidCourse.calls k _ _ l1 t251 _ ?side1 ?side2 A6.out).mono ?_); (case side1 => repeat (first | exact (Kd.C_below HR1.out HB.out) | (with_reducible refine Kd.C_alloc ?_ _) | (with_reducible refine Kd.C_drewN ?_ _) | (with_reducible refine Kd.C_drew ?_))); (case side2 => exact HC1.out); rintro e w8 ⟨rfl, hb⟩; have n0_ := Aside0.mk (below_step (zBx HB.out) hb); clear HB; have HB := n0_; clear n0_; (try clear hb); (try clear hb2); (try clear hk); (try clear hi)))
    go_meet
    case rel => exact ⟨_, (!t251), zrx, H', ⟨by first | omega | exact Nat.le_refl _⟩, ⟨by exact zBx HB.out⟩⟩
  ·replace c5 := Bool.eq_false_iff.mpr c5
   subst c5
   have H1 : (impl_joinedCourse.j0 k l0 l1 true) = some (r1, r2) := by rw [if_neg (show ¬ (false = true) by decide)] at H; exact H
   clear H
   have H := H1
   clear H1
   focus
    have H' := Aside0.mk H
    clear H
    go_wp2_with (first | ((with_reducible refine gate_callee (f := 29) rfl ?_); refine goesL_ (some 12) rfl rfl Try.func29 (by kernel_rfl) rfl #[.slice A0 l0.length c0] rfl zlx ?_; (with_reducible refine (impl_IsValidCourse.calls k _ _ l0 false _ ?side1 ?side2 A4.out).mono ?_); (case side1 => repeat (first | exact (Kd.C_below HR0.out HB.out) | (with_reducible refine Kd.C_alloc ?_ _) | (with_reducible refine Kd.C_drewN ?_ _) | (with_reducible refine Kd.C_drew ?_))); (case side2 => exact HC0.out); rintro e w9 ⟨rfl, hb⟩; refine ⟨_, rfl, ?_⟩; have n0_ := Aside0.mk (below_step (zBx HB.out) hb); clear HB; have HB := n0_; clear n0_; (try clear hb); (try clear hb2); (try clear hk); (try clear hi)))
    go_meet
    case rel => exact ⟨_, (true), zrx, H', ⟨by first | omega | exact Nat.le_refl _⟩, ⟨by exact zBx HB.out⟩⟩
 case rest =>
  clear HC3
  try clear c1
  try clear c2
  try clear p2
  try clear c5
  obtain ⟨kq, x18_2, rfl, HA, HJ2, HB⟩ := hcut
  cases kq with
  | zero => exact absurd HA.out (by simp [impl_joinedCourse.j0])
  | succ kj2 =>
   have H := HA.out
   clear HA
   simp only [impl_joinedCourse.j0] at H
   by_cases c10 : x18_2 = true
   ·subst c10
    have H1 : (some (([] : List (S41)), false)) = some (r1, r2) := by rw [if_pos rfl] at H; exact H
    clear H
    have H := H1
    clear H1
    focus
     simp only [Option.some.injEq, Prod.mk.injEq] at H
     obtain ⟨rfl, rfl⟩ := H
     go_wp2
     go_ret2
     exact ⟨_, by first | rfl | (simp [errW_none, errW_some] <;> rfl) | (simp [*, errW_none, errW_some] <;> rfl), by first | exact Kd.R_nil _ _ _ _ _ | exact Kd.N_nil _ _ _ _ _ | exact Kd.V_nil _ _ _ _ _ | exact Kd.Q_nil _ _ _ _ _ | exact Kd.S_nil _ _ _ _ _, by exact zBx HB.out⟩
   ·replace c10 := Bool.eq_false_iff.mpr c10
    subst c10
    have H1 : ((impl_levelsOf.f kj2 l0).bind fun t252 => ((impl_levelsOf.f kj2 l1).bind fun t255 => (impl_joinedCourse.l0 kj2 t252 t255 (t255.length : Int) 0))) = some (r1, r2) := by rw [if_neg (show ¬ (false = true) by decide)] at H; exact H
    clear H
    have H := H1
    clear H1
    replace H := Option.bind_eq_some_iff.mp H
    obtain ⟨t252, A110, H⟩ := H
    replace H : ((impl_levelsOf.f kj2 l1).bind fun t255 => (impl_joinedCourse.l0 kj2 t252 t255 (t255.length : Int) 0)) = some (r1, r2) := H
    have A11 := Aside0.mk A110
    clear A110
    replace H := Option.bind_eq_some_iff.mp H
    obtain ⟨t255, A120, H⟩ := H
    replace H : (impl_joinedCourse.l0 kj2 t252 t255 (t255.length : Int) 0) = some (r1, r2) := H
    have A12 := Aside0.mk A120
    clear A120
    have H' := Aside0.mk H
    clear H
    go_wp2_with (first | ((with_reducible refine gate_callee (f := 66) rfl ?_); refine goesL_ (some 20) rfl rfl Try.func66 (by kernel_rfl) rfl #[.slice A0 l0.length c0] rfl zlx ?_; (with_reducible refine (impl_levelsOf.calls kj2 _ _ l0 t252 _ ?side1 ?side2 A11.out).mono ?_); (case side1 => repeat (first | exact (Kd.C_below HR0.out HB.out) | (with_reducible refine Kd.C_alloc ?_ _) | (with_reducible refine Kd.C_drewN ?_ _) | (with_reducible refine Kd.C_drew ?_))); (case side2 => exact HC0.out); rintro e w13 ⟨v253, rfl, ho0, hb⟩; refine ⟨_, rfl, ?_⟩; have n0_ := Aside0.mk (Kd.R_lower ho0 (below_size (zBx HB.out))); have n1_ := Aside0.mk (below_step (zBx HB.out) hb); clear HB; have HO254 := n0_; have HB := n1_; clear n0_ n1_; (try clear hb); (try clear hb2); (try clear hk); (try clear hi); (try clear ho0)) | ((with_reducible refine gate_callee (f := 66) rfl ?_); refine goesL_ (some 22) rfl rfl Try.func66 (by kernel_rfl) rfl #[.slice A1 l1.length c1] rfl zlx ?_; (with_reducible refine (impl_levelsOf.calls kj2 _ _ l1 t255 _ ?side1 ?side2 A12.out).mono ?_); (case side1 => repeat (first | exact (Kd.C_below HR1.out HB.out) | (with_reducible refine Kd.C_alloc ?_ _) | (with_reducible refine Kd.C_drewN ?_ _) | (with_reducible refine Kd.C_drew ?_))); (case side2 => exact HC1.out); rintro e w14 ⟨v256, rfl, ho0, hb⟩; refine ⟨_, rfl, ?_⟩; have n0_ := Aside0.mk (Kd.R_elder' (zRx HO254.out) (Kd.R_base ho0) hb); have n1_ := Aside0.mk (Kd.R_lower (Kd.R_new' ho0 (Kd.R_lt (zRx HO254.out))) (below_size (zBx HB.out))); have n2_ := Aside0.mk (below_step (zBx HB.out) hb); clear HO254; clear HB; have HO254 := n0_; have HO257 := n1_; have HB := n2_; clear n0_ n1_ n2_; (try clear hb); (try clear hb2); (try clear hk); (try clear hi); (try clear ho0); obtain ⟨Ao15, co15, eo15⟩ := Kd.R_slice HO257.out; subst eo15))
    go_loopg [24] kj2 (fun kq v24 w' => ∃ (x8_2 : List Int) (x24_2 : Int), v24 = .int .i64 x24_2 ∧ Aside0 (impl_joinedCourse.l0 kq x8_2 t255 (t255.length : Int) x24_2 = some (r1, r2)) ∧ Aside0 (kq ≤ kj2) ∧ Aside0 (Kd.R (Kd.int .i64) 3 w' w.heap.size (fun k_ => some k_ ≠ ((.slice Ao15 t255.length co15) : Value).ownBlock) v253 x8_2) ∧ Aside0 (Kd.R (Kd.int .i64) 3 w' w.heap.size (fun k_ => some k_ ≠ (v253 : Value).ownBlock) (.slice Ao15 t255.length co15) t255) ∧ Aside0 (Below w.heap.size w w'))
    case atStart => exact ⟨(t252), (0), zrx, H', ⟨Nat.le_refl _⟩, ⟨by (with_reducible repeat (first | apply Kd.R_alloc | apply Kd.R_drewN | apply Kd.R_drew)); exact Kd.R_mono HO254.out (fun _ hk => hk.2)⟩, ⟨by (with_reducible repeat (first | apply Kd.R_alloc | apply Kd.R_drewN | apply Kd.R_drew)); exact Kd.R_mono HO257.out (fun _ hk => hk.2)⟩, ⟨by exact zBx HB.out⟩⟩
    case round =>
     clear H'
     try clear c1
     try clear c2
     try clear p2
     try clear c5
     try clear c6
     try clear c10
     try clear p2
     obtain ⟨x8_2, x24_2, rfl, HA, HK2, HO_8, HO_22, HB⟩ := hrel
     cases gk with
     | zero => exact absurd HA.out (by simp [impl_joinedCourse.l0])
     | succ k2 =>
      have H := HA.out
      clear HA
      simp only [impl_joinedCourse.l0] at H
      by_cases c16 : x24_2 < (t255.length : Int)
      ·rw [if_pos c16] at H
       have c16b0 : decide (x24_2 < (t255.length : Int)) = true := decide_eq_true c16
       clear c16
       by_cases c17 : 0 ≤ x24_2
       ·rw [if_pos c17] at H
        have c17b0 : decide (0 ≤ x24_2) = true := decide_eq_true c17
        clear c17
        by_cases c18 : x24_2 < (t255.length : Int)
        ·rw [if_pos c18] at H
         have c18b0 : decide (x24_2 < (t255.length : Int)) = true := decide_eq_true c18
         clear c18
         by_cases c19 : x24_2 < (x8_2.length : Int)
         ·rw [if_pos c19] at H
          have c19b0 : decide (x24_2 < (x8_2.length : Int)) = true := decide_eq_true c19
          clear c19
          replace H := Option.bind_eq_some_iff.mp H
          obtain ⟨t260, A200, H⟩ := H
          replace H : (impl_joinedCourse.l0 k2 (x8_2.set (x24_2 : Int).toNat t260) t255 (t255.length : Int) (wrap64 (x24_2 + 1))) = some (r1, r2) := H
          have A20 := Aside0.mk A200
          clear A200
          obtain ⟨y261, hy261⟩ : ∃ y_ : List Int, y_ = (x8_2.set (x24_2 : Int).toNat t260) := ⟨_, rfl⟩
          replace H : (impl_joinedCourse.l0 k2 y261 t255 (t255.length : Int) (wrap64 (x24_2 + 1))) = some (r1, r2) := by first | (rw [hy261]; with_reducible exact H) | (have H2_ := (Option.bind_some _ _).symm.trans H; rw [hy261]; with_reducible exact H2_) | (have H2_ := (Option.bind_some _ _).symm.trans H; with_reducible exact H2_) | with_reducible exact H | (rw [hy261]; exact H) | exact H
          have Ny261 := Aside0.mk hy261
          clear hy261
          focus
           have H' := Aside0.mk H
           clear H
           have p258 : 0 ≤ (x24_2 : Int) := of_decide_eq_true zax
           have q258 : x24_2 < (t255.length : Int) := of_decide_eq_true zax
           obtain ⟨ad258, e258, hx258_0⟩ := Kd.at_int (Kd.R_reads' HO_22.out).2.2 x24_2 p258 q258
           cases e258
           replace p258 := eq_true p258
           replace q258 := eq_true q258
           obtain ⟨Ao22, co22, eo22⟩ := Kd.R_slice HO_8.out
           subst eo22
           have p259 : 0 ≤ (x24_2 : Int) := of_decide_eq_true zax
           have q259 : x24_2 < (x8_2.length : Int) := of_decide_eq_true zax
           obtain ⟨ad259, e259, hx259_0⟩ := Kd.at_int (Kd.R_reads' HO_8.out).2.2 x24_2 p259 q259
           cases e259
           replace p259 := eq_true p259
           replace q259 := eq_true q259
           go_wp2_with (first | ((with_reducible refine gate_calleeT (t := 31) rfl ?_); refine goesT_ (t := 31) (some 37) rfl rfl Try.func59 (by kernel_rfl) rfl #[.int .i64 (rd x8_2 x24_2), .int .i64 (rd t255 x24_2)] ⟨rfl, rfl⟩ zlx ?_; (with_reducible refine (impl_HigherCourse_1.calls (rd x8_2 x24_2) (rd t255 x24_2) t260 _ A20.out).mono ?_); rintro e w23 ⟨rfl, hb⟩; refine ⟨_, rfl, ?_⟩; have n0_ := Aside0.mk (Kd.R_below (zRx HO_8.out) hb); have n1_ := Aside0.mk (Kd.R_below (zRx HO_22.out) hb); have n2_ := Aside0.mk (below_step (zBx HB.out) hb); clear HO_8; clear HO_22; clear HB; have HO_8 := n0_; have HO_22 := n1_; have HB := n2_; clear n0_ n1_ n2_; (try clear hb); (try clear hb2); (try clear hk); (try clear hi); have p21 : 0 ≤ (x24_2 : Int) := of_decide_eq_true zax; have q21 : (x24_2 : Int) < ((x8_2.length : Int) : Int) := of_decide_eq_true zax; obtain ⟨go21, co21, eo21, gb21, gl21, cl21, HG21⟩ := Kd.R_form HO_8.out (by omega); (first | cases eo21 | (injection eo21 with ea_ en_ ec_; (first | subst ea_ | (injection ea_ with ea_; subst ea_)); subst ec_; clear en_)); have GB21 := Aside0.mk gb21; have GG21 := Aside0.mk HG21; clear gb21 gl21 HG21; (first | simp only [add_plain] at hx259_0 | skip); obtain ⟨hx21_0, hf21_0⟩ := Kd.R_celln 0 HO_8.out (x24_2 : Int) p21 q21; replace p21 := eq_true p21; replace q21 := eq_true q21; obtain ⟨hy24_, hz24_⟩ := Kd.R_celln 0 HO_8.out (x24_2 : Int) (of_decide_eq_true zax) (of_decide_eq_true zax); have HP24 := Kd.R_putg HO_8.out (x24_2 : Int) t260) | ((with_reducible refine gate_store (t := 3) (p := 38) rfl ?_); refine store_event (t := 3) (p := 38) (v := ?vo_w25) (w1 := (w23.setCell ⟨go21, (x24_2 : Int).toNat, none⟩ (.int .i64 t260))) ?hg ?ho ?hn ?hr ?_; (case ho => rfl); (case hg => rfl); (case hn => rfl); (case hr => exact zsx); intro w25 hw; have hg : w23.grownBy w25 (some go21) := (by rw [hw]; exact HP24.2); have hp_ : Kd.R (Kd.int .i64) 3 w25 w.heap.size (fun k_ => some k_ ≠ (.slice (some ad258) t255.length co15 : Value).ownBlock) (.slice (some ⟨go21, 0, none⟩) x8_2.length co22) y261 := (by rw [hw, Ny261.out]; exact HP24.1); clear HP24; have n0_ := Aside0.mk (hp_); have n1_ := Aside0.mk (Kd.R_after (v := (.slice (some ⟨go21, 0, none⟩) x8_2.length co22)) (v1 := (.slice (some ⟨go21, 0, none⟩) x8_2.length co22)) (ok := (fun _ => True)) (by (with_reducible repeat (first | apply Kd.R_alloc | apply Kd.R_drewN | apply Kd.R_drew)); exact Kd.R_mono HO_22.out (fun _ hk => ⟨trivial, hk⟩)) hg (.inl rfl)); have n2_ := Aside0.mk ((by rw [hw]; exact below_set (HB.out) GB21.out : Below w.heap.size w w25)); clear HO_8; clear HO_22; clear HB; have HO_8 := n0_; have HO_22 := n1_; have HB := n2_; clear n0_ n1_ n2_; clear hg hw hp_))
           go_roundg k2
           case measure => have := HJ2.out; have := HK2.out; omega
           case rel => exact ⟨(y261), (wrap64 (x24_2 + 1)), zrx, H', ⟨by have := HJ2.out; have := HK2.out; omega⟩, ⟨by (with_reducible repeat (first | apply Kd.R_alloc | apply Kd.R_drewN | apply Kd.R_drew)); exact HO_8.out⟩, ⟨by (with_reducible repeat (first | apply Kd.R_alloc | apply Kd.R_drewN | apply Kd.R_drew)); exact Kd.R_mono HO_22.out (fun _ hk => hk.2)⟩, ⟨by exact zBx HB.out⟩⟩
         ·rw [if_neg c19] at H
          exact absurd H (by simp)
        ·rw [if_neg c18] at H
         exact absurd H (by simp)
       ·rw [if_neg c17] at H
        exact absurd H (by simp)
      ·rw [if_neg c16] at H
       have c16b0 : decide (x24_2 < (t255.length : Int)) = false := decide_eq_false c16
       clear c16
       replace H := Option.bind_eq_some_iff.mp H
       obtain ⟨⟨t262, t263⟩, A260, H⟩ := H
       replace H : (some (t262, t263)) = some (r1, r2) := H
       have A26 := Aside0.mk A260
       clear A260
       focus
        simp only [Option.some.injEq, Prod.mk.injEq] at H
        obtain ⟨rfl, rfl⟩ := H
        obtain ⟨Ao27, co27, eo27⟩ := Kd.R_slice HO_8.out
        subst eo27
        go_wp2_with (first | ((with_reducible refine gate_callee (f := 74) rfl ?_); refine goesL_ (some 41) rfl rfl Try.func74 (by kernel_rfl) rfl #[.slice Ao27 x8_2.length co27] rfl zlx ?_; (with_reducible refine (impl_courseOf.calls k2 _ _ x8_2 t262 t263 _ ?side1 ?side2 A26.out).mono ?_); (case side1 => repeat (first | exact (Kd.R_reads' HO_8.out).2.2 | (with_reducible refine Kd.C_alloc ?_ _) | (with_reducible refine Kd.C_drewN ?_ _) | (with_reducible refine Kd.C_drew ?_))); (case side2 => exact (Kd.R_reads' HO_8.out).2.1); rintro e w28 ⟨v264, rfl, ho0, hb⟩; refine ⟨_, rfl, ?_⟩; have n0_ := Aside0.mk (Kd.R_below (zRx HO_8.out) hb); have n1_ := Aside0.mk (Kd.R_below (zRx HO_22.out) hb); have n2_ := Aside0.mk (Kd.R_lower ho0 (below_size (zBx HB.out))); have n3_ := Aside0.mk (below_step (zBx HB.out) hb); clear HO_8; clear HO_22; clear HB; have HO_8 := n0_; have HO_22 := n1_; have HO265 := n2_; have HB := n3_; clear n0_ n1_ n2_ n3_; (try clear hb); (try clear hb2); (try clear hk); (try clear hi); (try clear ho0)))
        go_ret2
        exact ⟨_, by first | rfl | (simp [errW_none, errW_some] <;> rfl) | (simp [*, errW_none, errW_some] <;> rfl), by (with_reducible repeat (first | apply Kd.R_alloc | apply Kd.R_drewN | apply Kd.R_drew)); exact HO265.out, by exact zBx HB.out⟩

/-! ### impl_HigherCourse: function 9 -/
def impl_HigherCourse.f (k : Nat) (l0 : List (S41)) (l1 : List (S41)) : Option ((List (S41)) × Bool) := (impl_joinedCourse.f k l0 l1).bind fun bt266 => (some (bt266.1, bt266.2))
theorem impl_HigherCourse.mono : ∀ a0 a1 k, LeO (impl_HigherCourse.f k a0 a1) (impl_HigherCourse.f (k + 1) a0 a1) := by
 intro a0 a1 k
 unfold impl_HigherCourse.f
 repeat' first
  | (with_reducible exact impl_joinedCourse.mono _ _ _)
  | (with_reducible exact LeO.refl _)
  | (with_reducible exact LeO.none _)
  | (with_reducible refine LeO.ite ?_ ?_)
  | (with_reducible refine LeO.bind ?_ (fun _ => ?_))
  | exact impl_joinedCourse.mono _ _ _
  | exact LeO.none _
  | refine LeO.ite ?_ ?_
  | refine LeO.bind ?_ (fun _ => ?_)
set_option maxHeartbeats 8000000 in
set_option maxRecDepth 100000 in
theorem impl_HigherCourse.calls (k : Nat) (A0 : Option Addr) (c0 : Nat) (l0 : List (S41)) (A1 : Option Addr) (c1 : Nat) (l1 : List (S41)) (r1 : List (S41)) (r2 : Bool) (w : World) (hr0 : Kd.C k41 w A0 l0.length l0) (hc0 : l0.length ≤ c0) (hr1 : Kd.C k41 w A1 l1.length l1) (hc1 : l1.length ≤ c1) (h : impl_HigherCourse.f k l0 l1 = some (r1, r2)) :
 Calls Try.prog 9 #[.slice A0 l0.length c0, .slice A1 l1.length c1] w fun e w' => ∃ v0_ : Value, e = .returned (.tuple #[v0_, .bool r2]) ∧ Kd.R k41 41 w' w.heap.size (fun _ => True) v0_ r1 ∧ Below w.heap.size w w' := by
 have HR0 := Aside0.mk hr0
 have HC0 := Aside0.mk hc0
 clear hr0 hc0
 have HR1 := Aside0.mk hr1
 have HC1 := Aside0.mk hc1
 clear hr1 hc1
 have HB := Aside0.mk (Below.refl w.heap.size w)
 have H : ((impl_joinedCourse.f k l0 l1).bind fun bt266 => (some (bt266.1, bt266.2))) = some (r1, r2) := h
 clear h
 replace H := Option.bind_eq_some_iff.mp H
 obtain ⟨⟨t266, t267⟩, A30, H⟩ := H
 replace H : (some (t266, t267)) = some (r1, r2) := H
 have A3 := Aside0.mk A30
 clear A30
 focus
  simp only [Option.some.injEq, Prod.mk.injEq] at H
  obtain ⟨rfl, rfl⟩ := H
  go_enter Try.func9, Try.ntmps9
  go_wp2_with (first | ((with_reducible refine gate_callee (f := 58) rfl ?_); refine goesL_ (some 8) rfl rfl Try.func58 (by kernel_rfl) rfl #[.slice A0 l0.length c0, .slice A1 l1.length c1, .func (.func 59) #[] #[]] rfl zlx ?_; (with_reducible refine (impl_joinedCourse.calls k _ _ l0 _ _ l1 t266 t267 _ ?side1 ?side2 ?side3 ?side4 A3.out).mono ?_); (case side1 => exact zCx HR0.out); (case side2 => exact HC0.out); (case side3 => exact zCx HR1.out); (case side4 => exact HC1.out); rintro e w4 ⟨v268, rfl, ho0, hb⟩; refine ⟨_, rfl, ?_⟩; have n0_ := Aside0.mk (Kd.R_lower ho0 (below_size (zBx HB.out))); have n1_ := Aside0.mk (below_step (zBx HB.out) hb); clear HB; have HO269 := n0_; have HB := n1_; clear n0_ n1_; (try clear hb); (try clear hb2); (try clear hk); (try clear hi); (try clear ho0)))
  go_ret2
  exact ⟨_, by first | rfl | (simp [errW_none, errW_some] <;> rfl) | (simp [*, errW_none, errW_some] <;> rfl), by (with_reducible repeat (first | apply Kd.R_alloc | apply Kd.R_drewN | apply Kd.R_drew)); exact HO269.out, by exact zBx HB.out⟩

/-! ### impl_CommonCourse_1: function 60 -/
def impl_CommonCourse_1.f (a0 : Int) (a1 : Int) : Option (Int) := if a0 = a1 then (some a0) else (some 0)
set_option maxHeartbeats 8000000 in
set_option maxRecDepth 100000 in
theorem impl_CommonCourse_1.calls (a0 : Int) (a1 : Int) (r : Int) (w : World) (h : impl_CommonCourse_1.f a0 a1 = some r) :
 Calls Try.prog 60 #[.int .i64 a0, .int .i64 a1] w fun e w' => e = .returned (.int .i64 r) ∧ Drawn0 w w' := by
 have H : (if a0 = a1 then (some a0) else (some 0)) = some r := h
 clear h
 by_cases c3 : a0 = a1
 ·rw [if_pos c3] at H
  have c3b0 : (a0 == a1) = true := beq_iff_eq.mpr c3
  have c3b1 : (a0 != a1) = false := bne_eq_false_iff_eq.mpr c3
  clear c3
  focus
   obtain rfl := Option.some.inj H
   go_enter Try.func60, Try.ntmps60
   go_wp2
   go_ret
   exact ⟨by first | rfl | (simp; done) | (simp [*]; done), by repeat (first | exact Drawn0.refl _ | apply Drawn0.step)⟩
 ·rw [if_neg c3] at H
  have c3b0 : (a0 == a1) = false := beq_eq_false_iff_ne.mpr c3
  have c3b1 : (a0 != a1) = true := bne_iff_ne.mpr c3
  focus
   obtain rfl := Option.some.inj H
   go_enter Try.func60, Try.ntmps60
   go_wp2
   go_ret
   exact ⟨by first | rfl | (simp; done) | (simp [*]; done), by repeat (first | exact Drawn0.refl _ | apply Drawn0.step)⟩

end Go.Proofs.Ytkegkbpadhddkaa.XFnTwoCourses
