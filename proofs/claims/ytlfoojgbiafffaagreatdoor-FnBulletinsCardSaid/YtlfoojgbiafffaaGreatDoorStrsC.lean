/-
  The walks of impl.warningLine and impl.ParseWarningLine. Conditions: none of ours.
-/
import Derived.Test.YtlfoojgbiafffaaGreatDoorStrsB
import Derived.Tactics2
import Derived.StillTactics
import Derived.Laws.Pointers
namespace Go.Proofs.YtlfoojgbiafffaaGreatDoor.Strs
open Go.RowKit Go.Proofs.YtlfoojgbiafffaaGreatDoorW.PrintWords Go.Proofs.YtlfoojgbiafffaaGreatDoorW.PrintLast Go.Proofs.YtlfoojgbiafffaaGreatDoorW.PrintMore
set_option linter.unusedVariables false
set_option linter.unusedSimpArgs false
attribute [local go_sem] max2_int min2_int max_two min_two max_three min_three max_four min_four
def qu.l0 : Nat → List Int → List ByteArray → Int → Int → Option (List Int × Bool)
 | 0, _, _, _, _ => none
 | k + 1, x4, x12, x13, x14 => if x14 < x13 then (if 0 ≤ x14 then (if x14 < (x12.length : Int) then ((impl_ParseInt.f (rdOf ByteArray.empty x12 x14)).bind fun bt228 => (if bt228.2 = true then (if x14 < (x4.length : Int) then (qu.l0 k (x4.set (x14 : Int).toNat bt228.1) x12 x13 (wrap64 (x14 + 1))) else (none)) else (some (([] : List Int), false)))) else (none)) else (none)) else (some (x4, true))
def qu.f (k : Nat) (l0 : List ByteArray) : Option (List Int × Bool) := if 0 ≤ (l0.length : Int) then (if ((l0.length : Int) : Int).toNat ≤ 35184372088832 then (qu.l0 k (List.replicate ((l0.length : Int) : Int).toNat 0) l0 (l0.length : Int) 0) else (none)) else (none)
set_option maxHeartbeats 8000000 in
set_option maxRecDepth 100000 in
theorem qu.calls (k : Nat) (A0 : Option Addr) (c0 : Nat) (l0 : List ByteArray) (r1 : List Int) (r2 : Bool) (w : World) (hr0 : Kd.C Kd.string w A0 l0.length l0) (hc0 : l0.length ≤ c0) (hL : Laid w) (h : qu.f k l0 = some (r1, r2)) :
 Calls Tryz.prog 39 #[.slice A0 l0.length c0] w fun e w' => ∃ v0_ : Value, e = .returned (.tuple #[v0_, .bool r2]) ∧ Kd.R (Kd.int .i64) 3 w' w.heap.size (fun _ => True) v0_ r1 ∧ Below w.heap.size w w' := by
 have HR0 := Aq.mk hr0
 have HC0 := Aq.mk hc0
 clear hr0 hc0
 have HL := Aq.mk hL
 clear hL
 have HB := Aq.mk (Below.refl w.heap.size w)
 have H : (if 0 ≤ (l0.length : Int) then (if ((l0.length : Int) : Int).toNat ≤ 35184372088832 then (qu.l0 k (List.replicate ((l0.length : Int) : Int).toNat 0) l0 (l0.length : Int) 0) else (none)) else (none)) = some (r1, r2) := h
 clear h
 by_cases c2 : 0 ≤ (l0.length : Int)
 rotate_left
 ·rw [if_neg c2] at H
  exact absurd H (by simp)
 rw [if_pos c2] at H
 have c2b0 := eq_true c2
 have c2b1 : decide (0 ≤ (l0.length : Int)) = true := decide_eq_true c2
 clear c2
 obtain ⟨c3, H⟩ := zin H
 have c3b0 := eq_true c3
 have c3b1 : decide (((l0.length : Int) : Int).toNat ≤ 35184372088832) = true := decide_eq_true c3
 clear c3
 obtain ⟨y224, hy224⟩ : ∃ y_ : List Int, y_ = (List.replicate ((l0.length : Int) : Int).toNat 0) := ⟨_, rfl⟩
 replace H : (qu.l0 k y224 l0 (l0.length : Int) 0) = some (r1, r2) := by first | (rw [hy224]; with_reducible exact H) | (have H2_ := (Option.bind_some _ _).symm.trans H; rw [hy224]; with_reducible exact H2_) | (have H2_ := (Option.bind_some _ _).symm.trans H; with_reducible exact H2_) | with_reducible exact H | (rw [hy224]; exact H) | exact H
 have Ny224 := Aq.mk hy224
 clear hy224
 have H' := Aq.mk H
 clear H
 go_enter Tryz.func39, Tryz.ntmps39
 go_wp2_with (first | ((with_reducible refine gate_dst (N := 11) rfl ?_); refine Kd.R_make (Kd.int .i64) _ 3 rfl (N := 11) rfl 45 _ _ rfl (l0.length : Int) rfl rfl Tryz.underlying45 (.int .i64 0) 8 info3 rfl (by decide) (by omega) 0 (ok := fun _ => True) (okp := fun _ => True) rfl (fun _ hk => hk) trivial (of_decide_eq_true zax) (Nat.le_trans (Nat.mul_le_mul_right _ (of_decide_eq_true zax : (l0.length : Int).toNat ≤ 35184372088832)) (by omega)) (Below.refl _ _) (Nat.le_refl _) ?_; intro v225 w4 ho5 hb hg_ hnew_; clear hg_ hnew_; (first | rw [← Ny224.o] at ho5 | (simp only [Int.reduceToNat] at ho5; rw [← Ny224.o] at ho5)); have HO226 := Aq.mk (Kd.R_lower ho5 (below_size (zBx HB.o))); replace HB := Aq.mk (bsq (zBx HB.o) hb); clear hb ho5))
 go_loopg [14] k (fun kq v14 w' => ∃ (x4_1 : List Int) (x14_1 : Int), v14 = .int .i64 x14_1 ∧ Aq (qu.l0 kq x4_1 l0 (l0.length : Int) x14_1 = some (r1, r2)) ∧ Aq (kq ≤ k) ∧ Aq (Kd.R (Kd.int .i64) 3 w' w.heap.size (fun _ => True) v225 x4_1) ∧ Aq (Below w.heap.size w w'))
 case atStart => exact ⟨(y224), (0), zrx, H', ⟨Nat.le_refl _⟩, ⟨by refine zDR ?_; exact HO226.o⟩, ⟨by exact zBx HB.o⟩⟩
 case round =>
  clear H'
  try clear c2
  try clear c2b0
  try clear c2b1
  try clear p2
  try clear c3
  try clear c3b0
  try clear c3b1
  obtain ⟨x4_1, x14_1, rfl, HA, HK1, HO_4, HB⟩ := hrel
  cases gk with
  | zero => exact absurd HA.o (by simp [qu.l0])
  | succ k1 =>
   have H := HA.o
   clear HA
   simp only [qu.l0] at H
   by_cases c6 : x14_1 < (l0.length : Int)
   rotate_left
   ·rw [if_neg c6] at H
    have c6b0 : decide (x14_1 < (l0.length : Int)) = false := decide_eq_false c6
    clear c6
    focus
     simp only [Option.some.injEq, Prod.mk.injEq] at H
     obtain ⟨rfl, rfl⟩ := H
     go_wp2
     go_ret2
     exact ⟨_, by first | rfl | (simp [errW_none, errW_some] <;> rfl) | (simp [*, errW_none, errW_some] <;> rfl), by refine zDR ?_; exact HO_4.o, by exact zBx HB.o⟩
   rw [if_pos c6] at H
   have c6b0 : decide (x14_1 < (l0.length : Int)) = true := decide_eq_true c6
   clear c6
   obtain ⟨c7, H⟩ := zin H
   have c7b0 : decide (0 ≤ x14_1) = true := decide_eq_true c7
   clear c7
   obtain ⟨c8, H⟩ := zin H
   have c8b0 : decide (x14_1 < (l0.length : Int)) = true := decide_eq_true c8
   clear c8
   replace H := Option.bind_eq_some_iff.mp H
   obtain ⟨⟨t228, t229⟩, A90, H⟩ := H
   replace H : (if t229 = true then (if x14_1 < (x4_1.length : Int) then (qu.l0 k1 (x4_1.set (x14_1 : Int).toNat t228) l0 (l0.length : Int) (wrap64 (x14_1 + 1))) else (none)) else (some (([] : List Int), false))) = some (r1, r2) := H
   have A9 := Aq.mk A90
   clear A90
   by_cases c10 : t229 = true
   rotate_left
   ·replace c10 := Bool.eq_false_iff.mpr c10
    subst c10
    rw [if_neg (show ¬ (false = true) by decide)] at H
    focus
     simp only [Option.some.injEq, Prod.mk.injEq] at H
     obtain ⟨rfl, rfl⟩ := H
     have p227 : 0 ≤ (x14_1 : Int) := of_decide_eq_true zax
     have q227 : x14_1 < (l0.length : Int) := of_decide_eq_true zax
     obtain ⟨ad227, e227, hx227_0⟩ := Kd.at_string HR0.o x14_1 p227 q227
     cases e227
     replace hx227_0 := (HB.o.cell (World.block_lt_of_cell? w _ hx227_0)).trans hx227_0
     replace p227 := eq_true p227
     replace q227 := eq_true q227
     go_wp2_with (first | ((with_reducible refine gate_callee (f := 84) rfl ?_); refine goesL_ (some 21) rfl rfl Tryz.func84 (by kernel_rfl) rfl #[.string (rdOf ByteArray.empty l0 x14_1)] rfl zlx ?_; (with_reducible refine (impl_ParseInt.calls (rdOf ByteArray.empty l0 x14_1) t228 false _ ?sideL A9.o).mono ?_); (case sideL => exact Laid.below HL.o (zBx HB.o)); rintro e w16 ⟨rfl, hb⟩; refine ⟨_, rfl, ?_⟩; replace HO_4 := Aq.mk (Kd.R_below (zRx HO_4.o) hb); replace HB := Aq.mk (bsq (zBx HB.o) hb); (try clear hb)))
     go_ret2
     exact ⟨_, by first | rfl | (simp [errW_none, errW_some] <;> rfl) | (simp [*, errW_none, errW_some] <;> rfl), by first | exact Kd.R_nil _ _ _ _ _ | exact Kd.N_nil _ _ _ _ _ | exact Kd.V_nil _ _ _ _ _ | exact Kd.Q_nil _ _ _ _ _ | exact Kd.S_nil _ _ _ _ _, by exact zBx HB.o⟩
   subst c10
   rw [if_pos rfl] at H
   obtain ⟨c11, H⟩ := zin H
   have c11b0 : decide (x14_1 < (x4_1.length : Int)) = true := decide_eq_true c11
   clear c11
   obtain ⟨y230, hy230⟩ : ∃ y_ : List Int, y_ = (x4_1.set (x14_1 : Int).toNat t228) := ⟨_, rfl⟩
   replace H : (qu.l0 k1 y230 l0 (l0.length : Int) (wrap64 (x14_1 + 1))) = some (r1, r2) := by first | (rw [hy230]; with_reducible exact H) | (have H2_ := (Option.bind_some _ _).symm.trans H; rw [hy230]; with_reducible exact H2_) | (have H2_ := (Option.bind_some _ _).symm.trans H; with_reducible exact H2_) | with_reducible exact H | (rw [hy230]; exact H) | exact H
   have Ny230 := Aq.mk hy230
   clear hy230
   focus
    have H' := Aq.mk H
    clear H
    have p227 : 0 ≤ (x14_1 : Int) := of_decide_eq_true zax
    have q227 : x14_1 < (l0.length : Int) := of_decide_eq_true zax
    obtain ⟨ad227, e227, hx227_0⟩ := Kd.at_string HR0.o x14_1 p227 q227
    cases e227
    replace hx227_0 := (HB.o.cell (World.block_lt_of_cell? w _ hx227_0)).trans hx227_0
    replace p227 := eq_true p227
    replace q227 := eq_true q227
    go_wp2_with (first | ((with_reducible refine gate_callee (f := 84) rfl ?_); refine goesL_ (some 21) rfl rfl Tryz.func84 (by kernel_rfl) rfl #[.string (rdOf ByteArray.empty l0 x14_1)] rfl zlx ?_; (with_reducible refine (impl_ParseInt.calls (rdOf ByteArray.empty l0 x14_1) t228 true _ ?sideL A9.o).mono ?_); (case sideL => exact Laid.below HL.o (zBx HB.o)); rintro e w13 ⟨rfl, hb⟩; refine ⟨_, rfl, ?_⟩; replace HO_4 := Aq.mk (Kd.R_below (zRx HO_4.o) hb); replace HB := Aq.mk (bsq (zBx HB.o) hb); (try clear hb); have p12 : 0 ≤ (x14_1 : Int) := of_decide_eq_true zax; have q12 : (x14_1 : Int) < ((x4_1.length : Int) : Int) := of_decide_eq_true zax; obtain ⟨go12, co12, eo12, gb12, gl12, cl12, HG12⟩ := Kd.R_form HO_4.o (by omega); (first | cases eo12 | (injection eo12 with ea_ en_ ec_; (first | subst ea_ | (injection ea_ with ea_; subst ea_)); subst ec_; clear en_)); have GB12 := Aq.mk gb12; have GG12 := Aq.mk HG12; clear gb12 gl12 HG12; obtain ⟨hx12_0, hf12_0⟩ := Kd.R_celln 0 HO_4.o (x14_1 : Int) p12 q12; replace p12 := eq_true p12; replace q12 := eq_true q12; obtain ⟨hy14_, hz14_⟩ := Kd.R_celln 0 HO_4.o (x14_1 : Int) (of_decide_eq_true zax) (of_decide_eq_true zax); have HP14 := Kd.R_putg HO_4.o (x14_1 : Int) t228) | ((with_reducible refine gate_store (t := 3) (p := 29) rfl ?_); refine store_event (t := 3) (p := 29) (v := ?vo_w15) (w1 := (w13.setCell ⟨go12, (x14_1 : Int).toNat, none⟩ (.int .i64 t228))) ?hg ?ho ?hn ?hr ?_; (case ho => rfl); (case hg => rfl); (case hn => rfl); (case hr => exact zsx); intro w15 hw; have hg : w13.grownBy w15 (some go12) := (by rw [hw]; exact HP14.2); have hp_ : Kd.R (Kd.int .i64) 3 w15 w.heap.size (fun _ => True) (.slice (some ⟨go12, 0, none⟩) x4_1.length co12) y230 := (by rw [hw, Ny230.o]; exact HP14.1); clear HP14; replace HO_4 := Aq.mk (hp_); replace HB := Aq.mk ((by rw [hw]; exact below_set (HB.o) GB12.o : Below w.heap.size w w15)); clear hg hw hp_))
    go_roundg k1
    case measure => have := HK1.o; omega
    case rel => exact ⟨(y230), (wrap64 (x14_1 + 1)), zrx, H', ⟨by have := HK1.o; omega⟩, ⟨by refine zDR ?_; exact HO_4.o⟩, ⟨by exact zBx HB.o⟩⟩
def qv.l0 : Nat → List ByteArray → ByteArray → Int → Int → Option (Int)
  | 0, _, _, _, _ => none
  | k + 1, x0, x1, x7, x8 => if x8 < x7 then (if 0 ≤ x8 then (if x8 < (x0.length : Int) then (if x1.toList = (rdOf ByteArray.empty x0 x8).toList then (some x8) else (qv.l0 k x0 x1 x7 (wrap64 (x8 + 1)))) else (none)) else (none)) else (some (-1))
def qv.f (k : Nat) (l0 : List ByteArray) (a1 : ByteArray) : Option (Int) := qv.l0 k l0 a1 (l0.length : Int) 0
set_option maxHeartbeats 8000000 in
set_option maxRecDepth 100000 in
theorem qv.calls (k : Nat) (A0 : Option Addr) (c0 : Nat) (l0 : List ByteArray) (a1 : ByteArray) (r : Int) (w : World) (hr0 : Kd.C Kd.string w A0 l0.length l0) (hc0 : l0.length ≤ c0) (h : qv.f k l0 a1 = some r) :
    Calls Tryz.prog 43 #[.slice A0 l0.length c0, .string a1] w fun e w' => e = .returned (.int .i64 r) ∧ Dq w w' := by
  have HR0 := Aq.mk hr0
  have HC0 := Aq.mk hc0
  clear hr0 hc0
  have H : (qv.l0 k l0 a1 (l0.length : Int) 0) = some r := h
  clear h
  have H' := Aq.mk H
  clear H
  go_enter Tryz.func43, Tryz.ntmps43
  go_wp2
  go_loopg [8] k (fun kq v8 w' => ∃ (x8_1 : Int), v8 = .int .i64 x8_1 ∧ Aq (qv.l0 kq l0 a1 (l0.length : Int) x8_1 = some r) ∧ Aq (kq ≤ k) ∧ Dq w w')
  case atStart => exact ⟨(0), (by first | rfl | (simp; done) | (simp [*]; done)), H', ⟨Nat.le_refl _⟩, by repeat (first | exact Dq.refl _ | apply Dq.step)⟩
  case round =>
    clear H'
    try clear p2
    obtain ⟨x8_1, rfl, HA, HK1, ⟨m1, rfl⟩⟩ := hrel
    cases gk with
    | zero => exact absurd HA.o (by simp [qv.l0])
    | succ k1 =>
      have H := HA.o
      clear HA
      simp only [qv.l0] at H
      by_cases c3 : x8_1 < (l0.length : Int)
      rotate_left
      · rw [if_neg c3] at H
        have c3b0 : decide (x8_1 < (l0.length : Int)) = false := decide_eq_false c3
        clear c3
        obtain rfl := Option.some.inj H
        go_wp2
        go_ret
        exact ⟨by first | rfl | (simp; done) | (simp [*]; done), by repeat (first | exact Dq.refl _ | apply Dq.step)⟩
      rw [if_pos c3] at H
      have c3b0 : decide (x8_1 < (l0.length : Int)) = true := decide_eq_true c3
      clear c3
      by_cases c4 : 0 ≤ x8_1
      rotate_left
      · rw [if_neg c4] at H
        exact absurd H (by simp)
      rw [if_pos c4] at H
      have c4b0 : decide (0 ≤ x8_1) = true := decide_eq_true c4
      clear c4
      by_cases c5 : x8_1 < (l0.length : Int)
      rotate_left
      · rw [if_neg c5] at H
        exact absurd H (by simp)
      rw [if_pos c5] at H
      have c5b0 : decide (x8_1 < (l0.length : Int)) = true := decide_eq_true c5
      clear c5
      by_cases c6 : a1.toList = (rdOf ByteArray.empty l0 x8_1).toList
      · rw [if_pos c6] at H
        have c6b0 : (a1.toList == (rdOf ByteArray.empty l0 x8_1).toList) = true := beq_iff_eq.mpr c6
        have c6b1 : (a1.toList != (rdOf ByteArray.empty l0 x8_1).toList) = false := bne_eq_false_iff_eq.mpr c6
        clear c6
        obtain rfl := Option.some.inj H
        have p265 : 0 ≤ (x8_1 : Int) := of_decide_eq_true (by first | (with_reducible assumption) | assumption)
        have q265 : x8_1 < (l0.length : Int) := of_decide_eq_true (by first | (with_reducible assumption) | assumption)
        obtain ⟨ad265, e265, hx265_0⟩ := Kd.at_string HR0.o x8_1 p265 q265
        cases e265
        replace p265 := eq_true p265
        replace q265 := eq_true q265
        go_wp2
        go_ret
        exact ⟨by first | rfl | (simp; done) | (simp [*]; done), by repeat (first | exact Dq.refl _ | apply Dq.step)⟩
      rw [if_neg c6] at H
      have c6b0 : (a1.toList == (rdOf ByteArray.empty l0 x8_1).toList) = false := beq_eq_false_iff_ne.mpr c6
      have c6b1 : (a1.toList != (rdOf ByteArray.empty l0 x8_1).toList) = true := bne_iff_ne.mpr c6
      have H' := Aq.mk H
      clear H
      have p265 : 0 ≤ (x8_1 : Int) := of_decide_eq_true (by first | (with_reducible assumption) | assumption)
      have q265 : x8_1 < (l0.length : Int) := of_decide_eq_true (by first | (with_reducible assumption) | assumption)
      obtain ⟨ad265, e265, hx265_0⟩ := Kd.at_string HR0.o x8_1 p265 q265
      cases e265
      replace p265 := eq_true p265
      replace q265 := eq_true q265
      go_wp2
      go_roundg k1
      case measure => have := HK1.o; omega
      case rel => exact ⟨(wrap64 (x8_1 + 1)), (by first | rfl | (simp; done) | (simp [*]; done)), H', ⟨by have := HK1.o; omega⟩, by repeat (first | exact Dq.refl _ | apply Dq.step)⟩
def ixS.l0 (p : ByteArray → Bool) : Nat → List (ByteArray) → Int → Option Int
 | 0, _, _ => none
 | k + 1, l, i => if i < (l.length : Int) then (if 0 ≤ i then (if p (rdOf ByteArray.empty l i) = true then some i else ixS.l0 p k l (wrap64 (i + 1))) else none) else some (-1)
set_option maxHeartbeats 8000000 in
set_option maxRecDepth 100000 in
theorem ixS.calls (k : Nat) (A0 : Option Addr) (c0 : Nat) (l0 : List (ByteArray)) (p : ByteArray → Bool) (g : FuncId) (fn : Func) (caps : Array Value) (r : Int) (w : World) (hgf : Tryz.prog.funcs[g]? = some fn) (hgn : (fn.name == "runtime.NumGoroutine") = false) (hgb : fn.body.isSome = true)
  (hp : ∀ i : Int, 0 ≤ i → i < (l0.length : Int) → ∀ W, Below w.heap.size w W → Calls Tryz.prog g (#[.string (rdOf ByteArray.empty l0 i)] ++ caps) W fun e W' => e = .returned (.bool (p (rdOf ByteArray.empty l0 i))) ∧ Below W.heap.size W W')
  (hr0 : Kd.C Kd.string w A0 l0.length l0) (hc0 : l0.length ≤ c0) (h : ixS.l0 p k l0 0 = some r) :
  Calls Tryz.prog 40 #[.slice A0 l0.length c0, .func (.func g) #[] caps] w fun e w' => e = .returned (.int .i64 r) ∧ Below w.heap.size w w' := by
 have HR0 := Aq.mk hr0
 have HC0 := Aq.mk hc0
 have HP := Aq.mk hp
 clear hr0 hc0 hp
 have HB := Aq.mk (Below.refl w.heap.size w)
 have H' := Aq.mk h
 clear h
 go_enter Tryz.func40, Tryz.ntmps40
 go_wp2
 go_loopg [8] k (fun kq v8 w' => ∃ (x8_1 : Int), v8 = .int .i64 x8_1 ∧ Aq (ixS.l0 p kq l0 x8_1 = some r) ∧ Aq (kq ≤ k) ∧ Aq (Below w.heap.size w w'))
 case atStart => exact ⟨(0), zrx, H', ⟨Nat.le_refl _⟩, ⟨by exact zBx HB.o⟩⟩
 case round =>
  clear H'
  obtain ⟨x8_1, rfl, HA, HK1, HB⟩ := hrel
  cases gk with
  | zero => exact absurd HA.o (by simp [ixS.l0])
  | succ k1 =>
   have H := HA.o
   clear HA
   simp only [ixS.l0] at H
   by_cases c3 : x8_1 < (l0.length : Int)
   rotate_left
   · rw [if_neg c3] at H
     have c3b0 : decide (x8_1 < (l0.length : Int)) = false := decide_eq_false c3
     clear c3
     obtain rfl := Option.some.inj H
     clear H
     go_wp2
     go_ret
     exact ⟨rfl, by exact zBx HB.o⟩
   rw [if_pos c3] at H
   have c3b0 : decide (x8_1 < (l0.length : Int)) = true := decide_eq_true c3
   clear c3
   by_cases c4 : 0 ≤ x8_1
   rotate_left
   · rw [if_neg c4] at H
     exact absurd H (by simp)
   rw [if_pos c4] at H
   have c4b0 : decide (0 ≤ x8_1) = true := decide_eq_true c4
   clear c4
   by_cases c7 : p (rdOf ByteArray.empty l0 x8_1) = true
   · rw [if_pos c7] at H
     have HC7 := Aq.mk c7
     clear c7
     obtain rfl := Option.some.inj H
     clear H
     have p174 : 0 ≤ (x8_1 : Int) := of_decide_eq_true zax
     have q174 : x8_1 < (l0.length : Int) := of_decide_eq_true zax
     obtain ⟨ad174, e174, hx174_0⟩ := Kd.at_string HR0.o x8_1 p174 q174
     cases e174
     replace hx174_0 := (HB.o.cell (World.block_lt_of_cell? w _ hx174_0)).trans hx174_0
     replace p174 := eq_true p174
     replace q174 := eq_true q174
     go_wp2_with (first | ((with_reducible refine gate_calleeT (t := 11) rfl ?_); refine goesC_ (t := 11) (some 16) rfl rfl hgf hgn hgb #[.string (rdOf ByteArray.empty l0 x8_1)] caps (#[.string (rdOf ByteArray.empty l0 x8_1)] ++ caps) ⟨rfl, rfl⟩ zlx rfl ?_; (with_reducible refine (HP.o x8_1 (of_decide_eq_true zax) (of_decide_eq_true zax) _ ?sb).mono ?_); (case sb => exact zBx HB.o); rintro e w8 ⟨he_, hb⟩; rw [HC7.o] at he_; subst he_; refine ⟨_, rfl, ?_⟩; replace HB := Aq.mk (bsq (zBx HB.o) hb); (try clear hb)))
     go_ret
     exact ⟨rfl, by exact zBx HB.o⟩
   rw [if_neg c7] at H
   have HC7 := Aq.mk (Bool.eq_false_iff.mpr c7)
   clear c7
   have H' := Aq.mk H
   clear H
   have p174 : 0 ≤ (x8_1 : Int) := of_decide_eq_true zax
   have q174 : x8_1 < (l0.length : Int) := of_decide_eq_true zax
   obtain ⟨ad174, e174, hx174_0⟩ := Kd.at_string HR0.o x8_1 p174 q174
   cases e174
   replace hx174_0 := (HB.o.cell (World.block_lt_of_cell? w _ hx174_0)).trans hx174_0
   replace p174 := eq_true p174
   replace q174 := eq_true q174
   go_wp2_with (first | ((with_reducible refine gate_calleeT (t := 11) rfl ?_); refine goesC_ (t := 11) (some 16) rfl rfl hgf hgn hgb #[.string (rdOf ByteArray.empty l0 x8_1)] caps (#[.string (rdOf ByteArray.empty l0 x8_1)] ++ caps) ⟨rfl, rfl⟩ zlx rfl ?_; (with_reducible refine (HP.o x8_1 (of_decide_eq_true zax) (of_decide_eq_true zax) _ ?sb).mono ?_); (case sb => exact zBx HB.o); rintro e w8 ⟨he_, hb⟩; rw [HC7.o] at he_; subst he_; refine ⟨_, rfl, ?_⟩; replace HB := Aq.mk (bsq (zBx HB.o) hb); (try clear hb)))
   go_roundg k1
   case measure => have := HK1.o; omega
   case rel => exact ⟨(wrap64 (x8_1 + 1)), zrx, H', ⟨by have := HK1.o; omega⟩, ⟨by exact zBx HB.o⟩⟩
set_option maxHeartbeats 1000000 in
theorem closure41 (x lv : ByteArray) (g : Nat) (w : World) (hc : w.cell? ⟨g, 0, none⟩ = some (.string lv)) (hs : x.size ≤ 140737488355328) (ha : ∀ b ∈ x.data.toList, b.toNat < 128) :
    Calls Tryz.prog 41 #[.string x, .pointer (some ⟨g, 0, none⟩)] w fun e w' => e = .returned (.bool ((B (Lib.toLowerA x.data.toList)).toList == lv.toList)) ∧ Below w.heap.size w w' := by
  go_enter Tryz.func41, Tryz.ntmps41
  go_wp2_with fail
  go_region_held3 (fun w' => w'.cell? ⟨g, 0, none⟩ = some (.string lv))
    (first | go_keep | exact pw_cell_below hb1 (by assumption))
    (first | (go_at_call 42; refine (toLower_calls x _ hs ha).mono ?_; rintro e w1 ⟨rfl, hb1⟩))
  all_goals go_wp2
  all_goals go_ret
  all_goals first | exact ⟨rfl, hb1⟩ | exact ⟨rfl, hb1.drew⟩ | exact ⟨rfl, (bsq (Below.refl _ _).drew hb1)⟩
end Go.Proofs.YtlfoojgbiafffaaGreatDoor.Strs
