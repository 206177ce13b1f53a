/-
  Printed functions of this seat that our own walks use, and strconv.Atoi as impl.ParseInt asks it. Conditions: none of ours.
-/
import Derived.Test.YtlfoojgbiafffaaGreatDoorStrsA
import Derived.Lib.Hide
namespace Go.Proofs.YtlfoojgbiafffaaGreatDoor.Strs
open Go.RowKit Go.Proofs.YtlfoojgbiafffaaGreatDoorW.PrintWords Go.Proofs.YtlfoojgbiafffaaGreatDoorW.PrintLast Go.Proofs.YtlfoojgbiafffaaGreatDoorW.PrintMore
set_option linter.unusedVariables false
set_option linter.unusedSimpArgs false
attribute [local go_sem] max2_int min2_int max_two min_two max_three min_three max_four min_four
def errW : Option Int → Value
 | none => .nilIface
 | some c => .iface 0 (.int .i64 c)
theorem errW_none : errW none = .nilIface := rfl
theorem errW_some (c : Int) : errW (some c) = .iface 0 (.int .i64 c) := rfl
theorem info3 : (Tryz.prog.info? 3).map (fun i => (i.zero, i.size, i.bytes)) = some (some (.int .i64 0), 1, 8) := by kernel_rfl
theorem info9 : (Tryz.prog.info? 9).map (fun i => (i.zero, i.size, i.bytes)) = some (some (.string ⟨#[]⟩), 1, 16) := by kernel_rfl
section
variable {P : Program} {ops : Array Oper} {Q : Exit → Act → World → Prop}
theorem gate_calleeT {o : Oper} {rest : List Oper} {a : Act} {W : World} {t : Tmp} {xo : Array Operand} {ts : Array TypeId} (_ho : o.op = .call { callee := .value (.tmp t), args := xo, argTypes := ts }) (h : wpList P ops Q (o :: rest) a W) : wpList P ops Q (o :: rest) a W := h
theorem goesC_ {rest : List Oper} {oi : Oper} {a : Act} {w : World} {t : Tmp} (N : Option Tmp) (hd : oi.dst = N) (hg : oi.guard = none) {f : FuncId} {fn : Func} {xo : Array Operand} {ts : Array TypeId} (hf : P.funcs[f]? = some fn) (hname : (fn.name == "runtime.NumGoroutine") = false) (hb : fn.body.isSome = true) (args caps all : Array Value)
 (hop : oi.op = .call { callee := .value (.tmp t), args := xo, argTypes := ts } ∧ a.eval (.tmp t) = .func (.func f) #[] caps) (hargs : xo.map a.eval = args) (hall : args ++ caps = all)
 (h : Calls P f all w fun e w' => ∃ v, e = .returned v ∧ wpList P ops Q rest (a.put N v) w') : wpList P ops Q (oi :: rest) a w := by
 subst hall
 refine wpList_plain hg fun K hK => ?_
 have he := enters_ hf hname hb (args ++ caps) w
 have hrun : (execOp a.eval oi).run P w = .ok (.enter f (args ++ caps)) w := by
  unfold execOp
  simp [hop.1, hop.2, resolve, Deferred.ofValue, invoke, hargs, he]
 unfold Oper.wp
 rw [hrun, Oper.upon_enter]
 refine h.mono fun e w'' hh => ?_
 obtain ⟨v, rfl, hk⟩ := hh
 subst hd
 exact hK _ _ hk
end
theorem zin {α : Type} {c : Prop} [Decidable c] {a : Option α} {r : α} (h : (if c then a else none) = some r) : c ∧ a = some r := by
  by_cases q : c
  · rw [if_pos q] at h; exact ⟨q, h⟩
  · rw [if_neg q] at h; cases h
theorem zBx {P Q : Prop} (h : P) (k : P → Q := by intro h_; repeat (first | (with_reducible first | exact h_ | apply below_alloc | apply pw_below_drewN | apply below_drew1) | exact h_)) : Q := k h
theorem zBy {P Q R : Prop} (h : P) (g : R) (k : P → R → Q := by intro h_ g_; repeat (first | (with_reducible first | exact h_ | apply below_alloc | apply pw_below_drewN | apply below_drew1 | refine below_set ?_ g_) | exact h_)) : Q := k h g
theorem zBz {P Q R S : Prop} (h : P) (g : R) (f : S) (k : P → R → S → Q := by intro h_ g_ f_; repeat (first | (with_reducible first | exact h_ | apply below_alloc | apply pw_below_drewN | apply below_drew1 | refine below_set ?_ g_ | refine below_set ?_ f_) | exact h_)) : Q := k h g f
theorem zKx {P Q : Prop} (h : P) (k : P → Q := by intro h_; repeat (first | (with_reducible first | exact h_ | apply Kq.set_ | apply keep_drewN | apply keep_drew | apply keep_alloc) | exact h_)) : Q := k h
theorem zKy {P Q R : Prop} (h : P) (g : R) (k : P → R → Q := by intro h_ g_; repeat (first | (with_reducible first | exact h_ | apply Kq.set_ | apply keep_drewN | apply keep_drew | apply keep_alloc | refine keep_far ?_ g_ _) | exact h_)) : Q := k h g
theorem zRx {P Q : Prop} (h : P) (k : P → Q := by intro h_; (with_reducible repeat (first | apply Kd.R_alloc | apply Kd.R_drewN | apply Kd.R_drew)); exact h_) : Q := k h
theorem zSx {P Q : Prop} (h : P) (k : P → Q := by intro h_; (with_reducible repeat (first | apply Kd.S_alloc | apply Kd.S_drewN | apply Kd.S_drew)); exact h_) : Q := k h
theorem zbx {P Q : Prop} (h : P) (k : P → Q := by intro h_; (with_reducible repeat (first | refine blk_drewN ?_ _ | refine blk_drew ?_ | refine blk_alloc ?_ _)); exact h_) : Q := k h
theorem zCx {P Q : Prop} (h : P) (k : P → Q := by intro h_; repeat (first | exact h_ | (with_reducible refine Kd.C_alloc ?_ _) | (with_reducible refine Kd.C_drewN ?_ _) | (with_reducible refine Kd.C_drew ?_))) : Q := k h
theorem zlx {P : Prop} (h : P := by (try simp only [List.map_toArray, List.map_cons, List.map_nil]); first | done | rfl | (simp only [List.length_drop, List.length_take]; rfl)) : P := h
theorem zax {P : Prop} (h : P := by first | (with_reducible assumption) | assumption) : P := h
theorem zrx {P : Prop} (h : P := by first | rfl | (simp; done) | (simp [*]; done)) : P := h
theorem zsx {P : Prop} (h : P := by first | (go_simp; done) | (go_simp; rfl)) : P := h
theorem zpx {P : Prop} (h : P := by (simp only [Act.put, List.setIfInBounds_toArray, List.set_cons_zero, List.set_cons_succ, i64_w, i32_w]; rfl)) : P := h
theorem zDQ {P Q : Prop} (h : P) (k : P → Q := by intro h_; (with_reducible repeat (first | apply Kd.Q_alloc | apply Kd.Q_drewN | apply Kd.Q_drew)); exact h_) : Q := k h
theorem zDR {P Q : Prop} (h : P) (k : P → Q := by intro h_; (with_reducible repeat (first | apply Kd.R_alloc | apply Kd.R_drewN | apply Kd.R_drew)); exact h_) : Q := k h
theorem zwx {P : Prop} (h : P := by (intro w'; go_simp; with_reducible rfl)) : P := h
theorem zbq {P Q : Prop} (h : P) (k : P → Q := by intro h_; repeat (first | (with_reducible first | exact h_ | refine blk_drewN ?_ _ | refine blk_drew ?_ | refine blk_alloc ?_ _ | refine blk_far ?_ (Aq.o (by with_reducible assumption)) _) | exact h_)) : Q := k h
theorem zbl {w0 w w1 : World} {g : Nat} {o : Obj} (h : w0.heap[g]? = some o) (hb : Below w.heap.size w w1) (k : w0.heap[g]? = some o → w.heap[g]? = some o := by intro h_; repeat (first | (with_reducible first | exact h_ | refine blk_drewN ?_ _ | refine blk_drew ?_ | refine blk_alloc ?_ _ | refine blk_far ?_ (Aq.o (by with_reducible assumption)) _) | exact h_)) : Aq (w1.heap[g]? = some o) := Aq.mk (blk_below (k h) hb)
theorem znl {w0 w : World} {g a : Nat} {o : Obj} (hg : a = w.heap.size) (h : w0.heap[g]? = some o) (k : w0.heap[g]? = some o → w.heap[g]? = some o := by intro h_; repeat (first | (with_reducible first | exact h_ | refine blk_drewN ?_ _ | refine blk_drew ?_ | refine blk_alloc ?_ _ | refine blk_far ?_ (Aq.o (by with_reducible assumption)) _) | exact h_)) : Aq (g ≠ a) := Aq.mk (by rw [hg]; exact Nat.ne_of_lt (blk_lt (k h)))
theorem zng {w0 w : World} {g a : Nat} {o : Obj} (hg : a = w.heap.size) (h : w0.heap[g]? = some o) (k : w0.heap[g]? = some o → w.heap[g]? = some o := by intro h_; repeat (first | (with_reducible first | exact h_ | refine blk_drewN ?_ _ | refine blk_drew ?_ | refine blk_alloc ?_ _ | refine blk_far ?_ (Aq.o (by with_reducible assumption)) _) | exact h_)) : Aq (a ≠ g) := Aq.mk (by rw [hg]; exact Nat.ne_of_gt (blk_lt (k h)))
theorem zhB {w W0 W : World} (h : Below w.heap.size w W0) (k : Below w.heap.size w W0 → Below w.heap.size w W := by intro h_; repeat (first | (with_reducible first | exact h_ | apply below_alloc | apply pw_below_drewN | apply below_drew1 | refine below_set ?_ (Aq.o (by with_reducible assumption))) | exact h_)) : Below w.heap.size w W := k h
theorem zns {w W W0 : World} {a : Nat} (hg : a = W.heap.size) (h : Below w.heap.size w W0) (k : Below w.heap.size w W0 → Below w.heap.size w W := by intro h_; repeat (first | (with_reducible first | exact h_ | apply below_alloc | apply pw_below_drewN | apply below_drew1 | refine below_set ?_ (Aq.o (by with_reducible assumption))) | exact h_)) : Aq (w.heap.size ≤ a) := Aq.mk (by rw [hg]; exact below_size (k h))
theorem zhK {w W0 W : World} {g : Nat} {row : Option Nat} (h : Kq w W0 g row) (k : Kq w W0 g row → Kq w W g row := by intro h_; repeat (first | (with_reducible first | exact h_ | apply Kq.set_ | apply keep_drewN | apply keep_drew | apply keep_alloc | refine keep_far ?_ (Aq.o (by with_reducible assumption)) _) | exact h_)) : Kq w W g row := k h
theorem zbp {w0 w : World} {g : Nat} {t : TypeId} {cs cs1 : Array Value} (h : w0.heap[g]? = some (.cells cs t (0, 0))) (k : w0.heap[g]? = some (.cells cs t (0, 0)) → w.heap[g]? = some (.cells cs1 t (0, 0)) := by (intro h_; (repeat (first | (with_reducible first | exact h_ | refine blk_drewN ?_ _ | refine blk_drew ?_ | refine blk_alloc ?_ _ | refine blk_far ?_ (Aq.o (by with_reducible assumption)) _) | (refine blk_put (cs := ?_) ?_ _ _ ?_; rotate_left 1) | exact h_)); (repeat rfl))) : w.heap[g]? = some (.cells cs1 t (0, 0)) := k h
theorem zc3 {w : World} {g : Nat} {t : TypeId} {a0 a1 a2 : Value} (h : w.heap[g]? = some (.cells #[a0, a1, a2] t (0, 0))) : w.cell? ⟨g, 0, none⟩ = some a0 ∧ w.cell? ⟨g, 1, none⟩ = some a1 ∧ w.cell? ⟨g, 2, none⟩ = some a2 ∧ w.frozen? ⟨g, 0, none⟩ = false ∧ w.frozen? ⟨g, 1, none⟩ = false ∧ w.frozen? ⟨g, 2, none⟩ = false := ⟨(bkc h 0).trans rfl, (bkc h 1).trans rfl, (bkc h 2).trans rfl, bkf h 0, bkf h 1, bkf h 2⟩
theorem zc6 {w : World} {g : Nat} {t : TypeId} {a0 a1 a2 a3 a4 a5 : Value} (h : w.heap[g]? = some (.cells #[a0, a1, a2, a3, a4, a5] t (0, 0))) : w.cell? ⟨g, 0, none⟩ = some a0 ∧ w.cell? ⟨g, 1, none⟩ = some a1 ∧ w.cell? ⟨g, 2, none⟩ = some a2 ∧ w.cell? ⟨g, 3, none⟩ = some a3 ∧ w.cell? ⟨g, 4, none⟩ = some a4 ∧ w.cell? ⟨g, 5, none⟩ = some a5 ∧ w.frozen? ⟨g, 0, none⟩ = false ∧ w.frozen? ⟨g, 1, none⟩ = false ∧ w.frozen? ⟨g, 2, none⟩ = false ∧ w.frozen? ⟨g, 3, none⟩ = false ∧ w.frozen? ⟨g, 4, none⟩ = false ∧ w.frozen? ⟨g, 5, none⟩ = false := ⟨(bkc h 0).trans rfl, (bkc h 1).trans rfl, (bkc h 2).trans rfl, (bkc h 3).trans rfl, (bkc h 4).trans rfl, (bkc h 5).trans rfl, bkf h 0, bkf h 1, bkf h 2, bkf h 3, bkf h 4, bkf h 5⟩
theorem zkb {w0 w w1 : World} {g g1 : Nat} {o : Obj} (hk : Kq w w1 g1 none) (h : w0.heap[g]? = some o) (hne : g ≠ g1) (k : w0.heap[g]? = some o → w.heap[g]? = some o := by intro h_; repeat (first | (with_reducible first | exact h_ | refine blk_drewN ?_ _ | refine blk_drew ?_ | refine blk_alloc ?_ _ | refine blk_far ?_ (Aq.o (by with_reducible assumption)) _) | exact h_)) : Aq (w1.heap[g]? = some o) := Aq.mk (Kq.blk hk (k h) hne (by simp))
theorem zgr {w0 w w1 : World} {g : Nat} {o : Obj} {row : Option Nat} (h : w0.heap[g]? = some o) (hg : w.grownBy w1 row) (hne : some g ≠ row) (k : w0.heap[g]? = some o → w.heap[g]? = some o := by intro h_; repeat (first | (with_reducible first | exact h_ | refine blk_drewN ?_ _ | refine blk_drew ?_ | refine blk_alloc ?_ _ | refine blk_far ?_ (Aq.o (by with_reducible assumption)) _) | exact h_)) : Aq (w1.heap[g]? = some o) := Aq.mk (blk_grown (k h) hg hne)
theorem zRf {α : Type} {d : Kd α} {e : TypeId} {W0 W : World} {base g : Nat} {ok : Nat → Prop} {v : Value} {xs : List α} (h : d.R e W0 base (fun k => ok k ∧ k ≠ g) v xs) (k : d.R e W0 base (fun k => ok k ∧ k ≠ g) v xs → d.R e W base (fun k => ok k ∧ k ≠ g) v xs := by intro h_; (repeat (first | (with_reducible exact h_) | (refine Kd.R_far ?_ (fun _ hk => hk.2) _) | (with_reducible apply Kd.R_alloc) | (with_reducible apply Kd.R_drewN) | (with_reducible apply Kd.R_drew)))) : d.R e W base (fun k => ok k ∧ k ≠ g) v xs := k h
theorem zQf {α : Type} {d : Kd α} {e : TypeId} {W0 W : World} {base g : Nat} {ok : Nat → Prop} {v : Value} {xs : List α} (h : d.Q e W0 base (fun k => ok k ∧ k ≠ g) v xs) (k : d.Q e W0 base (fun k => ok k ∧ k ≠ g) v xs → d.Q e W base (fun k => ok k ∧ k ≠ g) v xs := by intro h_; (repeat (first | (with_reducible exact h_) | (refine Kd.Q_far ?_ (fun _ hk => hk.2) _) | (with_reducible apply Kd.Q_alloc) | (with_reducible apply Kd.Q_drewN) | (with_reducible apply Kd.Q_drew)))) : d.Q e W base (fun k => ok k ∧ k ≠ g) v xs := k h
def qp.f (a0 : Int) (a1 : Int) (a2 : Int) : Option (Bool) := if a0 ≥ a1 then (some (decide (a0 ≤ a2))) else (some false)
set_option maxHeartbeats 8000000 in
set_option maxRecDepth 100000 in
theorem qp.calls (a0 : Int) (a1 : Int) (a2 : Int) (r : Bool) (w : World) (h : qp.f a0 a1 a2 = some r) :
 Calls Tryz.prog 69 #[.int .i64 a0, .int .i64 a1, .int .i64 a2] w fun e w' => e = .returned (.bool r) ∧ Dq w w' := by
 have H : (if a0 ≥ a1 then (some (decide (a0 ≤ a2))) else (some false)) = some r := h
 clear h
 by_cases c4 : a0 ≥ a1
 ·rw [if_pos c4] at H
  have c4b0 : decide (a1 ≤ a0) = true := decide_eq_true c4
  clear c4
  focus
   obtain rfl := Option.some.inj H
   go_enter Tryz.func69, Tryz.ntmps69
   go_wp2
   go_ret
   exact ⟨by first | rfl | (simp; done) | (simp [*]; done), by repeat (first | exact Dq.refl _ | apply Dq.step)⟩
 ·rw [if_neg c4] at H
  have c4b0 : decide (a1 ≤ a0) = false := decide_eq_false c4
  clear c4
  focus
   obtain rfl := Option.some.inj H
   go_enter Tryz.func69, Tryz.ntmps69
   go_wp2
   go_ret
   exact ⟨by first | rfl | (simp; done) | (simp [*]; done), by repeat (first | exact Dq.refl _ | apply Dq.step)⟩
def qF.f (a0_0 : Int) (a0_1 : Int) (a0_2 : Int) (a0_3 : Int) (a0_4 : Int) (a0_5 : Int) : Option (Bool) := (qp.f a0_0 1 999).bind fun t183 => (if t183 = true then ((qp.f a0_1 1 5).bind fun t184 => (if t184 = true then ((qp.f a0_2 1 3).bind fun t185 => (if t185 = true then ((qp.f a0_3 1 9).bind fun t186 => (if t186 = true then (if a0_4 ≥ 0 then (if a0_4 < a0_5 then (some (decide (a0_5 ≤ 240))) else (some false)) else (some false)) else (some false))) else (some false))) else (some false))) else (some false))
set_option maxHeartbeats 8000000 in
set_option maxRecDepth 100000 in
theorem qF.calls (a0_0 : Int) (a0_1 : Int) (a0_2 : Int) (a0_3 : Int) (a0_4 : Int) (a0_5 : Int) (r : Bool) (w : World) (h : qF.f a0_0 a0_1 a0_2 a0_3 a0_4 a0_5 = some r) :
 Calls Tryz.prog 36 #[.agg #[.int .i64 a0_0, .int .i64 a0_1, .int .i64 a0_2, .int .i64 a0_3, .int .i64 a0_4, .int .i64 a0_5]] w fun e w' => e = .returned (.bool r) ∧ Below w.heap.size w w' := by
 have hu25 := Tryz.underlying25
 have HB := Aq.mk (Below.refl w.heap.size w)
 have H : ((qp.f a0_0 1 999).bind fun t183 => (if t183 = true then ((qp.f a0_1 1 5).bind fun t184 => (if t184 = true then ((qp.f a0_2 1 3).bind fun t185 => (if t185 = true then ((qp.f a0_3 1 9).bind fun t186 => (if t186 = true then (if a0_4 ≥ 0 then (if a0_4 < a0_5 then (some (decide (a0_5 ≤ 240))) else (some false)) else (some false)) else (some false))) else (some false))) else (some false))) else (some false))) = some r := h
 clear h
 replace H := Option.bind_eq_some_iff.mp H
 obtain ⟨t183, A20, H⟩ := H
 replace H : (if t183 = true then ((qp.f a0_1 1 5).bind fun t184 => (if t184 = true then ((qp.f a0_2 1 3).bind fun t185 => (if t185 = true then ((qp.f a0_3 1 9).bind fun t186 => (if t186 = true then (if a0_4 ≥ 0 then (if a0_4 < a0_5 then (some (decide (a0_5 ≤ 240))) else (some false)) else (some false)) else (some false))) else (some false))) else (some false))) else (some false)) = some r := H
 have A2 := Aq.mk A20
 clear A20
 by_cases c3 : t183 = true
 rotate_left
 ·replace c3 := Bool.eq_false_iff.mpr c3
  subst c3
  rw [if_neg (show ¬ (false = true) by decide)] at H
  focus
   obtain rfl := Option.some.inj H
   go_enter Tryz.func36, Tryz.ntmps36
   go_wp2_with (first | ((with_reducible refine gate_dst (N := 1) rfl ?_); refine box_event ?hg (N := 1) ?hd (cs := #[.int .i64 a0_0, .int .i64 a0_1, .int .i64 a0_2, .int .i64 a0_3, .int .i64 a0_4, .int .i64 a0_5]) (t := 25) ?hr ?_; (case hd => rfl); (case hg => rfl); (case hr => exact zsx); intro gb182 hg w24 hbox hb; have BK182 := Aq.mk (hbox); have GW182 := zns hg HB.o; have GE182 := zns hg HB.o; replace HB := Aq.mk (bsq (zBx HB.o) hb); clear hb hbox hg; have hcz25_0 : w24.cell? ⟨gb182, 0, none⟩ = some (.int .i64 a0_0) := (bkc BK182.o 0).trans rfl; have hcz25_1 : w24.cell? ⟨gb182, 1, none⟩ = some (.int .i64 a0_1) := (bkc BK182.o 1).trans rfl; have hcz25_2 : w24.cell? ⟨gb182, 2, none⟩ = some (.int .i64 a0_2) := (bkc BK182.o 2).trans rfl; have hcz25_3 : w24.cell? ⟨gb182, 3, none⟩ = some (.int .i64 a0_3) := (bkc BK182.o 3).trans rfl; have hcz25_4 : w24.cell? ⟨gb182, 4, none⟩ = some (.int .i64 a0_4) := (bkc BK182.o 4).trans rfl; have hcz25_5 : w24.cell? ⟨gb182, 5, none⟩ = some (.int .i64 a0_5) := (bkc BK182.o 5).trans rfl; have hfz25_0 := bkf BK182.o 0; have hfz25_1 := bkf BK182.o 1; have hfz25_2 := bkf BK182.o 2; have hfz25_3 := bkf BK182.o 3; have hfz25_4 := bkf BK182.o 4; have hfz25_5 := bkf BK182.o 5) | ((with_reducible refine gate_callee (f := 69) rfl ?_); refine goesL_ (some 5) rfl rfl Tryz.func69 (by kernel_rfl) rfl #[.int .i64 a0_0, .int .i64 1, .int .i64 999] rfl zlx ?_; (with_reducible refine (qp.calls a0_0 1 999 false _ A2.o).mono ?_); rintro e w' ⟨rfl, ⟨nd, rfl⟩⟩; refine ⟨_, rfl, ?_⟩))
   go_ret
   exact ⟨by first | rfl | (simp [errW_none, errW_some] <;> rfl) | (simp [*, errW_none, errW_some] <;> rfl), by exact zBy HB.o GE182.o⟩
 subst c3
 rw [if_pos rfl] at H
 replace H := Option.bind_eq_some_iff.mp H
 obtain ⟨t184, A40, H⟩ := H
 replace H : (if t184 = true then ((qp.f a0_2 1 3).bind fun t185 => (if t185 = true then ((qp.f a0_3 1 9).bind fun t186 => (if t186 = true then (if a0_4 ≥ 0 then (if a0_4 < a0_5 then (some (decide (a0_5 ≤ 240))) else (some false)) else (some false)) else (some false))) else (some false))) else (some false)) = some r := H
 have A4 := Aq.mk A40
 clear A40
 by_cases c5 : t184 = true
 rotate_left
 ·replace c5 := Bool.eq_false_iff.mpr c5
  subst c5
  rw [if_neg (show ¬ (false = true) by decide)] at H
  focus
   obtain rfl := Option.some.inj H
   go_enter Tryz.func36, Tryz.ntmps36
   go_wp2_with (first | ((with_reducible refine gate_dst (N := 1) rfl ?_); refine box_event ?hg (N := 1) ?hd (cs := #[.int .i64 a0_0, .int .i64 a0_1, .int .i64 a0_2, .int .i64 a0_3, .int .i64 a0_4, .int .i64 a0_5]) (t := 25) ?hr ?_; (case hd => rfl); (case hg => rfl); (case hr => exact zsx); intro gb182 hg w22 hbox hb; have BK182 := Aq.mk (hbox); have GW182 := zns hg HB.o; have GE182 := zns hg HB.o; replace HB := Aq.mk (bsq (zBx HB.o) hb); clear hb hbox hg; have hcz23_0 : w22.cell? ⟨gb182, 0, none⟩ = some (.int .i64 a0_0) := (bkc BK182.o 0).trans rfl; have hcz23_1 : w22.cell? ⟨gb182, 1, none⟩ = some (.int .i64 a0_1) := (bkc BK182.o 1).trans rfl; have hcz23_2 : w22.cell? ⟨gb182, 2, none⟩ = some (.int .i64 a0_2) := (bkc BK182.o 2).trans rfl; have hcz23_3 : w22.cell? ⟨gb182, 3, none⟩ = some (.int .i64 a0_3) := (bkc BK182.o 3).trans rfl; have hcz23_4 : w22.cell? ⟨gb182, 4, none⟩ = some (.int .i64 a0_4) := (bkc BK182.o 4).trans rfl; have hcz23_5 : w22.cell? ⟨gb182, 5, none⟩ = some (.int .i64 a0_5) := (bkc BK182.o 5).trans rfl; have hfz23_0 := bkf BK182.o 0; have hfz23_1 := bkf BK182.o 1; have hfz23_2 := bkf BK182.o 2; have hfz23_3 := bkf BK182.o 3; have hfz23_4 := bkf BK182.o 4; have hfz23_5 := bkf BK182.o 5) | ((with_reducible refine gate_callee (f := 69) rfl ?_); refine goesL_ (some 5) rfl rfl Tryz.func69 (by kernel_rfl) rfl #[.int .i64 a0_0, .int .i64 1, .int .i64 999] rfl zlx ?_; (with_reducible refine (qp.calls a0_0 1 999 true _ A2.o).mono ?_); rintro e w' ⟨rfl, ⟨nd, rfl⟩⟩; refine ⟨_, rfl, ?_⟩) | (go_at_call 69; (with_reducible refine (qp.calls a0_1 1 5 false _ A4.o).mono ?_); rintro e w' ⟨rfl, ⟨nd, rfl⟩⟩))
   go_ret
   exact ⟨by first | rfl | (simp [errW_none, errW_some] <;> rfl) | (simp [*, errW_none, errW_some] <;> rfl), by exact zBy HB.o GE182.o⟩
 subst c5
 rw [if_pos rfl] at H
 replace H := Option.bind_eq_some_iff.mp H
 obtain ⟨t185, A60, H⟩ := H
 replace H : (if t185 = true then ((qp.f a0_3 1 9).bind fun t186 => (if t186 = true then (if a0_4 ≥ 0 then (if a0_4 < a0_5 then (some (decide (a0_5 ≤ 240))) else (some false)) else (some false)) else (some false))) else (some false)) = some r := H
 have A6 := Aq.mk A60
 clear A60
 by_cases c7 : t185 = true
 rotate_left
 ·replace c7 := Bool.eq_false_iff.mpr c7
  subst c7
  rw [if_neg (show ¬ (false = true) by decide)] at H
  focus
   obtain rfl := Option.some.inj H
   go_enter Tryz.func36, Tryz.ntmps36
   go_wp2_with (first | ((with_reducible refine gate_dst (N := 1) rfl ?_); refine box_event ?hg (N := 1) ?hd (cs := #[.int .i64 a0_0, .int .i64 a0_1, .int .i64 a0_2, .int .i64 a0_3, .int .i64 a0_4, .int .i64 a0_5]) (t := 25) ?hr ?_; (case hd => rfl); (case hg => rfl); (case hr => exact zsx); intro gb182 hg w20 hbox hb; have BK182 := Aq.mk (hbox); have GW182 := zns hg HB.o; have GE182 := zns hg HB.o; replace HB := Aq.mk (bsq (zBx HB.o) hb); clear hb hbox hg; have hcz21_0 : w20.cell? ⟨gb182, 0, none⟩ = some (.int .i64 a0_0) := (bkc BK182.o 0).trans rfl; have hcz21_1 : w20.cell? ⟨gb182, 1, none⟩ = some (.int .i64 a0_1) := (bkc BK182.o 1).trans rfl; have hcz21_2 : w20.cell? ⟨gb182, 2, none⟩ = some (.int .i64 a0_2) := (bkc BK182.o 2).trans rfl; have hcz21_3 : w20.cell? ⟨gb182, 3, none⟩ = some (.int .i64 a0_3) := (bkc BK182.o 3).trans rfl; have hcz21_4 : w20.cell? ⟨gb182, 4, none⟩ = some (.int .i64 a0_4) := (bkc BK182.o 4).trans rfl; have hcz21_5 : w20.cell? ⟨gb182, 5, none⟩ = some (.int .i64 a0_5) := (bkc BK182.o 5).trans rfl; have hfz21_0 := bkf BK182.o 0; have hfz21_1 := bkf BK182.o 1; have hfz21_2 := bkf BK182.o 2; have hfz21_3 := bkf BK182.o 3; have hfz21_4 := bkf BK182.o 4; have hfz21_5 := bkf BK182.o 5) | ((with_reducible refine gate_callee (f := 69) rfl ?_); refine goesL_ (some 5) rfl rfl Tryz.func69 (by kernel_rfl) rfl #[.int .i64 a0_0, .int .i64 1, .int .i64 999] rfl zlx ?_; (with_reducible refine (qp.calls a0_0 1 999 true _ A2.o).mono ?_); rintro e w' ⟨rfl, ⟨nd, rfl⟩⟩; refine ⟨_, rfl, ?_⟩) | (go_at_call 69; (with_reducible refine (qp.calls a0_1 1 5 true _ A4.o).mono ?_); rintro e w' ⟨rfl, ⟨nd, rfl⟩⟩) | (go_at_call 69; (with_reducible refine (qp.calls a0_2 1 3 false _ A6.o).mono ?_); rintro e w' ⟨rfl, ⟨nd, rfl⟩⟩))
   go_ret
   exact ⟨by first | rfl | (simp [errW_none, errW_some] <;> rfl) | (simp [*, errW_none, errW_some] <;> rfl), by exact zBy HB.o GE182.o⟩
 subst c7
 rw [if_pos rfl] at H
 replace H := Option.bind_eq_some_iff.mp H
 obtain ⟨t186, A80, H⟩ := H
 replace H : (if t186 = true then (if a0_4 ≥ 0 then (if a0_4 < a0_5 then (some (decide (a0_5 ≤ 240))) else (some false)) else (some false)) else (some false)) = some r := H
 have A8 := Aq.mk A80
 clear A80
 by_cases c9 : t186 = true
 rotate_left
 ·replace c9 := Bool.eq_false_iff.mpr c9
  subst c9
  rw [if_neg (show ¬ (false = true) by decide)] at H
  focus
   obtain rfl := Option.some.inj H
   go_enter Tryz.func36, Tryz.ntmps36
   go_wp2_with (first | ((with_reducible refine gate_dst (N := 1) rfl ?_); refine box_event ?hg (N := 1) ?hd (cs := #[.int .i64 a0_0, .int .i64 a0_1, .int .i64 a0_2, .int .i64 a0_3, .int .i64 a0_4, .int .i64 a0_5]) (t := 25) ?hr ?_; (case hd => rfl); (case hg => rfl); (case hr => exact zsx); intro gb182 hg w18 hbox hb; have BK182 := Aq.mk (hbox); have GW182 := zns hg HB.o; have GE182 := zns hg HB.o; replace HB := Aq.mk (bsq (zBx HB.o) hb); clear hb hbox hg; have hcz19_0 : w18.cell? ⟨gb182, 0, none⟩ = some (.int .i64 a0_0) := (bkc BK182.o 0).trans rfl; have hcz19_1 : w18.cell? ⟨gb182, 1, none⟩ = some (.int .i64 a0_1) := (bkc BK182.o 1).trans rfl; have hcz19_2 : w18.cell? ⟨gb182, 2, none⟩ = some (.int .i64 a0_2) := (bkc BK182.o 2).trans rfl; have hcz19_3 : w18.cell? ⟨gb182, 3, none⟩ = some (.int .i64 a0_3) := (bkc BK182.o 3).trans rfl; have hcz19_4 : w18.cell? ⟨gb182, 4, none⟩ = some (.int .i64 a0_4) := (bkc BK182.o 4).trans rfl; have hcz19_5 : w18.cell? ⟨gb182, 5, none⟩ = some (.int .i64 a0_5) := (bkc BK182.o 5).trans rfl; have hfz19_0 := bkf BK182.o 0; have hfz19_1 := bkf BK182.o 1; have hfz19_2 := bkf BK182.o 2; have hfz19_3 := bkf BK182.o 3; have hfz19_4 := bkf BK182.o 4; have hfz19_5 := bkf BK182.o 5) | ((with_reducible refine gate_callee (f := 69) rfl ?_); refine goesL_ (some 5) rfl rfl Tryz.func69 (by kernel_rfl) rfl #[.int .i64 a0_0, .int .i64 1, .int .i64 999] rfl zlx ?_; (with_reducible refine (qp.calls a0_0 1 999 true _ A2.o).mono ?_); rintro e w' ⟨rfl, ⟨nd, rfl⟩⟩; refine ⟨_, rfl, ?_⟩) | (go_at_call 69; (with_reducible refine (qp.calls a0_1 1 5 true _ A4.o).mono ?_); rintro e w' ⟨rfl, ⟨nd, rfl⟩⟩) | (go_at_call 69; (with_reducible refine (qp.calls a0_2 1 3 true _ A6.o).mono ?_); rintro e w' ⟨rfl, ⟨nd, rfl⟩⟩) | (go_at_call 69; (with_reducible refine (qp.calls a0_3 1 9 false _ A8.o).mono ?_); rintro e w' ⟨rfl, ⟨nd, rfl⟩⟩))
   go_ret
   exact ⟨by first | rfl | (simp [errW_none, errW_some] <;> rfl) | (simp [*, errW_none, errW_some] <;> rfl), by exact zBy HB.o GE182.o⟩
 subst c9
 rw [if_pos rfl] at H
 by_cases c10 : a0_4 ≥ 0
 rotate_left
 ·rw [if_neg c10] at H
  have c10b0 : decide (0 ≤ a0_4) = false := decide_eq_false c10
  clear c10
  focus
   obtain rfl := Option.some.inj H
   go_enter Tryz.func36, Tryz.ntmps36
   go_wp2_with (first | ((with_reducible refine gate_dst (N := 1) rfl ?_); refine box_event ?hg (N := 1) ?hd (cs := #[.int .i64 a0_0, .int .i64 a0_1, .int .i64 a0_2, .int .i64 a0_3, .int .i64 a0_4, .int .i64 a0_5]) (t := 25) ?hr ?_; (case hd => rfl); (case hg => rfl); (case hr => exact zsx); intro gb182 hg w16 hbox hb; have BK182 := Aq.mk (hbox); have GW182 := zns hg HB.o; have GE182 := zns hg HB.o; replace HB := Aq.mk (bsq (zBx HB.o) hb); clear hb hbox hg; have hcz17_0 : w16.cell? ⟨gb182, 0, none⟩ = some (.int .i64 a0_0) := (bkc BK182.o 0).trans rfl; have hcz17_1 : w16.cell? ⟨gb182, 1, none⟩ = some (.int .i64 a0_1) := (bkc BK182.o 1).trans rfl; have hcz17_2 : w16.cell? ⟨gb182, 2, none⟩ = some (.int .i64 a0_2) := (bkc BK182.o 2).trans rfl; have hcz17_3 : w16.cell? ⟨gb182, 3, none⟩ = some (.int .i64 a0_3) := (bkc BK182.o 3).trans rfl; have hcz17_4 : w16.cell? ⟨gb182, 4, none⟩ = some (.int .i64 a0_4) := (bkc BK182.o 4).trans rfl; have hcz17_5 : w16.cell? ⟨gb182, 5, none⟩ = some (.int .i64 a0_5) := (bkc BK182.o 5).trans rfl; have hfz17_0 := bkf BK182.o 0; have hfz17_1 := bkf BK182.o 1; have hfz17_2 := bkf BK182.o 2; have hfz17_3 := bkf BK182.o 3; have hfz17_4 := bkf BK182.o 4; have hfz17_5 := bkf BK182.o 5) | ((with_reducible refine gate_callee (f := 69) rfl ?_); refine goesL_ (some 5) rfl rfl Tryz.func69 (by kernel_rfl) rfl #[.int .i64 a0_0, .int .i64 1, .int .i64 999] rfl zlx ?_; (with_reducible refine (qp.calls a0_0 1 999 true _ A2.o).mono ?_); rintro e w' ⟨rfl, ⟨nd, rfl⟩⟩; refine ⟨_, rfl, ?_⟩) | (go_at_call 69; (with_reducible refine (qp.calls a0_1 1 5 true _ A4.o).mono ?_); rintro e w' ⟨rfl, ⟨nd, rfl⟩⟩) | (go_at_call 69; (with_reducible refine (qp.calls a0_2 1 3 true _ A6.o).mono ?_); rintro e w' ⟨rfl, ⟨nd, rfl⟩⟩) | (go_at_call 69; (with_reducible refine (qp.calls a0_3 1 9 true _ A8.o).mono ?_); rintro e w' ⟨rfl, ⟨nd, rfl⟩⟩))
   go_ret
   exact ⟨by first | rfl | (simp [errW_none, errW_some] <;> rfl) | (simp [*, errW_none, errW_some] <;> rfl), by exact zBy HB.o GE182.o⟩
 rw [if_pos c10] at H
 have c10b0 : decide (0 ≤ a0_4) = true := decide_eq_true c10
 clear c10
 by_cases c11 : a0_4 < a0_5
 ·rw [if_pos c11] at H
  have c11b0 : decide (a0_4 < a0_5) = true := decide_eq_true c11
  clear c11
  focus
   obtain rfl := Option.some.inj H
   go_enter Tryz.func36, Tryz.ntmps36
   go_wp2_with (first | ((with_reducible refine gate_dst (N := 1) rfl ?_); refine box_event ?hg (N := 1) ?hd (cs := #[.int .i64 a0_0, .int .i64 a0_1, .int .i64 a0_2, .int .i64 a0_3, .int .i64 a0_4, .int .i64 a0_5]) (t := 25) ?hr ?_; (case hd => rfl); (case hg => rfl); (case hr => exact zsx); intro gb182 hg w12 hbox hb; have BK182 := Aq.mk (hbox); have GW182 := zns hg HB.o; have GE182 := zns hg HB.o; replace HB := Aq.mk (bsq (zBx HB.o) hb); clear hb hbox hg; have hcz13_0 : w12.cell? ⟨gb182, 0, none⟩ = some (.int .i64 a0_0) := (bkc BK182.o 0).trans rfl; have hcz13_1 : w12.cell? ⟨gb182, 1, none⟩ = some (.int .i64 a0_1) := (bkc BK182.o 1).trans rfl; have hcz13_2 : w12.cell? ⟨gb182, 2, none⟩ = some (.int .i64 a0_2) := (bkc BK182.o 2).trans rfl; have hcz13_3 : w12.cell? ⟨gb182, 3, none⟩ = some (.int .i64 a0_3) := (bkc BK182.o 3).trans rfl; have hcz13_4 : w12.cell? ⟨gb182, 4, none⟩ = some (.int .i64 a0_4) := (bkc BK182.o 4).trans rfl; have hcz13_5 : w12.cell? ⟨gb182, 5, none⟩ = some (.int .i64 a0_5) := (bkc BK182.o 5).trans rfl; have hfz13_0 := bkf BK182.o 0; have hfz13_1 := bkf BK182.o 1; have hfz13_2 := bkf BK182.o 2; have hfz13_3 := bkf BK182.o 3; have hfz13_4 := bkf BK182.o 4; have hfz13_5 := bkf BK182.o 5) | ((with_reducible refine gate_callee (f := 69) rfl ?_); refine goesL_ (some 5) rfl rfl Tryz.func69 (by kernel_rfl) rfl #[.int .i64 a0_0, .int .i64 1, .int .i64 999] rfl zlx ?_; (with_reducible refine (qp.calls a0_0 1 999 true _ A2.o).mono ?_); rintro e w' ⟨rfl, ⟨nd, rfl⟩⟩; refine ⟨_, rfl, ?_⟩) | (go_at_call 69; (with_reducible refine (qp.calls a0_1 1 5 true _ A4.o).mono ?_); rintro e w' ⟨rfl, ⟨nd, rfl⟩⟩) | (go_at_call 69; (with_reducible refine (qp.calls a0_2 1 3 true _ A6.o).mono ?_); rintro e w' ⟨rfl, ⟨nd, rfl⟩⟩) | (go_at_call 69; (with_reducible refine (qp.calls a0_3 1 9 true _ A8.o).mono ?_); rintro e w' ⟨rfl, ⟨nd, rfl⟩⟩))
   go_ret
   exact ⟨by first | rfl | (simp [errW_none, errW_some] <;> rfl) | (simp [*, errW_none, errW_some] <;> rfl), by exact zBy HB.o GE182.o⟩
 ·rw [if_neg c11] at H
  have c11b0 : decide (a0_4 < a0_5) = false := decide_eq_false c11
  clear c11
  focus
   obtain rfl := Option.some.inj H
   go_enter Tryz.func36, Tryz.ntmps36
   go_wp2_with (first | ((with_reducible refine gate_dst (N := 1) rfl ?_); refine box_event ?hg (N := 1) ?hd (cs := #[.int .i64 a0_0, .int .i64 a0_1, .int .i64 a0_2, .int .i64 a0_3, .int .i64 a0_4, .int .i64 a0_5]) (t := 25) ?hr ?_; (case hd => rfl); (case hg => rfl); (case hr => exact zsx); intro gb182 hg w14 hbox hb; have BK182 := Aq.mk (hbox); have GW182 := zns hg HB.o; have GE182 := zns hg HB.o; replace HB := Aq.mk (bsq (zBx HB.o) hb); clear hb hbox hg; have hcz15_0 : w14.cell? ⟨gb182, 0, none⟩ = some (.int .i64 a0_0) := (bkc BK182.o 0).trans rfl; have hcz15_1 : w14.cell? ⟨gb182, 1, none⟩ = some (.int .i64 a0_1) := (bkc BK182.o 1).trans rfl; have hcz15_2 : w14.cell? ⟨gb182, 2, none⟩ = some (.int .i64 a0_2) := (bkc BK182.o 2).trans rfl; have hcz15_3 : w14.cell? ⟨gb182, 3, none⟩ = some (.int .i64 a0_3) := (bkc BK182.o 3).trans rfl; have hcz15_4 : w14.cell? ⟨gb182, 4, none⟩ = some (.int .i64 a0_4) := (bkc BK182.o 4).trans rfl; have hcz15_5 : w14.cell? ⟨gb182, 5, none⟩ = some (.int .i64 a0_5) := (bkc BK182.o 5).trans rfl; have hfz15_0 := bkf BK182.o 0; have hfz15_1 := bkf BK182.o 1; have hfz15_2 := bkf BK182.o 2; have hfz15_3 := bkf BK182.o 3; have hfz15_4 := bkf BK182.o 4; have hfz15_5 := bkf BK182.o 5) | ((with_reducible refine gate_callee (f := 69) rfl ?_); refine goesL_ (some 5) rfl rfl Tryz.func69 (by kernel_rfl) rfl #[.int .i64 a0_0, .int .i64 1, .int .i64 999] rfl zlx ?_; (with_reducible refine (qp.calls a0_0 1 999 true _ A2.o).mono ?_); rintro e w' ⟨rfl, ⟨nd, rfl⟩⟩; refine ⟨_, rfl, ?_⟩) | (go_at_call 69; (with_reducible refine (qp.calls a0_1 1 5 true _ A4.o).mono ?_); rintro e w' ⟨rfl, ⟨nd, rfl⟩⟩) | (go_at_call 69; (with_reducible refine (qp.calls a0_2 1 3 true _ A6.o).mono ?_); rintro e w' ⟨rfl, ⟨nd, rfl⟩⟩) | (go_at_call 69; (with_reducible refine (qp.calls a0_3 1 9 true _ A8.o).mono ?_); rintro e w' ⟨rfl, ⟨nd, rfl⟩⟩))
   go_ret
   exact ⟨by first | rfl | (simp [errW_none, errW_some] <;> rfl) | (simp [*, errW_none, errW_some] <;> rfl), by exact zBy HB.o GE182.o⟩
def qD.l0 : Nat → ByteArray → List ByteArray → List Int → Int → Int → Option (ByteArray)
 | 0, _, _, _, _, _ => none
 | k + 1, x1, x5, x11, x12, x13 => if x13 < x12 then (if 0 ≤ x13 then (if x13 < (x11.length : Int) then ((strconv_Itoa.f (rd x11 x13)).bind fun t207 => (if x13 < (x5.length : Int) then (qD.l0 k x1 (x5.set (x13 : Int).toNat t207) x11 x12 (wrap64 (x13 + 1))) else (none))) else (none)) else (none)) else ((strings_Join.f x5 x1).bind fun t209 => (some t209))
def qD.f (k : Nat) (l0 : List Int) (a1 : ByteArray) : Option (ByteArray) := if 0 ≤ (l0.length : Int) then (if ((l0.length : Int) : Int).toNat ≤ 17592186044416 then (qD.l0 k a1 (List.replicate ((l0.length : Int) : Int).toNat (⟨#[]⟩ : ByteArray)) l0 (l0.length : Int) 0) else (none)) else (none)
set_option maxHeartbeats 8000000 in
set_option maxRecDepth 100000 in
theorem qD.calls (k : Nat) (A0 : Option Addr) (c0 : Nat) (l0 : List Int) (a1 : ByteArray) (r : ByteArray) (w : World) (hr0 : Kd.C (Kd.int .i64) w A0 l0.length l0) (hc0 : l0.length ≤ c0) (hL : Laid w) (h : qD.f k l0 a1 = some r) :
 Calls Tryz.prog 82 #[.slice A0 l0.length c0, .string a1] w fun e w' => e = .returned (.string r) ∧ Below w.heap.size w w' := by
 have HR0 := Aq.mk hr0
 have HC0 := Aq.mk hc0
 clear hr0 hc0
 have HL := Aq.mk hL
 clear hL
 have HB := Aq.mk (Below.refl w.heap.size w)
 have H : (if 0 ≤ (l0.length : Int) then (if ((l0.length : Int) : Int).toNat ≤ 17592186044416 then (qD.l0 k a1 (List.replicate ((l0.length : Int) : Int).toNat (⟨#[]⟩ : ByteArray)) l0 (l0.length : Int) 0) else (none)) else (none)) = some r := h
 clear h
 by_cases c3 : 0 ≤ (l0.length : Int)
 rotate_left
 ·rw [if_neg c3] at H
  exact absurd H (by simp)
 rw [if_pos c3] at H
 have c3b0 := eq_true c3
 have c3b1 : decide (0 ≤ (l0.length : Int)) = true := decide_eq_true c3
 clear c3
 obtain ⟨c4, H⟩ := zin H
 have c4b0 := eq_true c4
 have c4b1 : decide (((l0.length : Int) : Int).toNat ≤ 17592186044416) = true := decide_eq_true c4
 clear c4
 obtain ⟨y203, hy203⟩ : ∃ y_ : List ByteArray, y_ = (List.replicate ((l0.length : Int) : Int).toNat (⟨#[]⟩ : ByteArray)) := ⟨_, rfl⟩
 replace H : (qD.l0 k a1 y203 l0 (l0.length : Int) 0) = some r := by first | (rw [hy203]; with_reducible exact H) | (have H2_ := (Option.bind_some _ _).symm.trans H; rw [hy203]; with_reducible exact H2_) | (have H2_ := (Option.bind_some _ _).symm.trans H; with_reducible exact H2_) | with_reducible exact H | (rw [hy203]; exact H) | exact H
 have Ny203 := Aq.mk hy203
 clear hy203
 have H' := Aq.mk H
 clear H
 go_enter Tryz.func82, Tryz.ntmps82
 go_wp2_with (first | ((with_reducible refine gate_dst (N := 10) rfl ?_); refine Kd.R_make Kd.string _ 9 rfl (N := 10) rfl 60 _ _ rfl (l0.length : Int) rfl rfl Tryz.underlying60 (.string ⟨#[]⟩) 16 info9 rfl (by decide) (by omega) (⟨#[]⟩ : ByteArray) (ok := fun _ => True) (okp := fun _ => True) rfl (fun _ hk => hk) trivial (of_decide_eq_true zax) (Nat.le_trans (Nat.mul_le_mul_right _ (of_decide_eq_true zax : (l0.length : Int).toNat ≤ 17592186044416)) (by omega)) (Below.refl _ _) (Nat.le_refl _) ?_; intro v204 w5 ho6 hb hg_ hnew_; clear hg_ hnew_; (first | rw [← Ny203.o] at ho6 | (simp only [Int.reduceToNat] at ho6; rw [← Ny203.o] at ho6)); have HO205 := Aq.mk (Kd.R_lower ho6 (below_size (zBx HB.o))); replace HB := Aq.mk (bsq (zBx HB.o) hb); clear hb ho6))
 go_loopg [13] k (fun kq v13 w' => ∃ (x5_1 : List ByteArray) (x13_1 : Int), v13 = .int .i64 x13_1 ∧ Aq (qD.l0 kq a1 x5_1 l0 (l0.length : Int) x13_1 = some r) ∧ Aq (kq ≤ k) ∧ Aq (Kd.R Kd.string 9 w' w.heap.size (fun _ => True) v204 x5_1) ∧ Aq (Below w.heap.size w w'))
 case atStart => exact ⟨(y203), (0), zrx, H', ⟨Nat.le_refl _⟩, ⟨by refine zDR ?_; exact HO205.o⟩, ⟨by exact zBx HB.o⟩⟩
 case round =>
  clear H'
  try clear p2
  try clear c3
  try clear c3b0
  try clear c3b1
  try clear c4
  try clear c4b0
  try clear c4b1
  obtain ⟨x5_1, x13_1, rfl, HA, HK1, HO_5, HB⟩ := hrel
  cases gk with
  | zero => exact absurd HA.o (by simp [qD.l0])
  | succ k1 =>
   have H := HA.o
   clear HA
   simp only [qD.l0] at H
   by_cases c7 : x13_1 < (l0.length : Int)
   rotate_left
   ·rw [if_neg c7] at H
    have c7b0 : decide (x13_1 < (l0.length : Int)) = false := decide_eq_false c7
    clear c7
    replace H := Option.bind_eq_some_iff.mp H
    obtain ⟨t209, A160, H⟩ := H
    replace H : (some t209) = some r := H
    have A16 := Aq.mk A160
    clear A160
    focus
     obtain rfl := Option.some.inj H
     obtain ⟨Ao17, co17, eo17⟩ := Kd.R_slice HO_5.o
     subst eo17
     go_wp2_with (first | ((with_reducible refine gate_callee (f := 115) rfl ?_); refine goesL_ (some 26) rfl rfl Tryz.func115 (by kernel_rfl) rfl #[.slice Ao17 x5_1.length co17, .string a1] rfl zlx ?_; (with_reducible refine (strings_Join.calls _ _ x5_1 a1 t209 _ ?side1 ?side2 A16.o).mono ?_); (case side1 => exact zCx (Kd.R_reads' HO_5.o).2.2); (case side2 => exact (Kd.R_reads' HO_5.o).2.1); rintro e w18 ⟨rfl, hb⟩; refine ⟨_, rfl, ?_⟩; replace HO_5 := Aq.mk (Kd.R_below (zRx HO_5.o) hb); replace HB := Aq.mk (bsq (zBx HB.o) hb); (try clear hb); (try clear hb2)))
     go_ret
     exact ⟨by first | rfl | (simp [errW_none, errW_some] <;> rfl) | (simp [*, errW_none, errW_some] <;> rfl), by exact zBx HB.o⟩
   rw [if_pos c7] at H
   have c7b0 : decide (x13_1 < (l0.length : Int)) = true := decide_eq_true c7
   clear c7
   obtain ⟨c8, H⟩ := zin H
   have c8b0 : decide (0 ≤ x13_1) = true := decide_eq_true c8
   clear c8
   obtain ⟨c9, H⟩ := zin H
   have c9b0 : decide (x13_1 < (l0.length : Int)) = true := decide_eq_true c9
   clear c9
   replace H := Option.bind_eq_some_iff.mp H
   obtain ⟨t207, A100, H⟩ := H
   replace H : (if x13_1 < (x5_1.length : Int) then (qD.l0 k1 a1 (x5_1.set (x13_1 : Int).toNat t207) l0 (l0.length : Int) (wrap64 (x13_1 + 1))) else (none)) = some r := H
   have A10 := Aq.mk A100
   clear A100
   obtain ⟨c11, H⟩ := zin H
   have c11b0 : decide (x13_1 < (x5_1.length : Int)) = true := decide_eq_true c11
   clear c11
   obtain ⟨y208, hy208⟩ : ∃ y_ : List ByteArray, y_ = (x5_1.set (x13_1 : Int).toNat t207) := ⟨_, rfl⟩
   replace H : (qD.l0 k1 a1 y208 l0 (l0.length : Int) (wrap64 (x13_1 + 1))) = some r := by first | (rw [hy208]; with_reducible exact H) | (have H2_ := (Option.bind_some _ _).symm.trans H; rw [hy208]; with_reducible exact H2_) | (have H2_ := (Option.bind_some _ _).symm.trans H; with_reducible exact H2_) | with_reducible exact H | (rw [hy208]; exact H) | exact H
   have Ny208 := Aq.mk hy208
   clear hy208
   focus
    have H' := Aq.mk H
    clear H
    have p206 : 0 ≤ (x13_1 : Int) := of_decide_eq_true zax
    have q206 : x13_1 < (l0.length : Int) := of_decide_eq_true zax
    obtain ⟨ad206, e206, hx206_0⟩ := Kd.at_int HR0.o x13_1 p206 q206
    cases e206
    replace hx206_0 := (HB.o.cell (World.block_lt_of_cell? w _ hx206_0)).trans hx206_0
    replace p206 := eq_true p206
    replace q206 := eq_true q206
    go_wp2_with (first | ((with_reducible refine gate_callee (f := 81) rfl ?_); refine goesL_ (some 21) rfl rfl Tryz.func81 (by kernel_rfl) rfl #[.int .i64 (rd l0 x13_1)] rfl zlx ?_; (with_reducible refine (strconv_Itoa.calls (rd l0 x13_1) t207 _ ?sideL A10.o).mono ?_); (case sideL => exact Laid.below HL.o (zBx HB.o)); rintro e w13 ⟨rfl, hb⟩; refine ⟨_, rfl, ?_⟩; replace HO_5 := Aq.mk (Kd.R_below (zRx HO_5.o) hb); replace HB := Aq.mk (bsq (zBx HB.o) hb); (try clear hb); have p12 : 0 ≤ (x13_1 : Int) := of_decide_eq_true zax; have q12 : (x13_1 : Int) < ((x5_1.length : Int) : Int) := of_decide_eq_true zax; obtain ⟨go12, co12, eo12, gb12, gl12, cl12, HG12⟩ := Kd.R_form HO_5.o (by omega); (first | cases eo12 | (injection eo12 with ea_ en_ ec_; (first | subst ea_ | (injection ea_ with ea_; subst ea_)); subst ec_; clear en_)); have GB12 := Aq.mk gb12; have GG12 := Aq.mk HG12; clear gb12 gl12 HG12; obtain ⟨hx12_0, hf12_0⟩ := Kd.R_celln (⟨#[]⟩ : ByteArray) HO_5.o (x13_1 : Int) p12 q12; replace p12 := eq_true p12; replace q12 := eq_true q12; obtain ⟨hy14_, hz14_⟩ := Kd.R_celln (⟨#[]⟩ : ByteArray) HO_5.o (x13_1 : Int) (of_decide_eq_true zax) (of_decide_eq_true zax); have HP14 := Kd.R_putg HO_5.o (x13_1 : Int) t207) | ((with_reducible refine gate_store (t := 9) (p := 22) rfl ?_); refine store_event (t := 9) (p := 22) (v := ?vo_w15) (w1 := (w13.setCell ⟨go12, (x13_1 : Int).toNat, none⟩ (.string t207))) ?hg ?ho ?hn ?hr ?_; (case ho => rfl); (case hg => rfl); (case hn => rfl); (case hr => exact zsx); intro w15 hw; have hg : w13.grownBy w15 (some go12) := (by rw [hw]; exact HP14.2); have hp_ : Kd.R Kd.string 9 w15 w.heap.size (fun _ => True) (.slice (some ⟨go12, 0, none⟩) x5_1.length co12) y208 := (by rw [hw, Ny208.o]; exact HP14.1); clear HP14; replace HO_5 := Aq.mk (hp_); replace HB := Aq.mk ((by rw [hw]; exact below_set (HB.o) GB12.o : Below w.heap.size w w15)); clear hg hw hp_))
    go_roundg k1
    case measure => have := HK1.o; omega
    case rel => exact ⟨(y208), (wrap64 (x13_1 + 1)), zrx, H', ⟨by have := HK1.o; omega⟩, ⟨by refine zDR ?_; exact HO_5.o⟩, ⟨by exact zBx HB.o⟩⟩
def pIntL (l : List UInt8) : Int × Bool :=
  match Lib.atoiAll l with
  | .ok v => if -999999 ≤ v ∧ v ≤ 999999 ∧ Lib.itoa v = l then (v, true) else (0, false)
  | _ => (0, false)
def impl_ParseInt.f (a0 : ByteArray) : Option (Int × Bool) := if a0.size ≤ 281474976710656 then some (pIntL a0.data.toList) else none
theorem within_calls (v a b : Int) (r : Bool) (w : World) (h : decide (a ≤ v ∧ v ≤ b) = r) : Calls Tryz.prog 69 #[.int .i64 v, .int .i64 a, .int .i64 b] w fun e w' => e = .returned (.bool r) ∧ Below w.heap.size w w' := by
  refine (qp.calls v a b r w ?_).mono ?_
  · unfold qp.f
    by_cases h1 : v ≥ a
    · rw [if_pos h1, ← h]; congr 1; simp [h1]
    · rw [if_neg h1, ← h]; congr 1; simp; omega
  · rintro e w' ⟨rfl, hd⟩
    exact ⟨rfl, hd.below⟩
set_option maxHeartbeats 1000000 in
set_option maxRecDepth 100000 in
theorem impl_ParseInt.calls (a0 : ByteArray) (r1 : Int) (r2 : Bool) (w : World) (hL : Laid w) (h : impl_ParseInt.f a0 = some (r1, r2)) :
    Calls Tryz.prog 84 #[.string a0] w fun e w' => e = .returned (.tuple #[.int .i64 r1, .bool r2]) ∧ Below w.heap.size w w' := by
  unfold impl_ParseInt.f at h
  split at h
  case isFalse => cases h
  case isTrue hsz =>
  have h1 := Option.some.inj h
  clear h
  by_cases hv : ∃ v, Lib.atoiAll a0.data.toList = .ok v
  rotate_left
  · have e1 : pIntL a0.data.toList = (0, false) := by
      unfold pIntL
      cases hc : Lib.atoiAll a0.data.toList with
      | ok v => exact absurd ⟨v, hc⟩ hv
      | range => rfl
      | _ => rfl
    rw [e1] at h1
    obtain ⟨rfl, rfl⟩ := Prod.mk.inj h1
    have HV := Lib.hid hv
    clear hv e1 h1
    go_enter Tryz.func84, Tryz.ntmps84
    go_wp2_with (first | (go_at_call 117; refine (atoi_no a0 hsz (fun v hv => HV.out ⟨v, hv⟩) _ hL).mono ?_; rintro e w1 ⟨n, t, N, rfl, hb1⟩))
    go_ret2
    exact ⟨rfl, hb1⟩
  obtain ⟨v, hv⟩ := hv
  by_cases hr : -999999 ≤ v ∧ v ≤ 999999
  rotate_left
  · have hd : decide (-999999 ≤ v ∧ v ≤ 999999) = false := decide_eq_false hr
    have e1 : pIntL a0.data.toList = (0, false) := by unfold pIntL; rw [hv]; simp only; rw [if_neg (fun h => hr ⟨h.1, h.2.1⟩)]
    rw [e1] at h1
    obtain ⟨rfl, rfl⟩ := Prod.mk.inj h1
    have HV := Lib.hid hv
    clear hv hr e1 h1
    go_enter Tryz.func84, Tryz.ntmps84
    go_wp2_with (first | (go_at_call 117; refine (atoi_ok a0 hsz v HV.out _).mono ?_; rintro e w1 ⟨rfl, hb1⟩) | (go_at_call 69; refine (within_calls v _ _ false _ hd).mono ?_; rintro e w2 ⟨rfl, hb2⟩))
    go_ret2
    exact ⟨rfl, bsq hb1 hb2⟩
  have hd : decide (-999999 ≤ v ∧ v ≤ 999999) = true := decide_eq_true hr
  by_cases he : Lib.itoa v = a0.data.toList
  · have e1 : pIntL a0.data.toList = (v, true) := by unfold pIntL; rw [hv]; simp only; rw [if_pos ⟨hr.1, hr.2, he⟩]
    rw [e1] at h1
    obtain ⟨rfl, rfl⟩ := Prod.mk.inj h1
    have hb0 : ((B (Lib.itoa v)).toList == a0.toList) = true := by rw [he]; simp [B]
    have hb1 : ((B (Lib.itoa v)).toList != a0.toList) = false := by rw [he]; simp [B]
    have HV := Lib.hid hv
    have HE := Lib.hid he
    clear hv he e1 h1
    go_enter Tryz.func84, Tryz.ntmps84
    go_wp2_with (first | (go_at_call 117; refine (atoi_ok a0 hsz v HV.out _).mono ?_; rintro e w1 ⟨rfl, hb1⟩) | (go_at_call 69; refine (within_calls v _ _ true _ hd).mono ?_; rintro e w2 ⟨rfl, hb2⟩) | (go_at_call 81; refine (strconv_Itoa.calls v (B (Lib.itoa v)) _ ((hL.below hb1).below hb2) (by unfold strconv_Itoa.f; rw [if_pos ⟨by omega, by omega⟩])).mono ?_; rintro e w3 ⟨rfl, hb3⟩))
    go_ret2
    exact ⟨rfl, bsq (bsq hb1 hb2) hb3⟩
  · have e1 : pIntL a0.data.toList = (0, false) := by unfold pIntL; rw [hv]; simp only; rw [if_neg (fun h => he h.2.2)]
    rw [e1] at h1
    obtain ⟨rfl, rfl⟩ := Prod.mk.inj h1
    have hb0 : ((B (Lib.itoa v)).toList == a0.toList) = false := by rw [beq_eq_false_iff_ne, Lib.toList_data, Lib.toList_data]; exact fun h => he (by simpa [B] using h)
    have hb1 : ((B (Lib.itoa v)).toList != a0.toList) = true := by rw [bne, hb0]; rfl
    have HV := Lib.hid hv
    clear hv he e1 h1
    go_enter Tryz.func84, Tryz.ntmps84
    go_wp2_with (first | (go_at_call 117; refine (atoi_ok a0 hsz v HV.out _).mono ?_; rintro e w1 ⟨rfl, hb1⟩) | (go_at_call 69; refine (within_calls v _ _ true _ hd).mono ?_; rintro e w2 ⟨rfl, hb2⟩) | (go_at_call 81; refine (strconv_Itoa.calls v (B (Lib.itoa v)) _ ((hL.below hb1).below hb2) (by unfold strconv_Itoa.f; rw [if_pos ⟨by omega, by omega⟩])).mono ?_; rintro e w3 ⟨rfl, hb3⟩))
    go_ret2
    exact ⟨rfl, bsq (bsq hb1 hb2) hb3⟩
end Go.Proofs.YtlfoojgbiafffaaGreatDoor.Strs
