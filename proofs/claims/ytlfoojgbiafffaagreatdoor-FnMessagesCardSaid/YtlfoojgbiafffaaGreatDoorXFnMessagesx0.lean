-- written by wip/tools/xprint.py (a program of this project) out of the translation
import Derived.Test.YtlfoojgbiafffaaGreatDoorProg
import Derived.Test.YtlfoojgbiafffaaGreatDoorStrsE
import Derived.Below
import Derived.Deep.Draws
import Derived.Deep.AppendLies
import Derived.Maps.AppendAt
import Derived.OwnWalk
import Derived.Laws.BytesArg
import Derived.Laws.MakeOwn
import Derived.Laws.OwnMore
import Derived.Deep.OwnRows
import Derived.Tactics
import Derived.Lib.ConvBytes
import Derived.Laws.Slices
import Derived.WalkKit
import Derived.KernelRfl
import Derived.RowKit3
import Derived.Deep.LoopGhost
import Derived.Deep.QuietTactic
import Derived.BigQuiet
import Derived.WideLaws
import Derived.Deep.DeepCutAuto
import Derived.Deep.CutBlock
import Derived.Deep.RegionHeld3
import Derived.Laws.Rows
import Derived.Lib.AppendStr
import Derived.ArgAppend
import Derived.Laws.IdiomCopy
import Derived.OrdersHeld
import Derived.Laws.BitsLemmas
import Derived.RowKit
import Derived.WalkSpells
import Derived.Test.YtlfoojgbiafffaaGreatDoorWWords
import Derived.Test.YtlfoojgbiafffaaGreatDoorWLast
import Derived.Test.YtlfoojgbiafffaaGreatDoorWTab
import Derived.Test.YtlfoojgbiafffaaGreatDoorWFour
import Derived.Test.YtlfoojgbiafffaaGreatDoorWQPut
import Derived.Test.YtlfoojgbiafffaaGreatDoorWApart
import Derived.Test.YtlfoojgbiafffaaGreatDoorWArr
import Derived.Test.YtlfoojgbiafffaaGreatDoorWZeros
import Derived.Test.YtlfoojgbiafffaaGreatDoorWFoot
import Derived.Test.YtlfoojgbiafffaaGreatDoorWKept
import Derived.Test.YtlfoojgbiafffaaGreatDoorWShare
import Derived.Test.YtlfoojgbiafffaaGreatDoorWN
import Derived.Test.YtlfoojgbiafffaaGreatDoorWFootNe
import Derived.Test.YtlfoojgbiafffaaGreatDoorWAt
import Derived.Test.YtlfoojgbiafffaaGreatDoorWEqStruct
import Derived.Test.YtlfoojgbiafffaaGreatDoorWRepsOne
import Derived.Test.YtlfoojgbiafffaaGreatDoorWInv
import Derived.Test.YtlfoojgbiafffaaGreatDoorWInvWords
import Derived.Test.YtlfoojgbiafffaaGreatDoorWGuard
import Derived.Test.YtlfoojgbiafffaaGreatDoorWNEv
import Derived.Test.YtlfoojgbiafffaaGreatDoorWMore
namespace Go.Proofs.YtlfoojgbiafffaaGreatDoor.XFnMessages
open Go.RowKit Go.Proofs.YtlfoojgbiafffaaGreatDoorW.PrintWords Go.Proofs.YtlfoojgbiafffaaGreatDoorW.PrintLast Go.Proofs.YtlfoojgbiafffaaGreatDoorW.PrintMore
open Go.Proofs.YtlfoojgbiafffaaGreatDoor.Strs
attribute [local go_sem] max2_int min2_int max_two min_two max_three min_three max_four min_four   -- for this text's walks alone
set_option linter.unusedVariables false
set_option linter.unusedSimpArgs false



def errW : Option Int → Value
 | none => .nilIface
 | some c => .iface 0 (.int .i64 c)
theorem errW_none : errW none = .nilIface := rfl
theorem errW_some (c : Int) : errW (some c) = .iface 0 (.int .i64 c) := rfl

theorem info3 : (Tryz.prog.info? 3).map (fun i => (i.zero, i.size, i.bytes)) = some (some (.int .i64 0), 1, 8) := by kernel_rfl
theorem info5 : (Tryz.prog.info? 5).map (fun i => (i.zero, i.size, i.bytes)) = some (some (.int .u8 0), 1, 1) := by kernel_rfl
theorem info9 : (Tryz.prog.info? 9).map (fun i => (i.zero, i.size, i.bytes)) = some (some (.string ⟨#[]⟩), 1, 16) := by kernel_rfl
-- the values' own types

section
variable {P : Program} {ops : Array Oper} {Q : Exit → Act → World → Prop}
theorem gate_calleeT {o : Oper} {rest : List Oper} {a : Act} {W : World} {t : Tmp} {xo : Array Operand} {ts : Array TypeId} (_ho : o.op = .call { callee := .value (.tmp t), args := xo, argTypes := ts }) (h : wpList P ops Q (o :: rest) a W) : wpList P ops Q (o :: rest) a W := h
theorem goesT_ {rest : List Oper} {oi : Oper} {a : Act} {w : World} {t : Tmp} (N : Option Tmp) (hd : oi.dst = N) (hg : oi.guard = none) {f : FuncId} {fn : Func} {xo : Array Operand} {ts : Array TypeId} (hf : P.funcs[f]? = some fn) (hname : (fn.name == "runtime.NumGoroutine") = false) (hb : fn.body.isSome = true) (args : Array Value)
 (hop : oi.op = .call { callee := .value (.tmp t), args := xo, argTypes := ts } ∧ a.eval (.tmp t) = .func (.func f) #[] #[]) (hargs : xo.map a.eval = args)
 (h : Calls P f args w fun e w' => ∃ v, e = .returned v ∧ wpList P ops Q rest (a.put N v) w') : wpList P ops Q (oi :: rest) a w := by
 refine wpList_plain hg fun K hK => ?_
 have he := enters_ hf hname hb args w
 have hrun : (execOp a.eval oi).run P w = .ok (.enter f args) w := by
  unfold execOp
  simp [hop.1, hop.2, resolve, Deferred.ofValue, invoke, hargs, he]
 unfold Oper.wp
 rw [hrun, Oper.upon_enter]
 refine h.mono fun e w'' hh => ?_
 obtain ⟨v, rfl, hk⟩ := hh
 subst hd
 exact hK _ _ hk
/-- A call of a function value with captured variables: they come behind the arguments. -/
theorem goesC_ {rest : List Oper} {oi : Oper} {a : Act} {w : World} {t : Tmp} (N : Option Tmp) (hd : oi.dst = N) (hg : oi.guard = none) {f : FuncId} {fn : Func} {xo : Array Operand} {ts : Array TypeId} (hf : P.funcs[f]? = some fn) (hname : (fn.name == "runtime.NumGoroutine") = false) (hb : fn.body.isSome = true) (args caps all : Array Value)
 (hop : oi.op = .call { callee := .value (.tmp t), args := xo, argTypes := ts } ∧ a.eval (.tmp t) = .func (.func f) #[] caps) (hargs : xo.map a.eval = args) (hall : args ++ caps = all)
 (h : Calls P f all w fun e w' => ∃ v, e = .returned v ∧ wpList P ops Q rest (a.put N v) w') : wpList P ops Q (oi :: rest) a w := by
 subst hall
 refine wpList_plain hg fun K hK => ?_
 have he := enters_ hf hname hb (args ++ caps) w
 have hrun : (execOp a.eval oi).run P w = .ok (.enter f (args ++ caps)) w := by
  unfold execOp
  simp [hop.1, hop.2, resolve, Deferred.ofValue, invoke, hargs, he]
 unfold Oper.wp
 rw [hrun, Oper.upon_enter]
 refine h.mono fun e w'' hh => ?_
 obtain ⟨v, rfl, hk⟩ := hh
 subst hd
 exact hK _ _ hk
end
theorem far_cut {n m c g : Nat} {A : Option Addr} (hne : some g ≠ (Value.slice A n c).ownBlock) : ∀ ad, A = some ad → 0 < m → ad.block ≠ g := by
 rintro ad rfl _ rfl
 exact hne (by simp [Value.ownBlock])
theorem zBx {P Q : Prop} (h : P) (k : P → Q := by intro h_; repeat (first | (with_reducible first | exact h_ | apply below_alloc | apply pw_below_drewN | apply below_drew1) | exact h_)) : Q := k h
theorem zBy {P Q R : Prop} (h : P) (g : R) (k : P → R → Q := by intro h_ g_; repeat (first | (with_reducible first | exact h_ | apply below_alloc | apply pw_below_drewN | apply below_drew1 | refine below_set ?_ g_) | exact h_)) : Q := k h g
theorem zBz {P Q R S : Prop} (h : P) (g : R) (f : S) (k : P → R → S → Q := by intro h_ g_ f_; repeat (first | (with_reducible first | exact h_ | apply below_alloc | apply pw_below_drewN | apply below_drew1 | refine below_set ?_ g_ | refine below_set ?_ f_) | exact h_)) : Q := k h g f
theorem zKx {P Q : Prop} (h : P) (k : P → Q := by intro h_; repeat (first | (with_reducible first | exact h_ | apply KeepBut.set_ | apply keep_drewN | apply keep_drew | apply keep_alloc) | exact h_)) : Q := k h
theorem zKy {P Q R : Prop} (h : P) (g : R) (k : P → R → Q := by intro h_ g_; repeat (first | (with_reducible first | exact h_ | apply KeepBut.set_ | apply keep_drewN | apply keep_drew | apply keep_alloc | refine keep_far ?_ g_ _) | exact h_)) : Q := k h g
theorem zRx {P Q : Prop} (h : P) (k : P → Q := by intro h_; (with_reducible repeat (first | apply Kd.R_alloc | apply Kd.R_drewN | apply Kd.R_drew)); exact h_) : Q := k h
theorem zSx {P Q : Prop} (h : P) (k : P → Q := by intro h_; (with_reducible repeat (first | apply Kd.S_alloc | apply Kd.S_drewN | apply Kd.S_drew)); exact h_) : Q := k h
theorem zbx {P Q : Prop} (h : P) (k : P → Q := by intro h_; (with_reducible repeat (first | refine blk_drewN ?_ _ | refine blk_drew ?_ | refine blk_alloc ?_ _)); exact h_) : Q := k h
theorem zCx {P Q : Prop} (h : P) (k : P → Q := by intro h_; repeat (first | exact h_ | (with_reducible refine Kd.C_alloc ?_ _) | (with_reducible refine Kd.C_drewN ?_ _) | (with_reducible refine Kd.C_drew ?_))) : Q := k h
theorem zlx {P : Prop} (h : P := by (try simp only [List.map_toArray, List.map_cons, List.map_nil]); first | done | rfl | (simp only [List.length_drop, List.length_take]; rfl)) : P := h
theorem zax {P : Prop} (h : P := by first | (with_reducible assumption) | assumption) : P := h
theorem zrx {P : Prop} (h : P := by first | rfl | (simp; done) | (simp [*]; done)) : P := h
theorem zdx {P : Prop} (h : P := by first | exact ⟨rfl, _, World.drewN_drewN _ _ _⟩ | exact ⟨rfl, _, Eq.trans (World.drewN_drewN _ _ _) (congrArg (World.drewN _) (Nat.add_assoc _ _ _))⟩) : P := h
theorem zsx {P : Prop} (h : P := by first | (go_simp; done) | (go_simp; rfl)) : P := h
abbrev T : Bool := true
abbrev F : Bool := false
theorem zpx {P : Prop} (h : P := by (simp only [Act.put, List.setIfInBounds_toArray, List.set_cons_zero, List.set_cons_succ, i64_w, i32_w]; rfl)) : P := h
theorem zDQ {P Q : Prop} (h : P) (k : P → Q := by intro h_; (with_reducible repeat (first | apply Kd.Q_alloc | apply Kd.Q_drewN | apply Kd.Q_drew)); exact h_) : Q := k h
theorem zDV {P Q : Prop} (h : P) (k : P → Q := by intro h_; (with_reducible repeat (first | apply Kd.V_alloc | apply Kd.V_drewN | apply Kd.V_drew)); exact h_) : Q := k h
theorem zDR {P Q : Prop} (h : P) (k : P → Q := by intro h_; (with_reducible repeat (first | apply Kd.R_alloc | apply Kd.R_drewN | apply Kd.R_drew)); exact h_) : Q := k h
theorem zwx {P : Prop} (h : P := by (intro w'; go_simp; with_reducible rfl)) : P := h
theorem zbq {P Q : Prop} (h : P) (k : P → Q := by intro h_; repeat (first | (with_reducible first | exact h_ | refine blk_drewN ?_ _ | refine blk_drew ?_ | refine blk_alloc ?_ _ | refine blk_far ?_ (Aside0.out (by with_reducible assumption)) _) | exact h_)) : Q := k h
theorem zbl {w0 w w1 : World} {g : Nat} {o : Obj} (h : w0.heap[g]? = some o) (hb : Below w.heap.size w w1) (k : w0.heap[g]? = some o → w.heap[g]? = some o := by intro h_; repeat (first | (with_reducible first | exact h_ | refine blk_drewN ?_ _ | refine blk_drew ?_ | refine blk_alloc ?_ _ | refine blk_far ?_ (Aside0.out (by with_reducible assumption)) _) | exact h_)) : Aside0 (w1.heap[g]? = some o) := Aside0.mk (blk_below (k h) hb)
theorem znl {w0 w : World} {g a : Nat} {o : Obj} (hg : a = w.heap.size) (h : w0.heap[g]? = some o) (k : w0.heap[g]? = some o → w.heap[g]? = some o := by intro h_; repeat (first | (with_reducible first | exact h_ | refine blk_drewN ?_ _ | refine blk_drew ?_ | refine blk_alloc ?_ _ | refine blk_far ?_ (Aside0.out (by with_reducible assumption)) _) | exact h_)) : Aside0 (g ≠ a) := Aside0.mk (by rw [hg]; exact Nat.ne_of_lt (blk_lt (k h)))
theorem zng {w0 w : World} {g a : Nat} {o : Obj} (hg : a = w.heap.size) (h : w0.heap[g]? = some o) (k : w0.heap[g]? = some o → w.heap[g]? = some o := by intro h_; repeat (first | (with_reducible first | exact h_ | refine blk_drewN ?_ _ | refine blk_drew ?_ | refine blk_alloc ?_ _ | refine blk_far ?_ (Aside0.out (by with_reducible assumption)) _) | exact h_)) : Aside0 (a ≠ g) := Aside0.mk (by rw [hg]; exact Nat.ne_of_gt (blk_lt (k h)))
theorem zhB {w W0 W : World} (h : Below w.heap.size w W0) (k : Below w.heap.size w W0 → Below w.heap.size w W := by intro h_; repeat (first | (with_reducible first | exact h_ | apply below_alloc | apply pw_below_drewN | apply below_drew1 | refine below_set ?_ (Aside0.out (by with_reducible assumption)) | refine below_set ?_ (IsS71.ge (Aside0.out (by with_reducible assumption)))) | exact h_)) : Below w.heap.size w W := k h
theorem zns {w W W0 : World} {a : Nat} (hg : a = W.heap.size) (h : Below w.heap.size w W0) (k : Below w.heap.size w W0 → Below w.heap.size w W := by intro h_; repeat (first | (with_reducible first | exact h_ | apply below_alloc | apply pw_below_drewN | apply below_drew1 | refine below_set ?_ (Aside0.out (by with_reducible assumption)) | refine below_set ?_ (IsS71.ge (Aside0.out (by with_reducible assumption)))) | exact h_)) : Aside0 (w.heap.size ≤ a) := Aside0.mk (by rw [hg]; exact below_size (k h))
theorem zhK {w W0 W : World} {g : Nat} {row : Option Nat} (h : KeepBut w W0 g row) (k : KeepBut w W0 g row → KeepBut w W g row := by intro h_; repeat (first | (with_reducible first | exact h_ | apply KeepBut.set_ | apply keep_drewN | apply keep_drew | apply keep_alloc | refine keep_far ?_ (Aside0.out (by with_reducible assumption)) _) | exact h_)) : KeepBut w W g row := k h
theorem zbp {w0 w : World} {g : Nat} {t : TypeId} {cs cs1 : Array Value} (h : w0.heap[g]? = some (.cells cs t (0, 0))) (k : w0.heap[g]? = some (.cells cs t (0, 0)) → w.heap[g]? = some (.cells cs1 t (0, 0)) := by (intro h_; (repeat (first | (with_reducible first | exact h_ | refine blk_drewN ?_ _ | refine blk_drew ?_ | refine blk_alloc ?_ _ | refine blk_far ?_ (Aside0.out (by with_reducible assumption)) _) | (refine blk_put (cs := ?_) ?_ _ _ ?_; rotate_left 1) | exact h_)); (repeat rfl))) : w.heap[g]? = some (.cells cs1 t (0, 0)) := k h
end Go.Proofs.YtlfoojgbiafffaaGreatDoor.XFnMessages
