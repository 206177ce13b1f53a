-- written by wip/tools/xprint.py (a program of this project) out of the translation
import Derived.Test.YtlfoojgbiafffaaGreatDoorProg
import Derived.Test.YtlfoojgbiafffaaGreatDoorStrsE
import Derived.Below
import Derived.Deep.Draws
import Derived.Deep.AppendLies
import Derived.Maps.AppendAt
import Derived.OwnWalk
import Derived.Laws.BytesArg
import Derived.Laws.MakeOwn
import Derived.Laws.OwnMore
import Derived.Deep.OwnRows
import Derived.Tactics
import Derived.Lib.ConvBytes
import Derived.Laws.Slices
import Derived.WalkKit
import Derived.KernelRfl
import Derived.RowKit3
import Derived.Deep.LoopGhost
import Derived.Deep.QuietTactic
import Derived.BigQuiet
import Derived.WideLaws
import Derived.Deep.DeepCutAuto
import Derived.Deep.CutBlock
import Derived.Deep.RegionHeld3
import Derived.Laws.Rows
import Derived.Lib.AppendStr
import Derived.ArgAppend
import Derived.Laws.IdiomCopy
import Derived.OrdersHeld
import Derived.Laws.BitsLemmas
import Derived.RowKit
import Derived.WalkSpells
import Derived.Test.YtlfoojgbiafffaaGreatDoorWWords
import Derived.Test.YtlfoojgbiafffaaGreatDoorWLast
import Derived.Test.YtlfoojgbiafffaaGreatDoorWTab
import Derived.Test.YtlfoojgbiafffaaGreatDoorWFour
import Derived.Test.YtlfoojgbiafffaaGreatDoorWQPut
import Derived.Test.YtlfoojgbiafffaaGreatDoorWApart
import Derived.Test.YtlfoojgbiafffaaGreatDoorWArr
import Derived.Test.YtlfoojgbiafffaaGreatDoorWZeros
import Derived.Test.YtlfoojgbiafffaaGreatDoorWFoot
import Derived.Test.YtlfoojgbiafffaaGreatDoorWKept
import Derived.Test.YtlfoojgbiafffaaGreatDoorWShare
import Derived.Test.YtlfoojgbiafffaaGreatDoorWN
import Derived.Test.YtlfoojgbiafffaaGreatDoorWFootNe
import Derived.Test.YtlfoojgbiafffaaGreatDoorWAt
import Derived.Test.YtlfoojgbiafffaaGreatDoorWEqStruct
import Derived.Test.YtlfoojgbiafffaaGreatDoorWRepsOne
import Derived.Test.YtlfoojgbiafffaaGreatDoorWInv
import Derived.Test.YtlfoojgbiafffaaGreatDoorWInvWords
import Derived.Test.YtlfoojgbiafffaaGreatDoorWGuard
import Derived.Test.YtlfoojgbiafffaaGreatDoorWNEv
import Derived.Test.YtlfoojgbiafffaaGreatDoorWMore
namespace Go.Proofs.YtlfoojgbiafffaaGreatDoor.XFnBulletins
open Go.RowKit Go.Proofs.YtlfoojgbiafffaaGreatDoorW.PrintWords Go.Proofs.YtlfoojgbiafffaaGreatDoorW.PrintLast Go.Proofs.YtlfoojgbiafffaaGreatDoorW.PrintMore
open Go.Proofs.YtlfoojgbiafffaaGreatDoor.Strs
attribute [local go_sem] max2_int min2_int max_two min_two max_three min_three max_four min_four
set_option linter.unusedVariables false
set_option linter.unusedSimpArgs false
set_option maxHeartbeats 8000000
set_option maxRecDepth 100000
def errW : Option Int → Value
 | none => .nilIface
 | some c => .iface 0 (.int .i64 c)
theorem errW_none : errW none = .nilIface := rfl
theorem errW_some (c : Int) : errW (some c) = .iface 0 (.int .i64 c) := rfl
theorem info3 : (Tryz.prog.info? 3).map (fun i => (i.zero, i.size, i.bytes)) = some (some (.int .i64 0), 1, 8) := by kernel_rfl
theorem info9 : (Tryz.prog.info? 9).map (fun i => (i.zero, i.size, i.bytes)) = some (some (.string ⟨#[]⟩), 1, 16) := by kernel_rfl
theorem info25 : (Tryz.prog.info? 25).map (fun i => (i.zero, i.size, i.bytes)) = some (some (.agg #[(.int .i64 0), (.int .i64 0), (.int .i64 0), (.int .i64 0), (.int .i64 0), (.int .i64 0)]), 6, 48) := by kernel_rfl
theorem info34 : (Tryz.prog.info? 34).map (fun i => (i.zero, i.size, i.bytes)) = some (some (.agg #[(.int .i64 0), (.int .i64 0), (.slice none 0 0)]), 3, 40) := by kernel_rfl
structure S25 where
 f0 : Int
 f1 : Int
 f2 : Int
 f3 : Int
 f4 : Int
 f5 : Int
def z25 : S25 := ⟨(0 : Int), (0 : Int), (0 : Int), (0 : Int), (0 : Int), (0 : Int)⟩
def k25 : Kd S25 := Kd.iso (Kd.pair (Kd.int .i64) (Kd.pair (Kd.int .i64) (Kd.pair (Kd.int .i64) (Kd.pair (Kd.int .i64) (Kd.pair (Kd.int .i64) (Kd.int .i64)))))) (fun x : S25 => (x.f0, x.f1, x.f2, x.f3, x.f4, x.f5))
theorem k25_open {w : World} {x : S25} {cs : List Value} (h : k25.K w x cs) : cs = [.int .i64 x.f0, .int .i64 x.f1, .int .i64 x.f2, .int .i64 x.f3, .int .i64 x.f4, .int .i64 x.f5] := by
 obtain ⟨_, _, rfl, rfl, ⟨_, _, rfl, rfl, ⟨_, _, rfl, rfl, ⟨_, _, rfl, rfl, ⟨_, _, rfl, rfl, rfl⟩⟩⟩⟩⟩ := h
 exact rfl
theorem k25_openM {w : World} {base : Nat} {ok : Nat → Prop} {x : S25} {cs : List Value} (h : k25.M w base ok x cs) : cs = [.int .i64 x.f0, .int .i64 x.f1, .int .i64 x.f2, .int .i64 x.f3, .int .i64 x.f4, .int .i64 x.f5] := by
 obtain ⟨_, _, rfl, rfl, ⟨_, _, rfl, rfl, ⟨_, _, rfl, rfl, ⟨_, _, rfl, rfl, ⟨_, _, rfl, rfl, rfl⟩⟩⟩⟩⟩ := h
 exact rfl
theorem k25_mkM (w : World) (base : Nat) (ok : Nat → Prop) (x : S25)  : k25.M w base ok x [.int .i64 x.f0, .int .i64 x.f1, .int .i64 x.f2, .int .i64 x.f3, .int .i64 x.f4, .int .i64 x.f5] := ⟨[.int .i64 x.f0], [.int .i64 x.f1, .int .i64 x.f2, .int .i64 x.f3, .int .i64 x.f4, .int .i64 x.f5], rfl, rfl, ⟨[.int .i64 x.f1], [.int .i64 x.f2, .int .i64 x.f3, .int .i64 x.f4, .int .i64 x.f5], rfl, rfl, ⟨[.int .i64 x.f2], [.int .i64 x.f3, .int .i64 x.f4, .int .i64 x.f5], rfl, rfl, ⟨[.int .i64 x.f3], [.int .i64 x.f4, .int .i64 x.f5], rfl, rfl, ⟨[.int .i64 x.f4], [.int .i64 x.f5], rfl, rfl, rfl⟩⟩⟩⟩⟩
def qa (xs : List S25) (i : Int) : S25 := xs.getD i.toNat z25
theorem at_T25 {w : World} {A : Option Addr} {n : Nat} {xs : List S25} (h : Kd.C k25 w A n xs) (i : Int) (h0 : 0 ≤ i) (h1 : i < n) : ∃ ad , A = some ad ∧ w.cell? (ad.add (i.toNat * 6)) = some (.int .i64 (qa xs i).f0) ∧ w.cell? ⟨(ad.add (i.toNat * 6)).block, (ad.add (i.toNat * 6)).off + 1, none⟩ = some (.int .i64 (qa xs i).f1) ∧ w.cell? ⟨(ad.add (i.toNat * 6)).block, (ad.add (i.toNat * 6)).off + 2, none⟩ = some (.int .i64 (qa xs i).f2) ∧ w.cell? ⟨(ad.add (i.toNat * 6)).block, (ad.add (i.toNat * 6)).off + 3, none⟩ = some (.int .i64 (qa xs i).f3) ∧ w.cell? ⟨(ad.add (i.toNat * 6)).block, (ad.add (i.toNat * 6)).off + 4, none⟩ = some (.int .i64 (qa xs i).f4) ∧ w.cell? ⟨(ad.add (i.toNat * 6)).block, (ad.add (i.toNat * 6)).off + 5, none⟩ = some (.int .i64 (qa xs i).f5) := by
 obtain ⟨ad, c, e, _, hK, hc0⟩ := Kd.C_get h z25 i h0 h1
 have hc : ∀ j u, c[j]? = some u → w.cell? (ad.add (i.toNat * 6 + j)) = some u := hc0
 obtain rfl := k25_open hK
 exact ⟨ad, e, hc 0 _ rfl, by rw [← add_field _ _ 1 (by omega)]; exact hc 1 _ rfl, by rw [← add_field _ _ 2 (by omega)]; exact hc 2 _ rfl, by rw [← add_field _ _ 3 (by omega)]; exact hc 3 _ rfl, by rw [← add_field _ _ 4 (by omega)]; exact hc 4 _ rfl, by rw [← add_field _ _ 5 (by omega)]; exact hc 5 _ rfl⟩
structure S34 where
 f0 : Int
 f1 : Int
 f2 : (List S25)
def z34 : S34 := ⟨(0 : Int), (0 : Int), ([] : List S25)⟩
def k34 : Kd S34 := Kd.iso (Kd.pair (Kd.int .i64) (Kd.pair (Kd.int .i64) (Kd.slice 25 k25))) (fun x : S34 => (x.f0, x.f1, x.f2))
theorem k34_open {w : World} {x : S34} {cs : List Value} (h : k34.K w x cs) : ∃ A2 c2, cs = [.int .i64 x.f0, .int .i64 x.f1, .slice A2 x.f2.length c2] ∧ x.f2.length ≤ c2 ∧ k25.C w A2 x.f2.length x.f2 := by
 obtain ⟨_, _, rfl, rfl, ⟨_, _, rfl, rfl, ⟨A2, c2, rfl, l2, g2⟩⟩⟩ := h
 exact ⟨A2, c2, rfl, l2, g2⟩
theorem k34_mkM (w : World) (base : Nat) (ok : Nat → Prop) (x : S34) {v2 : Value} (g2 : k25.R 25 w base ok v2 x.f2) : k34.M w base ok x [.int .i64 x.f0, .int .i64 x.f1, v2] := ⟨[.int .i64 x.f0], [.int .i64 x.f1, v2], rfl, rfl, ⟨[.int .i64 x.f1], [v2], rfl, rfl, ⟨v2, rfl, g2⟩⟩⟩
def qn (xs : List S34) (i : Int) : S34 := xs.getD i.toNat z34
theorem at_T34 {w : World} {A : Option Addr} {n : Nat} {xs : List S34} (h : Kd.C k34 w A n xs) (i : Int) (h0 : 0 ≤ i) (h1 : i < n) : ∃ ad A2 c2, A = some ad ∧ w.cell? (ad.add (i.toNat * 3)) = some (.int .i64 (qn xs i).f0) ∧ w.cell? ⟨(ad.add (i.toNat * 3)).block, (ad.add (i.toNat * 3)).off + 1, none⟩ = some (.int .i64 (qn xs i).f1) ∧ w.cell? ⟨(ad.add (i.toNat * 3)).block, (ad.add (i.toNat * 3)).off + 2, none⟩ = some (.slice A2 (qn xs i).f2.length c2) ∧ (qn xs i).f2.length ≤ c2 ∧ k25.C w A2 (qn xs i).f2.length (qn xs i).f2 := by
 obtain ⟨ad, c, e, _, hK, hc0⟩ := Kd.C_get h z34 i h0 h1
 have hc : ∀ j u, c[j]? = some u → w.cell? (ad.add (i.toNat * 3 + j)) = some u := hc0
 obtain ⟨A2, c2, rfl, l2, g2⟩ := k34_open hK
 exact ⟨ad, A2, c2, e, hc 0 _ rfl, by rw [← add_field _ _ 1 (by omega)]; exact hc 1 _ rfl, by rw [← add_field _ _ 2 (by omega)]; exact hc 2 _ rfl, l2, g2⟩
theorem more_ {P : Program} {md : Region.Mode} {ops : Array Oper} {Q : Exit → Act → World → Prop} {S S' : World → Prop} (hS : ∀ w, S' w → S w) : ∀ (fuel : Nat) (l : Array Bool) (a : Act) (w : World),
    S' w → wpAnyLast P md ops Q S' [] fuel l a w → wpAnyLast P md ops Q S [] fuel l a w
  | 0, _, _, _, _, h => h
  | fuel + 1, l, a, w, hw, h => ⟨h.1, fun i hi => wpOp_mono (fun a' w' h' => ⟨fun _ _ => hS _ (h'.1 (by simp) hw), more_ hS fuel _ a' w' (h'.1 (by simp) hw) h'.2⟩) (h.2 i hi)⟩
theorem am {p : Prop} (h : p) : Aq p := ⟨h⟩
theorem zhx {w W : World} {a : Addr} {v : Value} (hb : Aq (Below w.heap.size w W)) (h : w.cell? a = some v) : W.cell? a = some v := (hb.o.cell (World.block_lt_of_cell? w _ h)).trans h
theorem zob {α β : Type} {x : Option α} {f : α → Option β} {r : β} (h : x.bind f = some r) : ∃ a, Aq (x = some a) ∧ f a = some r := by
  obtain ⟨a, h1, h2⟩ := Option.bind_eq_some_iff.mp h
  exact ⟨a, ⟨h1⟩, h2⟩
theorem zod {p : Prop} [d : Decidable p] (h : decide p = true := by first | (with_reducible assumption) | assumption) : p := of_decide_eq_true h
theorem zew {P : Prop} (h : P := by first | rfl | (simp [errW_none, errW_some] <;> rfl) | (simp [*, errW_none, errW_some] <;> rfl)) : P := h
theorem zhs {w W0 W W1 : World} (h : Aq (Below w.heap.size w W0)) (hb : Below W.heap.size W W1) (k : Below w.heap.size w W0 → Below w.heap.size w W := by intro h_; repeat (first | (with_reducible first | exact h_ | apply below_alloc | apply pw_below_drewN | apply below_drew1 | refine below_set ?_ (Aq.o (by with_reducible assumption))) | exact h_)) : Aq (Below w.heap.size w W1) := ⟨bsq (k h.o) hb⟩
theorem zro {α : Type} {d : Kd α} {e : TypeId} {W0 W W1 : World} {base : Nat} {ok : Nat → Prop} {v : Value} {xs : List α} (h : Aq (d.R e W0 base ok v xs)) (hb : Below W.heap.size W W1) (k : d.R e W0 base ok v xs → d.R e W base ok v xs := by intro h_; (with_reducible repeat (first | apply Kd.R_alloc | apply Kd.R_drewN | apply Kd.R_drew)); exact h_) : Aq (d.R e W1 base ok v xs) := ⟨Kd.R_below (k h.o) hb⟩
theorem zkt {w W0 W W1 : World} {g : Nat} {row : Option Nat} (h : Aq (Kq w W0 g row)) (hk : Kq W W1 g row) (k : Kq w W0 g row → Kq w W g row := by intro h_; repeat (first | (with_reducible first | exact h_ | apply Kq.set_ | apply keep_drewN | apply keep_drew | apply keep_alloc | refine keep_far ?_ (Aq.o (by with_reducible assumption)) _) | exact h_)) : Aq (Kq w W1 g row) := ⟨Kq.trans (k h.o) hk (.inl rfl)⟩
theorem zkq {w W0 W W1 : World} {g : Nat} (h : Aq (Kq w W0 g none)) (hb : Below W.heap.size W W1) (k : Kq w W0 g none → Kq w W g none := by intro h_; repeat (first | (with_reducible first | exact h_ | apply Kq.set_ | apply keep_drewN | apply keep_drew | apply keep_alloc | refine keep_far ?_ (Aq.o (by with_reducible assumption)) _) | exact h_)) : Aq (Kq w W1 g none) := ⟨Kq.trans (k h.o) (Kq.of_below hb g none) (.inl rfl)⟩
theorem zkw {w W0 W : World} {g a : Nat} (hg : a = W.heap.size) (h : Aq (Kq w W0 g none)) (k : Kq w W0 g none → Kq w W g none := by intro h_; repeat (first | (with_reducible first | exact h_ | apply Kq.set_ | apply keep_drewN | apply keep_drew | apply keep_alloc | refine keep_far ?_ (Aq.o (by with_reducible assumption)) _) | exact h_)) : Aq (w.heap.size ≤ a) := ⟨by rw [hg]; exact keep_size (k h.o)⟩
theorem zkv {w0 w : World} {a : Nat} (h : Aq (w0.heap.size ≤ w.heap.size)) (k : Aq (w.heap.size ≤ a)) : Aq (w0.heap.size ≤ a) := ⟨Nat.le_trans h.o k.o⟩
section
variable {P : Program} {ops : Array Oper} {Q : Exit → Act → World → Prop}
theorem zgc {o : Oper} {rest : List Oper} {a : Act} {W : World} (f : FuncId) {xo : Array Operand} {ts : Array TypeId} (_ho : o.op = .call { callee := .value (.func f), args := xo, argTypes := ts }) (h : wpList P ops Q (o :: rest) a W) : wpList P ops Q (o :: rest) a W := h
theorem zgd {o : Oper} {rest : List Oper} {a : Act} {W : World} (N : Tmp) (_hN : o.dst = some N) (h : wpList P ops Q (o :: rest) a W) : wpList P ops Q (o :: rest) a W := h
theorem zgl {rest : List Oper} {oi : Oper} {a : Act} {w : World} (n : Nat) {f : FuncId} {fn : Func} (hf : P.funcs[f]? = some fn) (args : Array Value) {xo : Array Operand} {ts : Array TypeId}
 (h : Calls P f args w fun e w' => ∃ v, e = .returned v ∧ wpList P ops Q rest (a.put (some n) v) w')
 (hop : oi.op = .call { callee := .value (.func f), args := xo, argTypes := ts } := by with_reducible rfl) (hd : oi.dst = some n := by rfl) (hg : oi.guard = none := by rfl) (hname : (fn.name == "runtime.NumGoroutine") = false := by kernel_rfl) (hb : fn.body.isSome = true := by rfl)
 (hargs : xo.map a.eval = args := by (try simp only [List.map_toArray, List.map_cons, List.map_nil]); first | done | rfl | (simp only [List.length_drop, List.length_take]; rfl)) : wpList P ops Q (oi :: rest) a w := goesL_ (some n) hd hg hf hname hb args hop hargs h
theorem zbe {o : Oper} {rest : List Oper} {a : Act} {W : World} (N : Tmp) (cs : Array Value) (t : TypeId)
 (h : ∀ g, g = W.heap.size → ∀ w1, w1.heap[g]? = some (.cells cs t (0, 0)) → Below W.heap.size W w1 → wpList P ops Q rest (a.put o.dst (.pointer (some ⟨g, 0, none⟩))) w1)
 (hd : o.dst = some N := by with_reducible rfl) (hgd : o.guard = none := by rfl)
 (hrun : (execOp a.eval o).run P W = .ok (.value (.pointer (some ⟨W.heap.size, 0, none⟩))) (W.alloc (.cells cs t (0, 0))) := by first | (go_simp; done) | (go_simp; rfl)) : wpList P ops Q (o :: rest) a W := box_event hgd hd hrun h
end
abbrev zS6 (w : World) (p : Addr) (x : S25) : Prop := w.cell? p = some (.int .i64 x.f0) ∧ w.cell? ⟨p.block, p.off + 1, none⟩ = some (.int .i64 x.f1) ∧ w.cell? ⟨p.block, p.off + 2, none⟩ = some (.int .i64 x.f2) ∧ w.cell? ⟨p.block, p.off + 3, none⟩ = some (.int .i64 x.f3) ∧ w.cell? ⟨p.block, p.off + 4, none⟩ = some (.int .i64 x.f4) ∧ w.cell? ⟨p.block, p.off + 5, none⟩ = some (.int .i64 x.f5)
abbrev zS3 (w : World) (p : Addr) (x : S34) (A : Option Addr) (c : Nat) : Prop := w.cell? p = some (.int .i64 x.f0) ∧ w.cell? ⟨p.block, p.off + 1, none⟩ = some (.int .i64 x.f1) ∧ w.cell? ⟨p.block, p.off + 2, none⟩ = some (.slice A x.f2.length c)
abbrev zB6 (w : World) (g : Nat) (a b c d e f : Value) : Prop := w.cell? ⟨g, 0, none⟩ = some a ∧ w.cell? ⟨g, 1, none⟩ = some b ∧ w.cell? ⟨g, 2, none⟩ = some c ∧ w.cell? ⟨g, 3, none⟩ = some d ∧ w.cell? ⟨g, 4, none⟩ = some e ∧ w.cell? ⟨g, 5, none⟩ = some f
abbrev zB3 (w : World) (g : Nat) (a b c : Value) : Prop := w.cell? ⟨g, 0, none⟩ = some a ∧ w.cell? ⟨g, 1, none⟩ = some b ∧ w.cell? ⟨g, 2, none⟩ = some c
theorem zb6 {w : World} {g : Nat} {t : TypeId} {a b c d e f : Value} (h : Aq (w.heap[g]? = some (.cells #[a, b, c, d, e, f] t (0, 0)))) : zB6 w g a b c d e f := ⟨(bkc h.o 0).trans rfl, (bkc h.o 1).trans rfl, (bkc h.o 2).trans rfl, (bkc h.o 3).trans rfl, (bkc h.o 4).trans rfl, (bkc h.o 5).trans rfl⟩
theorem zb3 {w : World} {g : Nat} {t : TypeId} {a b c : Value} (h : Aq (w.heap[g]? = some (.cells #[a, b, c] t (0, 0)))) : zB3 w g a b c := ⟨(bkc h.o 0).trans rfl, (bkc h.o 1).trans rfl, (bkc h.o 2).trans rfl⟩
theorem zh6 {w W : World} {p0 p1 p2 p3 p4 p5 : Addr} {a0 a1 a2 a3 a4 a5 : Value} (hb : Aq (Below w.heap.size w W)) (h0 : w.cell? p0 = some a0) (h1 : w.cell? p1 = some a1) (h2 : w.cell? p2 = some a2) (h3 : w.cell? p3 = some a3) (h4 : w.cell? p4 = some a4) (h5 : w.cell? p5 = some a5) : W.cell? p0 = some a0 ∧ W.cell? p1 = some a1 ∧ W.cell? p2 = some a2 ∧ W.cell? p3 = some a3 ∧ W.cell? p4 = some a4 ∧ W.cell? p5 = some a5 := ⟨zhx hb h0, zhx hb h1, zhx hb h2, zhx hb h3, zhx hb h4, zhx hb h5⟩
theorem zh3 {w W : World} {p0 p1 p2 : Addr} {a0 a1 a2 : Value} (hb : Aq (Below w.heap.size w W)) (h0 : w.cell? p0 = some a0) (h1 : w.cell? p1 = some a1) (h2 : w.cell? p2 = some a2) : W.cell? p0 = some a0 ∧ W.cell? p1 = some a1 ∧ W.cell? p2 = some a2 := ⟨zhx hb h0, zhx hb h1, zhx hb h2⟩
theorem zyb {α β : Type} {y E : α} {f : α → Option β} {r : β} (h : y = E) (H : (some E).bind f = some r) : f y = some r := by subst h; exact H
def zm (n b : Nat) : Array Bool := ((List.range n).map b.testBit).toArray
theorem eqA25 (d : Nat) (w : World) (x0 y0 : Int) (x1 y1 : Int) (x2 y2 : Int) (x3 y3 : Int) (x4 y4 : Int) (x5 y5 : Int) :
 (Op.equalIn (d + 2) 25 (.agg #[.int .i64 x0, .int .i64 x1, .int .i64 x2, .int .i64 x3, .int .i64 x4, .int .i64 x5]) (.agg #[.int .i64 y0, .int .i64 y1, .int .i64 y2, .int .i64 y3, .int .i64 y4, .int .i64 y5])).run Tryz.prog w = .ok (x0 == y0 && (x1 == y1 && (x2 == y2 && (x3 == y3 && (x4 == y4 && (x5 == y5)))))) w := by
 refine eqA_of Tryz.underlying25 (by kernel_rfl) ?_
 refine eqf_cons (by rfl) (by go_simp; rfl) (by go_simp; rfl) (by go_simp) ?_
 refine eqf_cons (by rfl) (by go_simp; rfl) (by go_simp; rfl) (by go_simp) ?_
 refine eqf_cons (by rfl) (by go_simp; rfl) (by go_simp; rfl) (by go_simp) ?_
 refine eqf_cons (by rfl) (by go_simp; rfl) (by go_simp; rfl) (by go_simp) ?_
 refine eqf_cons (by rfl) (by go_simp; rfl) (by go_simp; rfl) (by go_simp) ?_
 exact eqf_last (by rfl) (by go_simp; rfl) (by go_simp; rfl) (by go_simp)
def laws_vBig.f (l0 : List Int) : Option (Bool) := some (decide ((l0.length : Int) > 65536))
theorem laws_vBig.calls (A0 : Option Addr) (c0 : Nat) (l0 : List Int) (r : Bool) (w : World) (hr0 : Kd.C (Kd.int .u8) w A0 l0.length l0) (hc0 : l0.length ≤ c0) (h : laws_vBig.f l0 = some r) :
 Calls Tryz.prog 6 #[.slice A0 l0.length c0] w fun e w' => e = .returned (.bool r) ∧ Dq w w' := by
 have HR0 := am hr0
 have HC0 := am hc0
 clear hr0 hc0
 unfold laws_vBig.f at h
 have H := h
 clear h
 focus
  obtain rfl := Option.some.inj H
  go_enter Tryz.func6, Tryz.ntmps6
  go_wp2
  go_ret
  exact ⟨by first | rfl | (simp; done) | (simp [*]; done), by repeat (first | exact Dq.refl _ | apply Dq.step)⟩
def qo.l0 : Nat → List (S25) → List (S25) → Int → Int → Option (Bool)
 | 0, _, _, _, _ => none
 | k + 1, x0, x5, x6, x7 => if x7 < x6 then (if 0 ≤ x7 then (if x7 < (x5.length : Int) then ((qF.f ((qa x5 x7).f0) ((qa x5 x7).f1) ((qa x5 x7).f2) ((qa x5 x7).f3) ((qa x5 x7).f4) ((qa x5 x7).f5)).bind fun t112 => (if t112 = true then (if x7 > 0 then (if 0 ≤ (wrap64 (x7 - 1)) then (if (wrap64 (x7 - 1)) < (x0.length : Int) then (if ((qa x0 (wrap64 (x7 - 1))).f0) ≥ ((qa x5 x7).f0) then (some false) else (qo.l0 k x0 x5 x6 (wrap64 (x7 + 1)))) else (none)) else (none)) else (qo.l0 k x0 x5 x6 (wrap64 (x7 + 1)))) else (some false))) else (none)) else (none)) else (some (decide ((x0.length : Int) ≤ 12)))
def qo.f (k : Nat) (l0 : List (S25)) : Option (Bool) := qo.l0 k l0 l0 (l0.length : Int) 0
def qo.T4 : Bool × List (List Nat × List Nat) := (true, [([], []), ([0], [0]), ([1], [1]), ([2, 1], [2]), ([3], [3]), ([4, 3], [3, 4]), ([5, 3, 3], [3, 5]), ([6], [6]), ([6], [6]), ([8, 6], [6, 8]), ([7, 9, 6], [6, 7, 9]), ([10, 6], [6, 10]), ([11, 6], [6, 11]), ([6], [6]), ([13, 6], [6, 13]), ([12, 14, 6], [6, 12, 14]), ([6, 15, 3], [3, 6, 15]), ([3, 16], [3, 16])])
def qo.B4 : List Nat := [0, 1, 3, 7, 15, 31, 63, 127, 127, 383, 1023, 2047, 4095, 127, 8319, 32767, 65535, 131071]
theorem qo.tab4 : rtab .any (opsOf Tryz.f104 4) = qo.T4 := by kernel_rfl
theorem qo.bits4 : waitsOk qo.T4.2 qo.B4 = true := by kernel_rfl
theorem qo.calls (k : Nat) (A0 : Option Addr) (c0 : Nat) (l0 : List (S25)) (r : Bool) (w : World) (hr0 : Kd.C k25 w A0 l0.length l0) (hc0 : l0.length ≤ c0) (h : qo.f k l0 = some r) :
 Calls Tryz.prog 104 #[.slice A0 l0.length c0] w fun e w' => e = .returned (.bool r) ∧ Below w.heap.size w w' := by
 have hu25 := Tryz.underlying25
 have HR0 := am hr0
 have HC0 := am hc0
 clear hr0 hc0
 have HB := am (Below.refl w.heap.size w)
 unfold qo.f at h
 have H := h
 clear h
 have H' := am H
 clear H
 go_enter Tryz.func104, Tryz.ntmps104
 go_wp2
 go_loopg [7] k (fun kq v7 w' => ∃ (x7_1 : Int), v7 = .int .i64 x7_1 ∧ Aq (qo.l0 kq l0 l0 (l0.length : Int) x7_1 = some r) ∧ Aq (kq ≤ k) ∧ Aq (Below w.heap.size w w'))
 case atStart => exact ⟨(0), zrx, H', ⟨Nat.le_refl _⟩, ⟨zBx HB.o⟩⟩
 case round =>
  clear H'
  obtain ⟨x7_1, rfl, HA, HK1, HB⟩ := hrel
  cases gk with
  | zero => exact absurd HA.o (by simp [qo.l0])
  | succ k1 =>
   have H := HA.o
   clear HA
   simp only [qo.l0] at H
   by_cases c2 : x7_1 < (l0.length : Int)
   rotate_left
   ·rw [if_neg c2] at H
    have c2b0 := decide_eq_false c2
    clear c2
    focus
     obtain rfl := Option.some.inj H
     go_wp2
     go_ret
     exact ⟨zew, zBx HB.o⟩
   rw [if_pos c2] at H
   have c2b0 := decide_eq_true c2
   clear c2
   obtain ⟨c3, H⟩ := zin H
   have c3b0 := decide_eq_true c3
   clear c3
   obtain ⟨c4, H⟩ := zin H
   have c4b0 := decide_eq_true c4
   clear c4
   obtain ⟨t112, A5, H⟩ := zob H
   try dsimp only at H
   by_cases c6 : t112 = true
   rotate_left
   ·replace c6 := Bool.eq_false_iff.mpr c6
    subst c6
    rw [if_neg (show ¬ (false = true) by decide)] at H
    focus
     obtain rfl := Option.some.inj H
     have p110 : 0 ≤ (x7_1 : Int) := zod
     have q110 : x7_1 < (l0.length : Int) := zod
     obtain ⟨ad110, e110, hx110_0, hx110_1, hx110_2, hx110_3, hx110_4, hx110_5⟩ := at_T25 HR0.o x7_1 p110 q110
     cases e110
     obtain ⟨hx110_0, hx110_1, hx110_2, hx110_3, hx110_4, hx110_5⟩ := zh6 HB hx110_0 hx110_1 hx110_2 hx110_3 hx110_4 hx110_5
     replace p110 := eq_true p110
     replace q110 := eq_true q110
     try go_wp2_with (first | ((with_reducible refine zgd 4 rfl ?_); refine zbe 4 #[.int .i64 0, .int .i64 0, .int .i64 0, .int .i64 0, .int .i64 0, .int .i64 0] 25 ?_; intro gb111 hg w27 hbox hb; have BK111 := am (hbox); have GW111 := zns hg HB.o; have GE111 := zns hg HB.o; replace HB := zhs HB hb; clear hb hbox hg; have hcz28 := zc6 BK111.o))
     have n0_ : Aq (((((((w27.setCell ⟨gb111, 0, none⟩ (.int .i64 ((qa l0 x7_1).f0))).setCell ⟨gb111, 1, none⟩ (.int .i64 ((qa l0 x7_1).f1))).setCell ⟨gb111, 2, none⟩ (.int .i64 ((qa l0 x7_1).f2))).setCell ⟨gb111, 3, none⟩ (.int .i64 ((qa l0 x7_1).f3))).setCell ⟨gb111, 4, none⟩ (.int .i64 ((qa l0 x7_1).f4))).setCell ⟨gb111, 5, none⟩ (.int .i64 ((qa l0 x7_1).f5))).heap[gb111]? = some (.cells #[.int .i64 ((qa l0 x7_1).f0), .int .i64 ((qa l0 x7_1).f1), .int .i64 ((qa l0 x7_1).f2), .int .i64 ((qa l0 x7_1).f3), .int .i64 ((qa l0 x7_1).f4), .int .i64 ((qa l0 x7_1).f5)] 25 (0, 0))) := ⟨zbp BK111.o⟩
     have n1_ : Aq (Below w.heap.size w ((((((w27.setCell ⟨gb111, 0, none⟩ (.int .i64 ((qa l0 x7_1).f0))).setCell ⟨gb111, 1, none⟩ (.int .i64 ((qa l0 x7_1).f1))).setCell ⟨gb111, 2, none⟩ (.int .i64 ((qa l0 x7_1).f2))).setCell ⟨gb111, 3, none⟩ (.int .i64 ((qa l0 x7_1).f3))).setCell ⟨gb111, 4, none⟩ (.int .i64 ((qa l0 x7_1).f4))).setCell ⟨gb111, 5, none⟩ (.int .i64 ((qa l0 x7_1).f5)))) := ⟨zBy HB.o GE111.o⟩
     (try clear BK111)
     (try clear HB)
     generalize ((((((w27.setCell ⟨gb111, 0, none⟩ (.int .i64 ((qa l0 x7_1).f0))).setCell ⟨gb111, 1, none⟩ (.int .i64 ((qa l0 x7_1).f1))).setCell ⟨gb111, 2, none⟩ (.int .i64 ((qa l0 x7_1).f2))).setCell ⟨gb111, 3, none⟩ (.int .i64 ((qa l0 x7_1).f3))).setCell ⟨gb111, 4, none⟩ (.int .i64 ((qa l0 x7_1).f4))).setCell ⟨gb111, 5, none⟩ (.int .i64 ((qa l0 x7_1).f5))) = w29 at n0_ n1_ ⊢
     have BK111 := n0_
     have HB := n1_
     clear n0_ n1_
     replace BK111 := am (blk_drew BK111.o)
     replace HB := am (below_drew1 HB.o)
     refine start_ (n := 18) (S := fun w' => zB6 w' gb111 (.int .i64 ((qa l0 x7_1).f0)) (.int .i64 ((qa l0 x7_1).f1)) (.int .i64 ((qa l0 x7_1).f2)) (.int .i64 ((qa l0 x7_1).f3)) (.int .i64 ((qa l0 x7_1).f4)) (.int .i64 ((qa l0 x7_1).f5))) (ds := []) (zm 18 0) (by kernel_rfl) rfl rfl (zb6 BK111) (fun hHd => ?_); refine with_tabW qo.tab4 qo.bits4 (fun Tq Wq => ?_)
     generalize w29.drew = w30 at BK111 HB hHd ⊢
     refine take_ (i := 0) (N := some 12) (v := ?_) (a' := ?_) (zm 18 1) rfl rfl (take_ofW Tq.o Wq.o (by kernel_rfl)) (fun _ _ _ h => h) (Or.inl ⟨by rfl, ?_⟩) hHd ?_ ?_
     rotate_left
     ·rintro w' ⟨s0, s1, s2, s3, s4, s5⟩
      go_simp
      with_reducible rfl
     rotate_left
     ·exact zpx
     refine one_ (i := 1) (N := some 13) (zm 18 3) rfl rfl (one_of Tq.o (by kernel_rfl)) (by decide) (fun K hK => ?_)
     refine goes_ Tryz.func36 (by kernel_rfl) rfl #[.agg #[.int .i64 ((qa l0 x7_1).f0), .int .i64 ((qa l0 x7_1).f1), .int .i64 ((qa l0 x7_1).f2), .int .i64 ((qa l0 x7_1).f3), .int .i64 ((qa l0 x7_1).f4), .int .i64 ((qa l0 x7_1).f5)]] (by rfl) rfl rfl zlx ?_
     with_reducible refine (qF.calls ((qa l0 x7_1).f0) ((qa l0 x7_1).f1) ((qa l0 x7_1).f2) ((qa l0 x7_1).f3) ((qa l0 x7_1).f4) ((qa l0 x7_1).f5) false _ A5.o).mono ?_
     rintro e w31 ⟨rfl, hb⟩
     refine ⟨_, rfl, ?_⟩
     replace BK111 := zbl BK111.o hb
     replace HB := zhs HB hb
     (try clear hb)
     (try clear hb2)
     (try clear hk)
     (try clear hi)
     refine hK.out _ _ (zb6 BK111) (fun hHd => ?_)
     clear hK K
     refine norm_ (a' := ?_) ?_ ?_
     rotate_left
     ·show Act.put _ (some 13) _ = _
      simp only [Act.put, List.setIfInBounds_toArray, List.set_cons_zero, List.set_cons_succ, i64_w, i32_w]
      rfl
     refine zpu 2 14 (zm 18 7) Tq.o ?_
     refine zpu 3 15 (zm 18 15) Tq.o ?_
     refine zpn 4 16 (zm 18 31) Tq.o ?_
     refine zpn 5 17 (zm 18 63) Tq.o ?_
     refine zpn 6 18 (zm 18 127) Tq.o ?_
     refine zpn 7 19 (zm 18 255) Tq.o ?_
     refine zpn 8 20 (zm 18 511) Tq.o ?_
     refine zpn 9 21 (zm 18 1023) Tq.o ?_
     refine zpn 10 22 (zm 18 2047) Tq.o ?_
     refine zpn 11 23 (zm 18 4095) Tq.o ?_
     refine zpn 12 24 (zm 18 8191) Tq.o ?_
     refine zpn 13 25 (zm 18 16383) Tq.o ?_
     refine zpn 14 26 (zm 18 32767) Tq.o ?_
     refine zpn 15 27 (zm 18 65535) Tq.o ?_
     refine zpn 16 28 (zm 18 131071) Tq.o ?_
     refine zpu 17 29 (zm 18 262143) Tq.o ?_
     refine done_ (done_of Tq.o (by kernel_rfl)) ?_
     try go_wp2
     go_ret
     exact ⟨zew, zBy HB.o GE111.o⟩
   subst c6
   rw [if_pos rfl] at H
   by_cases c7 : x7_1 > 0
   rotate_left
   ·rw [if_neg c7] at H
    have c7b0 := decide_eq_false c7
    clear c7
    focus
     have H' := am H
     clear H
     have p110 : 0 ≤ (x7_1 : Int) := zod
     have q110 : x7_1 < (l0.length : Int) := zod
     obtain ⟨ad110, e110, hx110_0, hx110_1, hx110_2, hx110_3, hx110_4, hx110_5⟩ := at_T25 HR0.o x7_1 p110 q110
     cases e110
     obtain ⟨hx110_0, hx110_1, hx110_2, hx110_3, hx110_4, hx110_5⟩ := zh6 HB hx110_0 hx110_1 hx110_2 hx110_3 hx110_4 hx110_5
     replace p110 := eq_true p110
     replace q110 := eq_true q110
     try go_wp2_with (first | ((with_reducible refine zgd 4 rfl ?_); refine zbe 4 #[.int .i64 0, .int .i64 0, .int .i64 0, .int .i64 0, .int .i64 0, .int .i64 0] 25 ?_; intro gb111 hg w22 hbox hb; have BK111 := am (hbox); have GW111 := zns hg HB.o; have GE111 := zns hg HB.o; replace HB := zhs HB hb; clear hb hbox hg; have hcz23 := zc6 BK111.o))
     have n0_ : Aq (((((((w22.setCell ⟨gb111, 0, none⟩ (.int .i64 ((qa l0 x7_1).f0))).setCell ⟨gb111, 1, none⟩ (.int .i64 ((qa l0 x7_1).f1))).setCell ⟨gb111, 2, none⟩ (.int .i64 ((qa l0 x7_1).f2))).setCell ⟨gb111, 3, none⟩ (.int .i64 ((qa l0 x7_1).f3))).setCell ⟨gb111, 4, none⟩ (.int .i64 ((qa l0 x7_1).f4))).setCell ⟨gb111, 5, none⟩ (.int .i64 ((qa l0 x7_1).f5))).heap[gb111]? = some (.cells #[.int .i64 ((qa l0 x7_1).f0), .int .i64 ((qa l0 x7_1).f1), .int .i64 ((qa l0 x7_1).f2), .int .i64 ((qa l0 x7_1).f3), .int .i64 ((qa l0 x7_1).f4), .int .i64 ((qa l0 x7_1).f5)] 25 (0, 0))) := ⟨zbp BK111.o⟩
     have n1_ : Aq (Below w.heap.size w ((((((w22.setCell ⟨gb111, 0, none⟩ (.int .i64 ((qa l0 x7_1).f0))).setCell ⟨gb111, 1, none⟩ (.int .i64 ((qa l0 x7_1).f1))).setCell ⟨gb111, 2, none⟩ (.int .i64 ((qa l0 x7_1).f2))).setCell ⟨gb111, 3, none⟩ (.int .i64 ((qa l0 x7_1).f3))).setCell ⟨gb111, 4, none⟩ (.int .i64 ((qa l0 x7_1).f4))).setCell ⟨gb111, 5, none⟩ (.int .i64 ((qa l0 x7_1).f5)))) := ⟨zBy HB.o GE111.o⟩
     (try clear BK111)
     (try clear HB)
     generalize ((((((w22.setCell ⟨gb111, 0, none⟩ (.int .i64 ((qa l0 x7_1).f0))).setCell ⟨gb111, 1, none⟩ (.int .i64 ((qa l0 x7_1).f1))).setCell ⟨gb111, 2, none⟩ (.int .i64 ((qa l0 x7_1).f2))).setCell ⟨gb111, 3, none⟩ (.int .i64 ((qa l0 x7_1).f3))).setCell ⟨gb111, 4, none⟩ (.int .i64 ((qa l0 x7_1).f4))).setCell ⟨gb111, 5, none⟩ (.int .i64 ((qa l0 x7_1).f5))) = w24 at n0_ n1_ ⊢
     have BK111 := n0_
     have HB := n1_
     clear n0_ n1_
     replace BK111 := am (blk_drew BK111.o)
     replace HB := am (below_drew1 HB.o)
     refine start_ (n := 18) (S := fun w' => zB6 w' gb111 (.int .i64 ((qa l0 x7_1).f0)) (.int .i64 ((qa l0 x7_1).f1)) (.int .i64 ((qa l0 x7_1).f2)) (.int .i64 ((qa l0 x7_1).f3)) (.int .i64 ((qa l0 x7_1).f4)) (.int .i64 ((qa l0 x7_1).f5))) (ds := []) (zm 18 0) (by kernel_rfl) rfl rfl (zb6 BK111) (fun hHd => ?_); refine with_tabW qo.tab4 qo.bits4 (fun Tq Wq => ?_)
     generalize w24.drew = w25 at BK111 HB hHd ⊢
     refine take_ (i := 0) (N := some 12) (v := ?_) (a' := ?_) (zm 18 1) rfl rfl (take_ofW Tq.o Wq.o (by kernel_rfl)) (fun _ _ _ h => h) (Or.inl ⟨by rfl, ?_⟩) hHd ?_ ?_
     rotate_left
     ·rintro w' ⟨s0, s1, s2, s3, s4, s5⟩
      go_simp
      with_reducible rfl
     rotate_left
     ·exact zpx
     refine one_ (i := 1) (N := some 13) (zm 18 3) rfl rfl (one_of Tq.o (by kernel_rfl)) (by decide) (fun K hK => ?_)
     refine goes_ Tryz.func36 (by kernel_rfl) rfl #[.agg #[.int .i64 ((qa l0 x7_1).f0), .int .i64 ((qa l0 x7_1).f1), .int .i64 ((qa l0 x7_1).f2), .int .i64 ((qa l0 x7_1).f3), .int .i64 ((qa l0 x7_1).f4), .int .i64 ((qa l0 x7_1).f5)]] (by rfl) rfl rfl zlx ?_
     with_reducible refine (qF.calls ((qa l0 x7_1).f0) ((qa l0 x7_1).f1) ((qa l0 x7_1).f2) ((qa l0 x7_1).f3) ((qa l0 x7_1).f4) ((qa l0 x7_1).f5) true _ A5.o).mono ?_
     rintro e w26 ⟨rfl, hb⟩
     refine ⟨_, rfl, ?_⟩
     replace BK111 := zbl BK111.o hb
     replace HB := zhs HB hb
     (try clear hb)
     (try clear hb2)
     (try clear hk)
     (try clear hi)
     refine hK.out _ _ (zb6 BK111) (fun hHd => ?_)
     clear hK K
     refine norm_ (a' := ?_) ?_ ?_
     rotate_left
     ·show Act.put _ (some 13) _ = _
      simp only [Act.put, List.setIfInBounds_toArray, List.set_cons_zero, List.set_cons_succ, i64_w, i32_w]
      rfl
     refine zpu 2 14 (zm 18 7) Tq.o ?_
     refine zpu 3 15 (zm 18 15) Tq.o ?_
     refine zpu 4 16 (zm 18 31) Tq.o ?_
     refine zpu 5 17 (zm 18 63) Tq.o ?_
     refine zpu 6 18 (zm 18 127) Tq.o ?_
     refine zpn 7 19 (zm 18 255) Tq.o ?_
     refine zpn 8 20 (zm 18 511) Tq.o ?_
     refine zpn 9 21 (zm 18 1023) Tq.o ?_
     refine zpn 10 22 (zm 18 2047) Tq.o ?_
     refine zpn 11 23 (zm 18 4095) Tq.o ?_
     refine zpn 12 24 (zm 18 8191) Tq.o ?_
     refine zpn 13 25 (zm 18 16383) Tq.o ?_
     refine zpn 14 26 (zm 18 32767) Tq.o ?_
     refine zpn 15 27 (zm 18 65535) Tq.o ?_
     refine zpu 16 28 (zm 18 131071) Tq.o ?_
     refine zpu 17 29 (zm 18 262143) Tq.o ?_
     refine done_ (done_of Tq.o (by kernel_rfl)) ?_
     try go_wp2
     go_roundg k1
     case measure => have := HK1.o; omega
     case rel => exact ⟨(wrap64 (x7_1 + 1)), zrx, H', ⟨by have := HK1.o; omega⟩, ⟨zBy HB.o GE111.o⟩⟩
   rw [if_pos c7] at H
   have c7b0 := decide_eq_true c7
   clear c7
   obtain ⟨ji8, hji8⟩ : ∃ j_ : Int, (wrap64 (x7_1 - 1)) = j_ := ⟨_, rfl⟩
   replace H : (if 0 ≤ (ji8) then (if (ji8) < (l0.length : Int) then (if ((qa l0 (ji8)).f0) ≥ ((qa l0 x7_1).f0) then (some false) else (qo.l0 k1 l0 l0 (l0.length : Int) (wrap64 (x7_1 + 1)))) else (none)) else (none)) = some r := by first | (rw [hji8] at H; exact H) | (simp only [hji8] at H ⊢; exact H)
   (try rw [hji8] at A5)
   have hji8w : (IntKind.i64.wrap (x7_1 - 1)) = ji8 := (i64_w _).trans hji8
   obtain ⟨c9, H⟩ := zin H
   have c9b0 := decide_eq_true c9
   clear c9
   obtain ⟨c10, H⟩ := zin H
   have c10b0 := decide_eq_true c10
   clear c10
   by_cases c11 : ((qa l0 (ji8)).f0) ≥ ((qa l0 x7_1).f0)
   ·rw [if_pos c11] at H
    have c11b0 := decide_eq_true c11
    clear c11
    focus
     obtain rfl := Option.some.inj H
     have p110 : 0 ≤ (x7_1 : Int) := zod
     have q110 : x7_1 < (l0.length : Int) := zod
     obtain ⟨ad110, e110, hx110_0, hx110_1, hx110_2, hx110_3, hx110_4, hx110_5⟩ := at_T25 HR0.o x7_1 p110 q110
     cases e110
     obtain ⟨hx110_0, hx110_1, hx110_2, hx110_3, hx110_4, hx110_5⟩ := zh6 HB hx110_0 hx110_1 hx110_2 hx110_3 hx110_4 hx110_5
     replace p110 := eq_true p110
     replace q110 := eq_true q110
     try go_wp2_with (first | ((with_reducible refine zgd 4 rfl ?_); refine zbe 4 #[.int .i64 0, .int .i64 0, .int .i64 0, .int .i64 0, .int .i64 0, .int .i64 0] 25 ?_; intro gb111 hg w12 hbox hb; have BK111 := am (hbox); have GW111 := zns hg HB.o; have GE111 := zns hg HB.o; replace HB := zhs HB hb; clear hb hbox hg; have hcz13 := zc6 BK111.o))
     have n0_ : Aq (((((((w12.setCell ⟨gb111, 0, none⟩ (.int .i64 ((qa l0 x7_1).f0))).setCell ⟨gb111, 1, none⟩ (.int .i64 ((qa l0 x7_1).f1))).setCell ⟨gb111, 2, none⟩ (.int .i64 ((qa l0 x7_1).f2))).setCell ⟨gb111, 3, none⟩ (.int .i64 ((qa l0 x7_1).f3))).setCell ⟨gb111, 4, none⟩ (.int .i64 ((qa l0 x7_1).f4))).setCell ⟨gb111, 5, none⟩ (.int .i64 ((qa l0 x7_1).f5))).heap[gb111]? = some (.cells #[.int .i64 ((qa l0 x7_1).f0), .int .i64 ((qa l0 x7_1).f1), .int .i64 ((qa l0 x7_1).f2), .int .i64 ((qa l0 x7_1).f3), .int .i64 ((qa l0 x7_1).f4), .int .i64 ((qa l0 x7_1).f5)] 25 (0, 0))) := ⟨zbp BK111.o⟩
     have n1_ : Aq (Below w.heap.size w ((((((w12.setCell ⟨gb111, 0, none⟩ (.int .i64 ((qa l0 x7_1).f0))).setCell ⟨gb111, 1, none⟩ (.int .i64 ((qa l0 x7_1).f1))).setCell ⟨gb111, 2, none⟩ (.int .i64 ((qa l0 x7_1).f2))).setCell ⟨gb111, 3, none⟩ (.int .i64 ((qa l0 x7_1).f3))).setCell ⟨gb111, 4, none⟩ (.int .i64 ((qa l0 x7_1).f4))).setCell ⟨gb111, 5, none⟩ (.int .i64 ((qa l0 x7_1).f5)))) := ⟨zBy HB.o GE111.o⟩
     (try clear BK111)
     (try clear HB)
     generalize ((((((w12.setCell ⟨gb111, 0, none⟩ (.int .i64 ((qa l0 x7_1).f0))).setCell ⟨gb111, 1, none⟩ (.int .i64 ((qa l0 x7_1).f1))).setCell ⟨gb111, 2, none⟩ (.int .i64 ((qa l0 x7_1).f2))).setCell ⟨gb111, 3, none⟩ (.int .i64 ((qa l0 x7_1).f3))).setCell ⟨gb111, 4, none⟩ (.int .i64 ((qa l0 x7_1).f4))).setCell ⟨gb111, 5, none⟩ (.int .i64 ((qa l0 x7_1).f5))) = w14 at n0_ n1_ ⊢
     have BK111 := n0_
     have HB := n1_
     clear n0_ n1_
     replace BK111 := am (blk_drew BK111.o)
     replace HB := am (below_drew1 HB.o)
     have p113 : 0 ≤ ((ji8) : Int) := zod
     have q113 : (ji8) < (l0.length : Int) := zod
     obtain ⟨ad113, e113, hx113_0, hx113_1, hx113_2, hx113_3, hx113_4, hx113_5⟩ := at_T25 HR0.o (ji8) p113 q113
     have hw113_5 := hx113_5
     have hw113_4 := hx113_4
     have hw113_3 := hx113_3
     have hw113_2 := hx113_2
     have hw113_1 := hx113_1
     have hw113_0 := hx113_0
     obtain rfl : ad110 = ad113 := (by injection e113)
     obtain ⟨hx113_0, hx113_1, hx113_2, hx113_3, hx113_4, hx113_5⟩ := zh6 HB hx113_0 hx113_1 hx113_2 hx113_3 hx113_4 hx113_5
     replace p113 := eq_true p113
     replace q113 := eq_true q113
     refine start_ (n := 18) (S := fun w' => zB6 w' gb111 (.int .i64 ((qa l0 x7_1).f0)) (.int .i64 ((qa l0 x7_1).f1)) (.int .i64 ((qa l0 x7_1).f2)) (.int .i64 ((qa l0 x7_1).f3)) (.int .i64 ((qa l0 x7_1).f4)) (.int .i64 ((qa l0 x7_1).f5)) ∧ zS6 w' (ad110.add (((ji8)).toNat * 6)) (qa l0 (ji8))) (ds := []) (zm 18 0) (by kernel_rfl) rfl rfl ⟨zb6 BK111, zh6 HB hw113_0 hw113_1 hw113_2 hw113_3 hw113_4 hw113_5⟩ (fun hHd => ?_); refine with_tabW qo.tab4 qo.bits4 (fun Tq Wq => ?_)
     generalize w14.drew = w15 at BK111 HB hx113_0 hx113_1 hx113_2 hx113_3 hx113_4 hx113_5 hHd ⊢
     refine take_ (i := 0) (N := some 12) (v := ?_) (a' := ?_) (zm 18 1) rfl rfl (take_ofW Tq.o Wq.o (by kernel_rfl)) (fun _ _ _ h => h) (Or.inl ⟨by rfl, ?_⟩) hHd ?_ ?_
     rotate_left
     ·rintro w' ⟨⟨s0, s1, s2, s3, s4, s5⟩, ⟨s6, s7, s8, s9, s10, s11⟩⟩
      go_simp
      with_reducible rfl
     rotate_left
     ·exact zpx
     refine one_ (i := 1) (N := some 13) (zm 18 3) rfl rfl (one_of Tq.o (by kernel_rfl)) (by decide) (fun K hK => ?_)
     refine goes_ Tryz.func36 (by kernel_rfl) rfl #[.agg #[.int .i64 ((qa l0 x7_1).f0), .int .i64 ((qa l0 x7_1).f1), .int .i64 ((qa l0 x7_1).f2), .int .i64 ((qa l0 x7_1).f3), .int .i64 ((qa l0 x7_1).f4), .int .i64 ((qa l0 x7_1).f5)]] (by rfl) rfl rfl zlx ?_
     with_reducible refine (qF.calls ((qa l0 x7_1).f0) ((qa l0 x7_1).f1) ((qa l0 x7_1).f2) ((qa l0 x7_1).f3) ((qa l0 x7_1).f4) ((qa l0 x7_1).f5) true _ A5.o).mono ?_
     rintro e w16 ⟨rfl, hb⟩
     refine ⟨_, rfl, ?_⟩
     replace BK111 := zbl BK111.o hb
     replace HB := zhs HB hb
     (try clear hb)
     (try clear hb2)
     (try clear hk)
     (try clear hi)
     refine hK.out _ _ ⟨zb6 BK111, zh6 HB hw113_0 hw113_1 hw113_2 hw113_3 hw113_4 hw113_5⟩ (fun hHd => ?_)
     clear hK K
     refine norm_ (a' := ?_) ?_ ?_
     rotate_left
     ·show Act.put _ (some 13) _ = _
      simp only [Act.put, List.setIfInBounds_toArray, List.set_cons_zero, List.set_cons_succ, i64_w, i32_w]
      rfl
     refine zpu 2 14 (zm 18 7) Tq.o ?_
     refine zpu 3 15 (zm 18 15) Tq.o ?_
     refine zpu 4 16 (zm 18 31) Tq.o ?_
     refine zpu 5 17 (zm 18 63) Tq.o ?_
     refine zpu 6 18 (zm 18 127) Tq.o ?_
     refine zpu 7 19 (zm 18 255) Tq.o ?_
     refine zpu 8 20 (zm 18 511) Tq.o ?_
     refine zpu 9 21 (zm 18 1023) Tq.o ?_
     refine zpu 10 22 (zm 18 2047) Tq.o ?_
     refine zpu 11 23 (zm 18 4095) Tq.o ?_
     refine zpu 13 25 (zm 18 12287) Tq.o ?_
     refine take_ (i := 12) (N := some 24) (v := ?_) (a' := ?_) (zm 18 16383) rfl rfl (take_ofW Tq.o Wq.o (by kernel_rfl)) (fun _ _ _ h => h) (Or.inl ⟨by rfl, ?_⟩) hHd ?_ ?_
     rotate_left
     ·rintro w' ⟨⟨s0, s1, s2, s3, s4, s5⟩, ⟨s6, s7, s8, s9, s10, s11⟩⟩
      go_simp
      with_reducible rfl
     rotate_left
     ·exact zpx
     refine take_ (i := 14) (N := some 26) (v := ?_) (a' := ?_) (zm 18 32767) rfl rfl (take_ofW Tq.o Wq.o (by kernel_rfl)) (fun _ _ _ h => h) (Or.inl ⟨by rfl, ?_⟩) hHd ?_ ?_
     rotate_left
     ·rintro w' ⟨⟨s0, s1, s2, s3, s4, s5⟩, ⟨s6, s7, s8, s9, s10, s11⟩⟩
      go_simp
      with_reducible rfl
     rotate_left
     ·exact zpx
     refine zpu 15 27 (zm 18 65535) Tq.o ?_
     refine zpu 16 28 (zm 18 131071) Tq.o ?_
     refine zpu 17 29 (zm 18 262143) Tq.o ?_
     refine done_ (done_of Tq.o (by kernel_rfl)) ?_
     try go_wp2
     go_ret
     exact ⟨by first | rfl | (simp [errW_none, errW_some] <;> rfl) | (simp only [← hji8]; first | rfl | (simp [errW_none, errW_some] <;> rfl)) | (simp [*, errW_none, errW_some] <;> rfl), zBy HB.o GE111.o⟩
   rw [if_neg c11] at H
   have c11b0 := decide_eq_false c11
   clear c11
   focus
    have H' := am H
    clear H
    have p110 : 0 ≤ (x7_1 : Int) := zod
    have q110 : x7_1 < (l0.length : Int) := zod
    obtain ⟨ad110, e110, hx110_0, hx110_1, hx110_2, hx110_3, hx110_4, hx110_5⟩ := at_T25 HR0.o x7_1 p110 q110
    cases e110
    obtain ⟨hx110_0, hx110_1, hx110_2, hx110_3, hx110_4, hx110_5⟩ := zh6 HB hx110_0 hx110_1 hx110_2 hx110_3 hx110_4 hx110_5
    replace p110 := eq_true p110
    replace q110 := eq_true q110
    try go_wp2_with (first | ((with_reducible refine zgd 4 rfl ?_); refine zbe 4 #[.int .i64 0, .int .i64 0, .int .i64 0, .int .i64 0, .int .i64 0, .int .i64 0] 25 ?_; intro gb111 hg w17 hbox hb; have BK111 := am (hbox); have GW111 := zns hg HB.o; have GE111 := zns hg HB.o; replace HB := zhs HB hb; clear hb hbox hg; have hcz18 := zc6 BK111.o))
    have n0_ : Aq (((((((w17.setCell ⟨gb111, 0, none⟩ (.int .i64 ((qa l0 x7_1).f0))).setCell ⟨gb111, 1, none⟩ (.int .i64 ((qa l0 x7_1).f1))).setCell ⟨gb111, 2, none⟩ (.int .i64 ((qa l0 x7_1).f2))).setCell ⟨gb111, 3, none⟩ (.int .i64 ((qa l0 x7_1).f3))).setCell ⟨gb111, 4, none⟩ (.int .i64 ((qa l0 x7_1).f4))).setCell ⟨gb111, 5, none⟩ (.int .i64 ((qa l0 x7_1).f5))).heap[gb111]? = some (.cells #[.int .i64 ((qa l0 x7_1).f0), .int .i64 ((qa l0 x7_1).f1), .int .i64 ((qa l0 x7_1).f2), .int .i64 ((qa l0 x7_1).f3), .int .i64 ((qa l0 x7_1).f4), .int .i64 ((qa l0 x7_1).f5)] 25 (0, 0))) := ⟨zbp BK111.o⟩
    have n1_ : Aq (Below w.heap.size w ((((((w17.setCell ⟨gb111, 0, none⟩ (.int .i64 ((qa l0 x7_1).f0))).setCell ⟨gb111, 1, none⟩ (.int .i64 ((qa l0 x7_1).f1))).setCell ⟨gb111, 2, none⟩ (.int .i64 ((qa l0 x7_1).f2))).setCell ⟨gb111, 3, none⟩ (.int .i64 ((qa l0 x7_1).f3))).setCell ⟨gb111, 4, none⟩ (.int .i64 ((qa l0 x7_1).f4))).setCell ⟨gb111, 5, none⟩ (.int .i64 ((qa l0 x7_1).f5)))) := ⟨zBy HB.o GE111.o⟩
    (try clear BK111)
    (try clear HB)
    generalize ((((((w17.setCell ⟨gb111, 0, none⟩ (.int .i64 ((qa l0 x7_1).f0))).setCell ⟨gb111, 1, none⟩ (.int .i64 ((qa l0 x7_1).f1))).setCell ⟨gb111, 2, none⟩ (.int .i64 ((qa l0 x7_1).f2))).setCell ⟨gb111, 3, none⟩ (.int .i64 ((qa l0 x7_1).f3))).setCell ⟨gb111, 4, none⟩ (.int .i64 ((qa l0 x7_1).f4))).setCell ⟨gb111, 5, none⟩ (.int .i64 ((qa l0 x7_1).f5))) = w19 at n0_ n1_ ⊢
    have BK111 := n0_
    have HB := n1_
    clear n0_ n1_
    replace BK111 := am (blk_drew BK111.o)
    replace HB := am (below_drew1 HB.o)
    have p113 : 0 ≤ ((ji8) : Int) := zod
    have q113 : (ji8) < (l0.length : Int) := zod
    obtain ⟨ad113, e113, hx113_0, hx113_1, hx113_2, hx113_3, hx113_4, hx113_5⟩ := at_T25 HR0.o (ji8) p113 q113
    have hw113_5 := hx113_5
    have hw113_4 := hx113_4
    have hw113_3 := hx113_3
    have hw113_2 := hx113_2
    have hw113_1 := hx113_1
    have hw113_0 := hx113_0
    obtain rfl : ad110 = ad113 := (by injection e113)
    obtain ⟨hx113_0, hx113_1, hx113_2, hx113_3, hx113_4, hx113_5⟩ := zh6 HB hx113_0 hx113_1 hx113_2 hx113_3 hx113_4 hx113_5
    replace p113 := eq_true p113
    replace q113 := eq_true q113
    refine start_ (n := 18) (S := fun w' => zB6 w' gb111 (.int .i64 ((qa l0 x7_1).f0)) (.int .i64 ((qa l0 x7_1).f1)) (.int .i64 ((qa l0 x7_1).f2)) (.int .i64 ((qa l0 x7_1).f3)) (.int .i64 ((qa l0 x7_1).f4)) (.int .i64 ((qa l0 x7_1).f5)) ∧ zS6 w' (ad110.add (((ji8)).toNat * 6)) (qa l0 (ji8))) (ds := []) (zm 18 0) (by kernel_rfl) rfl rfl ⟨zb6 BK111, zh6 HB hw113_0 hw113_1 hw113_2 hw113_3 hw113_4 hw113_5⟩ (fun hHd => ?_); refine with_tabW qo.tab4 qo.bits4 (fun Tq Wq => ?_)
    generalize w19.drew = w20 at BK111 HB hx113_0 hx113_1 hx113_2 hx113_3 hx113_4 hx113_5 hHd ⊢
    refine take_ (i := 0) (N := some 12) (v := ?_) (a' := ?_) (zm 18 1) rfl rfl (take_ofW Tq.o Wq.o (by kernel_rfl)) (fun _ _ _ h => h) (Or.inl ⟨by rfl, ?_⟩) hHd ?_ ?_
    rotate_left
    ·rintro w' ⟨⟨s0, s1, s2, s3, s4, s5⟩, ⟨s6, s7, s8, s9, s10, s11⟩⟩
     go_simp
     with_reducible rfl
    rotate_left
    ·exact zpx
    refine one_ (i := 1) (N := some 13) (zm 18 3) rfl rfl (one_of Tq.o (by kernel_rfl)) (by decide) (fun K hK => ?_)
    refine goes_ Tryz.func36 (by kernel_rfl) rfl #[.agg #[.int .i64 ((qa l0 x7_1).f0), .int .i64 ((qa l0 x7_1).f1), .int .i64 ((qa l0 x7_1).f2), .int .i64 ((qa l0 x7_1).f3), .int .i64 ((qa l0 x7_1).f4), .int .i64 ((qa l0 x7_1).f5)]] (by rfl) rfl rfl zlx ?_
    with_reducible refine (qF.calls ((qa l0 x7_1).f0) ((qa l0 x7_1).f1) ((qa l0 x7_1).f2) ((qa l0 x7_1).f3) ((qa l0 x7_1).f4) ((qa l0 x7_1).f5) true _ A5.o).mono ?_
    rintro e w21 ⟨rfl, hb⟩
    refine ⟨_, rfl, ?_⟩
    replace BK111 := zbl BK111.o hb
    replace HB := zhs HB hb
    (try clear hb)
    (try clear hb2)
    (try clear hk)
    (try clear hi)
    refine hK.out _ _ ⟨zb6 BK111, zh6 HB hw113_0 hw113_1 hw113_2 hw113_3 hw113_4 hw113_5⟩ (fun hHd => ?_)
    clear hK K
    refine norm_ (a' := ?_) ?_ ?_
    rotate_left
    ·show Act.put _ (some 13) _ = _
     simp only [Act.put, List.setIfInBounds_toArray, List.set_cons_zero, List.set_cons_succ, i64_w, i32_w]
     rfl
    refine zpu 2 14 (zm 18 7) Tq.o ?_
    refine zpu 3 15 (zm 18 15) Tq.o ?_
    refine zpu 4 16 (zm 18 31) Tq.o ?_
    refine zpu 5 17 (zm 18 63) Tq.o ?_
    refine zpu 6 18 (zm 18 127) Tq.o ?_
    refine zpu 7 19 (zm 18 255) Tq.o ?_
    refine zpu 8 20 (zm 18 511) Tq.o ?_
    refine zpu 9 21 (zm 18 1023) Tq.o ?_
    refine zpu 10 22 (zm 18 2047) Tq.o ?_
    refine zpu 11 23 (zm 18 4095) Tq.o ?_
    refine zpu 13 25 (zm 18 12287) Tq.o ?_
    refine take_ (i := 12) (N := some 24) (v := ?_) (a' := ?_) (zm 18 16383) rfl rfl (take_ofW Tq.o Wq.o (by kernel_rfl)) (fun _ _ _ h => h) (Or.inl ⟨by rfl, ?_⟩) hHd ?_ ?_
    rotate_left
    ·rintro w' ⟨⟨s0, s1, s2, s3, s4, s5⟩, ⟨s6, s7, s8, s9, s10, s11⟩⟩
     go_simp
     with_reducible rfl
    rotate_left
    ·exact zpx
    refine take_ (i := 14) (N := some 26) (v := ?_) (a' := ?_) (zm 18 32767) rfl rfl (take_ofW Tq.o Wq.o (by kernel_rfl)) (fun _ _ _ h => h) (Or.inl ⟨by rfl, ?_⟩) hHd ?_ ?_
    rotate_left
    ·rintro w' ⟨⟨s0, s1, s2, s3, s4, s5⟩, ⟨s6, s7, s8, s9, s10, s11⟩⟩
     go_simp
     with_reducible rfl
    rotate_left
    ·exact zpx
    refine zpu 15 27 (zm 18 65535) Tq.o ?_
    refine zpu 16 28 (zm 18 131071) Tq.o ?_
    refine zpu 17 29 (zm 18 262143) Tq.o ?_
    refine done_ (done_of Tq.o (by kernel_rfl)) ?_
    try go_wp2
    go_roundg k1
    case measure => have := HK1.o; omega
    case rel => exact ⟨(wrap64 (x7_1 + 1)), zrx, H', ⟨by have := HK1.o; omega⟩, ⟨zBy HB.o GE111.o⟩⟩
def impl_doMeet.f (a0_0 : Int) (a0_1 : Int) (a0_2 : Int) (a0_3 : Int) (a0_4 : Int) (a0_5 : Int) (a1_0 : Int) (a1_1 : Int) (a1_2 : Int) (a1_3 : Int) (a1_4 : Int) (a1_5 : Int) : Option (Bool) := if a0_1 = a1_1 then (if a0_3 = a1_3 then (if a0_4 < a1_5 then (some (decide (a1_4 < a0_5))) else (some false)) else (some false)) else (some false)
theorem zendnBulletinsx4_0 {P_ : Prop} (h_ : P_ := by
  obtain rfl := Option.some.inj H
  go_enter Tryz.func107, Tryz.ntmps107
  go_wp2_with (first | ((with_reducible refine zgd 2 rfl ?_); refine zbe 2 #[.int .i64 a0_0, .int .i64 a0_1, .int .i64 a0_2, .int .i64 a0_3, .int .i64 a0_4, .int .i64 a0_5] 25 ?_; intro gb114 hg w6 hbox hb; have BK114 := am (hbox); have GW114 := zns hg HB.o; have GE114 := zns hg HB.o; replace HB := zhs HB hb; clear hb hbox hg) | ((with_reducible refine zgd 3 rfl ?_); refine zbe 3 #[.int .i64 a1_0, .int .i64 a1_1, .int .i64 a1_2, .int .i64 a1_3, .int .i64 a1_4, .int .i64 a1_5] 25 ?_; intro gb115 hg w7 hbox hb; have BK115 := am (hbox); have GW115 := zns hg HB.o; have GE115 := zns hg HB.o; replace HB := zhs HB hb; have NB114_115 := znl hg BK114.o; have NB115_114 := zng hg BK114.o; replace BK114 := zbl BK114.o hb; clear hb hbox hg; have hnb8 := NB114_115.o; have hnc8 := NB115_114.o; have hcz9 := zc6 BK114.o; have hcz10 := zc6 BK115.o))
  go_ret
  exact ⟨zew, zBz HB.o GE114.o GE115.o⟩) : P_ := h_
theorem impl_doMeet.calls (a0_0 : Int) (a0_1 : Int) (a0_2 : Int) (a0_3 : Int) (a0_4 : Int) (a0_5 : Int) (a1_0 : Int) (a1_1 : Int) (a1_2 : Int) (a1_3 : Int) (a1_4 : Int) (a1_5 : Int) (r : Bool) (w : World) (h : impl_doMeet.f a0_0 a0_1 a0_2 a0_3 a0_4 a0_5 a1_0 a1_1 a1_2 a1_3 a1_4 a1_5 = some r) :
 Calls Tryz.prog 107 #[.agg #[.int .i64 a0_0, .int .i64 a0_1, .int .i64 a0_2, .int .i64 a0_3, .int .i64 a0_4, .int .i64 a0_5], .agg #[.int .i64 a1_0, .int .i64 a1_1, .int .i64 a1_2, .int .i64 a1_3, .int .i64 a1_4, .int .i64 a1_5]] w fun e w' => e = .returned (.bool r) ∧ Below w.heap.size w w' := by
 have hu25 := Tryz.underlying25
 have HB := am (Below.refl w.heap.size w)
 unfold impl_doMeet.f at h
 have H := h
 clear h
 by_cases c3 : a0_1 = a1_1
 rotate_left
 ·rw [if_neg c3] at H
  have c3b0 := beq_eq_false_iff_ne.mpr c3
  have c3b1 := bne_iff_ne.mpr c3
  focus
   exact zendnBulletinsx4_0
 rw [if_pos c3] at H
 have c3b0 := beq_iff_eq.mpr c3
 have c3b1 := bne_eq_false_iff_eq.mpr c3
 clear c3
 by_cases c4 : a0_3 = a1_3
 rotate_left
 ·rw [if_neg c4] at H
  have c4b0 := beq_eq_false_iff_ne.mpr c4
  have c4b1 := bne_iff_ne.mpr c4
  focus
   exact zendnBulletinsx4_0
 rw [if_pos c4] at H
 have c4b0 := beq_iff_eq.mpr c4
 have c4b1 := bne_eq_false_iff_eq.mpr c4
 clear c4
 by_cases c5 : a0_4 < a1_5
 ·rw [if_pos c5] at H
  have c5b0 := decide_eq_true c5
  clear c5
  focus
   exact zendnBulletinsx4_0
 ·rw [if_neg c5] at H
  have c5b0 := decide_eq_false c5
  clear c5
  focus
   exact zendnBulletinsx4_0
def ixW.l0 (p : S25 → Bool) : Nat → List (S25) → Int → Option Int
 | 0, _, _ => none
 | k + 1, l, i => if i < (l.length : Int) then (if 0 ≤ i then (if p (qa l i) = true then some i else ixW.l0 p k l (wrap64 (i + 1))) else none) else some (-1)
theorem ixW.calls (k : Nat) (A0 : Option Addr) (c0 : Nat) (l0 : List (S25)) (p : S25 → Bool) (g : FuncId) (fn : Func) (caps : Array Value) (r : Int) (w : World) (hgf : Tryz.prog.funcs[g]? = some fn) (hgn : (fn.name == "runtime.NumGoroutine") = false) (hgb : fn.body.isSome = true)
  (hp : ∀ i : Int, 0 ≤ i → i < (l0.length : Int) → ∀ W, Below w.heap.size w W → Calls Tryz.prog g (#[.agg #[.int .i64 (qa l0 i).f0, .int .i64 (qa l0 i).f1, .int .i64 (qa l0 i).f2, .int .i64 (qa l0 i).f3, .int .i64 (qa l0 i).f4, .int .i64 (qa l0 i).f5]] ++ caps) W fun e W' => e = .returned (.bool (p (qa l0 i))) ∧ Below W.heap.size W W')
  (hr0 : Kd.C k25 w A0 l0.length l0) (hc0 : l0.length ≤ c0) (h : ixW.l0 p k l0 0 = some r) :
  Calls Tryz.prog 111 #[.slice A0 l0.length c0, .func (.func g) #[] caps] w fun e w' => e = .returned (.int .i64 r) ∧ Below w.heap.size w w' := by
 have HR0 := am hr0
 have HC0 := am hc0
 have HP := am hp
 clear hr0 hc0 hp
 have HB := am (Below.refl w.heap.size w)
 have H' := am h
 clear h
 go_enter Tryz.func111, Tryz.ntmps111
 go_wp2
 go_loopg [8] k (fun kq v8 w' => ∃ (x8_1 : Int), v8 = .int .i64 x8_1 ∧ Aq (ixW.l0 p kq l0 x8_1 = some r) ∧ Aq (kq ≤ k) ∧ Aq (Below w.heap.size w w'))
 case atStart => exact ⟨(0), zrx, H', ⟨Nat.le_refl _⟩, ⟨zBx HB.o⟩⟩
 case round =>
  clear H'
  obtain ⟨x8_1, rfl, HA, HK1, HB⟩ := hrel
  cases gk with
  | zero => exact absurd HA.o (by simp [ixW.l0])
  | succ k1 =>
   have H := HA.o
   clear HA
   simp only [ixW.l0] at H
   by_cases c3 : x8_1 < (l0.length : Int)
   rotate_left
   · rw [if_neg c3] at H
     have c3b0 := decide_eq_false c3
     clear c3
     obtain rfl := Option.some.inj H
     clear H
     go_wp2
     go_ret
     exact ⟨rfl, zBx HB.o⟩
   rw [if_pos c3] at H
   have c3b0 := decide_eq_true c3
   clear c3
   by_cases c4 : 0 ≤ x8_1
   rotate_left
   · rw [if_neg c4] at H
     exact absurd H (by simp)
   rw [if_pos c4] at H
   have c4b0 := decide_eq_true c4
   clear c4
   by_cases c7 : p (qa l0 x8_1) = true
   · rw [if_pos c7] at H
     have HC7 := am c7
     clear c7
     obtain rfl := Option.some.inj H
     clear H
     have p174 : 0 ≤ (x8_1 : Int) := zod
     have q174 : x8_1 < (l0.length : Int) := zod
     obtain ⟨ad174, e174, hx174_0, hx174_1, hx174_2, hx174_3, hx174_4, hx174_5⟩ := at_T25 HR0.o x8_1 p174 q174
     cases e174
     obtain ⟨hx174_0, hx174_1, hx174_2, hx174_3, hx174_4, hx174_5⟩ := zh6 HB hx174_0 hx174_1 hx174_2 hx174_3 hx174_4 hx174_5
     replace p174 := eq_true p174
     replace q174 := eq_true q174
     go_wp2_with (first | ((with_reducible refine gate_calleeT (t := 11) rfl ?_); refine goesC_ (t := 11) (some 16) rfl rfl hgf hgn hgb #[.agg #[.int .i64 (qa l0 x8_1).f0, .int .i64 (qa l0 x8_1).f1, .int .i64 (qa l0 x8_1).f2, .int .i64 (qa l0 x8_1).f3, .int .i64 (qa l0 x8_1).f4, .int .i64 (qa l0 x8_1).f5]] caps (#[.agg #[.int .i64 (qa l0 x8_1).f0, .int .i64 (qa l0 x8_1).f1, .int .i64 (qa l0 x8_1).f2, .int .i64 (qa l0 x8_1).f3, .int .i64 (qa l0 x8_1).f4, .int .i64 (qa l0 x8_1).f5]] ++ caps) ⟨rfl, rfl⟩ zlx rfl ?_; (with_reducible refine (HP.o x8_1 (of_decide_eq_true zax) (of_decide_eq_true zax) _ ?sb).mono ?_); (case sb => exact zBx HB.o); rintro e w8 ⟨he_, hb⟩; rw [HC7.o] at he_; subst he_; refine ⟨_, rfl, ?_⟩; replace HB := zhs HB hb; clear hb))
     go_ret
     exact ⟨rfl, zBx HB.o⟩
   rw [if_neg c7] at H
   have HC7 := am (Bool.eq_false_iff.mpr c7)
   clear c7
   have H' := am H
   clear H
   have p174 : 0 ≤ (x8_1 : Int) := zod
   have q174 : x8_1 < (l0.length : Int) := zod
   obtain ⟨ad174, e174, hx174_0, hx174_1, hx174_2, hx174_3, hx174_4, hx174_5⟩ := at_T25 HR0.o x8_1 p174 q174
   cases e174
   obtain ⟨hx174_0, hx174_1, hx174_2, hx174_3, hx174_4, hx174_5⟩ := zh6 HB hx174_0 hx174_1 hx174_2 hx174_3 hx174_4 hx174_5
   replace p174 := eq_true p174
   replace q174 := eq_true q174
   go_wp2_with (first | ((with_reducible refine gate_calleeT (t := 11) rfl ?_); refine goesC_ (t := 11) (some 16) rfl rfl hgf hgn hgb #[.agg #[.int .i64 (qa l0 x8_1).f0, .int .i64 (qa l0 x8_1).f1, .int .i64 (qa l0 x8_1).f2, .int .i64 (qa l0 x8_1).f3, .int .i64 (qa l0 x8_1).f4, .int .i64 (qa l0 x8_1).f5]] caps (#[.agg #[.int .i64 (qa l0 x8_1).f0, .int .i64 (qa l0 x8_1).f1, .int .i64 (qa l0 x8_1).f2, .int .i64 (qa l0 x8_1).f3, .int .i64 (qa l0 x8_1).f4, .int .i64 (qa l0 x8_1).f5]] ++ caps) ⟨rfl, rfl⟩ zlx rfl ?_; (with_reducible refine (HP.o x8_1 (of_decide_eq_true zax) (of_decide_eq_true zax) _ ?sb).mono ?_); (case sb => exact zBx HB.o); rintro e w8 ⟨he_, hb⟩; rw [HC7.o] at he_; subst he_; refine ⟨_, rfl, ?_⟩; replace HB := zhs HB hb; clear hb))
   go_roundg k1
   case measure => have := HK1.o; omega
   case rel => exact ⟨(wrap64 (x8_1 + 1)), zrx, H', ⟨by have := HK1.o; omega⟩, ⟨zBx HB.o⟩⟩
def meets (a0 a1 a2 a3 a4 a5 : Int) (x : S25) : Bool := (impl_doMeet.f a0 a1 a2 a3 a4 a5 x.f0 x.f1 x.f2 x.f3 x.f4 x.f5).getD false
theorem meets_eq (a0 a1 a2 a3 a4 a5 : Int) (x : S25) : impl_doMeet.f a0 a1 a2 a3 a4 a5 x.f0 x.f1 x.f2 x.f3 x.f4 x.f5 = some (meets a0 a1 a2 a3 a4 a5 x) := by
 unfold meets impl_doMeet.f
 repeat' split
 all_goals rfl
theorem closure106 (x : S25) (a0 a1 a2 a3 a4 a5 : Int) (g : Nat) (w : World) (hq : w.cell? ⟨g, 0, none⟩ = some (.int .i64 a0) ∧ w.cell? ⟨g, 1, none⟩ = some (.int .i64 a1) ∧ w.cell? ⟨g, 2, none⟩ = some (.int .i64 a2) ∧ w.cell? ⟨g, 3, none⟩ = some (.int .i64 a3) ∧ w.cell? ⟨g, 4, none⟩ = some (.int .i64 a4) ∧ w.cell? ⟨g, 5, none⟩ = some (.int .i64 a5)) :
  Calls Tryz.prog 106 #[.agg #[.int .i64 x.f0, .int .i64 x.f1, .int .i64 x.f2, .int .i64 x.f3, .int .i64 x.f4, .int .i64 x.f5], .pointer (some ⟨g, 0, none⟩)] w fun e w' => e = .returned (.bool (meets a0 a1 a2 a3 a4 a5 x)) ∧ Below w.heap.size w w' := by
 have hu25 := Tryz.underlying25
 have HB := am (Below.refl w.heap.size w)
 obtain ⟨q0, q1, q2, q3, q4, q5⟩ := hq
 go_enter Tryz.func106, Tryz.ntmps106
 go_wp2_with (first | ((with_reducible refine zgd 2 rfl ?_); refine zbe 2 #[.int .i64 x.f0, .int .i64 x.f1, .int .i64 x.f2, .int .i64 x.f3, .int .i64 x.f4, .int .i64 x.f5] 25 ?_; intro gb265 hg w12 hbox hb; have n0_ := am (bsq (zBx HB.o) hb); have n1_ := am (hbox); have n2_ := zns hg HB.o; replace q0 := pw_cell_below n0_.o q0; replace q1 := pw_cell_below n0_.o q1; replace q2 := pw_cell_below n0_.o q2; replace q3 := pw_cell_below n0_.o q3; replace q4 := pw_cell_below n0_.o q4; replace q5 := pw_cell_below n0_.o q5; clear HB; have HB := n0_; have BK265 := n1_; have GE265 := n2_; clear n0_ n1_ n2_; clear hb hbox hg; have hcz13_0 := (bkc BK265.o 0).trans rfl; have hcz13_1 := (bkc BK265.o 1).trans rfl; have hcz13_2 := (bkc BK265.o 2).trans rfl; have hcz13_3 := (bkc BK265.o 3).trans rfl; have hcz13_4 := (bkc BK265.o 4).trans rfl; have hcz13_5 := (bkc BK265.o 5).trans rfl) | (go_at_call 107; (with_reducible refine (impl_doMeet.calls a0 a1 a2 a3 a4 a5 x.f0 x.f1 x.f2 x.f3 x.f4 x.f5 _ _ (meets_eq a0 a1 a2 a3 a4 a5 x)).mono ?_); rintro e w9 ⟨rfl, hb⟩; have n1_ := am (bsq (zBy HB.o GE265.o) hb); clear HB; have HB := n1_; clear n1_; clear hb))
 go_ret
 exact ⟨rfl, zBy HB.o GE265.o⟩
def slices_ContainsFunc_Warning.f (l0 : List (S25)) (a1_0 : Int) (a1_1 : Int) (a1_2 : Int) (a1_3 : Int) (a1_4 : Int) (a1_5 : Int) : Option (Bool) := (ixW.l0 (meets a1_0 a1_1 a1_2 a1_3 a1_4 a1_5) (l0.length + 1) l0 0).bind fun i => some (decide (i ≥ 0))
theorem slices_ContainsFunc_Warning.calls (g : Nat) (A0 : Option Addr) (c0 : Nat) (l0 : List (S25)) (a1_0 : Int) (a1_1 : Int) (a1_2 : Int) (a1_3 : Int) (a1_4 : Int) (a1_5 : Int) (r : Bool) (w : World) (hr0 : Kd.C k25 w A0 l0.length l0) (hc0 : l0.length ≤ c0) (hq : w.cell? ⟨g, 0, none⟩ = some (.int .i64 a1_0) ∧ w.cell? ⟨g, 1, none⟩ = some (.int .i64 a1_1) ∧ w.cell? ⟨g, 2, none⟩ = some (.int .i64 a1_2) ∧ w.cell? ⟨g, 3, none⟩ = some (.int .i64 a1_3) ∧ w.cell? ⟨g, 4, none⟩ = some (.int .i64 a1_4) ∧ w.cell? ⟨g, 5, none⟩ = some (.int .i64 a1_5)) (h : slices_ContainsFunc_Warning.f l0 a1_0 a1_1 a1_2 a1_3 a1_4 a1_5 = some r) :
 Calls Tryz.prog 105 #[.slice A0 l0.length c0, .func (.func 106) #[] #[.pointer (some ⟨g, 0, none⟩)]] w fun e w' => e = .returned (.bool r) ∧ Below w.heap.size w w' := by
 unfold slices_ContainsFunc_Warning.f at h
 obtain ⟨i, hi, h⟩ := Option.bind_eq_some_iff.mp h
 obtain rfl := Option.some.inj h
 clear h
 have key := ixW.calls (l0.length + 1) A0 c0 l0 (meets a1_0 a1_1 a1_2 a1_3 a1_4 a1_5) 106 Tryz.f106 #[.pointer (some ⟨g, 0, none⟩)] i
 have hlt : g < w.heap.size := World.block_lt_of_cell? w _ hq.1
 have clo : ∀ W, Below w.heap.size w W → ∀ i : Int, 0 ≤ i → i < (l0.length : Int) → ∀ W', Below W.heap.size W W' → Calls Tryz.prog 106 (#[.agg #[.int .i64 (qa l0 i).f0, .int .i64 (qa l0 i).f1, .int .i64 (qa l0 i).f2, .int .i64 (qa l0 i).f3, .int .i64 (qa l0 i).f4, .int .i64 (qa l0 i).f5]] ++ #[.pointer (some ⟨g, 0, none⟩)]) W' fun e W'' => e = .returned (.bool (meets a1_0 a1_1 a1_2 a1_3 a1_4 a1_5 (qa l0 i))) ∧ Below W'.heap.size W' W'' := by
  intro W hW i _ _ W' hW'
  have hb := bsq hW hW'
  exact closure106 (qa l0 i) a1_0 a1_1 a1_2 a1_3 a1_4 a1_5 g W' ⟨pw_cell_below hb hq.1, pw_cell_below hb hq.2.1, pw_cell_below hb hq.2.2.1, pw_cell_below hb hq.2.2.2.1, pw_cell_below hb hq.2.2.2.2.1, pw_cell_below hb hq.2.2.2.2.2⟩
 clear hq hlt
 have HR0 := am hr0
 have HC0 := am hc0
 have HK := am key
 have HI := am hi
 have CLO := am clo
 clear hr0 hc0 key clo hi
 have HB := am (Below.refl w.heap.size w)
 go_enter Tryz.func105, Tryz.ntmps105
 go_wp2_with (first | (go_at_call 111; refine (HK.o _ Tryz.func106 (by kernel_rfl) (by kernel_rfl) ?side0 ?side1 ?side2 HI.o).mono ?_; (case side0 => exact CLO.o _ (zBx HB.o)); (case side1 => exact zCx HR0.o); (case side2 => exact HC0.o); rintro e w4 ⟨rfl, hb⟩; replace HB := zhs HB hb; clear hb))
 go_ret
 exact ⟨rfl, zBx HB.o⟩
def qx.l0 : Nat → List (S25) → List (S25) → Int → Int → Option (Bool)
 | 0, _, _, _, _ => none
 | k + 1, x0, x8, x9, x10 => if x10 < x9 then (if 0 ≤ x10 then (if x10 < (x8.length : Int) then (if x10 ≤ (x0.length : Int) then ((slices_ContainsFunc_Warning.f (x0.take (x10 : Int).toNat) ((qa x8 x10).f0) ((qa x8 x10).f1) ((qa x8 x10).f2) ((qa x8 x10).f3) ((qa x8 x10).f4) ((qa x8 x10).f5)).bind fun t123 => (if t123 = true then (some false) else (qx.l0 k x0 x8 x9 (wrap64 (x10 + 1))))) else (none)) else (none)) else (none)) else (some true)
def qx.f (k : Nat) (l0 : List (S25)) : Option (Bool) := (qo.f k l0).bind fun t116 => (if t116 = true then (qx.l0 k l0 l0 (l0.length : Int) 0) else (some false))
theorem qx.calls (k : Nat) (A0 : Option Addr) (c0 : Nat) (l0 : List (S25)) (r : Bool) (w : World) (hr0 : Kd.C k25 w A0 l0.length l0) (hc0 : l0.length ≤ c0) (h : qx.f k l0 = some r) :
 Calls Tryz.prog 70 #[.slice A0 l0.length c0] w fun e w' => e = .returned (.bool r) ∧ Below w.heap.size w w' := by
 have hu25 := Tryz.underlying25
 have HR0 := am hr0
 have HC0 := am hc0
 clear hr0 hc0
 have HB := am (Below.refl w.heap.size w)
 unfold qx.f at h
 have H := h
 clear h
 obtain ⟨t116, A2, H⟩ := zob H
 try dsimp only at H
 by_cases c3 : t116 = true
 rotate_left
 ·replace c3 := Bool.eq_false_iff.mpr c3
  subst c3
  rw [if_neg (show ¬ (false = true) by decide)] at H
  focus
   obtain rfl := Option.some.inj H
   go_enter Tryz.func70, Tryz.ntmps70
   go_wp2_with (first | ((with_reducible refine zgc 104 rfl ?_); refine zgl 6 Tryz.func104 #[.slice A0 l0.length c0] ?_; (with_reducible refine (qo.calls k _ _ l0 false _ ?side1 ?side2 A2.o).mono ?_); (case side1 => exact zCx HR0.o); (case side2 => exact HC0.o); rintro e w24 ⟨rfl, hb⟩; refine ⟨_, rfl, ?_⟩; replace HB := zhs HB hb; clear hb))
   go_ret
   exact ⟨zew, zBx HB.o⟩
 subst c3
 rw [if_pos rfl] at H
 have H' := am H
 clear H
 go_enter Tryz.func70, Tryz.ntmps70
 go_wp2_with (first | ((with_reducible refine zgc 104 rfl ?_); refine zgl 6 Tryz.func104 #[.slice A0 l0.length c0] ?_; (with_reducible refine (qo.calls k _ _ l0 true _ ?side1 ?side2 A2.o).mono ?_); (case side1 => exact zCx HR0.o); (case side2 => exact HC0.o); rintro e w4 ⟨rfl, hb⟩; refine ⟨_, rfl, ?_⟩; replace HB := zhs HB hb; clear hb))
 go_loopg [10] k (fun kq v10 w' => ∃ (x10_1 : Int), v10 = .int .i64 x10_1 ∧ Aq (qx.l0 kq l0 l0 (l0.length : Int) x10_1 = some r) ∧ Aq (kq ≤ k) ∧ Aq (Below w.heap.size w w'))
 case atStart => exact ⟨(0), zrx, H', ⟨Nat.le_refl _⟩, ⟨zBx HB.o⟩⟩
 case round =>
  clear H'
  try clear c3
  obtain ⟨x10_1, rfl, HA, HK1, HB⟩ := hrel
  cases gk with
  | zero => exact absurd HA.o (by simp [qx.l0])
  | succ k1 =>
   have H := HA.o
   clear HA
   simp only [qx.l0] at H
   by_cases c5 : x10_1 < (l0.length : Int)
   rotate_left
   ·rw [if_neg c5] at H
    have c5b0 := decide_eq_false c5
    clear c5
    focus
     obtain rfl := Option.some.inj H
     go_wp2
     go_ret
     exact ⟨zew, zBx HB.o⟩
   rw [if_pos c5] at H
   have c5b0 := decide_eq_true c5
   clear c5
   obtain ⟨c6, H⟩ := zin H
   have c6b0 := decide_eq_true c6
   clear c6
   obtain ⟨c7, H⟩ := zin H
   have c7b0 := decide_eq_true c7
   clear c7
   have c8b0 := eq_true (of_decide_eq_true zax : 0 ≤ x10_1)
   obtain ⟨c9, H⟩ := zin H
   have c9b0 := eq_true c9
   have c9b1 := decide_eq_true c9
   clear c9
   obtain ⟨y119, hy119⟩ : ∃ y_ : List (S25), y_ = (l0.take (x10_1 : Int).toNat) := ⟨_, rfl⟩
   replace H : ((slices_ContainsFunc_Warning.f y119 ((qa l0 x10_1).f0) ((qa l0 x10_1).f1) ((qa l0 x10_1).f2) ((qa l0 x10_1).f3) ((qa l0 x10_1).f4) ((qa l0 x10_1).f5)).bind fun t123 => (if t123 = true then (some false) else (qx.l0 k1 l0 l0 (l0.length : Int) (wrap64 (x10_1 + 1))))) = some r := by rw [hy119]; exact H
   have Ny119 := am hy119
   clear hy119
   obtain ⟨t123, A10, H⟩ := zob H
   try dsimp only at H
   by_cases c11 : t123 = true
   ·subst c11
    rw [if_pos rfl] at H
    focus
     obtain rfl := Option.some.inj H
     have p117 : 0 ≤ (x10_1 : Int) := zod
     have q117 : x10_1 < (l0.length : Int) := zod
     obtain ⟨ad117, e117, hx117_0, hx117_1, hx117_2, hx117_3, hx117_4, hx117_5⟩ := at_T25 HR0.o x10_1 p117 q117
     cases e117
     obtain ⟨hx117_0, hx117_1, hx117_2, hx117_3, hx117_4, hx117_5⟩ := zh6 HB hx117_0 hx117_1 hx117_2 hx117_3 hx117_4 hx117_5
     replace p117 := eq_true p117
     replace q117 := eq_true q117
     go_wp2_with (first | ((with_reducible refine zgd 4 rfl ?_); refine zbe 4 #[.int .i64 0, .int .i64 0, .int .i64 0, .int .i64 0, .int .i64 0, .int .i64 0] 25 ?_; intro gb118 hg w12 hbox hb; have BK118 := am (hbox); have GW118 := zns hg HB.o; have GE118 := zns hg HB.o; replace HB := zhs HB hb; clear hb hbox hg; have hcz13 := zc6 BK118.o) | ((with_reducible refine gate_store (t := 25) (p := 4) rfl ?_); refine store_event (t := 25) (p := 4) (v := ?vo_w14) (w1 := ((((((w12.setCell ⟨gb118, 0, none⟩ (.int .i64 ((qa l0 x10_1).f0))).setCell ⟨gb118, 1, none⟩ (.int .i64 ((qa l0 x10_1).f1))).setCell ⟨gb118, 2, none⟩ (.int .i64 ((qa l0 x10_1).f2))).setCell ⟨gb118, 3, none⟩ (.int .i64 ((qa l0 x10_1).f3))).setCell ⟨gb118, 4, none⟩ (.int .i64 ((qa l0 x10_1).f4))).setCell ⟨gb118, 5, none⟩ (.int .i64 ((qa l0 x10_1).f5)))) ?hg ?ho ?hn ?hr ?_; (case ho => rfl); (case hg => rfl); (case hn => rfl); (case hr => exact zsx); intro w14 hw; replace BK118 : Aq (w14.heap[gb118]? = some (.cells #[.int .i64 ((qa l0 x10_1).f0), .int .i64 ((qa l0 x10_1).f1), .int .i64 ((qa l0 x10_1).f2), .int .i64 ((qa l0 x10_1).f3), .int .i64 ((qa l0 x10_1).f4), .int .i64 ((qa l0 x10_1).f5)] 25 (0, 0))) := ⟨(by rw [hw]; exact (zbp BK118.o))⟩; replace HB : Aq (Below w.heap.size w w14) := ⟨(by rw [hw]; exact (zBy HB.o GE118.o))⟩; clear hw; have q15 : (x10_1 : Int) ≤ ((l0.length : Int) : Int) := of_decide_eq_true zax; obtain ⟨i015, hi015, _, hsz15, _⟩ := info_parts info25; have hroom15 : l0.length ≤ c0 := HC0.o; have hC15 : Kd.C k25 _ (some ad117) l0.length l0 := HR0.o; have hcut15 := cut_to (P := Tryz.prog) 32 25 .i64 Tryz.underlying32 hi015 (some ad117) l0.length c0 x10_1 (of_decide_eq_true zax) q15 hroom15; have hr15 := Kd.C_take (m := (x10_1 : Int).toNat) hC15 (by omega); have hy15 : y119.length = (x10_1 : Int).toNat := (by rw [Ny119.o, List.length_take]; omega); rw [← Ny119.o] at hr15; rw [← hy15] at hcut15; have HR122 := am hr15; have HC122 := am (show y119.length ≤ c0 from by omega); clear hr15 hC15 hroom15 hi015 hsz15; have KY15 := am hy15; clear hy15; replace q15 := eq_true q15; have hcz16 := zc6 BK118.o) | ((with_reducible refine zgc 105 rfl ?_); refine zgl 19 Tryz.func105 #[.slice (some ad117) y119.length c0, .func (.func 106) #[] #[.pointer (some ⟨gb118, 0, none⟩)]] ?_; (with_reducible refine (slices_ContainsFunc_Warning.calls gb118 _ _ y119 ((qa l0 x10_1).f0) ((qa l0 x10_1).f1) ((qa l0 x10_1).f2) ((qa l0 x10_1).f3) ((qa l0 x10_1).f4) ((qa l0 x10_1).f5) true _ ?side1 ?side2 ?sq A10.o).mono ?_); (case sq => exact ⟨(bkc (t := 25) (cs := #[.int .i64 ((qa l0 x10_1).f0), .int .i64 ((qa l0 x10_1).f1), .int .i64 ((qa l0 x10_1).f2), .int .i64 ((qa l0 x10_1).f3), .int .i64 ((qa l0 x10_1).f4), .int .i64 ((qa l0 x10_1).f5)]) (zbx BK118.o) 0).trans rfl, (bkc (t := 25) (cs := #[.int .i64 ((qa l0 x10_1).f0), .int .i64 ((qa l0 x10_1).f1), .int .i64 ((qa l0 x10_1).f2), .int .i64 ((qa l0 x10_1).f3), .int .i64 ((qa l0 x10_1).f4), .int .i64 ((qa l0 x10_1).f5)]) (zbx BK118.o) 1).trans rfl, (bkc (t := 25) (cs := #[.int .i64 ((qa l0 x10_1).f0), .int .i64 ((qa l0 x10_1).f1), .int .i64 ((qa l0 x10_1).f2), .int .i64 ((qa l0 x10_1).f3), .int .i64 ((qa l0 x10_1).f4), .int .i64 ((qa l0 x10_1).f5)]) (zbx BK118.o) 2).trans rfl, (bkc (t := 25) (cs := #[.int .i64 ((qa l0 x10_1).f0), .int .i64 ((qa l0 x10_1).f1), .int .i64 ((qa l0 x10_1).f2), .int .i64 ((qa l0 x10_1).f3), .int .i64 ((qa l0 x10_1).f4), .int .i64 ((qa l0 x10_1).f5)]) (zbx BK118.o) 3).trans rfl, (bkc (t := 25) (cs := #[.int .i64 ((qa l0 x10_1).f0), .int .i64 ((qa l0 x10_1).f1), .int .i64 ((qa l0 x10_1).f2), .int .i64 ((qa l0 x10_1).f3), .int .i64 ((qa l0 x10_1).f4), .int .i64 ((qa l0 x10_1).f5)]) (zbx BK118.o) 4).trans rfl, (bkc (t := 25) (cs := #[.int .i64 ((qa l0 x10_1).f0), .int .i64 ((qa l0 x10_1).f1), .int .i64 ((qa l0 x10_1).f2), .int .i64 ((qa l0 x10_1).f3), .int .i64 ((qa l0 x10_1).f4), .int .i64 ((qa l0 x10_1).f5)]) (zbx BK118.o) 5).trans rfl⟩); (case side1 => exact zCx (Kd.C_below HR122.o HB.o)); (case side2 => exact HC122.o); rintro e w17 ⟨rfl, hb⟩; refine ⟨_, rfl, ?_⟩; replace BK118 := zbl BK118.o hb; replace HB := zhs HB hb; clear hb))
     go_ret
     exact ⟨zew, zBy HB.o GE118.o⟩
   replace c11 := Bool.eq_false_iff.mpr c11
   subst c11
   rw [if_neg (show ¬ (false = true) by decide)] at H
   focus
    have H' := am H
    clear H
    have p117 : 0 ≤ (x10_1 : Int) := zod
    have q117 : x10_1 < (l0.length : Int) := zod
    obtain ⟨ad117, e117, hx117_0, hx117_1, hx117_2, hx117_3, hx117_4, hx117_5⟩ := at_T25 HR0.o x10_1 p117 q117
    cases e117
    obtain ⟨hx117_0, hx117_1, hx117_2, hx117_3, hx117_4, hx117_5⟩ := zh6 HB hx117_0 hx117_1 hx117_2 hx117_3 hx117_4 hx117_5
    replace p117 := eq_true p117
    replace q117 := eq_true q117
    go_wp2_with (first | ((with_reducible refine zgd 4 rfl ?_); refine zbe 4 #[.int .i64 0, .int .i64 0, .int .i64 0, .int .i64 0, .int .i64 0, .int .i64 0] 25 ?_; intro gb118 hg w18 hbox hb; have BK118 := am (hbox); have GW118 := zns hg HB.o; have GE118 := zns hg HB.o; replace HB := zhs HB hb; clear hb hbox hg; have hcz19 := zc6 BK118.o) | ((with_reducible refine gate_store (t := 25) (p := 4) rfl ?_); refine store_event (t := 25) (p := 4) (v := ?vo_w20) (w1 := ((((((w18.setCell ⟨gb118, 0, none⟩ (.int .i64 ((qa l0 x10_1).f0))).setCell ⟨gb118, 1, none⟩ (.int .i64 ((qa l0 x10_1).f1))).setCell ⟨gb118, 2, none⟩ (.int .i64 ((qa l0 x10_1).f2))).setCell ⟨gb118, 3, none⟩ (.int .i64 ((qa l0 x10_1).f3))).setCell ⟨gb118, 4, none⟩ (.int .i64 ((qa l0 x10_1).f4))).setCell ⟨gb118, 5, none⟩ (.int .i64 ((qa l0 x10_1).f5)))) ?hg ?ho ?hn ?hr ?_; (case ho => rfl); (case hg => rfl); (case hn => rfl); (case hr => exact zsx); intro w20 hw; replace BK118 : Aq (w20.heap[gb118]? = some (.cells #[.int .i64 ((qa l0 x10_1).f0), .int .i64 ((qa l0 x10_1).f1), .int .i64 ((qa l0 x10_1).f2), .int .i64 ((qa l0 x10_1).f3), .int .i64 ((qa l0 x10_1).f4), .int .i64 ((qa l0 x10_1).f5)] 25 (0, 0))) := ⟨(by rw [hw]; exact (zbp BK118.o))⟩; replace HB : Aq (Below w.heap.size w w20) := ⟨(by rw [hw]; exact (zBy HB.o GE118.o))⟩; clear hw; have q21 : (x10_1 : Int) ≤ ((l0.length : Int) : Int) := of_decide_eq_true zax; obtain ⟨i021, hi021, _, hsz21, _⟩ := info_parts info25; have hroom21 : l0.length ≤ c0 := HC0.o; have hC21 : Kd.C k25 _ (some ad117) l0.length l0 := HR0.o; have hcut21 := cut_to (P := Tryz.prog) 32 25 .i64 Tryz.underlying32 hi021 (some ad117) l0.length c0 x10_1 (of_decide_eq_true zax) q21 hroom21; have hr21 := Kd.C_take (m := (x10_1 : Int).toNat) hC21 (by omega); have hy21 : y119.length = (x10_1 : Int).toNat := (by rw [Ny119.o, List.length_take]; omega); rw [← Ny119.o] at hr21; rw [← hy21] at hcut21; have HR122 := am hr21; have HC122 := am (show y119.length ≤ c0 from by omega); clear hr21 hC21 hroom21 hi021 hsz21; have KY21 := am hy21; clear hy21; replace q21 := eq_true q21; have hcz22 := zc6 BK118.o) | ((with_reducible refine zgc 105 rfl ?_); refine zgl 19 Tryz.func105 #[.slice (some ad117) y119.length c0, .func (.func 106) #[] #[.pointer (some ⟨gb118, 0, none⟩)]] ?_; (with_reducible refine (slices_ContainsFunc_Warning.calls gb118 _ _ y119 ((qa l0 x10_1).f0) ((qa l0 x10_1).f1) ((qa l0 x10_1).f2) ((qa l0 x10_1).f3) ((qa l0 x10_1).f4) ((qa l0 x10_1).f5) false _ ?side1 ?side2 ?sq A10.o).mono ?_); (case sq => exact ⟨(bkc (t := 25) (cs := #[.int .i64 ((qa l0 x10_1).f0), .int .i64 ((qa l0 x10_1).f1), .int .i64 ((qa l0 x10_1).f2), .int .i64 ((qa l0 x10_1).f3), .int .i64 ((qa l0 x10_1).f4), .int .i64 ((qa l0 x10_1).f5)]) (zbx BK118.o) 0).trans rfl, (bkc (t := 25) (cs := #[.int .i64 ((qa l0 x10_1).f0), .int .i64 ((qa l0 x10_1).f1), .int .i64 ((qa l0 x10_1).f2), .int .i64 ((qa l0 x10_1).f3), .int .i64 ((qa l0 x10_1).f4), .int .i64 ((qa l0 x10_1).f5)]) (zbx BK118.o) 1).trans rfl, (bkc (t := 25) (cs := #[.int .i64 ((qa l0 x10_1).f0), .int .i64 ((qa l0 x10_1).f1), .int .i64 ((qa l0 x10_1).f2), .int .i64 ((qa l0 x10_1).f3), .int .i64 ((qa l0 x10_1).f4), .int .i64 ((qa l0 x10_1).f5)]) (zbx BK118.o) 2).trans rfl, (bkc (t := 25) (cs := #[.int .i64 ((qa l0 x10_1).f0), .int .i64 ((qa l0 x10_1).f1), .int .i64 ((qa l0 x10_1).f2), .int .i64 ((qa l0 x10_1).f3), .int .i64 ((qa l0 x10_1).f4), .int .i64 ((qa l0 x10_1).f5)]) (zbx BK118.o) 3).trans rfl, (bkc (t := 25) (cs := #[.int .i64 ((qa l0 x10_1).f0), .int .i64 ((qa l0 x10_1).f1), .int .i64 ((qa l0 x10_1).f2), .int .i64 ((qa l0 x10_1).f3), .int .i64 ((qa l0 x10_1).f4), .int .i64 ((qa l0 x10_1).f5)]) (zbx BK118.o) 4).trans rfl, (bkc (t := 25) (cs := #[.int .i64 ((qa l0 x10_1).f0), .int .i64 ((qa l0 x10_1).f1), .int .i64 ((qa l0 x10_1).f2), .int .i64 ((qa l0 x10_1).f3), .int .i64 ((qa l0 x10_1).f4), .int .i64 ((qa l0 x10_1).f5)]) (zbx BK118.o) 5).trans rfl⟩); (case side1 => exact zCx (Kd.C_below HR122.o HB.o)); (case side2 => exact HC122.o); rintro e w23 ⟨rfl, hb⟩; refine ⟨_, rfl, ?_⟩; replace BK118 := zbl BK118.o hb; replace HB := zhs HB hb; clear hb))
    go_roundg k1
    case measure => have := HK1.o; omega
    case rel => exact ⟨(wrap64 (x10_1 + 1)), zrx, H', ⟨by have := HK1.o; omega⟩, ⟨zBy HB.o GE118.o⟩⟩
def qr.f (k : Nat) (a0_0 : Int) (a0_1 : Int) (l0_2 : List (S25)) : Option (Bool) := (qp.f a0_0 1 999).bind fun t125 => (if t125 = true then ((qp.f a0_1 0 240).bind fun t126 => (if t126 = true then ((qx.f k l0_2).bind fun t127 => (some t127)) else (some false))) else (some false))
theorem zendnBulletinsx4_1 {P_ : Prop} (h_ : P_ := by
  obtain rfl := Option.some.inj H
  go_enter Tryz.func24, Tryz.ntmps24
  go_wp2_with (first | ((with_reducible refine zgd 1 rfl ?_); refine zbe 1 #[.int .i64 a0_0, .int .i64 a0_1, .slice A0_2 l0_2.length c0_2] 34 ?_; intro gb124 hg w7 hbox hb; have BK124 := am (hbox); have GW124 := zns hg HB.o; have GE124 := zns hg HB.o; replace HB := zhs HB hb; clear hb hbox hg; have hcz8 := zc3 BK124.o) | ((with_reducible refine zgc 69 rfl ?_); refine zgl 5 Tryz.func69 #[.int .i64 a0_0, .int .i64 1, .int .i64 999] ?_; (with_reducible refine (qp.calls a0_0 1 999 _ _ A2.o).mono ?_); rintro e w' ⟨rfl, ⟨nd, rfl⟩⟩; refine ⟨_, rfl, ?_⟩) | (go_at_call 69; (with_reducible refine (qp.calls a0_1 0 240 _ _ A4.o).mono ?_); rintro e w' ⟨rfl, ⟨nd, rfl⟩⟩) | (go_at_call 70; (with_reducible refine (qx.calls k _ _ l0_2 t127 _ ?side1 ?side2 A6.o).mono ?_); (case side1 => repeat (first | exact (Kd.C_below HR0_2.o (zBy HB.o GE124.o)) | (with_reducible refine Kd.C_alloc ?_ _) | (with_reducible refine Kd.C_drewN ?_ _) | (with_reducible refine Kd.C_drew ?_))); (case side2 => exact HC0_2.o); rintro e w9 ⟨rfl, hb⟩; replace BK124 := zbl BK124.o hb; replace HB := zhs HB hb; clear hb))
  go_ret
  exact ⟨zew, zBy HB.o GE124.o⟩) : P_ := h_
theorem qr.calls (k : Nat) (a0_0 : Int) (a0_1 : Int) (A0_2 : Option Addr) (c0_2 : Nat) (l0_2 : List (S25)) (r : Bool) (w : World) (hr0_2 : Kd.C k25 w A0_2 l0_2.length l0_2) (hc0_2 : l0_2.length ≤ c0_2) (h : qr.f k a0_0 a0_1 l0_2 = some r) :
 Calls Tryz.prog 24 #[.agg #[.int .i64 a0_0, .int .i64 a0_1, .slice A0_2 l0_2.length c0_2]] w fun e w' => e = .returned (.bool r) ∧ Below w.heap.size w w' := by
 have hu34 := Tryz.underlying34
 have HR0_2 := am hr0_2
 have HC0_2 := am hc0_2
 clear hr0_2 hc0_2
 have HB := am (Below.refl w.heap.size w)
 unfold qr.f at h
 have H := h
 clear h
 obtain ⟨t125, A2, H⟩ := zob H
 try dsimp only at H
 by_cases c3 : t125 = true
 rotate_left
 ·replace c3 := Bool.eq_false_iff.mpr c3
  subst c3
  rw [if_neg (show ¬ (false = true) by decide)] at H
  focus
   exact zendnBulletinsx4_1
 subst c3
 rw [if_pos rfl] at H
 obtain ⟨t126, A4, H⟩ := zob H
 try dsimp only at H
 by_cases c5 : t126 = true
 ·subst c5
  rw [if_pos rfl] at H
  obtain ⟨t127, A6, H⟩ := zob H
  try dsimp only at H
  focus
   exact zendnBulletinsx4_1
 ·replace c5 := Bool.eq_false_iff.mpr c5
  subst c5
  rw [if_neg (show ¬ (false = true) by decide)] at H
  focus
   exact zendnBulletinsx4_1
def qK.l0 : Nat → ByteArray → Int → Int → Option (Int)
 | 0, _, _, _ => none
 | k + 1, x0, x3, x4 => if x4 < (x0.size : Int) then (if 0 ≤ x4 then (qK.l0 k x0 (Int.tmod (wrap64 ((wrap64 ((wrap64 (41 * x3)) + (wrap64 (bt x0 x4)))) + 1)) 999979) (wrap64 (x4 + 1))) else (none)) else (some x3)
def qK.f (k : Nat) (a0 : ByteArray) : Option (Int) := qK.l0 k a0 7 0
theorem qK.calls (k : Nat) (a0 : ByteArray) (r : Int) (w : World) (h : qK.f k a0 = some r) :
 Calls Tryz.prog 131 #[.string a0] w fun e w' => e = .returned (.int .i64 r) ∧ Dq w w' := by
 unfold qK.f at h
 have H := h
 clear h
 have H' := am H
 clear H
 go_enter Tryz.func131, Tryz.ntmps131
 go_wp2
 go_loopg [3, 4] k (fun kq v3 v4 w' => ∃ (x3_1 : Int) (x4_1 : Int), v3 = .int .i64 x3_1 ∧ v4 = .int .i64 x4_1 ∧ Aq (qK.l0 kq a0 x3_1 x4_1 = some r) ∧ Aq (kq ≤ k) ∧ Dq w w')
 case atStart => exact ⟨(7), (0), zrx, zrx, H', ⟨Nat.le_refl _⟩, by repeat (first | exact Dq.refl _ | apply Dq.step)⟩
 case round =>
  clear H'
  obtain ⟨x3_1, x4_1, rfl, rfl, HA, HK1, ⟨m1, rfl⟩⟩ := hrel
  cases gk with
  | zero => exact absurd HA.o (by simp [qK.l0])
  | succ k1 =>
   have H := HA.o
   clear HA
   simp only [qK.l0] at H
   by_cases c2 : x4_1 < (a0.size : Int)
   rotate_left
   ·rw [if_neg c2] at H
    have c2b0 := decide_eq_false c2
    clear c2
    focus
     obtain rfl := Option.some.inj H
     go_wp2
     go_ret
     exact ⟨by first | rfl | (simp; done) | (simp [*]; done), by repeat (first | exact Dq.refl _ | apply Dq.step)⟩
   rw [if_pos c2] at H
   have c2b0 := decide_eq_true c2
   clear c2
   obtain ⟨c3, H⟩ := zin H
   have c3b0 := decide_eq_true c3
   clear c3
   focus
    have H' := am H
    clear H
    have p4 : 0 ≤ (x4_1 : Int) := zod
    have q4 : x4_1 < (a0.size : Int) := zod
    have hx4 := bt_at a0 x4_1
    replace p4 := eq_true p4
    replace q4 := eq_true q4
    go_wp2
    go_roundg k1
    case measure => have := HK1.o; omega
    case rel => exact ⟨(Int.tmod (wrap64 ((wrap64 ((wrap64 (41 * x3_1)) + (wrap64 (bt a0 x4_1)))) + 1)) 999979), (wrap64 (x4_1 + 1)), zrx, zrx, H', ⟨by have := HK1.o; omega⟩, by repeat (first | exact Dq.refl _ | apply Dq.step)⟩
def qw.j0 : Nat → ByteArray → Bool → Option (ByteArray × Bool)
 | 0, _, _ => none
 | k + 1, x0, x11 => if x11 = true then (some ((⟨#[]⟩ : ByteArray), false)) else (if x0.size + 1 ≤ 9223372036854775807 then ((qK.f k x0).bind fun t148 => ((strconv_Itoa.f t148).bind fun t149 => (if (x0 ++ (⟨#[35]⟩ : ByteArray)).size + t149.size ≤ 9223372036854775807 then (if (((x0 ++ (⟨#[35]⟩ : ByteArray)) ++ t149).size : Int) > 4000 then (some ((⟨#[]⟩ : ByteArray), false)) else (some ((x0 ++ (⟨#[35]⟩ : ByteArray)) ++ t149, true))) else (none)))) else (none))
def qw.f (k : Nat) (a0 : ByteArray) : Option (ByteArray × Bool) := if (a0.size : Int) > 4000 then (qw.j0 k a0 true) else ((strings_Contains.f a0 (⟨#[35]⟩ : ByteArray)).bind fun t147 => (qw.j0 k a0 t147))
theorem zendnBulletinsx4_2 {P_ : Prop} (h_ : P_ := by
  simp only [Option.some.injEq, Prod.mk.injEq] at H
  obtain ⟨rfl, rfl⟩ := H
  go_wp2_with (first | ((with_reducible refine zgc 131 rfl ?_); refine zgl 15 Tryz.func131 #[.string a0] ?_; (with_reducible refine (qK.calls kj1 a0 t148 _ A7.o).mono ?_); rintro e w' ⟨rfl, ⟨nd, rfl⟩⟩; refine ⟨_, rfl, ?_⟩) | ((with_reducible refine zgc 81 rfl ?_); refine zgl 16 Tryz.func81 #[.int .i64 t148] ?_; (with_reducible refine (strconv_Itoa.calls t148 t149 _ ?sideL A8.o).mono ?_); (case sideL => exact Laid.below HL.o (zBx HB.o)); rintro e w11 ⟨rfl, hb⟩; refine ⟨_, rfl, ?_⟩; replace HB := zhs HB hb; clear hb))
  go_ret2
  exact ⟨zew, zBx HB.o⟩) : P_ := h_
theorem qw.calls (k : Nat) (a0 : ByteArray) (r1 : ByteArray) (r2 : Bool) (w : World) (hL : Laid w) (h : qw.f k a0 = some (r1, r2)) :
 Calls Tryz.prog 98 #[.string a0] w fun e w' => e = .returned (.tuple #[.string r1, .bool r2]) ∧ Below w.heap.size w w' := by
 have HL := am hL
 clear hL
 have HB := am (Below.refl w.heap.size w)
 unfold qw.f at h
 have H := h
 clear h
 have HC2 := am H
 clear H
 go_enter Tryz.func98, Tryz.ntmps98
 go_upto_region 1 with (fail)
 go_cut [11] (fun v11 wc => ∃ (kq : Nat) (x11_1 : Bool), v11 = .bool x11_1 ∧ Aq (qw.j0 kq a0 x11_1 = some (r1, r2)) ∧ Aq (kq ≤ k) ∧ Aq (Below w.heap.size w wc))
 case first =>
  have H := HC2.o
  clear HC2
  by_cases c3 : (a0.size : Int) > 4000
  ·rw [if_pos c3] at H
   have c3b0 := decide_eq_true c3
   have c3b1 : decide (4000 < a0.size) = true := decide_eq_true (by omega)
   clear c3
   (first | rw [c3b0] | (simp only [i64_w, i32_w]; rw [c3b0]) | skip)
   focus
    have H' := am H
    clear H
    go_wp2
    go_meet
    case rel => exact ⟨_, (true), zrx, H', ⟨by first | omega | exact Nat.le_refl _⟩, ⟨zBx HB.o⟩⟩
  rw [if_neg c3] at H
  have c3b0 := decide_eq_false c3
  have c3b1 : decide (4000 < a0.size) = false := decide_eq_false (by omega)
  clear c3
  (first | rw [c3b0] | (simp only [i64_w, i32_w]; rw [c3b0]) | skip)
  obtain ⟨t147, A4, H⟩ := zob H
  try dsimp only at H
  focus
   have H' := am H
   clear H
   go_wp2_with (first | (go_at_call 130; (with_reducible refine (strings_Contains.calls a0 (⟨#[35]⟩ : ByteArray) t147 _ A4.o).mono ?_); rintro e w' ⟨rfl, ⟨nd, rfl⟩⟩))
   go_meet
   case rel => exact ⟨_, (t147), zrx, H', ⟨by first | omega | exact Nat.le_refl _⟩, ⟨zBx HB.o⟩⟩
 case rest =>
  clear HC2
  obtain ⟨kq, x11_1, rfl, HA, HJ1, HB⟩ := hcut
  cases kq with
  | zero => exact absurd HA.o (by simp [qw.j0])
  | succ kj1 =>
   have H := HA.o
   clear HA
   simp only [qw.j0] at H
   by_cases c5 : x11_1 = true
   ·subst c5
    rw [if_pos rfl] at H
    focus
     simp only [Option.some.injEq, Prod.mk.injEq] at H
     obtain ⟨rfl, rfl⟩ := H
     go_wp2
     go_ret2
     exact ⟨zew, zBx HB.o⟩
   replace c5 := Bool.eq_false_iff.mpr c5
   subst c5
   rw [if_neg (show ¬ (false = true) by decide)] at H
   by_cases c6 : a0.size + 1 ≤ 9223372036854775807
   rotate_left
   ·rw [if_neg c6] at H
    exact absurd H (by simp)
   rw [if_pos c6] at H
   have c6b0 := eq_true c6
   have c6b1 := decide_eq_true c6
   try have c6b2 : (9223372036854775807 < a0.size + 1) = False := eq_false (Nat.not_lt.2 c6)
   obtain ⟨t148, A7, H⟩ := zob H
   try dsimp only at H
   obtain ⟨t149, A8, H⟩ := zob H
   try dsimp only at H
   obtain ⟨c9, H⟩ := zin H
   have c9b0 := eq_true c9
   have c9b1 := decide_eq_true c9
   try have c9b2 : (9223372036854775807 < (a0 ++ (⟨#[35]⟩ : ByteArray)).size + t149.size) = False := eq_false (Nat.not_lt.2 c9)
   have c9b3 : (9223372036854775807 < a0.size + 1 + t149.size) = False := eq_false (Nat.not_lt.2 (by have h_ := c9; simp only [ByteArray.size_append] at h_; exact h_))
   by_cases c10 : (((a0 ++ (⟨#[35]⟩ : ByteArray)) ++ t149).size : Int) > 4000
   ·rw [if_pos c10] at H
    have c10b0 := decide_eq_true c10
    have c10b3 : decide (4000 < ((a0.size : Int) + 1 + (t149.size : Int))) = true := decide_eq_true (by have h_ := of_decide_eq_true c10b0; simp only [ByteArray.size_append, Int.natCast_add] at h_; have e0_ : (⟨#[35]⟩ : ByteArray).size = 1 := rfl; omega)
    have c10b1 : decide (4000 < ((a0 ++ (⟨#[35]⟩ : ByteArray)) ++ t149).size) = true := decide_eq_true (by omega)
    clear c10
    focus
     exact zendnBulletinsx4_2
   ·rw [if_neg c10] at H
    have c10b0 := decide_eq_false c10
    have c10b3 : decide (4000 < ((a0.size : Int) + 1 + (t149.size : Int))) = false := decide_eq_false (by have h_ := of_decide_eq_false c10b0; simp only [ByteArray.size_append, Int.natCast_add] at h_; have e0_ : (⟨#[35]⟩ : ByteArray).size = 1 := rfl; omega)
    have c10b1 : decide (4000 < ((a0 ++ (⟨#[35]⟩ : ByteArray)) ++ t149).size) = false := decide_eq_false (by omega)
    clear c10
    focus
     exact zendnBulletinsx4_2
def qL.f (k : Nat) (a0 : ByteArray) : Option (ByteArray × Bool) := (strings_Cut.f a0 (⟨#[35]⟩ : ByteArray)).bind fun bt150 => ((qw.f k bt150.1).bind fun bt153 => (if bt150.2.2 = true then (if bt153.2 = true then (if bt153.1.toList = a0.toList then (some (bt150.1, true)) else (some ((⟨#[]⟩ : ByteArray), false))) else (some ((⟨#[]⟩ : ByteArray), false))) else (some ((⟨#[]⟩ : ByteArray), false))))
theorem zendnBulletinsx5_0 {P_ : Prop} (h_ : P_ := by
  simp only [Option.some.injEq, Prod.mk.injEq] at H
  obtain ⟨rfl, rfl⟩ := H
  go_enter Tryz.func58, Tryz.ntmps58
  go_wp2_with (first | ((with_reducible refine zgc 38 rfl ?_); refine zgl 11 Tryz.func38 #[.string a0, .string (⟨#[35]⟩ : ByteArray)] ?_; (with_reducible refine (strings_Cut.calls a0 (⟨#[35]⟩ : ByteArray) t150 t151 true _ ?sideL A2.o).mono ?_); (case sideL => exact Laid.below HL.o (zBx HB.o)); rintro e w' ⟨rfl, ⟨nd, rfl⟩⟩; refine ⟨_, rfl, ?_⟩) | ((with_reducible refine zgc 98 rfl ?_); refine zgl 17 Tryz.func98 #[.string t150] ?_; (with_reducible refine (qw.calls k t150 t153 true _ ?sideL A3.o).mono ?_); (case sideL => exact Laid.below HL.o (zBx HB.o)); rintro e w7 ⟨rfl, hb⟩; refine ⟨_, rfl, ?_⟩; replace HB := zhs HB hb; clear hb))
  go_ret2
  exact ⟨zew, zBx HB.o⟩) : P_ := h_
theorem qL.calls (k : Nat) (a0 : ByteArray) (r1 : ByteArray) (r2 : Bool) (w : World) (hL : Laid w) (h : qL.f k a0 = some (r1, r2)) :
 Calls Tryz.prog 58 #[.string a0] w fun e w' => e = .returned (.tuple #[.string r1, .bool r2]) ∧ Below w.heap.size w w' := by
 have HL := am hL
 clear hL
 have HB := am (Below.refl w.heap.size w)
 unfold qL.f at h
 have H := h
 clear h
 obtain ⟨⟨t150, t151, t152⟩, A2, H⟩ := zob H
 try dsimp only at H
 obtain ⟨⟨t153, t154⟩, A3, H⟩ := zob H
 try dsimp only at H
 by_cases c4 : t152 = true
 rotate_left
 ·replace c4 := Bool.eq_false_iff.mpr c4
  subst c4
  rw [if_neg (show ¬ (false = true) by decide)] at H
  focus
   simp only [Option.some.injEq, Prod.mk.injEq] at H
   obtain ⟨rfl, rfl⟩ := H
   go_enter Tryz.func58, Tryz.ntmps58
   go_wp2_with (first | ((with_reducible refine zgc 38 rfl ?_); refine zgl 11 Tryz.func38 #[.string a0, .string (⟨#[35]⟩ : ByteArray)] ?_; (with_reducible refine (strings_Cut.calls a0 (⟨#[35]⟩ : ByteArray) t150 t151 false _ ?sideL A2.o).mono ?_); (case sideL => exact Laid.below HL.o (zBx HB.o)); rintro e w' ⟨rfl, ⟨nd, rfl⟩⟩; refine ⟨_, rfl, ?_⟩) | ((with_reducible refine zgc 98 rfl ?_); refine zgl 17 Tryz.func98 #[.string t150] ?_; (with_reducible refine (qw.calls k t150 t153 t154 _ ?sideL A3.o).mono ?_); (case sideL => exact Laid.below HL.o (zBx HB.o)); rintro e w10 ⟨rfl, hb⟩; refine ⟨_, rfl, ?_⟩; replace HB := zhs HB hb; clear hb))
   go_ret2
   exact ⟨zew, zBx HB.o⟩
 subst c4
 rw [if_pos rfl] at H
 by_cases c5 : t154 = true
 ·subst c5
  rw [if_pos rfl] at H
  by_cases c6 : t153.toList = a0.toList
  ·rw [if_pos c6] at H
   have c6b0 := beq_iff_eq.mpr c6
   have c6b1 := bne_eq_false_iff_eq.mpr c6
   clear c6
   focus
    exact zendnBulletinsx5_0
  ·rw [if_neg c6] at H
   have c6b0 := beq_eq_false_iff_ne.mpr c6
   have c6b1 := bne_iff_ne.mpr c6
   focus
    exact zendnBulletinsx5_0
 ·replace c5 := Bool.eq_false_iff.mpr c5
  subst c5
  rw [if_neg (show ¬ (false = true) by decide)] at H
  focus
   simp only [Option.some.injEq, Prod.mk.injEq] at H
   obtain ⟨rfl, rfl⟩ := H
   go_enter Tryz.func58, Tryz.ntmps58
   go_wp2_with (first | ((with_reducible refine zgc 38 rfl ?_); refine zgl 11 Tryz.func38 #[.string a0, .string (⟨#[35]⟩ : ByteArray)] ?_; (with_reducible refine (strings_Cut.calls a0 (⟨#[35]⟩ : ByteArray) t150 t151 true _ ?sideL A2.o).mono ?_); (case sideL => exact Laid.below HL.o (zBx HB.o)); rintro e w' ⟨rfl, ⟨nd, rfl⟩⟩; refine ⟨_, rfl, ?_⟩) | ((with_reducible refine zgc 98 rfl ?_); refine zgl 17 Tryz.func98 #[.string t150] ?_; (with_reducible refine (qw.calls k t150 t153 false _ ?sideL A3.o).mono ?_); (case sideL => exact Laid.below HL.o (zBx HB.o)); rintro e w9 ⟨rfl, hb⟩; refine ⟨_, rfl, ?_⟩; replace HB := zhs HB hb; clear hb))
   go_ret2
   exact ⟨zew, zBx HB.o⟩
def stringslite_HasSuffix.f (a0 : ByteArray) (a1 : ByteArray) : Option (Bool) := if (a0.size : Int) ≥ (a1.size : Int) then (if 0 ≤ (wrap64 ((a0.size : Int) - (a1.size : Int))) then (if (wrap64 ((a0.size : Int) - (a1.size : Int))) ≤ (a0.size : Int) then (some ((a0.extract ((wrap64 ((a0.size : Int) - (a1.size : Int))) : Int).toNat a0.size).toList == a1.toList)) else (none)) else (none)) else (some false)
theorem stringslite_HasSuffix.calls (a0 : ByteArray) (a1 : ByteArray) (r : Bool) (w : World) (h : stringslite_HasSuffix.f a0 a1 = some r) :
 Calls Tryz.prog 99 #[.string a0, .string a1] w fun e w' => e = .returned (.bool r) ∧ Dq w w' := by
 unfold stringslite_HasSuffix.f at h
 have H := h
 clear h
 by_cases c3 : (a0.size : Int) ≥ (a1.size : Int)
 rotate_left
 ·rw [if_neg c3] at H
  have c3b0 := decide_eq_false c3
  have c3b1 : decide (a1.size ≤ a0.size) = false := decide_eq_false (fun h => c3 (Int.ofNat_le.mpr h))
  clear c3
  focus
   obtain rfl := Option.some.inj H
   go_enter Tryz.func99, Tryz.ntmps99
   go_wp2
   go_ret
   exact ⟨by first | rfl | (simp; done) | (simp [*]; done), by repeat (first | exact Dq.refl _ | apply Dq.step)⟩
 rw [if_pos c3] at H
 have c3b0 := decide_eq_true c3
 have c3b1 : decide (a1.size ≤ a0.size) = true := decide_eq_true (Int.ofNat_le.mp c3)
 clear c3
 obtain ⟨ji4, hji4⟩ : ∃ j_ : Int, (wrap64 ((a0.size : Int) - (a1.size : Int))) = j_ := ⟨_, rfl⟩
 replace H : (if 0 ≤ (ji4) then (if (ji4) ≤ (a0.size : Int) then (some ((a0.extract ((ji4) : Int).toNat a0.size).toList == a1.toList)) else (none)) else (none)) = some r := by first | (rw [hji4] at H; exact H) | (simp only [hji4] at H ⊢; exact H)
 have hji4w : (IntKind.i64.wrap ((a0.size : Int) - (a1.size : Int))) = ji4 := (i64_w _).trans hji4
 obtain ⟨c5, H⟩ := zin H
 have c5b0 := eq_true c5
 have c5b1 := decide_eq_true c5
 clear c5
 by_cases c6 : (ji4) ≤ (a0.size : Int)
 ·rw [if_pos c6] at H
  have c6b0 := eq_true c6
  have c6b1 := decide_eq_true c6
  clear c6
  focus
   obtain rfl := Option.some.inj H
   go_enter Tryz.func99, Tryz.ntmps99
   go_wp2
   go_ret
   exact ⟨by first | rfl | (simp; done) | (simp only [← hji4] <;> (first | rfl | simp)) | (simp [*]; done), by repeat (first | exact Dq.refl _ | apply Dq.step)⟩
 ·rw [if_neg c6] at H
  exact absurd H (by simp)
def strings_HasSuffix.f (a0 : ByteArray) (a1 : ByteArray) : Option (Bool) := (stringslite_HasSuffix.f a0 a1).bind fun t155 => (some t155)
theorem strings_HasSuffix.calls (a0 : ByteArray) (a1 : ByteArray) (r : Bool) (w : World) (h : strings_HasSuffix.f a0 a1 = some r) :
 Calls Tryz.prog 59 #[.string a0, .string a1] w fun e w' => e = .returned (.bool r) ∧ Dq w w' := by
 unfold strings_HasSuffix.f at h
 have H := h
 clear h
 obtain ⟨t155, A3, H⟩ := zob H
 try dsimp only at H
 focus
  obtain rfl := Option.some.inj H
  go_enter Tryz.func59, Tryz.ntmps59
  go_wp2_with (first | ((with_reducible refine zgc 99 rfl ?_); refine zgl 7 Tryz.func99 #[.string a0, .string a1] ?_; (with_reducible refine (stringslite_HasSuffix.calls a0 a1 t155 _ A3.o).mono ?_); rintro e w' ⟨rfl, ⟨nd, rfl⟩⟩; refine ⟨_, rfl, ?_⟩))
  go_ret
  exact ⟨by first | rfl | (simp; done) | (simp [*]; done), by repeat (first | exact Dq.refl _ | apply Dq.step)⟩
def stringslite_TrimSuffix.f (a0 : ByteArray) (a1 : ByteArray) : Option (ByteArray) := (stringslite_HasSuffix.f a0 a1).bind fun t156 => (if t156 = true then (if 0 ≤ (wrap64 ((a0.size : Int) - (a1.size : Int))) then (if (wrap64 ((a0.size : Int) - (a1.size : Int))) ≤ (a0.size : Int) then (some (a0.extract 0 ((wrap64 ((a0.size : Int) - (a1.size : Int))) : Int).toNat)) else (none)) else (none)) else (some a0))
theorem stringslite_TrimSuffix.calls (a0 : ByteArray) (a1 : ByteArray) (r : ByteArray) (w : World) (h : stringslite_TrimSuffix.f a0 a1 = some r) :
 Calls Tryz.prog 100 #[.string a0, .string a1] w fun e w' => e = .returned (.string r) ∧ Dq w w' := by
 unfold stringslite_TrimSuffix.f at h
 have H := h
 clear h
 obtain ⟨t156, A3, H⟩ := zob H
 try dsimp only at H
 by_cases c4 : t156 = true
 rotate_left
 ·replace c4 := Bool.eq_false_iff.mpr c4
  subst c4
  rw [if_neg (show ¬ (false = true) by decide)] at H
  focus
   obtain rfl := Option.some.inj H
   go_enter Tryz.func100, Tryz.ntmps100
   go_wp2_with (first | ((with_reducible refine zgc 99 rfl ?_); refine zgl 7 Tryz.func99 #[.string a0, .string a1] ?_; (with_reducible refine (stringslite_HasSuffix.calls a0 a1 false _ A3.o).mono ?_); rintro e w' ⟨rfl, ⟨nd, rfl⟩⟩; refine ⟨_, rfl, ?_⟩))
   go_ret
   exact ⟨by first | rfl | (simp; done) | (simp [*]; done), by repeat (first | exact Dq.refl _ | apply Dq.step)⟩
 subst c4
 rw [if_pos rfl] at H
 obtain ⟨ji5, hji5⟩ : ∃ j_ : Int, (wrap64 ((a0.size : Int) - (a1.size : Int))) = j_ := ⟨_, rfl⟩
 replace H : (if 0 ≤ (ji5) then (if (ji5) ≤ (a0.size : Int) then (some (a0.extract 0 ((ji5) : Int).toNat)) else (none)) else (none)) = some r := by first | (rw [hji5] at H; exact H) | (simp only [hji5] at H ⊢; exact H)
 (try rw [hji5] at A3)
 have hji5w : (IntKind.i64.wrap ((a0.size : Int) - (a1.size : Int))) = ji5 := (i64_w _).trans hji5
 obtain ⟨c6, H⟩ := zin H
 have c6b0 := eq_true c6
 have c6b1 := decide_eq_true c6
 clear c6
 by_cases c7 : (ji5) ≤ (a0.size : Int)
 ·rw [if_pos c7] at H
  have c7b0 := eq_true c7
  have c7b1 := decide_eq_true c7
  clear c7
  focus
   obtain rfl := Option.some.inj H
   go_enter Tryz.func100, Tryz.ntmps100
   go_wp2_with (first | ((with_reducible refine zgc 99 rfl ?_); refine zgl 7 Tryz.func99 #[.string a0, .string a1] ?_; (with_reducible refine (stringslite_HasSuffix.calls a0 a1 true _ A3.o).mono ?_); rintro e w' ⟨rfl, ⟨nd, rfl⟩⟩; refine ⟨_, rfl, ?_⟩))
   go_ret
   exact ⟨by first | rfl | (simp; done) | (simp only [← hji5] <;> (first | rfl | simp)) | (simp [*]; done), by repeat (first | exact Dq.refl _ | apply Dq.step)⟩
 ·rw [if_neg c7] at H
  exact absurd H (by simp)
def strings_TrimSuffix.f (a0 : ByteArray) (a1 : ByteArray) : Option (ByteArray) := (stringslite_TrimSuffix.f a0 a1).bind fun t157 => (some t157)
theorem strings_TrimSuffix.calls (a0 : ByteArray) (a1 : ByteArray) (r : ByteArray) (w : World) (h : strings_TrimSuffix.f a0 a1 = some r) :
 Calls Tryz.prog 60 #[.string a0, .string a1] w fun e w' => e = .returned (.string r) ∧ Dq w w' := by
 unfold strings_TrimSuffix.f at h
 have H := h
 clear h
 obtain ⟨t157, A3, H⟩ := zob H
 try dsimp only at H
 focus
  obtain rfl := Option.some.inj H
  go_enter Tryz.func60, Tryz.ntmps60
  go_wp2_with (first | ((with_reducible refine zgc 100 rfl ?_); refine zgl 7 Tryz.func100 #[.string a0, .string a1] ?_; (with_reducible refine (stringslite_TrimSuffix.calls a0 a1 t157 _ A3.o).mono ?_); rintro e w' ⟨rfl, ⟨nd, rfl⟩⟩; refine ⟨_, rfl, ?_⟩))
  go_ret
  exact ⟨by first | rfl | (simp; done) | (simp [*]; done), by repeat (first | exact Dq.refl _ | apply Dq.step)⟩
def stringslite_HasPrefix.f (a0 : ByteArray) (a1 : ByteArray) : Option (Bool) := if (a0.size : Int) ≥ (a1.size : Int) then (if 0 ≤ (a1.size : Int) then (if (a1.size : Int) ≤ (a0.size : Int) then (some ((a0.extract 0 ((a1.size : Int) : Int).toNat).toList == a1.toList)) else (none)) else (none)) else (some false)
theorem stringslite_HasPrefix.calls (a0 : ByteArray) (a1 : ByteArray) (r : Bool) (w : World) (h : stringslite_HasPrefix.f a0 a1 = some r) :
 Calls Tryz.prog 132 #[.string a0, .string a1] w fun e w' => e = .returned (.bool r) ∧ Dq w w' := by
 unfold stringslite_HasPrefix.f at h
 have H := h
 clear h
 by_cases c3 : (a0.size : Int) ≥ (a1.size : Int)
 rotate_left
 ·rw [if_neg c3] at H
  have c3b0 := decide_eq_false c3
  have c3b1 : decide (a1.size ≤ a0.size) = false := decide_eq_false (fun h => c3 (Int.ofNat_le.mpr h))
  clear c3
  focus
   obtain rfl := Option.some.inj H
   go_enter Tryz.func132, Tryz.ntmps132
   go_wp2
   go_ret
   exact ⟨by first | rfl | (simp; done) | (simp [*]; done), by repeat (first | exact Dq.refl _ | apply Dq.step)⟩
 rw [if_pos c3] at H
 have c3b0 := decide_eq_true c3
 have c3b1 : decide (a1.size ≤ a0.size) = true := decide_eq_true (Int.ofNat_le.mp c3)
 clear c3
 obtain ⟨c4, H⟩ := zin H
 have c4b0 := eq_true c4
 have c4b1 := decide_eq_true c4
 clear c4
 by_cases c5 : (a1.size : Int) ≤ (a0.size : Int)
 ·rw [if_pos c5] at H
  have c5b0 := eq_true c5
  have c5b1 := decide_eq_true c5
  clear c5
  focus
   obtain rfl := Option.some.inj H
   go_enter Tryz.func132, Tryz.ntmps132
   go_wp2
   go_ret
   exact ⟨by first | rfl | (simp; done) | (simp [*]; done), by repeat (first | exact Dq.refl _ | apply Dq.step)⟩
 ·rw [if_neg c5] at H
  exact absurd H (by simp)
def stringslite_TrimPrefix.f (a0 : ByteArray) (a1 : ByteArray) : Option (ByteArray) := (stringslite_HasPrefix.f a0 a1).bind fun t158 => (if t158 = true then (if 0 ≤ (a1.size : Int) then (if (a1.size : Int) ≤ (a0.size : Int) then (some (a0.extract ((a1.size : Int) : Int).toNat a0.size)) else (none)) else (none)) else (some a0))
theorem stringslite_TrimPrefix.calls (a0 : ByteArray) (a1 : ByteArray) (r : ByteArray) (w : World) (h : stringslite_TrimPrefix.f a0 a1 = some r) :
 Calls Tryz.prog 101 #[.string a0, .string a1] w fun e w' => e = .returned (.string r) ∧ Dq w w' := by
 unfold stringslite_TrimPrefix.f at h
 have H := h
 clear h
 obtain ⟨t158, A3, H⟩ := zob H
 try dsimp only at H
 by_cases c4 : t158 = true
 rotate_left
 ·replace c4 := Bool.eq_false_iff.mpr c4
  subst c4
  rw [if_neg (show ¬ (false = true) by decide)] at H
  focus
   obtain rfl := Option.some.inj H
   go_enter Tryz.func101, Tryz.ntmps101
   go_wp2_with (first | ((with_reducible refine zgc 132 rfl ?_); refine zgl 7 Tryz.func132 #[.string a0, .string a1] ?_; (with_reducible refine (stringslite_HasPrefix.calls a0 a1 false _ A3.o).mono ?_); rintro e w' ⟨rfl, ⟨nd, rfl⟩⟩; refine ⟨_, rfl, ?_⟩))
   go_ret
   exact ⟨by first | rfl | (simp; done) | (simp [*]; done), by repeat (first | exact Dq.refl _ | apply Dq.step)⟩
 subst c4
 rw [if_pos rfl] at H
 obtain ⟨c5, H⟩ := zin H
 have c5b0 := eq_true c5
 have c5b1 := decide_eq_true c5
 clear c5
 by_cases c6 : (a1.size : Int) ≤ (a0.size : Int)
 ·rw [if_pos c6] at H
  have c6b0 := eq_true c6
  have c6b1 := decide_eq_true c6
  clear c6
  focus
   obtain rfl := Option.some.inj H
   go_enter Tryz.func101, Tryz.ntmps101
   go_wp2_with (first | ((with_reducible refine zgc 132 rfl ?_); refine zgl 7 Tryz.func132 #[.string a0, .string a1] ?_; (with_reducible refine (stringslite_HasPrefix.calls a0 a1 true _ A3.o).mono ?_); rintro e w' ⟨rfl, ⟨nd, rfl⟩⟩; refine ⟨_, rfl, ?_⟩))
   go_ret
   exact ⟨by first | rfl | (simp; done) | (simp [*]; done), by repeat (first | exact Dq.refl _ | apply Dq.step)⟩
 ·rw [if_neg c6] at H
  exact absurd H (by simp)
def strings_TrimPrefix.f (a0 : ByteArray) (a1 : ByteArray) : Option (ByteArray) := (stringslite_TrimPrefix.f a0 a1).bind fun t159 => (some t159)
theorem strings_TrimPrefix.calls (a0 : ByteArray) (a1 : ByteArray) (r : ByteArray) (w : World) (h : strings_TrimPrefix.f a0 a1 = some r) :
 Calls Tryz.prog 61 #[.string a0, .string a1] w fun e w' => e = .returned (.string r) ∧ Dq w w' := by
 unfold strings_TrimPrefix.f at h
 have H := h
 clear h
 obtain ⟨t159, A3, H⟩ := zob H
 try dsimp only at H
 focus
  obtain rfl := Option.some.inj H
  go_enter Tryz.func61, Tryz.ntmps61
  go_wp2_with (first | ((with_reducible refine zgc 101 rfl ?_); refine zgl 7 Tryz.func101 #[.string a0, .string a1] ?_; (with_reducible refine (stringslite_TrimPrefix.calls a0 a1 t159 _ A3.o).mono ?_); rintro e w' ⟨rfl, ⟨nd, rfl⟩⟩; refine ⟨_, rfl, ?_⟩))
  go_ret
  exact ⟨by first | rfl | (simp; done) | (simp [*]; done), by repeat (first | exact Dq.refl _ | apply Dq.step)⟩
def qq.l0 : Nat → ByteArray → List (S25) → Int → Int → Option (ByteArray)
 | 0, _, _, _, _ => none
 | k + 1, x3, x19, x20, x21 => if x21 < x20 then (if 0 ≤ x21 then (if x21 < (x19.length : Int) then ((qP.f ((qa x19 x21).f0) ((qa x19 x21).f1) ((qa x19 x21).f2) ((qa x19 x21).f3) ((qa x19 x21).f4) ((qa x19 x21).f5)).bind fun t168 => (if t168.size + 1 ≤ 9223372036854775807 then (if x3.size + (t168 ++ (⟨#[10]⟩ : ByteArray)).size ≤ 9223372036854775807 then (qq.l0 k (x3 ++ (t168 ++ (⟨#[10]⟩ : ByteArray))) x19 x20 (wrap64 (x21 + 1))) else (none)) else (none))) else (none)) else (none)) else ((qw.f k x3).bind fun bt169 => (some bt169.1))
def qq.f (k : Nat) (a0_0 : Int) (a0_1 : Int) (l0_2 : List (S25)) : Option (ByteArray) := (strconv_Itoa.f a0_0).bind fun t164 => (if 9 + t164.size ≤ 9223372036854775807 then (if ((⟨#[98, 117, 108, 108, 101, 116, 105, 110, 32]⟩ : ByteArray) ++ t164).size + 9 ≤ 9223372036854775807 then ((strconv_Itoa.f a0_1).bind fun t165 => (if (((⟨#[98, 117, 108, 108, 101, 116, 105, 110, 32]⟩ : ByteArray) ++ t164) ++ (⟨#[32, 97, 116, 32, 104, 111, 117, 114, 32]⟩ : ByteArray)).size + t165.size ≤ 9223372036854775807 then (if ((((⟨#[98, 117, 108, 108, 101, 116, 105, 110, 32]⟩ : ByteArray) ++ t164) ++ (⟨#[32, 97, 116, 32, 104, 111, 117, 114, 32]⟩ : ByteArray)) ++ t165).size + 1 ≤ 9223372036854775807 then (qq.l0 k (((((⟨#[98, 117, 108, 108, 101, 116, 105, 110, 32]⟩ : ByteArray) ++ t164) ++ (⟨#[32, 97, 116, 32, 104, 111, 117, 114, 32]⟩ : ByteArray)) ++ t165) ++ (⟨#[10]⟩ : ByteArray)) l0_2 (l0_2.length : Int) 0) else (none)) else (none))) else (none)) else (none))
def qq.T1 : Bool × List (List Nat × List Nat) := (true, [([], []), ([0], [0]), ([1], [1]), ([2], [2]), ([3], [3]), ([], []), ([5], [5]), ([6, 2], [6]), ([4, 7], [4, 7]), ([8], [8]), ([9, 7, 0, 1, 2, 3, 4, 5, 6, 7, 8, 9], [9])])
def qq.B1 : List Nat := [0, 1, 3, 7, 15, 0, 32, 103, 255, 511, 1023]
theorem qq.tab1 : rtab .any (opsOf Tryz.f62 1) = qq.T1 := by kernel_rfl
theorem qq.bits1 : waitsOk qq.T1.2 qq.B1 = true := by kernel_rfl
theorem qq.calls (k : Nat) (a0_0 : Int) (a0_1 : Int) (A0_2 : Option Addr) (c0_2 : Nat) (l0_2 : List (S25)) (r : ByteArray) (w : World) (hr0_2 : Kd.C k25 w A0_2 l0_2.length l0_2) (hc0_2 : l0_2.length ≤ c0_2) (hL : Laid w) (h : qq.f k a0_0 a0_1 l0_2 = some r) :
 Calls Tryz.prog 62 #[.agg #[.int .i64 a0_0, .int .i64 a0_1, .slice A0_2 l0_2.length c0_2]] w fun e w' => e = .returned (.string r) ∧ Below w.heap.size w w' := by
 have hu34 := Tryz.underlying34
 have hu25 := Tryz.underlying25
 have HR0_2 := am hr0_2
 have HC0_2 := am hc0_2
 clear hr0_2 hc0_2
 have HL := am hL
 clear hL
 have HB := am (Below.refl w.heap.size w)
 unfold qq.f at h
 have H := h
 clear h
 obtain ⟨t164, A2, H⟩ := zob H
 try dsimp only at H
 by_cases c3 : 9 + t164.size ≤ 9223372036854775807
 rotate_left
 ·rw [if_neg c3] at H
  exact absurd H (by simp)
 rw [if_pos c3] at H
 have c3b0 := eq_true c3
 have c3b1 := decide_eq_true c3
 try have c3b2 : (9223372036854775807 < 9 + t164.size) = False := eq_false (Nat.not_lt.2 c3)
 obtain ⟨c4, H⟩ := zin H
 have c4b0 := eq_true c4
 have c4b1 := decide_eq_true c4
 try have c4b2 : (9223372036854775807 < ((⟨#[98, 117, 108, 108, 101, 116, 105, 110, 32]⟩ : ByteArray) ++ t164).size + 9) = False := eq_false (Nat.not_lt.2 c4)
 have c4b3 : (9223372036854775807 < 9 + t164.size + 9) = False := eq_false (Nat.not_lt.2 (by have h_ := c4; simp only [ByteArray.size_append] at h_; exact h_))
 obtain ⟨t165, A5, H⟩ := zob H
 try dsimp only at H
 obtain ⟨c6, H⟩ := zin H
 have c6b0 := eq_true c6
 have c6b1 := decide_eq_true c6
 try have c6b2 : (9223372036854775807 < (((⟨#[98, 117, 108, 108, 101, 116, 105, 110, 32]⟩ : ByteArray) ++ t164) ++ (⟨#[32, 97, 116, 32, 104, 111, 117, 114, 32]⟩ : ByteArray)).size + t165.size) = False := eq_false (Nat.not_lt.2 c6)
 have c6b3 : (9223372036854775807 < 9 + t164.size + 9 + t165.size) = False := eq_false (Nat.not_lt.2 (by have h_ := c6; simp only [ByteArray.size_append] at h_; exact h_))
 obtain ⟨c7, H⟩ := zin H
 have c7b0 := eq_true c7
 have c7b1 := decide_eq_true c7
 try have c7b2 : (9223372036854775807 < ((((⟨#[98, 117, 108, 108, 101, 116, 105, 110, 32]⟩ : ByteArray) ++ t164) ++ (⟨#[32, 97, 116, 32, 104, 111, 117, 114, 32]⟩ : ByteArray)) ++ t165).size + 1) = False := eq_false (Nat.not_lt.2 c7)
 have c7b3 : (9223372036854775807 < 9 + t164.size + 9 + t165.size + 1) = False := eq_false (Nat.not_lt.2 (by have h_ := c7; simp only [ByteArray.size_append] at h_; exact h_))
 have H' := am H
 clear H
 go_enter Tryz.func62, Tryz.ntmps62
 try go_wp2_with (first | ((with_reducible refine zgd 1 rfl ?_); refine zbe 1 #[.int .i64 a0_0, .int .i64 a0_1, .slice A0_2 l0_2.length c0_2] 34 ?_; intro gb163 hg w8 hbox hb; have BK163 := am (hbox); have GW163 := zns hg HB.o; have GE163 := zns hg HB.o; replace HB := zhs HB hb; clear hb hbox hg))
 replace BK163 := am (blk_drew BK163.o)
 replace HB := am (below_drew1 HB.o)
 refine start_ (n := 11) (S := fun w' => zB3 w' gb163 (.int .i64 a0_0) (.int .i64 a0_1) (.slice A0_2 l0_2.length c0_2)) (ds := []) (zm 11 0) (by kernel_rfl) rfl rfl (zb3 BK163) (fun hHd => ?_); refine with_tabW qq.tab1 qq.bits1 (fun Tq Wq => ?_)
 generalize w8.drew = w9 at BK163 HB hHd ⊢
 refine zpu 0 8 (zm 11 1) Tq.o ?_
 refine zpu 5 13 (zm 11 33) Tq.o ?_
 refine take_ (i := 1) (N := some 9) (v := ?_) (a' := ?_) (zm 11 35) rfl rfl (take_ofW Tq.o Wq.o (by kernel_rfl)) (fun _ _ _ h => h) (Or.inl ⟨by rfl, ?_⟩) hHd ?_ ?_
 rotate_left
 ·rintro w' ⟨s0, s1, s2⟩
  go_simp
  with_reducible rfl
 rotate_left
 ·exact zpx
 refine take_ (i := 6) (N := some 14) (v := ?_) (a' := ?_) (zm 11 99) rfl rfl (take_ofW Tq.o Wq.o (by kernel_rfl)) (fun _ _ _ h => h) (Or.inl ⟨by rfl, ?_⟩) hHd ?_ ?_
 rotate_left
 ·rintro w' ⟨s0, s1, s2⟩
  go_simp
  with_reducible rfl
 rotate_left
 ·exact zpx
 refine one_ (i := 2) (N := some 10) (zm 11 103) rfl rfl (one_of Tq.o (by kernel_rfl)) (by decide) (fun K hK => ?_)
 refine goes_ Tryz.func81 (by kernel_rfl) rfl #[.int .i64 a0_0] (by rfl) rfl rfl zlx ?_
 with_reducible refine (strconv_Itoa.calls a0_0 t164 _ ?sideL A2.o).mono ?_
 case sideL => exact Laid.below HL.o (zBy HB.o GE163.o)
 rintro e w10 ⟨rfl, hb⟩
 refine ⟨_, rfl, ?_⟩
 replace BK163 := zbl BK163.o hb
 replace HB := zhs HB hb
 (try clear hb)
 (try clear hb2)
 (try clear hk)
 (try clear hi)
 refine hK.out _ _ (zb3 BK163) (fun hHd => ?_)
 clear hK K
 refine norm_ (a' := ?_) ?_ ?_
 rotate_left
 ·show Act.put _ (some 10) _ = _
  simp only [Act.put, List.setIfInBounds_toArray, List.set_cons_zero, List.set_cons_succ, i64_w, i32_w]
  rfl
 refine zpu 3 11 (zm 11 111) Tq.o ?_
 refine zpu 4 12 (zm 11 127) Tq.o ?_
 refine one_ (i := 7) (N := some 15) (zm 11 255) rfl rfl (one_of Tq.o (by kernel_rfl)) (by decide) (fun K hK => ?_)
 refine goes_ Tryz.func81 (by kernel_rfl) rfl #[.int .i64 a0_1] (by rfl) rfl rfl zlx ?_
 with_reducible refine (strconv_Itoa.calls a0_1 t165 _ ?sideL A5.o).mono ?_
 case sideL => exact Laid.below HL.o (zBy HB.o GE163.o)
 rintro e w11 ⟨rfl, hb⟩
 refine ⟨_, rfl, ?_⟩
 replace BK163 := zbl BK163.o hb
 replace HB := zhs HB hb
 (try clear hb)
 (try clear hb2)
 (try clear hk)
 (try clear hi)
 refine hK.out _ _ (zb3 BK163) (fun hHd => ?_)
 clear hK K
 refine norm_ (a' := ?_) ?_ ?_
 rotate_left
 ·show Act.put _ (some 15) _ = _
  simp only [Act.put, List.setIfInBounds_toArray, List.set_cons_zero, List.set_cons_succ, i64_w, i32_w]
  rfl
 refine zpu 8 16 (zm 11 511) Tq.o ?_
 refine zpu 9 17 (zm 11 1023) Tq.o ?_
 refine zpu 10 3 (zm 11 2047) Tq.o ?_
 refine done_ (done_of Tq.o (by kernel_rfl)) ?_
 have hcz12 := zc3 BK163.o
 try go_wp2
 go_loopg [3, 21] k (fun kq v3 v21 w' => ∃ (x3_1 : ByteArray) (x21_1 : Int), v3 = .string x3_1 ∧ v21 = .int .i64 x21_1 ∧ Aq (qq.l0 kq x3_1 l0_2 (l0_2.length : Int) x21_1 = some r) ∧ Aq (kq ≤ k) ∧ Aq (w'.heap[gb163]? = some (.cells #[.int .i64 a0_0, .int .i64 a0_1, (.slice A0_2 l0_2.length c0_2)] 34 (0, 0))) ∧ Aq (Below w.heap.size w w'))
 case atStart => exact ⟨(((((⟨#[98, 117, 108, 108, 101, 116, 105, 110, 32]⟩ : ByteArray) ++ t164) ++ (⟨#[32, 97, 116, 32, 104, 111, 117, 114, 32]⟩ : ByteArray)) ++ t165) ++ (⟨#[10]⟩ : ByteArray)), (0), zrx, zrx, H', ⟨Nat.le_refl _⟩, ⟨zbx BK163.o⟩, ⟨zBy HB.o GE163.o⟩⟩
 case round =>
  clear H'
  try clear c3
  try clear c3b0
  try clear c3b1
  try clear c3b2
  try clear c4
  try clear c4b0
  try clear c4b1
  try clear c4b2
  try clear c6
  try clear c6b0
  try clear c6b1
  try clear c6b2
  try clear c7
  try clear c7b0
  try clear c7b1
  try clear c7b2
  try clear hcz12
  obtain ⟨x3_1, x21_1, rfl, rfl, HA, HK1, BK163, HB⟩ := hrel
  cases gk with
  | zero => exact absurd HA.o (by simp [qq.l0])
  | succ k1 =>
   have H := HA.o
   clear HA
   simp only [qq.l0] at H
   by_cases c13 : x21_1 < (l0_2.length : Int)
   rotate_left
   ·rw [if_neg c13] at H
    have c13b0 := decide_eq_false c13
    clear c13
    obtain ⟨⟨t169, t170⟩, A23, H⟩ := zob H
    try dsimp only at H
    focus
     obtain rfl := Option.some.inj H
     go_wp2_with (first | ((with_reducible refine zgc 98 rfl ?_); refine zgl 33 Tryz.func98 #[.string x3_1] ?_; (with_reducible refine (qw.calls k1 x3_1 t169 t170 _ ?sideL A23.o).mono ?_); (case sideL => exact Laid.below HL.o (zBy HB.o GE163.o)); rintro e w24 ⟨rfl, hb⟩; refine ⟨_, rfl, ?_⟩; replace BK163 := zbl BK163.o hb; replace HB := zhs HB hb; clear hb))
     go_ret
     exact ⟨zew, zBy HB.o GE163.o⟩
   rw [if_pos c13] at H
   have c13b0 := decide_eq_true c13
   clear c13
   obtain ⟨c14, H⟩ := zin H
   have c14b0 := decide_eq_true c14
   clear c14
   obtain ⟨c15, H⟩ := zin H
   have c15b0 := decide_eq_true c15
   clear c15
   obtain ⟨t168, A16, H⟩ := zob H
   try dsimp only at H
   obtain ⟨c17, H⟩ := zin H
   have c17b0 := eq_true c17
   have c17b1 := decide_eq_true c17
   try have c17b2 : (9223372036854775807 < t168.size + 1) = False := eq_false (Nat.not_lt.2 c17)
   obtain ⟨c18, H⟩ := zin H
   have c18b0 := eq_true c18
   have c18b1 := decide_eq_true c18
   try have c18b2 : (9223372036854775807 < x3_1.size + (t168 ++ (⟨#[10]⟩ : ByteArray)).size) = False := eq_false (Nat.not_lt.2 c18)
   have c18b3 : (9223372036854775807 < x3_1.size + (t168.size + 1)) = False := eq_false (Nat.not_lt.2 (by have h_ := c18; simp only [ByteArray.size_append] at h_; exact h_))
   focus
    have H' := am H
    clear H
    have p166 : 0 ≤ (x21_1 : Int) := zod
    have q166 : x21_1 < (l0_2.length : Int) := zod
    obtain ⟨ad166, e166, hx166_0, hx166_1, hx166_2, hx166_3, hx166_4, hx166_5⟩ := at_T25 HR0_2.o x21_1 p166 q166
    cases e166
    obtain ⟨hx166_0, hx166_1, hx166_2, hx166_3, hx166_4, hx166_5⟩ := zh6 HB hx166_0 hx166_1 hx166_2 hx166_3 hx166_4 hx166_5
    replace p166 := eq_true p166
    replace q166 := eq_true q166
    go_wp2_with (first | ((with_reducible refine zgd 5 rfl ?_); refine zbe 5 #[.int .i64 0, .int .i64 0, .int .i64 0, .int .i64 0, .int .i64 0, .int .i64 0] 25 ?_; intro gb167 hg w19 hbox hb; have BK167 := am (hbox); have GW167 := zns hg HB.o; have GE167 := zns hg HB.o; replace HB := zhs HB hb; have NB163_167 := znl hg BK163.o; have NB167_163 := zng hg BK163.o; replace BK163 := zbl BK163.o hb; clear hb hbox hg; have hnb20 := NB167_163.o; have hnc20 := NB163_167.o; have hcz21 := zc6 BK167.o) | ((with_reducible refine zgc 37 rfl ?_); refine zgl 27 Tryz.func37 #[.agg #[.int .i64 ((qa l0_2 x21_1).f0), .int .i64 ((qa l0_2 x21_1).f1), .int .i64 ((qa l0_2 x21_1).f2), .int .i64 ((qa l0_2 x21_1).f3), .int .i64 ((qa l0_2 x21_1).f4), .int .i64 ((qa l0_2 x21_1).f5)]] ?_; (with_reducible refine (qP.calls ((qa l0_2 x21_1).f0) ((qa l0_2 x21_1).f1) ((qa l0_2 x21_1).f2) ((qa l0_2 x21_1).f3) ((qa l0_2 x21_1).f4) ((qa l0_2 x21_1).f5) t168 _ ?sideL A16.o).mono ?_); (case sideL => exact Laid.below HL.o (zBz HB.o GE163.o GE167.o)); rintro e w22 ⟨rfl, hb⟩; refine ⟨_, rfl, ?_⟩; replace BK163 := zbl BK163.o hb; replace BK167 := am (blk_below (g := gb167) (o := .cells #[.int .i64 ((qa l0_2 x21_1).f0), .int .i64 ((qa l0_2 x21_1).f1), .int .i64 ((qa l0_2 x21_1).f2), .int .i64 ((qa l0_2 x21_1).f3), .int .i64 ((qa l0_2 x21_1).f4), .int .i64 ((qa l0_2 x21_1).f5)] 25 (0, 0)) (zbp BK167.o) hb); replace HB := zhs HB hb; clear hb))
    go_roundg k1
    case measure => have := HK1.o; omega
    case rel => exact ⟨(x3_1 ++ (t168 ++ (⟨#[10]⟩ : ByteArray))), (wrap64 (x21_1 + 1)), zrx, zrx, H', ⟨by have := HK1.o; omega⟩, ⟨zbx BK163.o⟩, ⟨zBz HB.o GE163.o GE167.o⟩⟩
mutual
def qh.j0 : Nat → ByteArray → ByteArray → Bool → Option (Int × Int × (List (S25)) × Bool)
 | 0, _, _, _ => none
 | k + 1, x0, x4, x27 => if x27 = true then (some (0, 0, ([] : List (S25)), false)) else ((strings_TrimSuffix.f x4 (⟨#[10]⟩ : ByteArray)).bind fun t175 => ((strings_Split.f t175 (⟨#[10]⟩ : ByteArray)).bind fun t176 => (if 0 < (t176.length : Int) then ((strings_Cut.f (rdOf ByteArray.empty t176 0) (⟨#[32, 97, 116, 32, 104, 111, 117, 114, 32]⟩ : ByteArray)).bind fun bt180 => ((strings_TrimPrefix.f bt180.1 (⟨#[98, 117, 108, 108, 101, 116, 105, 110, 32]⟩ : ByteArray)).bind fun t183 => ((qu.f k (([t183, bt180.2.1] : List ByteArray))).bind fun bt187 => (if bt187.2 = true then (if 0 < (bt187.1.length : Int) then (if 1 < (bt187.1.length : Int) then (if 1 ≤ (t176.length : Int) then ((some (t176.drop 1 : List ByteArray)).bind fun y194 => (qh.l0 k x0 y194 (y194.length : Int) 0 (rd bt187.1 0) (rd bt187.1 1) ([] : List (S25)))) else (none)) else (none)) else (none)) else (some (0, 0, ([] : List (S25)), false)))))) else (none))))
def qh.l0 : Nat → ByteArray → List ByteArray → Int → Int → Int → Int → List (S25) → Option (Int × Int × (List (S25)) × Bool)
 | 0, _, _, _, _, _, _, _ => none
 | k + 1, x0, x59, x60, x61, x194000, x194001, x194002 => if x61 < x60 then (if 0 ≤ x61 then (if x61 < (x59.length : Int) then ((impl_ParseWarningLine.f (rdOf ByteArray.empty x59 x61)).bind fun bt199 => (if bt199.2.2.2.2.2.2 = true then (if x194002.length < 2932031007402 then (qh.l0 k x0 x59 x60 (wrap64 (x61 + 1)) x194000 x194001 (x194002 ++ [(⟨bt199.1, bt199.2.1, bt199.2.2.1, bt199.2.2.2.1, bt199.2.2.2.2.1, bt199.2.2.2.2.2.1⟩ : S25)])) else (none)) else (some (0, 0, ([] : List (S25)), false)))) else (none)) else (none)) else ((qr.f k x194000 x194001 x194002).bind fun t210 => (if t210 = true then ((qq.f k x194000 x194001 x194002).bind fun t211 => (if t211.toList = x0.toList then (some (x194000, x194001, x194002, true)) else (some (0, 0, ([] : List (S25)), false)))) else (some (0, 0, ([] : List (S25)), false))))
end
def qh.f (k : Nat) (a0 : ByteArray) : Option (Int × Int × (List (S25)) × Bool) := (qL.f k a0).bind fun bt172 => (if bt172.2 = true then ((strings_HasSuffix.f bt172.1 (⟨#[10]⟩ : ByteArray)).bind fun t174 => (qh.j0 k a0 bt172.1 (!t174))) else (qh.j0 k a0 bt172.1 true))
def qh.T9 : Bool × List (List Nat × List Nat) := (true, [([], []), ([0], [0]), ([1], [1]), ([], []), ([3], [3]), ([4], [4]), ([2, 5], [2, 5]), ([], []), ([7, 6, 0, 1, 2, 3, 4, 5, 6, 7], [6, 7])])
def qh.B9 : List Nat := [0, 1, 3, 0, 8, 24, 63, 0, 255]
theorem qh.tab9 : rtab .any (opsOf Tryz.f17 9) = qh.T9 := by kernel_rfl
theorem qh.bits9 : waitsOk qh.T9.2 qh.B9 = true := by kernel_rfl
theorem qh.calls (k : Nat) (a0 : ByteArray) (r1 : Int) (r2 : Int) (r3 : List (S25)) (r4 : Bool) (w : World) (hL : Laid w) (h : qh.f k a0 = some (r1, r2, r3, r4)) :
 Calls Tryz.prog 17 #[.string a0] w fun e w' => ∃ v2_ : Value, e = .returned (.tuple #[.agg #[.int .i64 r1, .int .i64 r2, v2_], .bool r4]) ∧ Kd.R k25 25 w' w.heap.size (fun _ => True) v2_ r3 ∧ Below w.heap.size w w' := by
 have hu34 := Tryz.underlying34
 have hu25 := Tryz.underlying25
 have HL := am hL
 clear hL
 have HB := am (Below.refl w.heap.size w)
 unfold qh.f at h
 have H := h
 clear h
 obtain ⟨⟨t172, t173⟩, A2, H⟩ := zob H
 try dsimp only at H
 have HC3 := am H
 clear H
 go_enter Tryz.func17, Tryz.ntmps17
 go_upto_region 2 with (first | ((with_reducible refine zgd 2 rfl ?_); refine zbe 2 #[.int .i64 0, .int .i64 0, .slice none 0 0] 34 ?_; intro gb171 hg w4 hbox hb; have BK171 := am (hbox); have GW171 := zns hg HB.o; have GE171 := zns hg HB.o; replace HB := zhs HB hb; clear hb hbox hg) | ((with_reducible refine zgc 58 rfl ?_); refine zgl 18 Tryz.func58 #[.string a0] ?_; (with_reducible refine (qL.calls k a0 t172 t173 _ ?sideL A2.o).mono ?_); (case sideL => exact Laid.below HL.o (zBy HB.o GE171.o)); rintro e w5 ⟨rfl, hb⟩; refine ⟨_, rfl, ?_⟩; replace BK171 := zbl BK171.o hb; replace HB := zhs HB hb; clear hb))
 (try simp only [Act.put, List.setIfInBounds_toArray, List.set_cons_zero, List.set_cons_succ])
 go_cut [27] (fun v27 wc => ∃ (kq : Nat) (x27_2 : Bool), v27 = .bool x27_2 ∧ Aq (qh.j0 kq a0 t172 x27_2 = some (r1, r2, r3, r4)) ∧ Aq (kq ≤ k) ∧ Aq (wc.heap[gb171]? = some (.cells #[.int .i64 0, .int .i64 0, (.slice none 0 0)] 34 (0, 0))) ∧ Aq (Below w.heap.size w wc))
 case first =>
  have H := HC3.o
  clear HC3
  by_cases c6 : t173 = true
  ·subst c6
   rw [if_pos rfl] at H
   obtain ⟨t174, A7, H⟩ := zob H
   try dsimp only at H
   focus
    have H' := am H
    clear H
    go_wp2_with (first | (go_at_call 59; (with_reducible refine (strings_HasSuffix.calls t172 (⟨#[10]⟩ : ByteArray) t174 _ A7.o).mono ?_); rintro e w' ⟨rfl, ⟨nd, rfl⟩⟩))
    go_meet
    case rel => exact ⟨_, (!t174), zrx, H', ⟨by first | omega | exact Nat.le_refl _⟩, ⟨zbx BK171.o⟩, ⟨zBy HB.o GE171.o⟩⟩
  ·replace c6 := Bool.eq_false_iff.mpr c6
   subst c6
   rw [if_neg (show ¬ (false = true) by decide)] at H
   focus
    have H' := am H
    clear H
    go_wp2
    go_meet
    case rel => exact ⟨_, (true), zrx, H', ⟨by first | omega | exact Nat.le_refl _⟩, ⟨zbx BK171.o⟩, ⟨zBy HB.o GE171.o⟩⟩
 case rest =>
  clear HC3
  obtain ⟨kq, x27_2, rfl, HA, HJ2, BK171, HB⟩ := hcut
  cases kq with
  | zero => exact absurd HA.o (by simp [qh.j0])
  | succ kj2 =>
   have H := HA.o
   clear HA
   simp only [qh.j0] at H
   by_cases c8 : x27_2 = true
   ·subst c8
    rw [if_pos rfl] at H
    focus
     simp only [Option.some.injEq, Prod.mk.injEq] at H
     obtain ⟨rfl, rfl, rfl, rfl⟩ := H
     have hcz9 := zc3 BK171.o
     go_wp2
     refine bodyPost_ret (results_ct rfl _ _ gb171 34 #[.int .i64 0, .int .i64 0, .slice none 0 0] (0, 0) _ rfl (zbp BK171.o) Tryz.underlying34 rfl (by kernel_rfl)) rfl ?_
     exact ⟨_, zew, by first | exact Kd.R_nil _ _ _ _ _ | exact Kd.N_nil _ _ _ _ _ | exact Kd.V_nil _ _ _ _ _ | exact Kd.Q_nil _ _ _ _ _ | exact Kd.S_nil _ _ _ _ _, zBy HB.o GE171.o⟩
   replace c8 := Bool.eq_false_iff.mpr c8
   subst c8
   rw [if_neg (show ¬ (false = true) by decide)] at H
   obtain ⟨t175, A10, H⟩ := zob H
   try dsimp only at H
   obtain ⟨t176, A11, H⟩ := zob H
   try dsimp only at H
   by_cases c12 : 0 < (t176.length : Int)
   rotate_left
   ·rw [if_neg c12] at H
    exact absurd H (by simp)
   rw [if_pos c12] at H
   have c12b0 := decide_eq_true c12
   have c12b1 : decide (0 < t176.length) = true := decide_eq_true (by omega)
   clear c12
   obtain ⟨⟨t180, t181, t182⟩, A13, H⟩ := zob H
   try dsimp only at H
   obtain ⟨t183, A14, H⟩ := zob H
   try dsimp only at H
   obtain ⟨y184, hy184⟩ : ∃ y_ : List ByteArray, y_ = (([t183, t181] : List ByteArray)) := ⟨_, rfl⟩
   replace H : ((qu.f kj2 y184).bind fun bt187 => (if bt187.2 = true then (if 0 < (bt187.1.length : Int) then (if 1 < (bt187.1.length : Int) then (if 1 ≤ (t176.length : Int) then ((some (t176.drop 1 : List ByteArray)).bind fun y194 => (qh.l0 kj2 a0 y194 (y194.length : Int) 0 (rd bt187.1 0) (rd bt187.1 1) ([] : List (S25)))) else (none)) else (none)) else (none)) else (some (0, 0, ([] : List (S25)), false)))) = some (r1, r2, r3, r4) := by rw [hy184]; exact H
   have Ny184 := am hy184
   clear hy184
   obtain ⟨⟨t187, t188⟩, A15, H⟩ := zob H
   try dsimp only at H
   by_cases c16 : t188 = true
   rotate_left
   ·replace c16 := Bool.eq_false_iff.mpr c16
    subst c16
    rw [if_neg (show ¬ (false = true) by decide)] at H
    focus
     simp only [Option.some.injEq, Prod.mk.injEq] at H
     obtain ⟨rfl, rfl, rfl, rfl⟩ := H
     go_wp2_with (first | ((with_reducible refine zgc 60 rfl ?_); refine zgl 30 Tryz.func60 #[.string t172, .string (⟨#[10]⟩ : ByteArray)] ?_; (with_reducible refine (strings_TrimSuffix.calls t172 (⟨#[10]⟩ : ByteArray) t175 _ A10.o).mono ?_); rintro e w' ⟨rfl, ⟨nd, rfl⟩⟩; refine ⟨_, rfl, ?_⟩; (try (rw [drewN_self wc]; generalize hq_ : World.drewN wc _ = wc; replace BK171 : Aq (wc.heap[gb171]? = some (.cells #[.int .i64 0, .int .i64 0, .slice none 0 0] 34 (0, 0))) := ⟨by rw [← hq_]; exact (zbx BK171.o)⟩; replace HB : Aq (Below w.heap.size w wc) := ⟨by rw [← hq_]; exact (zBy HB.o GE171.o)⟩; clear hq_))) | ((with_reducible refine zgc 45 rfl ?_); refine zgl 31 Tryz.func45 #[.string t175, .string (⟨#[10]⟩ : ByteArray)] ?_; (with_reducible refine (strings_Split.calls t175 (⟨#[10]⟩ : ByteArray) t176 _ ?sideL A11.o).mono ?_); (case sideL => exact Laid.below HL.o (zBy HB.o GE171.o)); rintro e w81 ⟨v177, rfl, ho0, hb⟩; refine ⟨_, rfl, ?_⟩; have HO178 := am (Kd.R_lower ho0 (below_size (zBy HB.o GE171.o))); replace BK171 := zbl BK171.o hb; replace HB := zhs HB hb; clear hb; (try clear ho0); obtain ⟨Ao82, co82, eo82⟩ := Kd.R_slice HO178.o; subst eo82; have p179 : 0 ≤ (0 : Int) := (by omega); have q179 : 0 < (t176.length : Int) := of_decide_eq_true zax; obtain ⟨ad179, e179, hx179_0⟩ := Kd.at_string (Kd.R_reads' HO178.o).2.2 0 p179 q179; cases e179; have qi179 : (0 < t176.length) = True := eq_true (by omega); (try rw [show ((0 : Int)).toNat = 0 from rfl] at hx179_0); (try rw [Addr.add_zero'] at hx179_0); replace p179 := eq_true p179; replace q179 := eq_true q179) | ((with_reducible refine zgc 38 rfl ?_); refine zgl 36 Tryz.func38 #[.string (rdOf ByteArray.empty t176 0), .string (⟨#[32, 97, 116, 32, 104, 111, 117, 114, 32]⟩ : ByteArray)] ?_; (with_reducible refine (strings_Cut.calls (rdOf ByteArray.empty t176 0) (⟨#[32, 97, 116, 32, 104, 111, 117, 114, 32]⟩ : ByteArray) t180 t181 t182 _ ?sideL A13.o).mono ?_); (case sideL => exact Laid.below HL.o (zBy HB.o GE171.o)); rintro e w' ⟨rfl, ⟨nd, rfl⟩⟩; refine ⟨_, rfl, ?_⟩; (try (rw [drewN_self w81]; generalize hq_ : World.drewN w81 _ = w81; replace HO178 : Aq (Kd.R Kd.string 9 w81 w.heap.size (fun _ => True) (.slice (some ad179) t176.length co82) t176) := ⟨by rw [← hq_]; exact (zRx HO178.o)⟩; replace BK171 : Aq (w81.heap[gb171]? = some (.cells #[.int .i64 0, .int .i64 0, .slice none 0 0] 34 (0, 0))) := ⟨by rw [← hq_]; exact (zbx BK171.o)⟩; replace HB : Aq (Below w.heap.size w w81) := ⟨by rw [← hq_]; exact (zBy HB.o GE171.o)⟩; clear hq_))) | ((with_reducible refine zgc 61 rfl ?_); refine zgl 42 Tryz.func61 #[.string t180, .string (⟨#[98, 117, 108, 108, 101, 116, 105, 110, 32]⟩ : ByteArray)] ?_; (with_reducible refine (strings_TrimPrefix.calls t180 (⟨#[98, 117, 108, 108, 101, 116, 105, 110, 32]⟩ : ByteArray) t183 _ A14.o).mono ?_); rintro e w' ⟨rfl, ⟨nd, rfl⟩⟩; refine ⟨_, rfl, ?_⟩; (try (rw [drewN_self w81]; generalize hq_ : World.drewN w81 _ = w81; replace HO178 : Aq (Kd.R Kd.string 9 w81 w.heap.size (fun _ => True) (.slice (some ad179) t176.length co82) t176) := ⟨by rw [← hq_]; exact (zRx HO178.o)⟩; replace BK171 : Aq (w81.heap[gb171]? = some (.cells #[.int .i64 0, .int .i64 0, .slice none 0 0] 34 (0, 0))) := ⟨by rw [← hq_]; exact (zbx BK171.o)⟩; replace HB : Aq (Below w.heap.size w w81) := ⟨by rw [← hq_]; exact (zBy HB.o GE171.o)⟩; clear hq_))) | ((with_reducible refine zgd 44 rfl ?_); refine Kd.R_lit Kd.string _ 9 ?hg (N := 44) ?hd (xs := ([t183, t181] : List ByteArray)) (inner := [.string t183, .string t181]) (ok := fun _ => True) (okp := fun _ => True) ?hr ?hp (fun _ hk => hk) trivial (Below.refl _ _) (Nat.le_refl _) (by simp) ?_; (case hd => rfl); (case hg => rfl); (case hr => exact zsx); (case hp => exact (Reps.one (show Kd.M Kd.string _ _ _ t183 [.string t183] from rfl) (Reps.one (show Kd.M Kd.string _ _ _ t181 [.string t181] from rfl) (Reps.none _ _)))); intro v185 w83 ho84 hb hg_ hnew_; clear hg_ hnew_; (first | rw [← Ny184.o] at ho84 | (simp only [Int.reduceToNat] at ho84; rw [← Ny184.o] at ho84)); have HO186 := am (Kd.R_lower (Kd.R_new' ho84 (Kd.R_lt (zRx HO178.o))) (below_size (zBy HB.o GE171.o))); replace HO178 := am (Kd.R_elder' (zRx HO178.o) (Kd.R_base ho84) hb); replace BK171 := zbl BK171.o hb; replace HB := zhs HB hb; clear hb ho84; obtain ⟨Ao85, co85, eo85⟩ := Kd.R_slice HO186.o; subst eo85) | ((with_reducible refine zgc 39 rfl ?_); refine zgl 45 Tryz.func39 #[.slice Ao85 y184.length co85] ?_; (with_reducible refine (qu.calls kj2 _ _ y184 t187 false _ ?side1 ?side2 ?sideL A15.o).mono ?_); (case sideL => exact Laid.below HL.o (zBy HB.o GE171.o)); (case side1 => exact zCx (Kd.R_reads' HO186.o).2.2); (case side2 => exact (Kd.R_reads' HO186.o).2.1); rintro e w86 ⟨v189, rfl, ho0, hb⟩; refine ⟨_, rfl, ?_⟩; replace HO178 := zro HO178 hb; replace HO186 := zro HO186 hb; have HO190 := am (Kd.R_lower ho0 (below_size (zBy HB.o GE171.o))); replace BK171 := zbl BK171.o hb; replace HB := zhs HB hb; clear hb; (try clear ho0); have hcz87 := zc3 BK171.o))
     refine bodyPost_ret (results_ct rfl _ _ gb171 34 #[.int .i64 0, .int .i64 0, .slice none 0 0] (0, 0) _ rfl (zbp BK171.o) Tryz.underlying34 rfl (by kernel_rfl)) rfl ?_
     exact ⟨_, zew, by first | exact Kd.R_nil _ _ _ _ _ | exact Kd.N_nil _ _ _ _ _ | exact Kd.V_nil _ _ _ _ _ | exact Kd.Q_nil _ _ _ _ _ | exact Kd.S_nil _ _ _ _ _, zBy HB.o GE171.o⟩
   subst c16
   rw [if_pos rfl] at H
   obtain ⟨c17, H⟩ := zin H
   have c17b0 := decide_eq_true c17
   have c17b1 : decide (0 < t187.length) = true := decide_eq_true (by omega)
   clear c17
   obtain ⟨c18, H⟩ := zin H
   have c18b0 := decide_eq_true c18
   have c18b1 : decide (1 < t187.length) = true := decide_eq_true (by omega)
   clear c18
   obtain ⟨c19, H⟩ := zin H
   have c19b0 := eq_true c19
   have c19b1 := decide_eq_true c19
   clear c19
   obtain ⟨y194, hy194⟩ : ∃ y_ : List ByteArray, y_ = (t176.drop 1) := ⟨_, rfl⟩
   replace H := zyb hy194 H
   have Ny194 := am hy194
   clear hy194
   have H' := am H
   clear H
   try go_wp2_with (first | ((with_reducible refine zgc 60 rfl ?_); refine zgl 30 Tryz.func60 #[.string t172, .string (⟨#[10]⟩ : ByteArray)] ?_; (with_reducible refine (strings_TrimSuffix.calls t172 (⟨#[10]⟩ : ByteArray) t175 _ A10.o).mono ?_); rintro e w' ⟨rfl, ⟨nd, rfl⟩⟩; refine ⟨_, rfl, ?_⟩; (try (rw [drewN_self wc]; generalize hq_ : World.drewN wc _ = wc; replace BK171 : Aq (wc.heap[gb171]? = some (.cells #[.int .i64 0, .int .i64 0, .slice none 0 0] 34 (0, 0))) := ⟨by rw [← hq_]; exact (zbx BK171.o)⟩; replace HB : Aq (Below w.heap.size w wc) := ⟨by rw [← hq_]; exact (zBy HB.o GE171.o)⟩; clear hq_))) | ((with_reducible refine zgc 45 rfl ?_); refine zgl 31 Tryz.func45 #[.string t175, .string (⟨#[10]⟩ : ByteArray)] ?_; (with_reducible refine (strings_Split.calls t175 (⟨#[10]⟩ : ByteArray) t176 _ ?sideL A11.o).mono ?_); (case sideL => exact Laid.below HL.o (zBy HB.o GE171.o)); rintro e w20 ⟨v177, rfl, ho0, hb⟩; refine ⟨_, rfl, ?_⟩; have HO178 := am (Kd.R_lower ho0 (below_size (zBy HB.o GE171.o))); replace BK171 := zbl BK171.o hb; replace HB := zhs HB hb; clear hb; (try clear ho0); obtain ⟨Ao21, co21, eo21⟩ := Kd.R_slice HO178.o; subst eo21; have p179 : 0 ≤ (0 : Int) := (by omega); have q179 : 0 < (t176.length : Int) := of_decide_eq_true zax; obtain ⟨ad179, e179, hx179_0⟩ := Kd.at_string (Kd.R_reads' HO178.o).2.2 0 p179 q179; cases e179; have qi179 : (0 < t176.length) = True := eq_true (by omega); (try rw [show ((0 : Int)).toNat = 0 from rfl] at hx179_0); (try rw [Addr.add_zero'] at hx179_0); replace p179 := eq_true p179; replace q179 := eq_true q179) | ((with_reducible refine zgc 38 rfl ?_); refine zgl 36 Tryz.func38 #[.string (rdOf ByteArray.empty t176 0), .string (⟨#[32, 97, 116, 32, 104, 111, 117, 114, 32]⟩ : ByteArray)] ?_; (with_reducible refine (strings_Cut.calls (rdOf ByteArray.empty t176 0) (⟨#[32, 97, 116, 32, 104, 111, 117, 114, 32]⟩ : ByteArray) t180 t181 t182 _ ?sideL A13.o).mono ?_); (case sideL => exact Laid.below HL.o (zBy HB.o GE171.o)); rintro e w' ⟨rfl, ⟨nd, rfl⟩⟩; refine ⟨_, rfl, ?_⟩; (try (rw [drewN_self w20]; generalize hq_ : World.drewN w20 _ = w20; replace HO178 : Aq (Kd.R Kd.string 9 w20 w.heap.size (fun _ => True) (.slice (some ad179) t176.length co21) t176) := ⟨by rw [← hq_]; exact (zRx HO178.o)⟩; replace BK171 : Aq (w20.heap[gb171]? = some (.cells #[.int .i64 0, .int .i64 0, .slice none 0 0] 34 (0, 0))) := ⟨by rw [← hq_]; exact (zbx BK171.o)⟩; replace HB : Aq (Below w.heap.size w w20) := ⟨by rw [← hq_]; exact (zBy HB.o GE171.o)⟩; clear hq_))) | ((with_reducible refine zgc 61 rfl ?_); refine zgl 42 Tryz.func61 #[.string t180, .string (⟨#[98, 117, 108, 108, 101, 116, 105, 110, 32]⟩ : ByteArray)] ?_; (with_reducible refine (strings_TrimPrefix.calls t180 (⟨#[98, 117, 108, 108, 101, 116, 105, 110, 32]⟩ : ByteArray) t183 _ A14.o).mono ?_); rintro e w' ⟨rfl, ⟨nd, rfl⟩⟩; refine ⟨_, rfl, ?_⟩; (try (rw [drewN_self w20]; generalize hq_ : World.drewN w20 _ = w20; replace HO178 : Aq (Kd.R Kd.string 9 w20 w.heap.size (fun _ => True) (.slice (some ad179) t176.length co21) t176) := ⟨by rw [← hq_]; exact (zRx HO178.o)⟩; replace BK171 : Aq (w20.heap[gb171]? = some (.cells #[.int .i64 0, .int .i64 0, .slice none 0 0] 34 (0, 0))) := ⟨by rw [← hq_]; exact (zbx BK171.o)⟩; replace HB : Aq (Below w.heap.size w w20) := ⟨by rw [← hq_]; exact (zBy HB.o GE171.o)⟩; clear hq_))) | ((with_reducible refine zgd 44 rfl ?_); refine Kd.R_lit Kd.string _ 9 ?hg (N := 44) ?hd (xs := ([t183, t181] : List ByteArray)) (inner := [.string t183, .string t181]) (ok := fun _ => True) (okp := fun _ => True) ?hr ?hp (fun _ hk => hk) trivial (Below.refl _ _) (Nat.le_refl _) (by simp) ?_; (case hd => rfl); (case hg => rfl); (case hr => exact zsx); (case hp => exact (Reps.one (show Kd.M Kd.string _ _ _ t183 [.string t183] from rfl) (Reps.one (show Kd.M Kd.string _ _ _ t181 [.string t181] from rfl) (Reps.none _ _)))); intro v185 w22 ho23 hb hg_ hnew_; clear hg_ hnew_; (first | rw [← Ny184.o] at ho23 | (simp only [Int.reduceToNat] at ho23; rw [← Ny184.o] at ho23)); have HO186 := am (Kd.R_lower (Kd.R_new' ho23 (Kd.R_lt (zRx HO178.o))) (below_size (zBy HB.o GE171.o))); replace HO178 := am (Kd.R_elder' (zRx HO178.o) (Kd.R_base ho23) hb); replace BK171 := zbl BK171.o hb; replace HB := zhs HB hb; clear hb ho23; obtain ⟨Ao24, co24, eo24⟩ := Kd.R_slice HO186.o; subst eo24) | ((with_reducible refine zgc 39 rfl ?_); refine zgl 45 Tryz.func39 #[.slice Ao24 y184.length co24] ?_; (with_reducible refine (qu.calls kj2 _ _ y184 t187 true _ ?side1 ?side2 ?sideL A15.o).mono ?_); (case sideL => exact Laid.below HL.o (zBy HB.o GE171.o)); (case side1 => exact zCx (Kd.R_reads' HO186.o).2.2); (case side2 => exact (Kd.R_reads' HO186.o).2.1); rintro e w25 ⟨v189, rfl, ho0, hb⟩; refine ⟨_, rfl, ?_⟩; replace HO178 := zro HO178 hb; replace HO186 := zro HO186 hb; have HO190 := am (Kd.R_lower ho0 (below_size (zBy HB.o GE171.o))); replace BK171 := zbl BK171.o hb; replace HB := zhs HB hb; clear hb; (try clear ho0)))
   replace HO178 := am (Kd.R_drew HO178.o)
   replace HO186 := am (Kd.R_drew HO186.o)
   replace HO190 := am (Kd.R_drew HO190.o)
   replace BK171 := am (blk_drew BK171.o)
   replace HB := am (below_drew1 HB.o)
   obtain ⟨Ao27, co27, eo27⟩ := Kd.R_slice HO190.o
   (first | subst eo27 | (injection eo27 with f1_ f2_ f3_; have f4_ := f1_.symm; have f5_ := f3_.symm; clear f1_ f2_ f3_; subst f4_; subst f5_))
   have p191 : 0 ≤ (0 : Int) := (by omega)
   have q191 : 0 < (t187.length : Int) := zod
   obtain ⟨ad191, e191, hx191_0⟩ := Kd.at_int (Kd.R_reads' HO190.o).2.2 0 p191 q191
   cases e191
   have qi191 : (0 < t187.length) = True := eq_true (by omega)
   (try rw [show ((0 : Int)).toNat = 0 from rfl] at hx191_0)
   (try rw [Addr.add_zero'] at hx191_0)
   replace p191 := eq_true p191
   replace q191 := eq_true q191
   have p192 : 0 ≤ (1 : Int) := (by omega)
   have q192 : 1 < (t187.length : Int) := zod
   obtain ⟨ad192, e192, hx192_0⟩ := Kd.at_int (Kd.R_reads' HO190.o).2.2 1 p192 q192
   obtain rfl : ad191 = ad192 := (by injection e192)
   (try simp only [show (1 : Int).toNat = 1 from rfl, Nat.reduceMul, Nat.reduceEqDiff, Go.Addr.add, ↓reduceIte] at hx192_0)
   have qi192 : (1 < t187.length) = True := eq_true (by omega)
   (try rw [show ((1 : Int)).toNat = 1 from rfl] at hx192_0)
   replace p192 := eq_true p192
   replace q192 := eq_true q192
   refine start_ (n := 9) (S := fun w' => w'.cell? ad191 = some (.int .i64 (rd t187 0)) ∧ w'.cell? ⟨ad191.block, ad191.off + 1, none⟩ = some (.int .i64 (rd t187 1))) (ds := []) (zm 9 0) (by kernel_rfl) rfl rfl ⟨hx191_0, hx192_0⟩ (fun hHd => ?_); refine with_tabW qh.tab9 qh.bits9 (fun Tq Wq => ?_)
   generalize w25.drew = w26 at HO178 HO186 HO190 BK171 HB hx191_0 hx192_0 hHd ⊢
   refine zpu 0 51 (zm 9 1) Tq.o ?_
   refine zpu 1 52 (zm 9 3) Tq.o ?_
   refine zpu 3 54 (zm 9 11) Tq.o ?_
   refine zpu 4 55 (zm 9 27) Tq.o ?_
   refine take_ (i := 2) (N := some 53) (v := ?_) (a' := ?_) (zm 9 31) rfl rfl (take_ofW Tq.o Wq.o (by kernel_rfl)) (fun _ _ _ h => h) (Or.inl ⟨by rfl, ?_⟩) hHd ?_ ?_
   rotate_left
   ·rintro w' ⟨s0, s1⟩
    go_simp
    with_reducible rfl
   rotate_left
   ·exact zpx
   refine take_ (i := 5) (N := some 56) (v := ?_) (a' := ?_) (zm 9 63) rfl rfl (take_ofW Tq.o Wq.o (by kernel_rfl)) (fun _ _ _ h => h) (Or.inl ⟨by rfl, ?_⟩) hHd ?_ ?_
   rotate_left
   ·rintro w' ⟨s0, s1⟩
    go_simp
    with_reducible rfl
   rotate_left
   ·exact zpx
   refine zpu 6 57 (zm 9 127) Tq.o ?_
   refine one_ (i := 7) (N := some 11) (zm 9 255) rfl rfl (one_of Tq.o (by kernel_rfl)) (by decide) (fun K hK => ?_)
   refine box_step ?hg (N := 11) ?hd (cs := #[.int .i64 0, .int .i64 0, .slice none 0 0]) (t := 34) ?hr ?_; (case hd => rfl); (case hg => rfl); (case hr => exact zsx)
   intro gb193 hg w28 hbox hb
   have HS0_ := (hb.cell (World.block_lt_of_cell? _ _ (hHd.1))).trans (hHd.1)
   have HS1_ := (hb.cell (World.block_lt_of_cell? _ _ (hHd.2))).trans (hHd.2)
   replace HO178 := zro HO178 hb
   replace HO186 := zro HO186 hb
   replace HO190 := zro HO190 hb
   have BK193 := am (hbox)
   have GW193 := zns hg HB.o
   have GE193 := zns hg HB.o
   replace HB := zhs HB hb
   have NB171_193 := znl hg BK171.o
   have NB193_171 := zng hg BK171.o
   replace BK171 := zbl BK171.o hb
   clear hb hbox hg
   refine hK.out _ _ ⟨HS0_, HS1_⟩ (fun hHd => ?_)
   clear hK K
   refine norm_ (a' := ?_) ?_ ?_
   rotate_left
   ·show Act.put _ (some 11) _ = _
    simp only [Act.put, List.setIfInBounds_toArray, List.set_cons_zero, List.set_cons_succ, i64_w, i32_w]
    rfl
   refine one_ (i := 8) (N := none) (zm 9 511) rfl rfl (one_of Tq.o (by kernel_rfl)) (by decide) (fun K hK => ?_)
   have hs29 : w28.cell? ⟨gb193, 0, none⟩ = some (.int .i64 0) := (bkc BK193.o 0).trans rfl
   have hfs29 := bkf BK193.o 0
   have hns29_0 := NB171_193.o
   have hms29_0 := NB193_171.o
   have hs30 : w28.cell? ⟨gb193, 1, none⟩ = some (.int .i64 0) := (bkc BK193.o 1).trans rfl
   have hfs30 := bkf BK193.o 1
   have hns30_0 := NB171_193.o
   have hms30_0 := NB193_171.o
   have hs31 : w28.cell? ⟨gb193, 2, none⟩ = some (.slice none 0 0) := (bkc BK193.o 2).trans rfl
   have hfs31 := bkf BK193.o 2
   have hns31_0 := NB171_193.o
   have hms31_0 := NB193_171.o
   refine skip_ (w1 := ?_) (by rfl) rfl ?_ ?_
   rotate_left
   ·go_simp
    rfl
   have hne_ : ad191.block ≠ gb193 := Kd.own_blk (Kd.R_ne HO190.o BK193.o (by decide))
   refine hK.out _ _ ⟨(by (repeat (with_reducible first | refine (cell_far (p := ⟨gb193, _, none⟩) (a := ⟨ad191.block, _, none⟩) hne_ _).trans ?_ | refine (cell_far (p := ⟨gb193, _, none⟩) (a := ad191) hne_ _).trans ?_)); with_reducible exact hHd.1), (by (repeat (with_reducible first | refine (cell_far (p := ⟨gb193, _, none⟩) (a := ⟨ad191.block, _, none⟩) hne_ _).trans ?_ | refine (cell_far (p := ⟨gb193, _, none⟩) (a := ad191) hne_ _).trans ?_)); with_reducible exact hHd.2)⟩ (fun hHd => ?_)
   clear hK K
   refine done_ (done_of Tq.o (by kernel_rfl)) ?_
   have n0_ : Aq (Kd.R Kd.string 9 (((w28.setCell ⟨gb193, 0, none⟩ (.int .i64 (rd t187 0))).setCell ⟨gb193, 1, none⟩ (.int .i64 (rd t187 1))).setCell ⟨gb193, 2, none⟩ (.slice none 0 0)) w.heap.size (fun k_ => some k_ ≠ (.slice Ao24 y184.length co24 : Value).ownBlock) (.slice (some ad179) t176.length co21) t176) := ⟨by refine zDR ?_; exact Kd.R_mono (zRf (Kd.R_types HO178.o BK193.o (by decide))) (fun _ hk => hk.1.2)⟩
   have n1_ : Aq (Kd.R Kd.string 9 (((w28.setCell ⟨gb193, 0, none⟩ (.int .i64 (rd t187 0))).setCell ⟨gb193, 1, none⟩ (.int .i64 (rd t187 1))).setCell ⟨gb193, 2, none⟩ (.slice none 0 0)) w.heap.size (fun k_ => some k_ ≠ (.slice (some ad179) t176.length co21 : Value).ownBlock) (.slice Ao24 y184.length co24) y184) := ⟨by refine zDR ?_; exact Kd.R_mono (zRf (Kd.R_types HO186.o BK193.o (by decide))) (fun _ hk => hk.1.2)⟩
   have n2_ : Aq (Kd.R (Kd.int .i64) 3 (((w28.setCell ⟨gb193, 0, none⟩ (.int .i64 (rd t187 0))).setCell ⟨gb193, 1, none⟩ (.int .i64 (rd t187 1))).setCell ⟨gb193, 2, none⟩ (.slice none 0 0)) w.heap.size (fun _ => True) (.slice (some ad191) t187.length co27) t187) := ⟨by refine zDR ?_; exact Kd.R_mono (zRf (Kd.R_types HO190.o BK193.o (by decide))) (fun _ hk => trivial)⟩
   have n3_ : Aq ((((w28.setCell ⟨gb193, 0, none⟩ (.int .i64 (rd t187 0))).setCell ⟨gb193, 1, none⟩ (.int .i64 (rd t187 1))).setCell ⟨gb193, 2, none⟩ (.slice none 0 0)).heap[gb171]? = some (.cells #[.int .i64 0, .int .i64 0, .slice none 0 0] 34 (0, 0))) := ⟨zbp BK171.o⟩
   have n4_ : Aq ((((w28.setCell ⟨gb193, 0, none⟩ (.int .i64 (rd t187 0))).setCell ⟨gb193, 1, none⟩ (.int .i64 (rd t187 1))).setCell ⟨gb193, 2, none⟩ (.slice none 0 0)).heap[gb193]? = some (.cells #[.int .i64 (rd t187 0), .int .i64 (rd t187 1), .slice none 0 0] 34 (0, 0))) := ⟨zbp BK193.o⟩
   have n5_ : Aq (Below w.heap.size w (((w28.setCell ⟨gb193, 0, none⟩ (.int .i64 (rd t187 0))).setCell ⟨gb193, 1, none⟩ (.int .i64 (rd t187 1))).setCell ⟨gb193, 2, none⟩ (.slice none 0 0))) := ⟨zBz HB.o GE171.o GE193.o⟩
   (try clear HO178)
   (try clear HO186)
   (try clear HO190)
   (try clear BK171)
   (try clear BK193)
   (try clear HB)
   generalize (((w28.setCell ⟨gb193, 0, none⟩ (.int .i64 (rd t187 0))).setCell ⟨gb193, 1, none⟩ (.int .i64 (rd t187 1))).setCell ⟨gb193, 2, none⟩ (.slice none 0 0)) = w32 at n0_ n1_ n2_ n3_ n4_ n5_ ⊢
   have HO178 := n0_
   have HO186 := n1_
   have HO190 := n2_
   have BK171 := n3_
   have BK193 := n4_
   have HB := n5_
   clear n0_ n1_ n2_ n3_ n4_ n5_
   have q33 : (1 : Int) ≤ ((t176.length : Int) : Int) := zod
   obtain ⟨i033, hi033, _, hsz33, _⟩ := info_parts info9
   have hroom33 : t176.length ≤ co21 := (Kd.R_reads' HO178.o).2.1
   have hC33 : Kd.C Kd.string _ (some ad179) t176.length t176 := (Kd.R_reads' HO178.o).2.2
   have hcut33 := cut_from (P := Tryz.prog) 60 9 .i64 Tryz.underlying60 hi033 1 hsz33 (some ad179) t176.length co21 1 (by omega) q33
   have hr33 := Kd.C_drop (m := (1 : Int).toNat) (c := co21) hC33 (by omega) hroom33
   obtain ⟨A33, hA33⟩ : ∃ A1, A1 = (if co21 = (1 : Int).toNat then (some ad179) else ((some ad179) : Option Addr).map (·.add ((1 : Int).toNat * 1))) := ⟨_, rfl⟩
   obtain ⟨c33, hc33⟩ : ∃ c1, c1 = co21 - (1 : Int).toNat := ⟨_, rfl⟩
   have hy33 : y194.length = t176.length - (1 : Int).toNat := (by rw [Ny194.o, List.length_drop] <;> omega)
   rw [show (t176).drop (1 : Int).toNat = y194 from Ny194.o.symm] at hr33
   replace hr33 : Kd.C Kd.string _ A33 y194.length y194 := (by rw [hA33]; exact hr33)
   rw [← hy33, ← hA33, ← hc33] at hcut33
   have HR197 := am hr33
   have HC197 := am (show y194.length ≤ c33 from by rw [hy33, hc33]; exact Nat.sub_le_sub_right hroom33 _)
   clear hr33 hC33 hroom33 hi033 hsz33 hc33
   have KY33 := am hy33
   have KA33 := am hA33
   clear hy33 hA33
   have KL33 := am (show 1 ≤ t176.length from by omega)
   replace q33 := eq_true q33
   try go_wp2
   go_loopg [61] kj2 (fun kq v61 w' => ∃ (x61_2 : Int) (x172000_2 : Int) (x172001_2 : Int) (x194002_2 : List (S25)) (u194002 : Value), v61 = .int .i64 x61_2 ∧ Aq (qh.l0 kq a0 y194 (y194.length : Int) x61_2 (rd t187 0) (rd t187 1) x194002_2 = some (r1, r2, r3, r4)) ∧ Aq (kq ≤ kj2) ∧ Aq (Kd.R Kd.string 9 w' w.heap.size (fun _ => True) (.slice (some ad179) t176.length co21) t176) ∧ Aq (Kd.R k25 25 w' w.heap.size (fun _ => True) u194002 x194002_2) ∧ Aq (w'.heap[gb171]? = some (.cells #[.int .i64 x172000_2, .int .i64 x172001_2, (.slice none 0 0)] 34 (0, 0))) ∧ Aq (w'.heap[gb193]? = some (.cells #[.int .i64 (rd t187 0), .int .i64 (rd t187 1), u194002] 34 (0, 0))) ∧ Aq (Below w.heap.size w w'))
   case atStart => exact ⟨(0), (0), (0), (([] : List (S25))), (.slice none 0 0), zrx, H', ⟨Nat.le_refl _⟩, ⟨by refine zDR ?_; exact Kd.R_mono HO178.o (fun _ hk => trivial)⟩, ⟨by first | exact Kd.R_nil _ _ _ _ _ | exact Kd.N_nil _ _ _ _ _ | exact Kd.V_nil _ _ _ _ _ | exact Kd.Q_nil _ _ _ _ _ | exact Kd.S_nil _ _ _ _ _⟩, ⟨zbx BK171.o⟩, ⟨zbx BK193.o⟩, ⟨zBz HB.o GE171.o GE193.o⟩⟩
   case round =>
    clear H'
    try clear c8
    try clear c12
    try clear c12b0
    try clear c12b1
    try clear c16
    try clear c17
    try clear c17b0
    try clear c17b1
    try clear c18
    try clear c18b0
    try clear c18b1
    try clear c19
    try clear c19b0
    try clear c19b1
    try clear c33
    try clear q33
    try clear hx179_0
    try clear hx191_0
    try clear hx192_0
    try clear p179
    try clear p191
    try clear p192
    try clear q179
    try clear q191
    try clear q192
    try clear q33
    try clear HS0_
    try clear HS1_
    try clear hs29
    try clear hfs29
    try clear hns29_0
    try clear hms29_0
    try clear hs30
    try clear hfs30
    try clear hns30_0
    try clear hms30_0
    try clear hs31
    try clear hfs31
    try clear hns31_0
    try clear hms31_0
    try clear hne_
    try clear hHd
    obtain ⟨x61_2, x172000_2, x172001_2, x194002_2, u194002, rfl, HA, HK2, HO178, HO_194002, BK171, BK193, HB⟩ := hrel
    cases gk with
    | zero => exact absurd HA.o (by simp [qh.l0])
    | succ k2 =>
     have H := HA.o
     clear HA
     simp only [qh.l0] at H
     by_cases c34 : x61_2 < (y194.length : Int)
     rotate_left
     ·rw [if_neg c34] at H
      have c34b0 := decide_eq_false c34
      clear c34
      obtain ⟨t210, A57, H⟩ := zob H
      try dsimp only at H
      by_cases c58 : t210 = true
      rotate_left
      ·replace c58 := Bool.eq_false_iff.mpr c58
       subst c58
       rw [if_neg (show ¬ (false = true) by decide)] at H
       focus
        simp only [Option.some.injEq, Prod.mk.injEq] at H
        obtain ⟨rfl, rfl, rfl, rfl⟩ := H
        have hnb76 := NB193_171.o
        have hnc76 := NB171_193.o
        have hcz77 := zc3 BK193.o
        obtain ⟨Ao78, co78, eo78⟩ := Kd.R_slice HO_194002.o
        subst eo78
        go_wp2_with (first | ((with_reducible refine zgc 24 rfl ?_); refine zgl 81 Tryz.func24 #[.agg #[.int .i64 (rd t187 0), .int .i64 (rd t187 1), .slice Ao78 x194002_2.length co78]] ?_; (with_reducible refine (qr.calls k2 (rd t187 0) (rd t187 1) _ _ x194002_2 false _ ?side1 ?side2 A57.o).mono ?_); (case side1 => exact zCx (Kd.R_reads' HO_194002.o).2.2); (case side2 => exact (Kd.R_reads' HO_194002.o).2.1); rintro e w79 ⟨rfl, hb⟩; refine ⟨_, rfl, ?_⟩; replace HO178 := zro HO178 hb; replace HO_194002 := zro HO_194002 hb; replace BK171 := zbl BK171.o hb; replace BK193 := zbl BK193.o hb; replace HB := zhs HB hb; clear hb; have hcz80 := zc3 BK171.o))
        refine bodyPost_ret (results_ct rfl _ _ gb171 34 #[.int .i64 0, .int .i64 0, .slice none 0 0] (0, 0) _ rfl (zbp BK171.o) Tryz.underlying34 rfl (by kernel_rfl)) rfl ?_
        exact ⟨_, zew, by first | exact Kd.R_nil _ _ _ _ _ | exact Kd.N_nil _ _ _ _ _ | exact Kd.V_nil _ _ _ _ _ | exact Kd.Q_nil _ _ _ _ _ | exact Kd.S_nil _ _ _ _ _, zBz HB.o GE171.o GE193.o⟩
      subst c58
      rw [if_pos rfl] at H
      obtain ⟨t211, A59, H⟩ := zob H
      try dsimp only at H
      by_cases c60 : t211.toList = a0.toList
      rotate_left
      ·rw [if_neg c60] at H
       have c60b0 := beq_eq_false_iff_ne.mpr c60
       have c60b1 := bne_iff_ne.mpr c60
       focus
        simp only [Option.some.injEq, Prod.mk.injEq] at H
        obtain ⟨rfl, rfl, rfl, rfl⟩ := H
        have hnb69 := NB193_171.o
        have hnc69 := NB171_193.o
        have hcz70 := zc3 BK193.o
        obtain ⟨Ao71, co71, eo71⟩ := Kd.R_slice HO_194002.o
        subst eo71
        go_wp2_with (first | ((with_reducible refine zgc 24 rfl ?_); refine zgl 81 Tryz.func24 #[.agg #[.int .i64 (rd t187 0), .int .i64 (rd t187 1), .slice Ao71 x194002_2.length co71]] ?_; (with_reducible refine (qr.calls k2 (rd t187 0) (rd t187 1) _ _ x194002_2 true _ ?side1 ?side2 A57.o).mono ?_); (case side1 => exact zCx (Kd.R_reads' HO_194002.o).2.2); (case side2 => exact (Kd.R_reads' HO_194002.o).2.1); rintro e w72 ⟨rfl, hb⟩; refine ⟨_, rfl, ?_⟩; replace HO178 := zro HO178 hb; replace HO_194002 := zro HO_194002 hb; replace BK171 := zbl BK171.o hb; replace BK193 := zbl BK193.o hb; replace HB := zhs HB hb; clear hb; have hcz73 := zc3 BK193.o) | (go_at_call 62; (with_reducible refine (qq.calls k2 (rd t187 0) (rd t187 1) _ _ x194002_2 t211 _ ?side1 ?side2 ?sideL A59.o).mono ?_); (case sideL => exact Laid.below HL.o (zBz HB.o GE171.o GE193.o)); (case side1 => exact zCx (Kd.R_reads' HO_194002.o).2.2); (case side2 => exact (Kd.R_reads' HO_194002.o).2.1); rintro e w74 ⟨rfl, hb⟩; replace HO178 := zro HO178 hb; replace HO_194002 := zro HO_194002 hb; replace BK171 := zbl BK171.o hb; replace BK193 := zbl BK193.o hb; replace HB := zhs HB hb; clear hb; have hcz75 := zc3 BK171.o))
        refine bodyPost_ret (results_ct rfl _ _ gb171 34 #[.int .i64 0, .int .i64 0, .slice none 0 0] (0, 0) _ rfl (zbp BK171.o) Tryz.underlying34 rfl (by kernel_rfl)) rfl ?_
        exact ⟨_, zew, by first | exact Kd.R_nil _ _ _ _ _ | exact Kd.N_nil _ _ _ _ _ | exact Kd.V_nil _ _ _ _ _ | exact Kd.Q_nil _ _ _ _ _ | exact Kd.S_nil _ _ _ _ _, zBz HB.o GE171.o GE193.o⟩
      rw [if_pos c60] at H
      have c60b0 := beq_iff_eq.mpr c60
      have c60b1 := bne_eq_false_iff_eq.mpr c60
      clear c60
      focus
       simp only [Option.some.injEq, Prod.mk.injEq] at H
       obtain ⟨rfl, rfl, rfl, rfl⟩ := H
       have hnb61 := NB193_171.o
       have hnc61 := NB171_193.o
       have hcz62 := zc3 BK193.o
       obtain ⟨Ao63, co63, eo63⟩ := Kd.R_slice HO_194002.o
       subst eo63
       go_wp2_with (first | ((with_reducible refine zgc 24 rfl ?_); refine zgl 81 Tryz.func24 #[.agg #[.int .i64 (rd t187 0), .int .i64 (rd t187 1), .slice Ao63 x194002_2.length co63]] ?_; (with_reducible refine (qr.calls k2 (rd t187 0) (rd t187 1) _ _ x194002_2 true _ ?side1 ?side2 A57.o).mono ?_); (case side1 => exact zCx (Kd.R_reads' HO_194002.o).2.2); (case side2 => exact (Kd.R_reads' HO_194002.o).2.1); rintro e w64 ⟨rfl, hb⟩; refine ⟨_, rfl, ?_⟩; replace HO178 := zro HO178 hb; replace HO_194002 := zro HO_194002 hb; replace BK171 := zbl BK171.o hb; replace BK193 := zbl BK193.o hb; replace HB := zhs HB hb; clear hb; have hcz65 := zc3 BK193.o) | (go_at_call 62; (with_reducible refine (qq.calls k2 (rd t187 0) (rd t187 1) _ _ x194002_2 t211 _ ?side1 ?side2 ?sideL A59.o).mono ?_); (case sideL => exact Laid.below HL.o (zBz HB.o GE171.o GE193.o)); (case side1 => exact zCx (Kd.R_reads' HO_194002.o).2.2); (case side2 => exact (Kd.R_reads' HO_194002.o).2.1); rintro e w66 ⟨rfl, hb⟩; replace HO178 := zro HO178 hb; replace HO_194002 := zro HO_194002 hb; replace BK171 := zbl BK171.o hb; replace BK193 := zbl BK193.o hb; replace HB := zhs HB hb; clear hb; have hcz67 := zc3 BK193.o; have hcz68 := zc3 BK171.o))
       refine bodyPost_ret (results_ct rfl _ _ gb171 34 #[.int .i64 (rd t187 0), .int .i64 (rd t187 1), .slice Ao63 x194002_2.length co63] (0, 0) _ rfl (zbp BK171.o) Tryz.underlying34 rfl (by kernel_rfl)) rfl ?_
       exact ⟨_, zew, by refine zDR ?_; exact Kd.R_mono (zRf (Kd.R_types HO_194002.o BK171.o (by decide))) (fun _ hk => trivial), zBz HB.o GE171.o GE193.o⟩
     rw [if_pos c34] at H
     have c34b0 := decide_eq_true c34
     clear c34
     obtain ⟨c35, H⟩ := zin H
     have c35b0 := decide_eq_true c35
     clear c35
     obtain ⟨c36, H⟩ := zin H
     have c36b0 := decide_eq_true c36
     clear c36
     obtain ⟨⟨t199, t200, t201, t202, t203, t204, t205⟩, A37, H⟩ := zob H
     try dsimp only at H
     by_cases c38 : t205 = true
     rotate_left
     ·replace c38 := Bool.eq_false_iff.mpr c38
      subst c38
      rw [if_neg (show ¬ (false = true) by decide)] at H
      focus
       simp only [Option.some.injEq, Prod.mk.injEq] at H
       obtain ⟨rfl, rfl, rfl, rfl⟩ := H
       have p198 : 0 ≤ (x61_2 : Int) := zod
       have q198 : x61_2 < (y194.length : Int) := zod
       have hroomz_ : t176.length ≤ co21 := (Kd.R_reads' HO178.o).2.1
       have hCz_ : Kd.C Kd.string _ (some ad179) t176.length t176 := (Kd.R_reads' HO178.o).2.2
       have hrz_ := Kd.C_drop (m := (1 : Int).toNat) (c := co21) hCz_ (by have := KL33.o; omega) hroomz_
       rw [show (t176).drop (1 : Int).toNat = y194 from Ny194.o.symm] at hrz_
       replace hrz_ : Kd.C Kd.string _ A33 y194.length y194 := (by rw [KA33.o]; exact hrz_)
       obtain ⟨ad198, e198, hx198_0⟩ := Kd.at_string hrz_ x61_2 p198 q198
       cases e198
       clear hrz_ hCz_ hroomz_
       skip
       replace p198 := eq_true p198
       replace q198 := eq_true q198
       go_wp2_with (first | ((with_reducible refine zgc 9 rfl ?_); refine zgl 67 Tryz.func9 #[.string (rdOf ByteArray.empty y194 x61_2)] ?_; (with_reducible refine (impl_ParseWarningLine.calls (rdOf ByteArray.empty y194 x61_2) t199 t200 t201 t202 t203 t204 false _ ?sideL A37.o).mono ?_); (case sideL => exact Laid.below HL.o (zBz HB.o GE171.o GE193.o)); rintro e w50 ⟨rfl, hb⟩; refine ⟨_, rfl, ?_⟩; replace HO178 := zro HO178 hb; replace HO_194002 := zro HO_194002 hb; replace BK171 := zbl BK171.o hb; replace BK193 := zbl BK193.o hb; replace HB := zhs HB hb; clear hb) | ((with_reducible refine zgd 14 rfl ?_); refine zbe 14 #[.int .i64 0, .int .i64 0, .int .i64 0, .int .i64 0, .int .i64 0, .int .i64 0] 25 ?_; intro gb206 hg w51 hbox hb; replace HO178 := am (Kd.R_below (Kd.R_elderB (zRx HO178.o) gb206 (Nat.le_of_eq hg.symm)) hb); replace HO_194002 := am (Kd.R_below (Kd.R_elderB (zRx HO_194002.o) gb206 (Nat.le_of_eq hg.symm)) hb); have BK206 := am (hbox); have GW206 := zns hg HB.o; have GE206 := zns hg HB.o; replace HB := zhs HB hb; have NB171_206 := znl hg BK171.o; have NB206_171 := zng hg BK171.o; replace BK171 := zbl BK171.o hb; have NB193_206 := znl hg BK193.o; have NB206_193 := zng hg BK193.o; replace BK193 := zbl BK193.o hb; clear hb hbox hg; have hnb52 := NB206_171.o; have hnc52 := NB171_206.o; have hnb53 := NB206_193.o; have hnc53 := NB193_206.o; have hcz54 := zc6 BK206.o; have hnb55 := NB171_193.o; have hnc55 := NB193_171.o; have hcz56 := zc3 BK171.o))
       refine bodyPost_ret (results_ct rfl _ _ gb171 34 #[.int .i64 0, .int .i64 0, .slice none 0 0] (0, 0) _ rfl (zbp BK171.o) Tryz.underlying34 rfl (by kernel_rfl)) rfl ?_
       exact ⟨_, zew, by first | exact Kd.R_nil _ _ _ _ _ | exact Kd.N_nil _ _ _ _ _ | exact Kd.V_nil _ _ _ _ _ | exact Kd.Q_nil _ _ _ _ _ | exact Kd.S_nil _ _ _ _ _, zhB HB.o⟩
     subst c38
     rw [if_pos rfl] at H
     obtain ⟨c39, H⟩ := zin H
     have LMc39 := am c39
     clear c39
     obtain ⟨y207, hy207⟩ : ∃ y_ : List (S25), y_ = (x194002_2 ++ [(⟨t199, t200, t201, t202, t203, t204⟩ : S25)]) := ⟨_, rfl⟩
     replace H : (qh.l0 k2 a0 y194 (y194.length : Int) (wrap64 (x61_2 + 1)) (rd t187 0) (rd t187 1) y207) = some (r1, r2, r3, r4) := by rw [hy207]; exact H
     have Ny207 := am hy207
     clear hy207
     focus
      have H' := am H
      clear H
      have p198 : 0 ≤ (x61_2 : Int) := zod
      have q198 : x61_2 < (y194.length : Int) := zod
      have hroomz_ : t176.length ≤ co21 := (Kd.R_reads' HO178.o).2.1
      have hCz_ : Kd.C Kd.string _ (some ad179) t176.length t176 := (Kd.R_reads' HO178.o).2.2
      have hrz_ := Kd.C_drop (m := (1 : Int).toNat) (c := co21) hCz_ (by have := KL33.o; omega) hroomz_
      rw [show (t176).drop (1 : Int).toNat = y194 from Ny194.o.symm] at hrz_
      replace hrz_ : Kd.C Kd.string _ A33 y194.length y194 := (by rw [KA33.o]; exact hrz_)
      obtain ⟨ad198, e198, hx198_0⟩ := Kd.at_string hrz_ x61_2 p198 q198
      cases e198
      clear hrz_ hCz_ hroomz_
      skip
      replace p198 := eq_true p198
      replace q198 := eq_true q198
      go_wp2_with (first | ((with_reducible refine zgc 9 rfl ?_); refine zgl 67 Tryz.func9 #[.string (rdOf ByteArray.empty y194 x61_2)] ?_; (with_reducible refine (impl_ParseWarningLine.calls (rdOf ByteArray.empty y194 x61_2) t199 t200 t201 t202 t203 t204 true _ ?sideL A37.o).mono ?_); (case sideL => exact Laid.below HL.o (zBz HB.o GE171.o GE193.o)); rintro e w40 ⟨rfl, hb⟩; refine ⟨_, rfl, ?_⟩; replace HO178 := zro HO178 hb; replace HO_194002 := zro HO_194002 hb; replace BK171 := zbl BK171.o hb; replace BK193 := zbl BK193.o hb; replace HB := zhs HB hb; clear hb) | ((with_reducible refine zgd 14 rfl ?_); refine zbe 14 #[.int .i64 0, .int .i64 0, .int .i64 0, .int .i64 0, .int .i64 0, .int .i64 0] 25 ?_; intro gb206 hg w41 hbox hb; replace HO178 := am (Kd.R_below (Kd.R_elderB (zRx HO178.o) gb206 (Nat.le_of_eq hg.symm)) hb); replace HO_194002 := am (Kd.R_below (Kd.R_elderB (zRx HO_194002.o) gb206 (Nat.le_of_eq hg.symm)) hb); have BK206 := am (hbox); have GW206 := zns hg HB.o; have GE206 := zns hg HB.o; replace HB := zhs HB hb; have NB171_206 := znl hg BK171.o; have NB206_171 := zng hg BK171.o; replace BK171 := zbl BK171.o hb; have NB193_206 := znl hg BK193.o; have NB206_193 := zng hg BK193.o; replace BK193 := zbl BK193.o hb; clear hb hbox hg; have hnb42 := NB206_171.o; have hnc42 := NB171_206.o; have hnb43 := NB206_193.o; have hnc43 := NB193_206.o; have hcz44 := zc6 BK206.o; have hnb45 := NB193_171.o; have hnc45 := NB171_193.o; have hcz46 := zc3 BK193.o) | ((with_reducible refine gate_builtin (b := .append) (xs := #[.tmp 74, .tmp 76]) rfl ?_); at_builtin; refine Kd.R_append k25 (w0 := w) w.heap.size rfl (.tmp 74) (.tmp 76) 32 25 (.agg #[(.int .i64 0), (.int .i64 0), (.int .i64 0), (.int .i64 0), (.int .i64 0), (.int .i64 0)]) 48 rfl Tryz.underlying32 info25 rfl (by decide) (by omega) u194002 x194002_2 (⟨t199, t200, t201, t202, t203, t204⟩ : S25) [.int .i64 t199, .int .i64 t200, .int .i64 t201, .int .i64 t202, .int .i64 t203, .int .i64 t204] (fun k_ => k_ ≠ gb206) (fun _ => False) rfl zsx ?aP (fun _ hk => hk.elim) ?aF ?aO ?aB ?aS ?aL ?_; (case aP => exact k25_mkM _ _ _ (⟨t199, t200, t201, t202, t203, t204⟩ : S25)); (case aB => exact (zhB HB.o)); (case aF => exact (fun k_ hk => Kd.freshB (g := gb206) (o := .cells #[.int .i64 t199, .int .i64 t200, .int .i64 t201, .int .i64 t202, .int .i64 t203, .int .i64 t204] 25 (0, 0)) (zbp BK206.o) k_ hk)); (case aO => exact (by refine zDR ?_; exact Kd.R_mono (zRf (Kd.R_mono HO_194002.o (fun k_ hk => (⟨hk, hk.2⟩ : _ ∧ k_ ≠ gb206)))) (fun _ hk => hk.1.2))); (case aS => exact (below_size (zhB HB.o))); (case aL => have := LMc39.o; omega); intro v208 w47 ho hb hg hat; rw [← Ny207.o] at ho; replace HO178 := am (Kd.R_over' (by (with_reducible repeat (first | apply Kd.R_alloc | apply Kd.R_drewN | apply Kd.R_drew)); exact (Kd.R_mono (zRf (Kd.R_types HO178.o BK206.o (by decide))) (fun _ h_ => h_.1))) (Kd.R_typed (by (with_reducible repeat (first | apply Kd.R_alloc | apply Kd.R_drewN | apply Kd.R_drew)); exact (Kd.R_mono (zRf (Kd.R_mono HO_194002.o (fun k_ hk => (⟨hk, hk.2⟩ : _ ∧ k_ ≠ gb206)))) (fun _ h_ => h_.1)))) (by decide) hg); replace BK171 := zgr BK171.o hg (Kd.R_ne HO_194002.o BK171.o (by decide)); replace BK193 := zgr BK193.o hg (Kd.R_ne HO_194002.o BK193.o (by decide)); replace BK206 := am (blk_grown (g := gb206) (o := .cells #[.int .i64 t199, .int .i64 t200, .int .i64 t201, .int .i64 t202, .int .i64 t203, .int .i64 t204] 25 (0, 0)) (zbp BK206.o) hg (Kd.R_away HO_194002.o (fun _ hk => hk.2))); replace HB := am (hb); have HO209 := am (ho); clear HO_194002; clear ho hb hg hat; obtain ⟨Ao48, co48, eo48⟩ := Kd.R_slice HO209.o; subst eo48; have hcz49 := zc3 BK193.o))
      go_roundg k2
      case measure => have := HJ2.o; have := HK2.o; omega
      case rel => exact ⟨(wrap64 (x61_2 + 1)), (x172000_2), (x172001_2), (y207), (.slice Ao48 y207.length co48), zrx, H', ⟨by have := HJ2.o; have := HK2.o; omega⟩, ⟨by refine zDR ?_; exact Kd.R_mono (Kd.R_far (p := ⟨gb193, 2, none⟩) (Kd.R_types HO178.o BK193.o (by decide)) (fun _ hk => hk.2) (.slice Ao48 y207.length co48)) (fun _ hk => trivial)⟩, ⟨by refine zDR ?_; exact Kd.R_mono (Kd.R_far (p := ⟨gb193, 2, none⟩) (Kd.R_types HO209.o BK193.o (by decide)) (fun _ hk => hk.2) (.slice Ao48 y207.length co48)) (fun _ hk => trivial)⟩, ⟨zbp BK171.o⟩, ⟨zbp BK193.o⟩, ⟨zhB HB.o⟩⟩
def I7 (w0 W : World) (g : Nat) (f0 : List Int) (f1 : Int) (f2 : Int) : Prop := ∃ A0 c0, W.heap[g]? = some (.cells #[.slice A0 f0.length c0, .int .i64 f1, .int .u64 f2] 71 (0, 0)) ∧ w0.heap.size ≤ g ∧ Kd.C (Kd.int .u8) w0 A0 f0.length f0
theorem I7.grown {w0 W : World} {g : Nat} {f0 : List Int} {f1 : Int} {f2 : Int} {W1 : World} {row : Option Nat} (h : I7 w0 W g f0 f1 f2) (hw : W.grownBy W1 row) (hne : some g ≠ row) : I7 w0 W1 g f0 f1 f2 := by
 obtain ⟨A0, c0, hb, hg, hr0⟩ := h
 exact ⟨A0, c0, blk_grown hb hw hne, hg, hr0⟩
theorem I7.fresh {w0 W : World} {g : Nat} {f0 : List Int} {f1 : Int} {f2 : Int} (h : I7 w0 W g f0 f1 f2) : ∀ k, W.heap.size ≤ k → k ≠ g := by
 obtain ⟨A0, c0, hb, hg, hr0⟩ := h
 exact Kd.freshB hb
theorem I7.kept {w0 W : World} {g : Nat} {f0 : List Int} {f1 : Int} {f2 : Int} {W1 : World} {S : Nat → Prop} (h : I7 w0 W g f0 f1 f2) (hk : Kept W W1 S) (hne : ¬ S g) : I7 w0 W1 g f0 f1 f2 := by
 obtain ⟨A0, c0, hb, hg, hr0⟩ := h
 exact ⟨A0, c0, blk_kept hb hk hne, hg, hr0⟩
theorem I7.below {w0 W : World} {g : Nat} {f0 : List Int} {f1 : Int} {f2 : Int} {W1 : World} (h : I7 w0 W g f0 f1 f2) (hw : Below W.heap.size W W1) : I7 w0 W1 g f0 f1 f2 := h.grown (grown_of_below hw none) (by simp)
theorem I7.alloc {w0 W : World} {g : Nat} {f0 : List Int} {f1 : Int} {f2 : Int} (h : I7 w0 W g f0 f1 f2) (o : Obj) : I7 w0 (W.alloc o) g f0 f1 f2 := h.below (below_alloc (Below.refl _ _) o)
theorem I7.drewN {w0 W : World} {g : Nat} {f0 : List Int} {f1 : Int} {f2 : Int} (h : I7 w0 W g f0 f1 f2) (m : Nat) : I7 w0 (W.drewN m) g f0 f1 f2 := h
theorem I7.drew {w0 W : World} {g : Nat} {f0 : List Int} {f1 : Int} {f2 : Int} (h : I7 w0 W g f0 f1 f2) : I7 w0 W.drew g f0 f1 f2 := h
theorem I7.at_ {w0 W : World} {g : Nat} {f0 : List Int} {f1 : Int} {f2 : Int} {w' : World} {m : Nat} (hq : W.drewN m = w') (h : I7 w0 W g f0 f1 f2) : I7 w0 w' g f0 f1 f2 := by subst hq; exact I7.drewN h m
theorem I7.apart {w0 W : World} {g : Nat} {f0 : List Int} {f1 : Int} {f2 : Int} {α : Type} {d : Kd α} {e : Nat} {base : Nat} {ok : Nat → Prop} {v : Value} {xs : List α} (h : I7 w0 W g f0 f1 f2) (ho : d.R e W base ok v xs) (ht : ∀ q, q ∈ e :: d.E → q ≠ 71) : d.R e W base (fun k => ok k ∧ k ≠ g) v xs := by
 obtain ⟨A0, c0, hb, hg, hr0⟩ := h
 exact Kd.R_types ho hb ht
theorem I7.own_ne {w0 W : World} {g : Nat} {f0 : List Int} {f1 : Int} {f2 : Int} {α : Type} {d : Kd α} {e : Nat} {base : Nat} {ok : Nat → Prop} {v : Value} {xs : List α} (h : I7 w0 W g f0 f1 f2) (ho : d.R e W base ok v xs) (ht : e ≠ 71) : some g ≠ v.ownBlock := by
 obtain ⟨A0, c0, hb, hg, hr0⟩ := h
 exact Kd.R_ne ho hb ht
theorem I7.apartQ {w0 W : World} {g : Nat} {f0 : List Int} {f1 : Int} {f2 : Int} {α : Type} {d : Kd α} {e : Nat} {base : Nat} {ok : Nat → Prop} {v : Value} {xs : List α} (h : I7 w0 W g f0 f1 f2) (ho : d.Q e W base ok v xs) (ht : ∀ q, q ∈ e :: d.E → q ≠ 71) : d.Q e W base (fun k => ok k ∧ k ≠ g) v xs := by
 obtain ⟨A0, c0, hb, hg, hr0⟩ := h
 exact Kd.Q_types ho hb ht
theorem I7.own_neQ {w0 W : World} {g : Nat} {f0 : List Int} {f1 : Int} {f2 : Int} {α : Type} {d : Kd α} {e : Nat} {base : Nat} {ok : Nat → Prop} {v : Value} {xs : List α} (h : I7 w0 W g f0 f1 f2) (ho : d.Q e W base ok v xs) (ht : e ≠ 71) : some g ≠ v.ownBlock := by
 obtain ⟨A0, c0, hb, hg, hr0⟩ := h
 exact Kd.Q_ne ho hb ht
theorem I7.apartS {w0 W : World} {g : Nat} {f0 : List Int} {f1 : Int} {f2 : Int} {α : Type} {d : Kd α} {e : Nat} {base : Nat} {ok : Nat → Prop} {v : Value} {xs : List α} (h : I7 w0 W g f0 f1 f2) (ho : d.S e W base ok v xs) (ht : ∀ q, q ∈ e :: d.E → q ≠ 71) : d.S e W base (fun k => ok k ∧ k ≠ g) v xs := by
 obtain ⟨A0, c0, hb, hg, hr0⟩ := h
 exact Kd.S_types ho hb ht
theorem I7.own_neS {w0 W : World} {g : Nat} {f0 : List Int} {f1 : Int} {f2 : Int} {α : Type} {d : Kd α} {e : Nat} {base : Nat} {ok : Nat → Prop} {v : Value} {xs : List α} (h : I7 w0 W g f0 f1 f2) (ho : d.S e W base ok v xs) (ht : e ≠ 71) : some g ≠ v.ownBlock := by
 obtain ⟨A0, c0, hb, hg, hr0⟩ := h
 exact Kd.S_ne ho hb ht
theorem I7.lt {w0 W : World} {g : Nat} {f0 : List Int} {f1 : Int} {f2 : Int} (h : I7 w0 W g f0 f1 f2) : g < W.heap.size := by
 obtain ⟨A0, c0, hb, hg, hr0⟩ := h
 exact blk_lt hb
theorem I7.ge {w0 W : World} {g : Nat} {f0 : List Int} {f1 : Int} {f2 : Int} (h : I7 w0 W g f0 f1 f2) : w0.heap.size ≤ g := by
 obtain ⟨A0, c0, hb, hg, hr0⟩ := h
 exact hg
theorem I7.far {w0 W : World} {g : Nat} {f0 : List Int} {f1 : Int} {f2 : Int} {p : Addr} (h : I7 w0 W g f0 f1 f2) (hne : g ≠ p.block) (u : Value) : I7 w0 (W.setCell p u) g f0 f1 f2 := by
 obtain ⟨A0, c0, hb, hg, hr0⟩ := h
 exact ⟨A0, c0, blk_far hb hne u, hg, hr0⟩
theorem cellS71_0 {W : World} {g : Nat} {A0 : Option Addr} {c0 : Nat} {f0 : List Int} {f1 : Int} {f2 : Int} (h : W.heap[g]? = some (.cells #[.slice A0 f0.length c0, .int .i64 f1, .int .u64 f2] 71 (0, 0))) : W.cell? ⟨g, 0, none⟩ = some (.slice A0 f0.length c0) := (bkc h 0).trans rfl
theorem cellS71_1 {W : World} {g : Nat} {A0 : Option Addr} {c0 : Nat} {f0 : List Int} {f1 : Int} {f2 : Int} (h : W.heap[g]? = some (.cells #[.slice A0 f0.length c0, .int .i64 f1, .int .u64 f2] 71 (0, 0))) : W.cell? ⟨g, 1, none⟩ = some (.int .i64 f1) := (bkc h 1).trans rfl
theorem I7.set_1 {w0 W : World} {g : Nat} {f0 : List Int} {f1 : Int} {f2 : Int} (h : I7 w0 W g f0 f1 f2) (x : Int) : I7 w0 (W.setCell ⟨g, 1, none⟩ (.int .i64 x)) g f0 x f2 := by
 obtain ⟨A0, c0, hb, hg, hr0⟩ := h
 exact ⟨A0, c0, by simpa using blk_set hb 1 (.int .i64 x), hg, hr0⟩
theorem cellS71_2 {W : World} {g : Nat} {A0 : Option Addr} {c0 : Nat} {f0 : List Int} {f1 : Int} {f2 : Int} (h : W.heap[g]? = some (.cells #[.slice A0 f0.length c0, .int .i64 f1, .int .u64 f2] 71 (0, 0))) : W.cell? ⟨g, 2, none⟩ = some (.int .u64 f2) := (bkc h 2).trans rfl
theorem I7.set_2 {w0 W : World} {g : Nat} {f0 : List Int} {f1 : Int} {f2 : Int} (h : I7 w0 W g f0 f1 f2) (x : Int) : I7 w0 (W.setCell ⟨g, 2, none⟩ (.int .u64 x)) g f0 f1 x := by
 obtain ⟨A0, c0, hb, hg, hr0⟩ := h
 exact ⟨A0, c0, by simpa using blk_set hb 2 (.int .u64 x), hg, hr0⟩
theorem I7.zI {P Q : Prop} (h : P) (k : P → Q := by intro h_; repeat (first | (with_reducible first | exact h_ | apply I7.alloc | apply I7.drewN | apply I7.drew | apply I7.set_1 | apply I7.set_2) | exact h_)) : Q := k h
theorem I7.zJ {P Q R : Prop} (h : P) (g : R) (k : P → R → Q := by intro h_ g_; repeat (first | (with_reducible first | exact h_ | apply I7.alloc | apply I7.drewN | apply I7.drew | apply I7.set_1 | apply I7.set_2 | refine I7.far ?_ g_ _) | exact h_)) : Q := k h g
theorem I7.zF {w0 W : World} {g : Nat} {f0 : List Int} {f1 : Int} {f2 : Int} {W' : World} {R : Prop} (h : I7 w0 W g f0 f1 f2) (gg : R) (k : I7 w0 W g f0 f1 f2 → R → I7 w0 W' g f0 f1 f2 := by intro h_ g_; repeat (first | (with_reducible first | exact h_ | apply I7.alloc | apply I7.drewN | apply I7.drew | apply I7.set_1 | apply I7.set_2 | refine I7.far ?_ g_ _) | exact h_)) : I7 w0 W' g f0 f1 f2 := k h gg
theorem zhI71 {w0 W0 W : World} {g : Nat} {f0 : List Int} {f1 : Int} {f2 : Int} {f0_ : List Int} {f1_ : Int} {f2_ : Int} (h : I7 w0 W0 g f0 f1 f2) (k : I7 w0 W0 g f0 f1 f2 → I7 w0 W g f0_ f1_ f2_ := by intro h_; repeat (first | (with_reducible first | exact h_ | apply I7.alloc | apply I7.drewN | apply I7.drew | apply I7.set_1 | apply I7.set_2 | refine I7.far ?_ (Aq.o (by with_reducible assumption)) _) | exact h_)) : I7 w0 W g f0_ f1_ f2_ := k h
def spec_l1Cur_next.f (s0_0 : List Int) (s0_1 : Int) (s0_2 : Int) : Option (Int × Int × Int) := if s0_1 < (s0_0.length : Int) then (if 0 ≤ s0_1 then (if (wrap64 (s0_1 + 1)) ≤ (s0_0.length : Int) then (some (wrap64 (rd s0_0 s0_1), wrap64 (s0_1 + 1), IntKind.u64.wrap ((IntKind.u64.wrap ((IntKind.u64.wrap (s0_2 * 6364136223846793005)) + (IntKind.u64.wrap (wrap64 (rd s0_0 s0_1))))) + 889889))) else (some (wrap64 (Go.bits .and .u64 ((IntKind.u64.wrap ((IntKind.u64.wrap ((IntKind.u64.wrap (s0_2 * 6364136223846793005)) + (IntKind.u64.wrap (wrap64 (rd s0_0 s0_1))))) + 889889)) / 1099511627776) 255), wrap64 (s0_1 + 1), IntKind.u64.wrap ((IntKind.u64.wrap ((IntKind.u64.wrap (s0_2 * 6364136223846793005)) + (IntKind.u64.wrap (wrap64 (rd s0_0 s0_1))))) + 889889)))) else (none)) else (if (wrap64 (s0_1 + 1)) ≤ (s0_0.length : Int) then (some (0, wrap64 (s0_1 + 1), IntKind.u64.wrap ((IntKind.u64.wrap (IntKind.u64.wrap (s0_2 * 6364136223846793005))) + 889889))) else (some (wrap64 (Go.bits .and .u64 ((IntKind.u64.wrap ((IntKind.u64.wrap (IntKind.u64.wrap (s0_2 * 6364136223846793005))) + 889889)) / 1099511627776) 255), wrap64 (s0_1 + 1), IntKind.u64.wrap ((IntKind.u64.wrap (IntKind.u64.wrap (s0_2 * 6364136223846793005))) + 889889))))
theorem spec_l1Cur_next.calls (g : Nat) (s0_0 : List Int) (s0_1 : Int) (s0_2 : Int) (r1 : Int) (r2 : Int) (r3 : Int) (w0 w : World) (hI : I7 w0 w g s0_0 s0_1 s0_2) (hB : Below w0.heap.size w0 w) (h : spec_l1Cur_next.f s0_0 s0_1 s0_2 = some (r1, r2, r3)) :
 Calls Tryz.prog 110 #[.pointer (some ⟨g, 0, none⟩)] w fun e w' => e = .returned (.int .i64 r1) ∧ I7 w0 w' g s0_0 r2 r3 ∧ Below w0.heap.size w0 w' ∧ Kq w w' g none := by
 have HI0 := am hI
 have HK := am (Kq.refl w g none)
 have HL := am hB.size
 clear hI
 have HW0 := am hB.size
 have HB := am hB
 clear hB
 unfold spec_l1Cur_next.f at h
 have H := h
 clear h
 by_cases c2 : s0_1 < (s0_0.length : Int)
 rotate_left
 ·rw [if_neg c2] at H
  have c2b0 := decide_eq_false c2
  clear c2
  by_cases c7 : (wrap64 (s0_1 + 1)) ≤ (s0_0.length : Int)
  ·rw [if_pos c7] at H
   have c7b0 := decide_eq_true c7
   clear c7
   focus
    simp only [Option.some.injEq, Prod.mk.injEq] at H
    obtain ⟨rfl, rfl, rfl⟩ := H
    obtain ⟨ASz8_0, cSz8_0, HGz8, hgz8, HSz8_0⟩ := HI0.o
    have hcz8_0 := cellS71_0 HGz8
    have hcz8_1 := cellS71_1 HGz8
    have hcz8_2 := cellS71_2 HGz8
    have hfz8_1 := bkf HGz8 1
    have hfz8_2 := bkf HGz8 2
    clear HGz8 hgz8
    go_enter Tryz.func110, Tryz.ntmps110
    go_wp2
    repeat (go_quiet (fail); try go_wp2)
    go_ret
    exact ⟨zew, by exact I7.zI HI0.o, by first | exact zBy HB.o (I7.ge HI0.o) | exact zBx HB.o, by exact zKx HK.o⟩
  rw [if_neg c7] at H
  have c7b0 := decide_eq_false c7
  clear c7
  focus
   simp only [Option.some.injEq, Prod.mk.injEq] at H
   obtain ⟨rfl, rfl, rfl⟩ := H
   obtain ⟨ASz9_0, cSz9_0, HGz9, hgz9, HSz9_0⟩ := HI0.o
   have hcz9_0 := cellS71_0 HGz9
   have hcz9_1 := cellS71_1 HGz9
   have hcz9_2 := cellS71_2 HGz9
   have hfz9_1 := bkf HGz9 1
   have hfz9_2 := bkf HGz9 2
   clear HGz9 hgz9
   go_enter Tryz.func110, Tryz.ntmps110
   go_wp2
   repeat (go_quiet (fail); try go_wp2)
   go_ret
   exact ⟨zew, by exact I7.zI HI0.o, by first | exact zBy HB.o (I7.ge HI0.o) | exact zBx HB.o, by exact zKx HK.o⟩
 rw [if_pos c2] at H
 have c2b0 := decide_eq_true c2
 clear c2
 obtain ⟨c3, H⟩ := zin H
 have c3b0 := decide_eq_true c3
 clear c3
 by_cases c4 : (wrap64 (s0_1 + 1)) ≤ (s0_0.length : Int)
 rotate_left
 ·rw [if_neg c4] at H
  have c4b0 := decide_eq_false c4
  clear c4
  focus
   simp only [Option.some.injEq, Prod.mk.injEq] at H
   obtain ⟨rfl, rfl, rfl⟩ := H
   obtain ⟨ASz6_0, cSz6_0, HGz6, hgz6, HSz6_0⟩ := HI0.o
   have hcz6_0 := cellS71_0 HGz6
   have hcz6_1 := cellS71_1 HGz6
   have hcz6_2 := cellS71_2 HGz6
   have hfz6_1 := bkf HGz6 1
   have hfz6_2 := bkf HGz6 2
   clear HGz6 hgz6
   have p212 : 0 ≤ (s0_1 : Int) := zod
   have q212 : s0_1 < (s0_0.length : Int) := zod
   obtain ⟨ad212, e212, hx212_0⟩ := Kd.at_int HSz6_0 s0_1 p212 q212
   cases e212
   replace hx212_0 := pw_cell_below HB.o hx212_0
   replace p212 := eq_true p212
   replace q212 := eq_true q212
   go_enter Tryz.func110, Tryz.ntmps110
   go_wp2
   repeat (go_quiet (fail); try go_wp2)
   go_ret
   exact ⟨zew, by exact I7.zI HI0.o, by first | exact zBy HB.o (I7.ge HI0.o) | exact zBx HB.o, by exact zKx HK.o⟩
 rw [if_pos c4] at H
 have c4b0 := decide_eq_true c4
 clear c4
 focus
  simp only [Option.some.injEq, Prod.mk.injEq] at H
  obtain ⟨rfl, rfl, rfl⟩ := H
  obtain ⟨ASz5_0, cSz5_0, HGz5, hgz5, HSz5_0⟩ := HI0.o
  have hcz5_0 := cellS71_0 HGz5
  have hcz5_1 := cellS71_1 HGz5
  have hcz5_2 := cellS71_2 HGz5
  have hfz5_1 := bkf HGz5 1
  have hfz5_2 := bkf HGz5 2
  clear HGz5 hgz5
  have p212 : 0 ≤ (s0_1 : Int) := zod
  have q212 : s0_1 < (s0_0.length : Int) := zod
  obtain ⟨ad212, e212, hx212_0⟩ := Kd.at_int HSz5_0 s0_1 p212 q212
  cases e212
  replace hx212_0 := pw_cell_below HB.o hx212_0
  replace p212 := eq_true p212
  replace q212 := eq_true q212
  go_enter Tryz.func110, Tryz.ntmps110
  go_wp2
  repeat (go_quiet (fail); try go_wp2)
  go_ret
  exact ⟨zew, by exact I7.zI HI0.o, by first | exact zBy HB.o (I7.ge HI0.o) | exact zBx HB.o, by exact zKx HK.o⟩
end Go.Proofs.YtlfoojgbiafffaaGreatDoor.XFnBulletins
