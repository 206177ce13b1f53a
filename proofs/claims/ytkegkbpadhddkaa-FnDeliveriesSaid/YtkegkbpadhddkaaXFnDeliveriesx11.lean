-- written by wip/tools/xprint.py (a program of this project) out of the translation
import Derived.Test.YtkegkbpadhddkaaXFnDeliveriesx0
import Derived.Test.YtkegkbpadhddkaaXFnDeliveriesx4
import Derived.Test.YtkegkbpadhddkaaXFnDeliveriesx5
namespace Go.Proofs.Ytkegkbpadhddkaa.XFnDeliveries
open Go.RowKit Go.Proofs.YtkegkbpadhddkaaW.PrintWords Go.Proofs.YtkegkbpadhddkaaW.PrintLast Go.Proofs.YtkegkbpadhddkaaW.PrintMore
attribute [local go_sem] max2_int min2_int max_two min_two max_three min_three max_four min_four   -- for this text's walks alone
set_option linter.unusedVariables false
set_option linter.unusedSimpArgs false

/-! ### spec_DrawSendNext: function 51 -/
def spec_DrawSendNext.f (k : Nat) (l0 : List Int) : Option ((List (S59)) × Int) := (spec_l1Cur_queue.f k l0 0 0).bind fun bt325 => ((spec_l1Cur_minute19.f l0 bt325.2.1 bt325.2.2).bind fun bt330 => (some (bt325.1, bt330.1)))
theorem spec_DrawSendNext.mono : ∀ a0 k, LeO (spec_DrawSendNext.f k a0) (spec_DrawSendNext.f (k + 1) a0) := by
 intro a0 k
 unfold spec_DrawSendNext.f
 repeat' first
  | (with_reducible exact spec_l1Cur_queue.mono _ _ _ _)
  | (with_reducible exact LeO.refl _)
  | (with_reducible exact LeO.none _)
  | (with_reducible refine LeO.ite ?_ ?_)
  | (with_reducible refine LeO.bind ?_ (fun _ => ?_))
  | exact spec_l1Cur_queue.mono _ _ _ _
  | exact LeO.none _
  | refine LeO.ite ?_ ?_
  | refine LeO.bind ?_ (fun _ => ?_)
set_option maxHeartbeats 8000000 in
set_option maxRecDepth 100000 in
theorem spec_DrawSendNext.calls (k : Nat) (A0 : Option Addr) (c0 : Nat) (l0 : List Int) (r1 : List (S59)) (r2 : Int) (w : World) (hr0 : Kd.C (Kd.int .u8) w A0 l0.length l0) (hc0 : l0.length ≤ c0) (h : spec_DrawSendNext.f k l0 = some (r1, r2)) :
 Calls Try.prog 51 #[.slice A0 l0.length c0] w fun e w' => ∃ v0_ : Value, e = .returned (.tuple #[v0_, .int .i64 r2]) ∧ Kd.R k59 59 w' w.heap.size (fun _ => True) v0_ r1 ∧ Below w.heap.size w w' := by
 have hu78 := Try.underlying78
 have HR0 := Aside0.mk hr0
 have HC0 := Aside0.mk hc0
 clear hr0 hc0
 have HB := Aside0.mk (Below.refl w.heap.size w)
 have H : ((spec_l1Cur_queue.f k l0 0 0).bind fun bt325 => ((spec_l1Cur_minute19.f l0 bt325.2.1 bt325.2.2).bind fun bt330 => (some (bt325.1, bt330.1)))) = some (r1, r2) := h
 clear h
 replace H := Option.bind_eq_some_iff.mp H
 obtain ⟨⟨t325, t328, t329⟩, A20, H⟩ := H
 replace H : ((spec_l1Cur_minute19.f l0 t328 t329).bind fun bt330 => (some (t325, bt330.1))) = some (r1, r2) := H
 have A2 := Aside0.mk A20
 clear A20
 replace H := Option.bind_eq_some_iff.mp H
 obtain ⟨⟨t330, t331, t332⟩, A30, H⟩ := H
 replace H : (some (t325, t330)) = some (r1, r2) := H
 have A3 := Aside0.mk A30
 clear A30
 focus
  simp only [Option.some.injEq, Prod.mk.injEq] at H
  obtain ⟨rfl, rfl⟩ := H
  go_enter Try.func51, Try.ntmps51
  go_wp2_with (first | ((with_reducible refine gate_dst (N := 8) rfl ?_); refine box_event ?hg (N := 8) ?hd (cs := #[.slice A0 l0.length c0, .int .i64 0, .int .u64 0]) (t := 78) ?hr ?_; (case hd => rfl); (case hg => rfl); (case hr => exact zsx); intro gb324 hg w4 hbox hb; have n0_ := Aside0.mk (below_step (zBx HB.out) hb); have n1_ := Aside0.mk (hbox); have n2_ := Aside0.mk ((by rw [hg]; exact (below_size (zBx HB.out)) : w.heap.size ≤ gb324)); have n3_ := Aside0.mk ((by rw [hg]; exact (below_size (zBx HB.out)) : w.heap.size ≤ gb324)); clear HB; have HB := n0_; have BK324 := n1_; have GW324 := n2_; have GE324 := n3_; clear n0_ n1_ n2_ n3_; clear hb hbox hg) | ((with_reducible refine gate_callee (f := 87) rfl ?_); refine goesL_ (some 10) rfl rfl Try.func87 (by kernel_rfl) rfl #[.pointer (some ⟨gb324, 0, none⟩)] rfl zlx ?_; (with_reducible refine (spec_l1Cur_queue.calls k gb324 l0 0 0 t325 t328 t329 w _ ?side1 ?side2 A2.out).mono ?_); (case side1 => first | exact ⟨_, _, (zbx BK324.out), GE324.out, HR0.out⟩); (case side2 => first | exact zBy HB.out (IsS78.ge HI324.out) | exact zBx HB.out); rintro e w5 ⟨v326, rfl, ho0, hi, hb, hk⟩; refine ⟨_, rfl, ?_⟩; have n0_ := Aside0.mk (Kd.R_lower ho0 (below_size (by first | exact zBy HB.out (IsS78.ge HI324.out) | exact zBx HB.out))); have n1_ := Aside0.mk (hb); have n2_ := Aside0.mk (hi); clear HB; have HO327 := n0_; have HB := n1_; have HI324 := n2_; clear n0_ n1_ n2_; (try clear hb); (try clear hb2); (try clear hk); (try clear hi); (try clear ho0)) | ((with_reducible refine gate_callee (f := 88) rfl ?_); refine goesL_ (some 13) rfl rfl Try.func88 (by kernel_rfl) rfl #[.pointer (some ⟨gb324, 0, none⟩)] rfl zlx ?_; (with_reducible refine (spec_l1Cur_minute19.calls gb324 l0 t328 t329 t330 t331 t332 w _ ?side1 ?side2 A3.out).mono ?_); (case side1 => exact IsS78.zI HI324.out); (case side2 => first | exact zBy HB.out (IsS78.ge HI324.out) | exact zBx HB.out); rintro e w6 ⟨rfl, hi, hb, hk⟩; refine ⟨_, rfl, ?_⟩; have n0_ := Aside0.mk (Kd.R_mono (Kd.R_keep (IsS78.apart (show IsS78 w _ gb324 l0 t328 t329 from IsS78.zI HI324.out) (zRx HO327.out) (by decide)) hk (fun _ h => h.2)) (fun _ h => h.1)); have n1_ := Aside0.mk (hb); have n2_ := Aside0.mk (hi); clear HO327; clear HB; clear HI324; have HO327 := n0_; have HB := n1_; have HI324 := n2_; clear n0_ n1_ n2_; (try clear hb); (try clear hb2); (try clear hk); (try clear hi)))
  go_ret2
  exact ⟨_, by first | rfl | (simp [errW_none, errW_some] <;> rfl) | (simp [*, errW_none, errW_some] <;> rfl), by (with_reducible repeat (first | apply Kd.R_alloc | apply Kd.R_drewN | apply Kd.R_drew)); exact HO327.out, by first | exact zBy HB.out (IsS78.ge HI324.out) | exact zBx HB.out⟩

end Go.Proofs.Ytkegkbpadhddkaa.XFnDeliveries
