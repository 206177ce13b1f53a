/-
  The walk of impl.ParseWarningLine. Conditions: none of ours.
-/
import Derived.Test.YtlfoojgbiafffaaGreatDoorStrsD
import Derived.Test.YtlfoojgbiafffaaGreatDoorWTab
import Derived.Test.YtlfoojgbiafffaaGreatDoorWFour
import Derived.Test.YtlfoojgbiafffaaGreatDoorWN
import Derived.Test.YtlfoojgbiafffaaGreatDoorWNEv
import Derived.Test.YtlfoojgbiafffaaGreatDoorWRepsOne
namespace Go.Proofs.YtlfoojgbiafffaaGreatDoor.Strs
open Go.RowKit Go.Proofs.YtlfoojgbiafffaaGreatDoorW.PrintWords Go.Proofs.YtlfoojgbiafffaaGreatDoorW.PrintLast Go.Proofs.YtlfoojgbiafffaaGreatDoorW.PrintMore
set_option linter.unusedVariables false
set_option linter.unusedSimpArgs false
attribute [local go_sem] max2_int min2_int max_two min_two max_three min_three max_four min_four
def levelAt.f (lv : ByteArray) : Option Int := ixS.l0 (fun x => (B (Lib.toLowerA x.data.toList)).toList == lv.toList) 6 (levL.map B) 0
theorem C_of {w : World} {b : Nat} {l : List (List UInt8)} (hl : l.length ≤ 100) (h : ∀ (i : Nat) x, l[i]? = some x → w.cell? ⟨b, i, none⟩ = some (.string (B x))) : Kd.C Kd.string w (some ⟨b, 0, none⟩) (l.map B).length (l.map B) := by
  refine ⟨rfl, by rw [List.length_map]; omega, fun _ => ⟨_, rfl, fun j p hj => ?_⟩⟩
  rw [List.getElem?_map] at hj
  obtain ⟨x, hx, rfl⟩ := Option.map_eq_some_iff.1 hj
  refine ⟨[.string (B x)], rfl, rfl, fun i u hu => ?_⟩
  cases i with
  | zero =>
    obtain rfl := Option.some.inj hu
    have e : (⟨b, 0, none⟩ : Addr).add (j * Kd.string.sz + 0) = ⟨b, j, none⟩ := by
      show (⟨b, 0, none⟩ : Addr).add (j * 1 + 0) = _
      rw [Nat.mul_one, Nat.add_zero]
      rcases Nat.eq_zero_or_pos j with rfl | hj
      · rfl
      · rw [Addr.add, if_neg (by omega)]; simp
    rw [e]
    exact h j x hx
  | succ i => simp at hu
theorem levelAt.calls (g : Nat) (lv : ByteArray) (r : Int) (w : World) (hc : w.cell? ⟨g, 0, none⟩ = some (.string lv)) (hL : Laid w) (h : levelAt.f lv = some r) :
    Calls Tryz.prog 40 #[.slice (some ⟨0, 0, none⟩) 4 4, .func (.func 41) #[] #[.pointer (some ⟨g, 0, none⟩)]] w fun e w' => e = .returned (.int .i64 r) ∧ Below w.heap.size w w' := by
  refine ixS.calls 6 (some ⟨0, 0, none⟩) 4 (levL.map B) _ 41 Tryz.f41 #[.pointer (some ⟨g, 0, none⟩)] r w Tryz.func41 (by kernel_rfl) (by kernel_rfl) ?_ (C_of (by decide) hL.lev) (Nat.le_refl _) h
  intro i h0 h1 W hb
  obtain ⟨x, hx⟩ : ∃ x, (levL.map B)[i.toNat]? = some x := ⟨_, rdOf_get _ i h0 h1⟩
  have e := rdOf_get _ i h0 h1
  generalize rdOf ByteArray.empty (levL.map B) i = y at e ⊢
  rw [List.getElem?_map] at e
  obtain ⟨z, hz, rfl⟩ := Option.map_eq_some_iff.1 e
  have hm := List.mem_of_getElem? hz
  refine closure41 (B z) lv g W (pw_cell_below hb hc) ?_ ?_
  · have : ∀ z ∈ levL, (B z).size ≤ 140737488355328 := by decide
    exact this z hm
  · have : ∀ z ∈ levL, ∀ b ∈ (B z).data.toList, b.toNat < 128 := by decide
    exact this z hm
def topicAt.f (t : ByteArray) : Option Int := qv.f 8 (topL.map B) t
theorem topicAt.calls (t : ByteArray) (r : Int) (w : World) (hL : Laid w) (h : topicAt.f t = some r) :
    Calls Tryz.prog 43 #[.slice (some ⟨1, 0, none⟩) 6 6, .string t] w fun e w' => e = .returned (.int .i64 r) ∧ Dq w w' :=
  qv.calls 8 (some ⟨1, 0, none⟩) 6 (topL.map B) t r w (C_of (by decide) hL.top) (Nat.le_refl _) h
def pwRaw.j0 : Nat → ByteArray → ByteArray → List Int → Int → Bool → Option (Int × Int × Int × Int × Int × Int × Bool)
 | 0, _, _, _, _, _ => none
 | k + 1, x0, x9, x16, x18, x67 => if x67 = true then (some (0, 0, 0, 0, 0, 0, false)) else (if 0 < (x16.length : Int) then ((topicAt.f x9).bind fun t232 => (if 1 < (x16.length : Int) then (if 2 < (x16.length : Int) then (if 3 < (x16.length : Int) then ((qF.f (rd x16 0) t232 x18 (rd x16 1) (rd x16 2) (rd x16 3)).bind fun t237 => (if t237 = true then ((qP.f (rd x16 0) t232 x18 (rd x16 1) (rd x16 2) (rd x16 3)).bind fun t238 => (if t238.toList = x0.toList then (some (rd x16 0, t232, x18, rd x16 1, rd x16 2, rd x16 3, true)) else (some (0, 0, 0, 0, 0, 0, false)))) else (some (0, 0, 0, 0, 0, 0, false)))) else (none)) else (none)) else (none))) else (none))
def pwRaw.f (k : Nat) (a0 : ByteArray) : Option (Int × Int × Int × Int × Int × Int × Bool) := (strings_Cut.f a0 (⟨#[58, 32]⟩ : ByteArray)).bind fun bt207 => ((strings_Cut.f bt207.2.1 (⟨#[32]⟩ : ByteArray)).bind fun bt210 => ((strings_Cut.f bt210.2.1 (⟨#[44, 32, 97, 114, 101, 97, 32]⟩ : ByteArray)).bind fun bt214 => ((strings_Cut.f bt214.2.1 (⟨#[44, 32, 104, 111, 117, 114, 115, 32]⟩ : ByteArray)).bind fun bt217 => ((strings_Cut.f bt217.2.1 (⟨#[45]⟩ : ByteArray)).bind fun bt220 => ((qu.f k (([bt207.1, bt217.1, bt220.1, bt220.2.1] : List ByteArray))).bind fun bt226 => ((levelAt.f bt210.1).bind fun t230 => (if bt226.2 = true then (pwRaw.j0 k a0 bt214.1 bt226.1 t230 (decide (t230 < 1))) else (pwRaw.j0 k a0 bt214.1 bt226.1 t230 true))))))))
def pwRaw.T10 : Bool × List (List Nat × List Nat) := (true, [([], []), ([0], [0]), ([1], [1]), ([], []), ([], []), ([3, 4], [3, 4]), ([], []), ([], []), ([7], [7]), ([8], [8]), ([], []), ([10], [10]), ([11], [11]), ([], []), ([13], [13]), ([14], [14]), ([2, 5, 6, 9, 12, 15], [2, 5, 6, 9, 12, 15]), ([], []), ([17, 16, 5, 0, 1, 2, 3, 4, 5, 6, 7, 8, 9, 10, 11, 12, 13, 14, 15, 16, 17], [16, 17])])
def pwRaw.B10 : List Nat := [0, 1, 3, 0, 0, 24, 0, 0, 128, 384, 0, 1024, 3072, 0, 8192, 24576, 65535, 0, 262143]
theorem pwRaw.tab10 : rtab .any (opsOf Tryz.f9 10) = pwRaw.T10 := by kernel_rfl
theorem pwRaw.bits10 : waitsOk pwRaw.T10.2 pwRaw.B10 = true := by kernel_rfl
set_option maxHeartbeats 8000000 in
set_option maxRecDepth 100000 in
theorem pwRaw.calls (k : Nat) (a0 : ByteArray) (r1 : Int) (r2 : Int) (r3 : Int) (r4 : Int) (r5 : Int) (r6 : Int) (r7 : Bool) (w : World) (hL : Laid w) (h : pwRaw.f k a0 = some (r1, r2, r3, r4, r5, r6, r7)) :
 Calls Tryz.prog 9 #[.string a0] w fun e w' => e = .returned (.tuple #[.agg #[.int .i64 r1, .int .i64 r2, .int .i64 r3, .int .i64 r4, .int .i64 r5, .int .i64 r6], .bool r7]) ∧ Below w.heap.size w w' := by
 have hu25 := Tryz.underlying25
 have hu62 := Tryz.underlying62
 have hu65 := Tryz.underlying65
 have HL := Aq.mk hL
 clear hL
 have HB := Aq.mk (Below.refl w.heap.size w)
 have H : ((strings_Cut.f a0 (⟨#[58, 32]⟩ : ByteArray)).bind fun bt207 => ((strings_Cut.f bt207.2.1 (⟨#[32]⟩ : ByteArray)).bind fun bt210 => ((strings_Cut.f bt210.2.1 (⟨#[44, 32, 97, 114, 101, 97, 32]⟩ : ByteArray)).bind fun bt214 => ((strings_Cut.f bt214.2.1 (⟨#[44, 32, 104, 111, 117, 114, 115, 32]⟩ : ByteArray)).bind fun bt217 => ((strings_Cut.f bt217.2.1 (⟨#[45]⟩ : ByteArray)).bind fun bt220 => ((qu.f k (([bt207.1, bt217.1, bt220.1, bt220.2.1] : List ByteArray))).bind fun bt226 => ((levelAt.f bt210.1).bind fun t230 => (if bt226.2 = true then (pwRaw.j0 k a0 bt214.1 bt226.1 t230 (decide (t230 < 1))) else (pwRaw.j0 k a0 bt214.1 bt226.1 t230 true))))))))) = some (r1, r2, r3, r4, r5, r6, r7) := h
 clear h
 replace H := Option.bind_eq_some_iff.mp H
 obtain ⟨⟨t207, t208, t209⟩, A20, H⟩ := H
 replace H : ((strings_Cut.f t208 (⟨#[32]⟩ : ByteArray)).bind fun bt210 => ((strings_Cut.f bt210.2.1 (⟨#[44, 32, 97, 114, 101, 97, 32]⟩ : ByteArray)).bind fun bt214 => ((strings_Cut.f bt214.2.1 (⟨#[44, 32, 104, 111, 117, 114, 115, 32]⟩ : ByteArray)).bind fun bt217 => ((strings_Cut.f bt217.2.1 (⟨#[45]⟩ : ByteArray)).bind fun bt220 => ((qu.f k (([t207, bt217.1, bt220.1, bt220.2.1] : List ByteArray))).bind fun bt226 => ((levelAt.f bt210.1).bind fun t230 => (if bt226.2 = true then (pwRaw.j0 k a0 bt214.1 bt226.1 t230 (decide (t230 < 1))) else (pwRaw.j0 k a0 bt214.1 bt226.1 t230 true)))))))) = some (r1, r2, r3, r4, r5, r6, r7) := H
 have A2 := Aq.mk A20
 clear A20
 replace H := Option.bind_eq_some_iff.mp H
 obtain ⟨⟨t210, t211, t212⟩, A30, H⟩ := H
 replace H : ((strings_Cut.f t211 (⟨#[44, 32, 97, 114, 101, 97, 32]⟩ : ByteArray)).bind fun bt214 => ((strings_Cut.f bt214.2.1 (⟨#[44, 32, 104, 111, 117, 114, 115, 32]⟩ : ByteArray)).bind fun bt217 => ((strings_Cut.f bt217.2.1 (⟨#[45]⟩ : ByteArray)).bind fun bt220 => ((qu.f k (([t207, bt217.1, bt220.1, bt220.2.1] : List ByteArray))).bind fun bt226 => ((levelAt.f t210).bind fun t230 => (if bt226.2 = true then (pwRaw.j0 k a0 bt214.1 bt226.1 t230 (decide (t230 < 1))) else (pwRaw.j0 k a0 bt214.1 bt226.1 t230 true))))))) = some (r1, r2, r3, r4, r5, r6, r7) := H
 have A3 := Aq.mk A30
 clear A30
 replace H := Option.bind_eq_some_iff.mp H
 obtain ⟨⟨t214, t215, t216⟩, A40, H⟩ := H
 replace H : ((strings_Cut.f t215 (⟨#[44, 32, 104, 111, 117, 114, 115, 32]⟩ : ByteArray)).bind fun bt217 => ((strings_Cut.f bt217.2.1 (⟨#[45]⟩ : ByteArray)).bind fun bt220 => ((qu.f k (([t207, bt217.1, bt220.1, bt220.2.1] : List ByteArray))).bind fun bt226 => ((levelAt.f t210).bind fun t230 => (if bt226.2 = true then (pwRaw.j0 k a0 t214 bt226.1 t230 (decide (t230 < 1))) else (pwRaw.j0 k a0 t214 bt226.1 t230 true)))))) = some (r1, r2, r3, r4, r5, r6, r7) := H
 have A4 := Aq.mk A40
 clear A40
 replace H := Option.bind_eq_some_iff.mp H
 obtain ⟨⟨t217, t218, t219⟩, A50, H⟩ := H
 replace H : ((strings_Cut.f t218 (⟨#[45]⟩ : ByteArray)).bind fun bt220 => ((qu.f k (([t207, t217, bt220.1, bt220.2.1] : List ByteArray))).bind fun bt226 => ((levelAt.f t210).bind fun t230 => (if bt226.2 = true then (pwRaw.j0 k a0 t214 bt226.1 t230 (decide (t230 < 1))) else (pwRaw.j0 k a0 t214 bt226.1 t230 true))))) = some (r1, r2, r3, r4, r5, r6, r7) := H
 have A5 := Aq.mk A50
 clear A50
 replace H := Option.bind_eq_some_iff.mp H
 obtain ⟨⟨t220, t221, t222⟩, A60, H⟩ := H
 replace H : ((qu.f k (([t207, t217, t220, t221] : List ByteArray))).bind fun bt226 => ((levelAt.f t210).bind fun t230 => (if bt226.2 = true then (pwRaw.j0 k a0 t214 bt226.1 t230 (decide (t230 < 1))) else (pwRaw.j0 k a0 t214 bt226.1 t230 true)))) = some (r1, r2, r3, r4, r5, r6, r7) := H
 have A6 := Aq.mk A60
 clear A60
 obtain ⟨y223, hy223⟩ : ∃ y_ : List ByteArray, y_ = (([t207, t217, t220, t221] : List ByteArray)) := ⟨_, rfl⟩
 replace H : ((qu.f k y223).bind fun bt226 => ((levelAt.f t210).bind fun t230 => (if bt226.2 = true then (pwRaw.j0 k a0 t214 bt226.1 t230 (decide (t230 < 1))) else (pwRaw.j0 k a0 t214 bt226.1 t230 true)))) = some (r1, r2, r3, r4, r5, r6, r7) := by first | (rw [hy223]; with_reducible exact H) | (have H2_ := (Option.bind_some _ _).symm.trans H; rw [hy223]; with_reducible exact H2_) | (have H2_ := (Option.bind_some _ _).symm.trans H; with_reducible exact H2_) | with_reducible exact H | (rw [hy223]; exact H) | exact H
 have Ny223 := Aq.mk hy223
 clear hy223
 replace H := Option.bind_eq_some_iff.mp H
 obtain ⟨⟨t226, t227⟩, A70, H⟩ := H
 replace H : ((levelAt.f t210).bind fun t230 => (if t227 = true then (pwRaw.j0 k a0 t214 t226 t230 (decide (t230 < 1))) else (pwRaw.j0 k a0 t214 t226 t230 true))) = some (r1, r2, r3, r4, r5, r6, r7) := H
 have A7 := Aq.mk A70
 clear A70
 replace H := Option.bind_eq_some_iff.mp H
 obtain ⟨t230, A80, H⟩ := H
 replace H : (if t227 = true then (pwRaw.j0 k a0 t214 t226 t230 (decide (t230 < 1))) else (pwRaw.j0 k a0 t214 t226 t230 true)) = some (r1, r2, r3, r4, r5, r6, r7) := H
 have A8 := Aq.mk A80
 clear A80
 have HC9 := Aq.mk H
 clear H
 go_enter Tryz.func9, Tryz.ntmps9
 go_upto_region 8 with (first | ((with_reducible refine gate_dst (N := 2) rfl ?_); refine box_event ?hg (N := 2) ?hd (cs := #[.int .i64 0, .int .i64 0, .int .i64 0, .int .i64 0, .int .i64 0, .int .i64 0]) (t := 25) ?hr ?_; (case hd => rfl); (case hg => rfl); (case hr => exact zsx); intro gb206 hg w10 hbox hb; have BK206 := Aq.mk (hbox); have GW206 := zns hg HB.o; have GE206 := zns hg HB.o; replace HB := Aq.mk (bsq (zBx HB.o) hb); clear hb hbox hg) | ((with_reducible refine gate_callee (f := 38) rfl ?_); refine goesL_ (some 22) rfl rfl Tryz.func38 (by kernel_rfl) rfl #[.string a0, .string (⟨#[58, 32]⟩ : ByteArray)] rfl zlx ?_; (with_reducible refine (strings_Cut.calls a0 (⟨#[58, 32]⟩ : ByteArray) t207 t208 t209 _ ?sideL A2.o).mono ?_); (case sideL => exact Laid.below HL.o (zhB HB.o)); rintro e w' ⟨rfl, ⟨nd, rfl⟩⟩; refine ⟨_, rfl, ?_⟩; (try (rw [drewN_self w10]; generalize hq_ : World.drewN w10 _ = w10; replace BK206 : Aq (w10.heap[gb206]? = some (.cells #[.int .i64 0, .int .i64 0, .int .i64 0, .int .i64 0, .int .i64 0, .int .i64 0] 25 (0, 0))) := ⟨by rw [← hq_]; exact (zbx BK206.o)⟩; replace HB : Aq (Below w.heap.size w w10) := ⟨by rw [← hq_]; exact (zBy HB.o GE206.o)⟩; clear hq_))) | ((with_reducible refine gate_callee (f := 38) rfl ?_); refine goesL_ (some 28) rfl rfl Tryz.func38 (by kernel_rfl) rfl #[.string t208, .string (⟨#[32]⟩ : ByteArray)] rfl zlx ?_; (with_reducible refine (strings_Cut.calls t208 (⟨#[32]⟩ : ByteArray) t210 t211 t212 _ ?sideL A3.o).mono ?_); (case sideL => exact Laid.below HL.o (zhB HB.o)); rintro e w' ⟨rfl, ⟨nd, rfl⟩⟩; refine ⟨_, rfl, ?_⟩; (try (rw [drewN_self w10]; generalize hq_ : World.drewN w10 _ = w10; replace BK206 : Aq (w10.heap[gb206]? = some (.cells #[.int .i64 0, .int .i64 0, .int .i64 0, .int .i64 0, .int .i64 0, .int .i64 0] 25 (0, 0))) := ⟨by rw [← hq_]; exact (zbx BK206.o)⟩; replace HB : Aq (Below w.heap.size w w10) := ⟨by rw [← hq_]; exact (zBy HB.o GE206.o)⟩; clear hq_))) | ((with_reducible refine gate_dst (N := 7) rfl ?_); refine box_event ?hg (N := 7) ?hd (cs := #[.string (⟨#[]⟩ : ByteArray)]) (t := 9) ?hr ?_; (case hd => rfl); (case hg => rfl); (case hr => exact zsx); intro gb213 hg w11 hbox hb; have BK213 := Aq.mk (hbox); have GW213 := zns hg HB.o; have GE213 := zns hg HB.o; replace HB := Aq.mk (bsq (zBy HB.o GE206.o) hb); have NB206_213 := znl hg BK206.o; have NB213_206 := zng hg BK206.o; replace BK206 := zbl BK206.o hb; clear hb hbox hg; have hnb12 := NB213_206.o; have hnc12 := NB206_213.o; have hcz13_0 : w11.cell? ⟨gb213, 0, none⟩ = some (.string (⟨#[]⟩ : ByteArray)) := (bkc BK213.o 0).trans rfl; have hfz13_0 := bkf BK213.o 0) | ((with_reducible refine gate_callee (f := 38) rfl ?_); refine goesL_ (some 34) rfl rfl Tryz.func38 (by kernel_rfl) rfl #[.string t211, .string (⟨#[44, 32, 97, 114, 101, 97, 32]⟩ : ByteArray)] rfl zlx ?_; (with_reducible refine (strings_Cut.calls t211 (⟨#[44, 32, 97, 114, 101, 97, 32]⟩ : ByteArray) t214 t215 t216 _ ?sideL A4.o).mono ?_); (case sideL => exact Laid.below HL.o (zhB HB.o)); rintro e w' ⟨rfl, ⟨nd, rfl⟩⟩; refine ⟨_, rfl, ?_⟩) | ((with_reducible refine gate_callee (f := 38) rfl ?_); refine goesL_ (some 40) rfl rfl Tryz.func38 (by kernel_rfl) rfl #[.string t215, .string (⟨#[44, 32, 104, 111, 117, 114, 115, 32]⟩ : ByteArray)] rfl zlx ?_; (with_reducible refine (strings_Cut.calls t215 (⟨#[44, 32, 104, 111, 117, 114, 115, 32]⟩ : ByteArray) t217 t218 t219 _ ?sideL A5.o).mono ?_); (case sideL => exact Laid.below HL.o (zhB HB.o)); rintro e w' ⟨rfl, ⟨nd, rfl⟩⟩; refine ⟨_, rfl, ?_⟩) | ((with_reducible refine gate_callee (f := 38) rfl ?_); refine goesL_ (some 46) rfl rfl Tryz.func38 (by kernel_rfl) rfl #[.string t218, .string (⟨#[45]⟩ : ByteArray)] rfl zlx ?_; (with_reducible refine (strings_Cut.calls t218 (⟨#[45]⟩ : ByteArray) t220 t221 t222 _ ?sideL A6.o).mono ?_); (case sideL => exact Laid.below HL.o (zhB HB.o)); rintro e w' ⟨rfl, ⟨nd, rfl⟩⟩; refine ⟨_, rfl, ?_⟩) | ((with_reducible refine gate_dst (N := 55) rfl ?_); refine Kd.R_lit Kd.string _ 9 ?hg (N := 55) ?hd (xs := ([t207, t217, t220, t221] : List ByteArray)) (inner := [.string t207, .string t217, .string t220, .string t221]) (ok := fun _ => True) (okp := fun _ => True) ?hr ?hp (fun _ hk => hk) trivial (Below.refl _ _) (Nat.le_refl _) (by simp) ?_; (case hd => rfl); (case hg => rfl); (case hr => exact zsx); (case hp => exact (Reps.one (show Kd.M Kd.string _ _ _ t207 [.string t207] from rfl) (Reps.one (show Kd.M Kd.string _ _ _ t217 [.string t217] from rfl) (Reps.one (show Kd.M Kd.string _ _ _ t220 [.string t220] from rfl) (Reps.one (show Kd.M Kd.string _ _ _ t221 [.string t221] from rfl) (Reps.none _ _)))))); intro v224 w14 ho15 hb hg_ hnew_; clear hg_ hnew_; (first | rw [← Ny223.o] at ho15 | (simp only [Int.reduceToNat] at ho15; rw [← Ny223.o] at ho15)); have HO225 := Aq.mk (Kd.R_lower ho15 (below_size (zBz HB.o GE206.o GE213.o))); replace BK206 := zbl BK206.o hb; replace BK213 := Aq.mk (blk_below (g := gb213) (o := .cells #[.string t210] 9 (0, 0)) (by refine zbx ?_; refine blk_put (cs := #[.string (⟨#[]⟩ : ByteArray)]) ?_ 0 _ rfl; refine zbx ?_; exact BK213.o) hb); replace HB := Aq.mk (bsq (zBz HB.o GE206.o GE213.o) hb); clear hb ho15; obtain ⟨Ao16, co16, eo16⟩ := Kd.R_slice HO225.o; subst eo16) | ((with_reducible refine gate_callee (f := 39) rfl ?_); refine goesL_ (some 56) rfl rfl Tryz.func39 (by kernel_rfl) rfl #[.slice Ao16 y223.length co16] rfl zlx ?_; (with_reducible refine (qu.calls k _ _ y223 t226 t227 _ ?side1 ?side2 ?sideL A7.o).mono ?_); (case sideL => exact Laid.below HL.o (zhB HB.o)); (case side1 => exact zCx (Kd.R_reads' HO225.o).2.2); (case side2 => exact (Kd.R_reads' HO225.o).2.1); rintro e w17 ⟨v228, rfl, ho0, hb⟩; refine ⟨_, rfl, ?_⟩; replace HO225 := Aq.mk (Kd.R_below (zRx HO225.o) hb); have HO229 := Aq.mk (Kd.R_lower ho0 (below_size (zBz HB.o GE206.o GE213.o))); replace BK206 := zbl BK206.o hb; replace BK213 := zbl BK213.o hb; replace HB := Aq.mk (bsq (zBz HB.o GE206.o GE213.o) hb); (try clear hb); (try clear ho0); have hcz18_0 : w17.cell? ⟨gb213, 0, none⟩ = some (.string t210) := (bkc BK213.o 0).trans rfl; have hfz18_0 := bkf BK213.o 0) | ((with_reducible refine gate_callee (f := 40) rfl ?_); refine goesL_ (some 61) rfl rfl Tryz.func40 (by kernel_rfl) rfl #[.slice (some ⟨0, 0, none⟩) 4 4, .func (.func 41) #[] #[.pointer (some ⟨gb213, 0, none⟩)]] rfl zlx ?_; (with_reducible refine (levelAt.calls gb213 t210 t230 _ ?sq ?sideL A8.o).mono ?_); (case sq => exact ((bkc (t := 9) (cs := #[.string t210]) (zbx BK213.o) 0).trans rfl)); (case sideL => exact Laid.below HL.o (zhB HB.o)); rintro e w19 ⟨rfl, hb⟩; refine ⟨_, rfl, ?_⟩; replace HO225 := Aq.mk (Kd.R_below (zRx HO225.o) hb); replace HO229 := Aq.mk (Kd.R_below (zRx HO229.o) hb); replace BK206 := zbl BK206.o hb; replace BK213 := zbl BK213.o hb; replace HB := Aq.mk (bsq (zBz HB.o GE206.o GE213.o) hb); (try clear hb)))
 (try simp only [Act.put, List.setIfInBounds_toArray, List.set_cons_zero, List.set_cons_succ])
 go_cut [67] (fun v67 wc => ∃ (kq : Nat) (x67_8 : Bool), v67 = .bool x67_8 ∧ Aq (pwRaw.j0 kq a0 t214 t226 t230 x67_8 = some (r1, r2, r3, r4, r5, r6, r7)) ∧ Aq (kq ≤ k) ∧ Aq (Kd.R (Kd.int .i64) 3 wc w.heap.size (fun _ => True) v228 t226) ∧ Aq (wc.heap[gb206]? = some (.cells #[.int .i64 0, .int .i64 0, .int .i64 0, .int .i64 0, .int .i64 0, .int .i64 0] 25 (0, 0))) ∧ Aq (wc.heap[gb213]? = some (.cells #[.string t210] 9 (0, 0))) ∧ Aq (Below w.heap.size w wc))
 case first =>
  have H := HC9.o
  clear HC9
  by_cases c20 : t227 = true
  ·subst c20
   rw [if_pos rfl] at H
   focus
    have H' := Aq.mk H
    clear H
    go_wp2
    go_meet
    case rel => exact ⟨_, (decide (t230 < 1)), zrx, H', ⟨by first | omega | exact Nat.le_refl _⟩, ⟨by refine zDR ?_; exact HO229.o⟩, ⟨by refine zbx ?_; exact BK206.o⟩, ⟨by refine zbx ?_; exact BK213.o⟩, ⟨by exact zBz HB.o GE206.o GE213.o⟩⟩
  ·replace c20 := Bool.eq_false_iff.mpr c20
   subst c20
   rw [if_neg (show ¬ (false = true) by decide)] at H
   focus
    have H' := Aq.mk H
    clear H
    go_wp2
    go_meet
    case rel => exact ⟨_, (true), zrx, H', ⟨by first | omega | exact Nat.le_refl _⟩, ⟨by refine zDR ?_; exact HO229.o⟩, ⟨by refine zbx ?_; exact BK206.o⟩, ⟨by refine zbx ?_; exact BK213.o⟩, ⟨by exact zBz HB.o GE206.o GE213.o⟩⟩
 case rest =>
  clear HC9
  try clear c1
  try clear c2
  try clear p2
  try clear c3
  try clear c4
  try clear c9
  try clear c12
  try clear c20
  try clear hcz13_0
  try clear hcz18_0
  try clear hfz13_0
  try clear hfz18_0
  obtain ⟨kq, x67_8, rfl, HA, HJ8, HO_16, BK206, BK213, HB⟩ := hcut
  cases kq with
  | zero => exact absurd HA.o (by simp [pwRaw.j0])
  | succ kj8 =>
   have H := HA.o
   clear HA
   simp only [pwRaw.j0] at H
   by_cases c21 : x67_8 = true
   ·subst c21
    rw [if_pos rfl] at H
    focus
     simp only [Option.some.injEq, Prod.mk.injEq] at H
     obtain ⟨rfl, rfl, rfl, rfl, rfl, rfl, rfl⟩ := H
     have hnb22 := NB206_213.o
     have hnc22 := NB213_206.o
     have hcz23_0 : wc.cell? ⟨gb206, 0, none⟩ = some (.int .i64 0) := (bkc BK206.o 0).trans rfl
     have hcz23_1 : wc.cell? ⟨gb206, 1, none⟩ = some (.int .i64 0) := (bkc BK206.o 1).trans rfl
     have hcz23_2 : wc.cell? ⟨gb206, 2, none⟩ = some (.int .i64 0) := (bkc BK206.o 2).trans rfl
     have hcz23_3 : wc.cell? ⟨gb206, 3, none⟩ = some (.int .i64 0) := (bkc BK206.o 3).trans rfl
     have hcz23_4 : wc.cell? ⟨gb206, 4, none⟩ = some (.int .i64 0) := (bkc BK206.o 4).trans rfl
     have hcz23_5 : wc.cell? ⟨gb206, 5, none⟩ = some (.int .i64 0) := (bkc BK206.o 5).trans rfl
     have hfz23_0 := bkf BK206.o 0
     have hfz23_1 := bkf BK206.o 1
     have hfz23_2 := bkf BK206.o 2
     have hfz23_3 := bkf BK206.o 3
     have hfz23_4 := bkf BK206.o 4
     have hfz23_5 := bkf BK206.o 5
     go_wp2
     refine bodyPost_ret (results_ct rfl _ _ gb206 25 #[.int .i64 0, .int .i64 0, .int .i64 0, .int .i64 0, .int .i64 0, .int .i64 0] (0, 0) _ rfl (zbp BK206.o) Tryz.underlying25 rfl (by kernel_rfl)) rfl ?_
     exact ⟨by first | rfl | (simp [errW_none, errW_some] <;> rfl) | (simp [*, errW_none, errW_some] <;> rfl), by exact zBz HB.o GE206.o GE213.o⟩
   replace c21 := Bool.eq_false_iff.mpr c21
   subst c21
   rw [if_neg (show ¬ (false = true) by decide)] at H
   by_cases c24 : 0 < (t226.length : Int)
   rotate_left
   ·rw [if_neg c24] at H
    exact absurd H (by simp)
   rw [if_pos c24] at H
   have c24b0 : decide (0 < (t226.length : Int)) = true := decide_eq_true c24
   have c24b1 : decide (0 < t226.length) = true := decide_eq_true (by omega)
   clear c24
   replace H := Option.bind_eq_some_iff.mp H
   obtain ⟨t232, A250, H⟩ := H
   replace H : (if 1 < (t226.length : Int) then (if 2 < (t226.length : Int) then (if 3 < (t226.length : Int) then ((qF.f (rd t226 0) t232 t230 (rd t226 1) (rd t226 2) (rd t226 3)).bind fun t237 => (if t237 = true then ((qP.f (rd t226 0) t232 t230 (rd t226 1) (rd t226 2) (rd t226 3)).bind fun t238 => (if t238.toList = a0.toList then (some (rd t226 0, t232, t230, rd t226 1, rd t226 2, rd t226 3, true)) else (some (0, 0, 0, 0, 0, 0, false)))) else (some (0, 0, 0, 0, 0, 0, false)))) else (none)) else (none)) else (none)) = some (r1, r2, r3, r4, r5, r6, r7) := H
   have A25 := Aq.mk A250
   clear A250
   obtain ⟨c26, H⟩ := zin H
   have c26b0 : decide (1 < (t226.length : Int)) = true := decide_eq_true c26
   have c26b1 : decide (1 < t226.length) = true := decide_eq_true (by omega)
   clear c26
   obtain ⟨c27, H⟩ := zin H
   have c27b0 : decide (2 < (t226.length : Int)) = true := decide_eq_true c27
   have c27b1 : decide (2 < t226.length) = true := decide_eq_true (by omega)
   clear c27
   obtain ⟨c28, H⟩ := zin H
   have c28b0 : decide (3 < (t226.length : Int)) = true := decide_eq_true c28
   have c28b1 : decide (3 < t226.length) = true := decide_eq_true (by omega)
   clear c28
   replace H := Option.bind_eq_some_iff.mp H
   obtain ⟨t237, A290, H⟩ := H
   replace H : (if t237 = true then ((qP.f (rd t226 0) t232 t230 (rd t226 1) (rd t226 2) (rd t226 3)).bind fun t238 => (if t238.toList = a0.toList then (some (rd t226 0, t232, t230, rd t226 1, rd t226 2, rd t226 3, true)) else (some (0, 0, 0, 0, 0, 0, false)))) else (some (0, 0, 0, 0, 0, 0, false))) = some (r1, r2, r3, r4, r5, r6, r7) := H
   have A29 := Aq.mk A290
   clear A290
   have HH_ := Aq.mk H
   clear H
   try go_wp2
   replace HO_16 := Aq.mk (Kd.R_drew HO_16.o)
   replace BK206 := Aq.mk (blk_drew BK206.o)
   replace BK213 := Aq.mk (blk_drew BK213.o)
   replace HB := Aq.mk (below_drew1 HB.o)
   obtain ⟨Ao34, co34, eo34⟩ := Kd.R_slice HO_16.o
   (first | subst eo34 | (injection eo34 with f1_ f2_ f3_; have f4_ := f1_.symm; have f5_ := f3_.symm; clear f1_ f2_ f3_; subst f4_; subst f5_))
   have p231 : 0 ≤ (0 : Int) := (by omega)
   have q231 : 0 < (t226.length : Int) := of_decide_eq_true zax
   obtain ⟨ad231, e231, hx231_0⟩ := Kd.at_int (Kd.R_reads' HO_16.o).2.2 0 p231 q231
   cases e231
   have qi231 : (0 < t226.length) = True := eq_true (by omega)
   (try rw [show ((0 : Int)).toNat = 0 from rfl] at hx231_0)
   (try rw [Addr.add_zero'] at hx231_0)
   replace p231 := eq_true p231
   replace q231 := eq_true q231
   have p233 : 0 ≤ (1 : Int) := (by omega)
   have q233 : 1 < (t226.length : Int) := of_decide_eq_true zax
   obtain ⟨ad233, e233, hx233_0⟩ := Kd.at_int (Kd.R_reads' HO_16.o).2.2 1 p233 q233
   obtain rfl : ad231 = ad233 := (by injection e233)
   (try simp only [show (1 : Int).toNat = 1 from rfl, Nat.reduceMul, Nat.reduceEqDiff, Go.Addr.add, ↓reduceIte] at hx233_0)
   have qi233 : (1 < t226.length) = True := eq_true (by omega)
   (try rw [show ((1 : Int)).toNat = 1 from rfl] at hx233_0)
   replace p233 := eq_true p233
   replace q233 := eq_true q233
   have p234 : 0 ≤ (2 : Int) := (by omega)
   have q234 : 2 < (t226.length : Int) := of_decide_eq_true zax
   obtain ⟨ad234, e234, hx234_0⟩ := Kd.at_int (Kd.R_reads' HO_16.o).2.2 2 p234 q234
   obtain rfl : ad231 = ad234 := (by injection e234)
   (try simp only [show (2 : Int).toNat = 2 from rfl, Nat.reduceMul, Nat.reduceEqDiff, Go.Addr.add, ↓reduceIte] at hx234_0)
   have qi234 : (2 < t226.length) = True := eq_true (by omega)
   (try rw [show ((2 : Int)).toNat = 2 from rfl] at hx234_0)
   replace p234 := eq_true p234
   replace q234 := eq_true q234
   have p235 : 0 ≤ (3 : Int) := (by omega)
   have q235 : 3 < (t226.length : Int) := of_decide_eq_true zax
   obtain ⟨ad235, e235, hx235_0⟩ := Kd.at_int (Kd.R_reads' HO_16.o).2.2 3 p235 q235
   obtain rfl : ad231 = ad235 := (by injection e235)
   (try simp only [show (3 : Int).toNat = 3 from rfl, Nat.reduceMul, Nat.reduceEqDiff, Go.Addr.add, ↓reduceIte] at hx235_0)
   have qi235 : (3 < t226.length) = True := eq_true (by omega)
   (try rw [show ((3 : Int)).toNat = 3 from rfl] at hx235_0)
   replace p235 := eq_true p235
   replace q235 := eq_true q235
   refine start_ (n := 19) (S := fun w' => w'.cell? ad231 = some (.int .i64 (rd t226 0)) ∧ w'.cell? ⟨ad231.block, ad231.off + 1, none⟩ = some (.int .i64 (rd t226 1)) ∧ w'.cell? ⟨ad231.block, ad231.off + 2, none⟩ = some (.int .i64 (rd t226 2)) ∧ w'.cell? ⟨ad231.block, ad231.off + 3, none⟩ = some (.int .i64 (rd t226 3))) (ds := []) #[F,F,F,F,F,F,F,F,F,F,F,F,F,F,F,F,F,F,F] (by kernel_rfl) rfl rfl ⟨hx231_0, hx233_0, hx234_0, hx235_0⟩ (fun hHd => ?_); refine with_tabW pwRaw.tab10 pwRaw.bits10 (fun Tq Wq => ?_)
   generalize wc.drew = w33 at HO_16 BK206 BK213 HB hx231_0 hx233_0 hx234_0 hx235_0 hHd ⊢
   refine zpu 0 69 #[T,F,F,F,F,F,F,F,F,F,F,F,F,F,F,F,F,F,F] Tq.o ?_
   refine zpu 1 70 #[T,T,F,F,F,F,F,F,F,F,F,F,F,F,F,F,F,F,F] Tq.o ?_
   refine zpu 3 72 #[T,T,F,T,F,F,F,F,F,F,F,F,F,F,F,F,F,F,F] Tq.o ?_
   refine zpu 4 73 #[T,T,F,T,T,F,F,F,F,F,F,F,F,F,F,F,F,F,F] Tq.o ?_
   refine zpu 6 75 #[T,T,F,T,T,F,T,F,F,F,F,F,F,F,F,F,F,F,F] Tq.o ?_
   refine zpu 7 76 #[T,T,F,T,T,F,T,T,F,F,F,F,F,F,F,F,F,F,F] Tq.o ?_
   refine zpu 8 77 #[T,T,F,T,T,F,T,T,T,F,F,F,F,F,F,F,F,F,F] Tq.o ?_
   refine zpu 10 79 #[T,T,F,T,T,F,T,T,T,F,T,F,F,F,F,F,F,F,F] Tq.o ?_
   refine zpu 11 80 #[T,T,F,T,T,F,T,T,T,F,T,T,F,F,F,F,F,F,F] Tq.o ?_
   refine zpu 13 82 #[T,T,F,T,T,F,T,T,T,F,T,T,F,T,F,F,F,F,F] Tq.o ?_
   refine zpu 14 83 #[T,T,F,T,T,F,T,T,T,F,T,T,F,T,T,F,F,F,F] Tq.o ?_
   refine take_ (i := 2) (N := some 71) (v := ?_) (a' := ?_) #[T,T,T,T,T,F,T,T,T,F,T,T,F,T,T,F,F,F,F] rfl rfl (take_ofW Tq.o Wq.o (by kernel_rfl)) (fun _ _ _ h => h) (Or.inl ⟨by rfl, ?_⟩) hHd ?_ ?_
   rotate_left
   ·rintro w' ⟨s0, s1, s2, s3⟩
    go_simp
    with_reducible rfl
   rotate_left
   ·exact zpx
   refine take_ (i := 9) (N := some 78) (v := ?_) (a' := ?_) #[T,T,T,T,T,F,T,T,T,T,T,T,F,T,T,F,F,F,F] rfl rfl (take_ofW Tq.o Wq.o (by kernel_rfl)) (fun _ _ _ h => h) (Or.inl ⟨by rfl, ?_⟩) hHd ?_ ?_
   rotate_left
   ·rintro w' ⟨s0, s1, s2, s3⟩
    go_simp
    with_reducible rfl
   rotate_left
   ·exact zpx
   refine take_ (i := 12) (N := some 81) (v := ?_) (a' := ?_) #[T,T,T,T,T,F,T,T,T,T,T,T,T,T,T,F,F,F,F] rfl rfl (take_ofW Tq.o Wq.o (by kernel_rfl)) (fun _ _ _ h => h) (Or.inl ⟨by rfl, ?_⟩) hHd ?_ ?_
   rotate_left
   ·rintro w' ⟨s0, s1, s2, s3⟩
    go_simp
    with_reducible rfl
   rotate_left
   ·exact zpx
   refine take_ (i := 15) (N := some 84) (v := ?_) (a' := ?_) #[T,T,T,T,T,F,T,T,T,T,T,T,T,T,T,T,F,F,F] rfl rfl (take_ofW Tq.o Wq.o (by kernel_rfl)) (fun _ _ _ h => h) (Or.inl ⟨by rfl, ?_⟩) hHd ?_ ?_
   rotate_left
   ·rintro w' ⟨s0, s1, s2, s3⟩
    go_simp
    with_reducible rfl
   rotate_left
   ·exact zpx
   refine join_ (σ := Nat) 1 #[T,T,T,T,T,T,T,T,T,T,T,T,T,T,T,T,T,T,F] (fun s_ => [(74, .int .i64 t232), (19, .pointer (some ⟨s_, 0, none⟩)), (85, .agg #[.int .i64 (rd t226 0), .int .i64 t232, .int .i64 t230, .int .i64 (rd t226 1), .int .i64 (rd t226 2), .int .i64 (rd t226 3)])]) (fun s_ w' => (w'.cell? ad231 = some (.int .i64 (rd t226 0)) ∧ w'.cell? ⟨ad231.block, ad231.off + 1, none⟩ = some (.int .i64 (rd t226 1)) ∧ w'.cell? ⟨ad231.block, ad231.off + 2, none⟩ = some (.int .i64 (rd t226 2)) ∧ w'.cell? ⟨ad231.block, ad231.off + 3, none⟩ = some (.int .i64 (rd t226 3))) ∧ (Kd.R (Kd.int .i64) 3 w' w.heap.size (fun _ => True) (.slice (some ad231) t226.length co34) t226) ∧ (w'.heap[gb206]? = some (.cells #[.int .i64 0, .int .i64 0, .int .i64 0, .int .i64 0, .int .i64 0, .int .i64 0] 25 (0, 0))) ∧ (w'.heap[gb213]? = some (.cells #[.string t210] 9 (0, 0))) ∧ (w'.heap[s_]? = some (.cells #[.int .i64 0, .int .i64 0, .int .i64 0, .int .i64 0, .int .i64 0, .int .i64 0] 25 (0, 0))) ∧ (w.heap.size ≤ s_) ∧ (w.heap.size ≤ s_) ∧ (gb206 ≠ s_) ∧ (s_ ≠ gb206) ∧ (gb213 ≠ s_) ∧ (s_ ≠ gb213) ∧ (Below w.heap.size w w')) ?_ ?_
   rotate_left
   ·intro hCont
    refine two_ (i := 5) (j := 17) (Ni := some 74) (Nj := some 19) #[T,T,T,T,T,T,T,T,T,T,T,T,T,T,T,T,F,F,F] #[T,T,T,T,T,F,T,T,T,T,T,T,T,T,T,T,F,T,F] rfl rfl rfl rfl (two_of Tq.o (by kernel_rfl)) (by decide) (by decide) (fun K hK => ?_) (fun K hK => ?_)
    ·skip
     refine goes_ Tryz.func43 (by kernel_rfl) rfl #[.slice (some ⟨1, 0, none⟩) 6 6, .string t214] (by rfl) rfl rfl zlx ?_
     with_reducible refine (topicAt.calls t214 t232 _ ?sideL A25.o).mono ?_
     case sideL => exact Laid.below HL.o (zhB HB.o)
     rintro e w' ⟨rfl, ⟨nd, rfl⟩⟩
     refine ⟨_, rfl, ?_⟩
     refine hK.out _ _ ⟨hHd.1, hHd.2.1, hHd.2.2.1, hHd.2.2.2⟩ (fun hHd => ?_)
     clear hK K
     refine norm_ (a' := ?_) ?_ ?_
     rotate_left
     ·show Act.put _ (some 74) _ = _
      simp only [Act.put, List.setIfInBounds_toArray, List.set_cons_zero, List.set_cons_succ, i64_w, i32_w]
      rfl
     refine zpu 16 85 #[T,T,T,T,T,T,T,T,T,T,T,T,T,T,T,T,T,F,F] Tq.o ?_
     refine one_ (i := 17) (N := some 19) #[T,T,T,T,T,T,T,T,T,T,T,T,T,T,T,T,T,T,F] rfl rfl (one_of Tq.o (by kernel_rfl)) (by decide) (fun K hK => ?_)
     refine box_step ?hg (N := 19) ?hd (cs := #[.int .i64 0, .int .i64 0, .int .i64 0, .int .i64 0, .int .i64 0, .int .i64 0]) (t := 25) ?hr ?_; (case hd => rfl); (case hg => rfl); (case hr => exact zsx)
     intro gb236 hg w35 hbox hb
     have HS0_ := (hb.cell (World.block_lt_of_cell? _ _ (hHd.1))).trans (hHd.1)
     have HS1_ := (hb.cell (World.block_lt_of_cell? _ _ (hHd.2.1))).trans (hHd.2.1)
     have HS2_ := (hb.cell (World.block_lt_of_cell? _ _ (hHd.2.2.1))).trans (hHd.2.2.1)
     have HS3_ := (hb.cell (World.block_lt_of_cell? _ _ (hHd.2.2.2))).trans (hHd.2.2.2)
     replace HO_16 := Aq.mk (Kd.R_below (zRx HO_16.o) hb)
     have BK236 := Aq.mk (hbox)
     have GW236 := zns hg HB.o
     have GE236 := zns hg HB.o
     replace HB := Aq.mk (bsq (zBz HB.o GE206.o GE213.o) hb)
     have NB206_236 := znl hg BK206.o
     have NB236_206 := zng hg BK206.o
     replace BK206 := zbl BK206.o hb
     have NB213_236 := znl hg BK213.o
     have NB236_213 := zng hg BK213.o
     replace BK213 := zbl BK213.o hb
     clear hb hbox hg
     refine hK.out _ _ ⟨HS0_, HS1_, HS2_, HS3_⟩ (fun hHd => ?_)
     clear hK K
     refine norm_ (a' := ?_) ?_ ?_
     rotate_left
     ·show Act.put _ (some 19) _ = _
      simp only [Act.put, List.setIfInBounds_toArray, List.set_cons_zero, List.set_cons_succ, i64_w, i32_w]
      rfl
     exact norm_ (by simp only [putAll, Act.put, List.setIfInBounds_toArray, List.set_cons_zero, List.set_cons_succ]) (hCont (gb236) _ ⟨hHd, (zRx HO_16.o), (zbx BK206.o), (zbx BK213.o), (zbx BK236.o), GW236.o, GE236.o, NB206_236.o, NB236_206.o, NB213_236.o, NB236_213.o, (zhB HB.o)⟩)
    ·skip
     refine box_step ?hg (N := 19) ?hd (cs := #[.int .i64 0, .int .i64 0, .int .i64 0, .int .i64 0, .int .i64 0, .int .i64 0]) (t := 25) ?hr ?_; (case hd => rfl); (case hg => rfl); (case hr => exact zsx)
     intro gb236 hg w35 hbox hb
     have HS0_ := (hb.cell (World.block_lt_of_cell? _ _ (hHd.1))).trans (hHd.1)
     have HS1_ := (hb.cell (World.block_lt_of_cell? _ _ (hHd.2.1))).trans (hHd.2.1)
     have HS2_ := (hb.cell (World.block_lt_of_cell? _ _ (hHd.2.2.1))).trans (hHd.2.2.1)
     have HS3_ := (hb.cell (World.block_lt_of_cell? _ _ (hHd.2.2.2))).trans (hHd.2.2.2)
     replace HO_16 := Aq.mk (Kd.R_below (zRx HO_16.o) hb)
     have BK236 := Aq.mk (hbox)
     have GW236 := zns hg HB.o
     have GE236 := zns hg HB.o
     replace HB := Aq.mk (bsq (zBz HB.o GE206.o GE213.o) hb)
     have NB206_236 := znl hg BK206.o
     have NB236_206 := zng hg BK206.o
     replace BK206 := zbl BK206.o hb
     have NB213_236 := znl hg BK213.o
     have NB236_213 := zng hg BK213.o
     replace BK213 := zbl BK213.o hb
     clear hb hbox hg
     refine hK.out _ _ ⟨HS0_, HS1_, HS2_, HS3_⟩ (fun hHd => ?_)
     clear hK K
     refine norm_ (a' := ?_) ?_ ?_
     rotate_left
     ·show Act.put _ (some 19) _ = _
      simp only [Act.put, List.setIfInBounds_toArray, List.set_cons_zero, List.set_cons_succ, i64_w, i32_w]
      rfl
     refine one_ (i := 5) (N := some 74) #[T,T,T,T,T,T,T,T,T,T,T,T,T,T,T,T,F,T,F] rfl rfl (one_of Tq.o (by kernel_rfl)) (by decide) (fun K hK => ?_)
     refine goes_ Tryz.func43 (by kernel_rfl) rfl #[.slice (some ⟨1, 0, none⟩) 6 6, .string t214] (by rfl) rfl rfl zlx ?_
     with_reducible refine (topicAt.calls t214 t232 _ ?sideL A25.o).mono ?_
     case sideL => exact Laid.below HL.o (zhB HB.o)
     rintro e w' ⟨rfl, ⟨nd, rfl⟩⟩
     refine ⟨_, rfl, ?_⟩
     refine hK.out _ _ ⟨hHd.1, hHd.2.1, hHd.2.2.1, hHd.2.2.2⟩ (fun hHd => ?_)
     clear hK K
     refine norm_ (a' := ?_) ?_ ?_
     rotate_left
     ·show Act.put _ (some 74) _ = _
      simp only [Act.put, List.setIfInBounds_toArray, List.set_cons_zero, List.set_cons_succ, i64_w, i32_w]
      rfl
     refine zpu 16 85 #[T,T,T,T,T,T,T,T,T,T,T,T,T,T,T,T,T,T,F] Tq.o ?_
     exact norm_ (by simp only [putAll, Act.put, List.setIfInBounds_toArray, List.set_cons_zero, List.set_cons_succ]) (hCont (gb236) _ ⟨hHd, (zRx HO_16.o), (zbx BK206.o), (zbx BK213.o), (zbx BK236.o), GW236.o, GE236.o, NB206_236.o, NB236_206.o, NB213_236.o, NB236_213.o, (zhB HB.o)⟩)
   rintro gb236 w36 ⟨hS_, h0_, h1_, h2_, h3_, h4_, h5_, h6_, h7_, h8_, h9_, h10_⟩
   replace HO_16 : Aq (Kd.R (Kd.int .i64) 3 w36 w.heap.size (fun _ => True) (.slice (some ad231) t226.length co34) t226) := ⟨h0_⟩
   replace BK206 : Aq (w36.heap[gb206]? = some (.cells #[.int .i64 0, .int .i64 0, .int .i64 0, .int .i64 0, .int .i64 0, .int .i64 0] 25 (0, 0))) := ⟨h1_⟩
   replace BK213 : Aq (w36.heap[gb213]? = some (.cells #[.string t210] 9 (0, 0))) := ⟨h2_⟩
   have BK236 : Aq (w36.heap[gb236]? = some (.cells #[.int .i64 0, .int .i64 0, .int .i64 0, .int .i64 0, .int .i64 0, .int .i64 0] 25 (0, 0))) := ⟨h3_⟩
   have GW236 : Aq (w.heap.size ≤ gb236) := ⟨h4_⟩
   have GE236 : Aq (w.heap.size ≤ gb236) := ⟨h5_⟩
   have NB206_236 : Aq (gb206 ≠ gb236) := ⟨h6_⟩
   have NB236_206 : Aq (gb236 ≠ gb206) := ⟨h7_⟩
   have NB213_236 : Aq (gb213 ≠ gb236) := ⟨h8_⟩
   have NB236_213 : Aq (gb236 ≠ gb213) := ⟨h9_⟩
   replace HB : Aq (Below w.heap.size w w36) := ⟨h10_⟩
   clear h0_
   clear h1_
   clear h2_
   clear h3_
   clear h4_
   clear h5_
   clear h6_
   clear h7_
   clear h8_
   clear h9_
   clear h10_
   have hHd : w36.cell? ad231 = some (.int .i64 (rd t226 0)) ∧ w36.cell? ⟨ad231.block, ad231.off + 1, none⟩ = some (.int .i64 (rd t226 1)) ∧ w36.cell? ⟨ad231.block, ad231.off + 2, none⟩ = some (.int .i64 (rd t226 2)) ∧ w36.cell? ⟨ad231.block, ad231.off + 3, none⟩ = some (.int .i64 (rd t226 3)) := hS_
   refine norm_ (a' := ?_) ?_ ?_
   rotate_left
   ·simp only [putAll, Act.put, List.setIfInBounds_toArray, List.set_cons_zero, List.set_cons_succ]
    rfl
   refine one_ (i := 18) (N := none) #[T,T,T,T,T,T,T,T,T,T,T,T,T,T,T,T,T,T,T] rfl rfl (one_of Tq.o (by kernel_rfl)) (by decide) (fun K hK => ?_)
   have hs37 : w36.cell? ⟨gb236, 0, none⟩ = some (.int .i64 0) := (bkc BK236.o 0).trans rfl
   have hfs37 := bkf BK236.o 0
   have hns37_0 := NB206_236.o
   have hns37_1 := NB213_236.o
   have hms37_0 := NB236_206.o
   have hms37_1 := NB236_213.o
   have hs38 : w36.cell? ⟨gb236, 1, none⟩ = some (.int .i64 0) := (bkc BK236.o 1).trans rfl
   have hfs38 := bkf BK236.o 1
   have hns38_0 := NB206_236.o
   have hns38_1 := NB213_236.o
   have hms38_0 := NB236_206.o
   have hms38_1 := NB236_213.o
   have hs39 : w36.cell? ⟨gb236, 2, none⟩ = some (.int .i64 0) := (bkc BK236.o 2).trans rfl
   have hfs39 := bkf BK236.o 2
   have hns39_0 := NB206_236.o
   have hns39_1 := NB213_236.o
   have hms39_0 := NB236_206.o
   have hms39_1 := NB236_213.o
   have hs40 : w36.cell? ⟨gb236, 3, none⟩ = some (.int .i64 0) := (bkc BK236.o 3).trans rfl
   have hfs40 := bkf BK236.o 3
   have hns40_0 := NB206_236.o
   have hns40_1 := NB213_236.o
   have hms40_0 := NB236_206.o
   have hms40_1 := NB236_213.o
   have hs41 : w36.cell? ⟨gb236, 4, none⟩ = some (.int .i64 0) := (bkc BK236.o 4).trans rfl
   have hfs41 := bkf BK236.o 4
   have hns41_0 := NB206_236.o
   have hns41_1 := NB213_236.o
   have hms41_0 := NB236_206.o
   have hms41_1 := NB236_213.o
   have hs42 : w36.cell? ⟨gb236, 5, none⟩ = some (.int .i64 0) := (bkc BK236.o 5).trans rfl
   have hfs42 := bkf BK236.o 5
   have hns42_0 := NB206_236.o
   have hns42_1 := NB213_236.o
   have hms42_0 := NB236_206.o
   have hms42_1 := NB236_213.o
   refine skip_ (w1 := ?_) (by rfl) rfl ?_ ?_
   rotate_left
   ·go_simp
    rfl
   have hne_ : ad231.block ≠ gb236 := Kd.own_blk (Kd.R_ne HO_16.o BK236.o (by decide))
   refine hK.out _ _ ⟨(by (repeat (with_reducible first | refine (cell_far (p := ⟨gb236, _, none⟩) (a := ⟨ad231.block, _, none⟩) hne_ _).trans ?_ | refine (cell_far (p := ⟨gb236, _, none⟩) (a := ad231) hne_ _).trans ?_)); with_reducible exact hHd.1), (by (repeat (with_reducible first | refine (cell_far (p := ⟨gb236, _, none⟩) (a := ⟨ad231.block, _, none⟩) hne_ _).trans ?_ | refine (cell_far (p := ⟨gb236, _, none⟩) (a := ad231) hne_ _).trans ?_)); with_reducible exact hHd.2.1), (by (repeat (with_reducible first | refine (cell_far (p := ⟨gb236, _, none⟩) (a := ⟨ad231.block, _, none⟩) hne_ _).trans ?_ | refine (cell_far (p := ⟨gb236, _, none⟩) (a := ad231) hne_ _).trans ?_)); with_reducible exact hHd.2.2.1), (by (repeat (with_reducible first | refine (cell_far (p := ⟨gb236, _, none⟩) (a := ⟨ad231.block, _, none⟩) hne_ _).trans ?_ | refine (cell_far (p := ⟨gb236, _, none⟩) (a := ad231) hne_ _).trans ?_)); with_reducible exact hHd.2.2.2)⟩ (fun hHd => ?_)
   clear hK K
   refine done_ (done_of Tq.o (by kernel_rfl)) ?_
   have hnb43 := NB236_206.o
   have hnc43 := NB206_236.o
   have hnb44 := NB236_213.o
   have hnc44 := NB213_236.o
   have hcz45_0 : w36.cell? ⟨gb236, 0, none⟩ = some (.int .i64 0) := (bkc BK236.o 0).trans rfl
   have hcz45_1 : w36.cell? ⟨gb236, 1, none⟩ = some (.int .i64 0) := (bkc BK236.o 1).trans rfl
   have hcz45_2 : w36.cell? ⟨gb236, 2, none⟩ = some (.int .i64 0) := (bkc BK236.o 2).trans rfl
   have hcz45_3 : w36.cell? ⟨gb236, 3, none⟩ = some (.int .i64 0) := (bkc BK236.o 3).trans rfl
   have hcz45_4 : w36.cell? ⟨gb236, 4, none⟩ = some (.int .i64 0) := (bkc BK236.o 4).trans rfl
   have hcz45_5 : w36.cell? ⟨gb236, 5, none⟩ = some (.int .i64 0) := (bkc BK236.o 5).trans rfl
   have hfz45_0 := bkf BK236.o 0
   have hfz45_1 := bkf BK236.o 1
   have hfz45_2 := bkf BK236.o 2
   have hfz45_3 := bkf BK236.o 3
   have hfz45_4 := bkf BK236.o 4
   have hfz45_5 := bkf BK236.o 5
   have H := HH_.o
   clear HH_
   by_cases c30 : t237 = true
   rotate_left
   ·replace c30 := Bool.eq_false_iff.mpr c30
    subst c30
    rw [if_neg (show ¬ (false = true) by decide)] at H
    focus
     simp only [Option.some.injEq, Prod.mk.injEq] at H
     obtain ⟨rfl, rfl, rfl, rfl, rfl, rfl, rfl⟩ := H
     try go_wp2_with (first | ((with_reducible refine gate_callee (f := 36) rfl ?_); refine goesL_ (some 87) rfl rfl Tryz.func36 (by kernel_rfl) rfl #[.agg #[.int .i64 (rd t226 0), .int .i64 t232, .int .i64 t230, .int .i64 (rd t226 1), .int .i64 (rd t226 2), .int .i64 (rd t226 3)]] rfl zlx ?_; (with_reducible refine (qF.calls (rd t226 0) t232 t230 (rd t226 1) (rd t226 2) (rd t226 3) false _ A29.o).mono ?_); rintro e w83 ⟨rfl, hb⟩; refine ⟨_, rfl, ?_⟩; replace HO_16 := Aq.mk (Kd.R_below (by (with_reducible repeat (first | apply Kd.R_alloc | apply Kd.R_drewN | apply Kd.R_drew)); exact (Kd.R_mono (Kd.R_far (p := ⟨gb236, 5, none⟩) (Kd.R_far (p := ⟨gb236, 4, none⟩) (Kd.R_far (p := ⟨gb236, 3, none⟩) (Kd.R_far (p := ⟨gb236, 2, none⟩) (Kd.R_far (p := ⟨gb236, 1, none⟩) (Kd.R_far (p := ⟨gb236, 0, none⟩) (Kd.R_types HO_16.o BK236.o (by decide)) (fun _ hk => hk.2) (.int .i64 (rd t226 0))) (fun _ hk => hk.2) (.int .i64 t232)) (fun _ hk => hk.2) (.int .i64 t230)) (fun _ hk => hk.2) (.int .i64 (rd t226 1))) (fun _ hk => hk.2) (.int .i64 (rd t226 2))) (fun _ hk => hk.2) (.int .i64 (rd t226 3))) (fun _ h_ => h_.1))) hb); replace BK206 := zbl BK206.o hb; replace BK213 := zbl BK213.o hb; replace BK236 := Aq.mk (blk_below (g := gb236) (o := .cells #[.int .i64 (rd t226 0), .int .i64 t232, .int .i64 t230, .int .i64 (rd t226 1), .int .i64 (rd t226 2), .int .i64 (rd t226 3)] 25 (0, 0)) (zbp BK236.o) hb); replace HB := Aq.mk (bsq (zhB HB.o) hb); (try clear hb); (try clear hk); have hnb84 := NB206_213.o; have hnc84 := NB213_206.o; have hcz85_0 : w83.cell? ⟨gb206, 0, none⟩ = some (.int .i64 0) := (bkc BK206.o 0).trans rfl; have hcz85_1 : w83.cell? ⟨gb206, 1, none⟩ = some (.int .i64 0) := (bkc BK206.o 1).trans rfl; have hcz85_2 : w83.cell? ⟨gb206, 2, none⟩ = some (.int .i64 0) := (bkc BK206.o 2).trans rfl; have hcz85_3 : w83.cell? ⟨gb206, 3, none⟩ = some (.int .i64 0) := (bkc BK206.o 3).trans rfl; have hcz85_4 : w83.cell? ⟨gb206, 4, none⟩ = some (.int .i64 0) := (bkc BK206.o 4).trans rfl; have hcz85_5 : w83.cell? ⟨gb206, 5, none⟩ = some (.int .i64 0) := (bkc BK206.o 5).trans rfl; have hfz85_0 := bkf BK206.o 0; have hfz85_1 := bkf BK206.o 1; have hfz85_2 := bkf BK206.o 2; have hfz85_3 := bkf BK206.o 3; have hfz85_4 := bkf BK206.o 4; have hfz85_5 := bkf BK206.o 5))
     refine bodyPost_ret (results_ct rfl _ _ gb206 25 #[.int .i64 0, .int .i64 0, .int .i64 0, .int .i64 0, .int .i64 0, .int .i64 0] (0, 0) _ rfl (zbp BK206.o) Tryz.underlying25 rfl (by kernel_rfl)) rfl ?_
     exact ⟨by first | rfl | (simp [errW_none, errW_some] <;> rfl) | (simp [*, errW_none, errW_some] <;> rfl), zhB HB.o⟩
   subst c30
   rw [if_pos rfl] at H
   replace H := Option.bind_eq_some_iff.mp H
   obtain ⟨t238, A310, H⟩ := H
   replace H : (if t238.toList = a0.toList then (some (rd t226 0, t232, t230, rd t226 1, rd t226 2, rd t226 3, true)) else (some (0, 0, 0, 0, 0, 0, false))) = some (r1, r2, r3, r4, r5, r6, r7) := H
   have A31 := Aq.mk A310
   clear A310
   by_cases c32 : t238.toList = a0.toList
   ·rw [if_pos c32] at H
    have c32b0 : (t238.toList == a0.toList) = true := beq_iff_eq.mpr c32
    have c32b1 : (t238.toList != a0.toList) = false := bne_eq_false_iff_eq.mpr c32
    clear c32
    focus
     simp only [Option.some.injEq, Prod.mk.injEq] at H
     obtain ⟨rfl, rfl, rfl, rfl, rfl, rfl, rfl⟩ := H
     try go_wp2_with (first | ((with_reducible refine gate_callee (f := 36) rfl ?_); refine goesL_ (some 87) rfl rfl Tryz.func36 (by kernel_rfl) rfl #[.agg #[.int .i64 (rd t226 0), .int .i64 t232, .int .i64 t230, .int .i64 (rd t226 1), .int .i64 (rd t226 2), .int .i64 (rd t226 3)]] rfl zlx ?_; (with_reducible refine (qF.calls (rd t226 0) t232 t230 (rd t226 1) (rd t226 2) (rd t226 3) true _ A29.o).mono ?_); rintro e w46 ⟨rfl, hb⟩; refine ⟨_, rfl, ?_⟩; replace HO_16 := Aq.mk (Kd.R_below (by (with_reducible repeat (first | apply Kd.R_alloc | apply Kd.R_drewN | apply Kd.R_drew)); exact (Kd.R_mono (Kd.R_far (p := ⟨gb236, 5, none⟩) (Kd.R_far (p := ⟨gb236, 4, none⟩) (Kd.R_far (p := ⟨gb236, 3, none⟩) (Kd.R_far (p := ⟨gb236, 2, none⟩) (Kd.R_far (p := ⟨gb236, 1, none⟩) (Kd.R_far (p := ⟨gb236, 0, none⟩) (Kd.R_types HO_16.o BK236.o (by decide)) (fun _ hk => hk.2) (.int .i64 (rd t226 0))) (fun _ hk => hk.2) (.int .i64 t232)) (fun _ hk => hk.2) (.int .i64 t230)) (fun _ hk => hk.2) (.int .i64 (rd t226 1))) (fun _ hk => hk.2) (.int .i64 (rd t226 2))) (fun _ hk => hk.2) (.int .i64 (rd t226 3))) (fun _ h_ => h_.1))) hb); replace BK206 := zbl BK206.o hb; replace BK213 := zbl BK213.o hb; replace BK236 := Aq.mk (blk_below (g := gb236) (o := .cells #[.int .i64 (rd t226 0), .int .i64 t232, .int .i64 t230, .int .i64 (rd t226 1), .int .i64 (rd t226 2), .int .i64 (rd t226 3)] 25 (0, 0)) (zbp BK236.o) hb); replace HB := Aq.mk (bsq (zhB HB.o) hb); (try clear hb); (try clear hb2); (try clear hk); (try clear hi); have hcz47_0 : w46.cell? ⟨gb236, 0, none⟩ = some (.int .i64 (rd t226 0)) := (bkc BK236.o 0).trans rfl; have hcz47_1 : w46.cell? ⟨gb236, 1, none⟩ = some (.int .i64 t232) := (bkc BK236.o 1).trans rfl; have hcz47_2 : w46.cell? ⟨gb236, 2, none⟩ = some (.int .i64 t230) := (bkc BK236.o 2).trans rfl; have hcz47_3 : w46.cell? ⟨gb236, 3, none⟩ = some (.int .i64 (rd t226 1)) := (bkc BK236.o 3).trans rfl; have hcz47_4 : w46.cell? ⟨gb236, 4, none⟩ = some (.int .i64 (rd t226 2)) := (bkc BK236.o 4).trans rfl; have hcz47_5 : w46.cell? ⟨gb236, 5, none⟩ = some (.int .i64 (rd t226 3)) := (bkc BK236.o 5).trans rfl; have hfz47_0 := bkf BK236.o 0; have hfz47_1 := bkf BK236.o 1; have hfz47_2 := bkf BK236.o 2; have hfz47_3 := bkf BK236.o 3; have hfz47_4 := bkf BK236.o 4; have hfz47_5 := bkf BK236.o 5) | (go_at_call 37; (with_reducible refine (qP.calls (rd t226 0) t232 t230 (rd t226 1) (rd t226 2) (rd t226 3) t238 _ ?sideL A31.o).mono ?_); (case sideL => exact Laid.below HL.o (zhB HB.o)); rintro e w48 ⟨rfl, hb⟩; replace HO_16 := Aq.mk (Kd.R_below (zRx HO_16.o) hb); replace BK206 := zbl BK206.o hb; replace BK213 := zbl BK213.o hb; replace BK236 := zbl BK236.o hb; replace HB := Aq.mk (bsq (zhB HB.o) hb); (try clear hb); (try clear hb2); (try clear hk); (try clear hi); have hcz49_0 : w48.cell? ⟨gb236, 0, none⟩ = some (.int .i64 (rd t226 0)) := (bkc BK236.o 0).trans rfl; have hcz49_1 : w48.cell? ⟨gb236, 1, none⟩ = some (.int .i64 t232) := (bkc BK236.o 1).trans rfl; have hcz49_2 : w48.cell? ⟨gb236, 2, none⟩ = some (.int .i64 t230) := (bkc BK236.o 2).trans rfl; have hcz49_3 : w48.cell? ⟨gb236, 3, none⟩ = some (.int .i64 (rd t226 1)) := (bkc BK236.o 3).trans rfl; have hcz49_4 : w48.cell? ⟨gb236, 4, none⟩ = some (.int .i64 (rd t226 2)) := (bkc BK236.o 4).trans rfl; have hcz49_5 : w48.cell? ⟨gb236, 5, none⟩ = some (.int .i64 (rd t226 3)) := (bkc BK236.o 5).trans rfl; have hfz49_0 := bkf BK236.o 0; have hfz49_1 := bkf BK236.o 1; have hfz49_2 := bkf BK236.o 2; have hfz49_3 := bkf BK236.o 3; have hfz49_4 := bkf BK236.o 4; have hfz49_5 := bkf BK236.o 5; have hnb50 := NB206_213.o; have hnc50 := NB213_206.o; have hcz51_0 : w48.cell? ⟨gb206, 0, none⟩ = some (.int .i64 0) := (bkc BK206.o 0).trans rfl; have hcz51_1 : w48.cell? ⟨gb206, 1, none⟩ = some (.int .i64 0) := (bkc BK206.o 1).trans rfl; have hcz51_2 : w48.cell? ⟨gb206, 2, none⟩ = some (.int .i64 0) := (bkc BK206.o 2).trans rfl; have hcz51_3 : w48.cell? ⟨gb206, 3, none⟩ = some (.int .i64 0) := (bkc BK206.o 3).trans rfl; have hcz51_4 : w48.cell? ⟨gb206, 4, none⟩ = some (.int .i64 0) := (bkc BK206.o 4).trans rfl; have hcz51_5 : w48.cell? ⟨gb206, 5, none⟩ = some (.int .i64 0) := (bkc BK206.o 5).trans rfl; have hfz51_0 := bkf BK206.o 0; have hfz51_1 := bkf BK206.o 1; have hfz51_2 := bkf BK206.o 2; have hfz51_3 := bkf BK206.o 3; have hfz51_4 := bkf BK206.o 4; have hfz51_5 := bkf BK206.o 5))
     refine bodyPost_ret (results_ct rfl _ _ gb206 25 #[.int .i64 (rd t226 0), .int .i64 t232, .int .i64 t230, .int .i64 (rd t226 1), .int .i64 (rd t226 2), .int .i64 (rd t226 3)] (0, 0) _ rfl (zbp BK206.o) Tryz.underlying25 rfl (by kernel_rfl)) rfl ?_
     exact ⟨by first | rfl | (simp [errW_none, errW_some] <;> rfl) | (simp [*, errW_none, errW_some] <;> rfl), zhB HB.o⟩
   ·rw [if_neg c32] at H
    have c32b0 : (t238.toList == a0.toList) = false := beq_eq_false_iff_ne.mpr c32
    have c32b1 : (t238.toList != a0.toList) = true := bne_iff_ne.mpr c32
    focus
     simp only [Option.some.injEq, Prod.mk.injEq] at H
     obtain ⟨rfl, rfl, rfl, rfl, rfl, rfl, rfl⟩ := H
     try go_wp2_with (first | ((with_reducible refine gate_callee (f := 36) rfl ?_); refine goesL_ (some 87) rfl rfl Tryz.func36 (by kernel_rfl) rfl #[.agg #[.int .i64 (rd t226 0), .int .i64 t232, .int .i64 t230, .int .i64 (rd t226 1), .int .i64 (rd t226 2), .int .i64 (rd t226 3)]] rfl zlx ?_; (with_reducible refine (qF.calls (rd t226 0) t232 t230 (rd t226 1) (rd t226 2) (rd t226 3) true _ A29.o).mono ?_); rintro e w65 ⟨rfl, hb⟩; refine ⟨_, rfl, ?_⟩; replace HO_16 := Aq.mk (Kd.R_below (by (with_reducible repeat (first | apply Kd.R_alloc | apply Kd.R_drewN | apply Kd.R_drew)); exact (Kd.R_mono (Kd.R_far (p := ⟨gb236, 5, none⟩) (Kd.R_far (p := ⟨gb236, 4, none⟩) (Kd.R_far (p := ⟨gb236, 3, none⟩) (Kd.R_far (p := ⟨gb236, 2, none⟩) (Kd.R_far (p := ⟨gb236, 1, none⟩) (Kd.R_far (p := ⟨gb236, 0, none⟩) (Kd.R_types HO_16.o BK236.o (by decide)) (fun _ hk => hk.2) (.int .i64 (rd t226 0))) (fun _ hk => hk.2) (.int .i64 t232)) (fun _ hk => hk.2) (.int .i64 t230)) (fun _ hk => hk.2) (.int .i64 (rd t226 1))) (fun _ hk => hk.2) (.int .i64 (rd t226 2))) (fun _ hk => hk.2) (.int .i64 (rd t226 3))) (fun _ h_ => h_.1))) hb); replace BK206 := zbl BK206.o hb; replace BK213 := zbl BK213.o hb; replace BK236 := Aq.mk (blk_below (g := gb236) (o := .cells #[.int .i64 (rd t226 0), .int .i64 t232, .int .i64 t230, .int .i64 (rd t226 1), .int .i64 (rd t226 2), .int .i64 (rd t226 3)] 25 (0, 0)) (zbp BK236.o) hb); replace HB := Aq.mk (bsq (zhB HB.o) hb); (try clear hb); (try clear hb2); (try clear hk); (try clear hi); have hcz66_0 : w65.cell? ⟨gb236, 0, none⟩ = some (.int .i64 (rd t226 0)) := (bkc BK236.o 0).trans rfl; have hcz66_1 : w65.cell? ⟨gb236, 1, none⟩ = some (.int .i64 t232) := (bkc BK236.o 1).trans rfl; have hcz66_2 : w65.cell? ⟨gb236, 2, none⟩ = some (.int .i64 t230) := (bkc BK236.o 2).trans rfl; have hcz66_3 : w65.cell? ⟨gb236, 3, none⟩ = some (.int .i64 (rd t226 1)) := (bkc BK236.o 3).trans rfl; have hcz66_4 : w65.cell? ⟨gb236, 4, none⟩ = some (.int .i64 (rd t226 2)) := (bkc BK236.o 4).trans rfl; have hcz66_5 : w65.cell? ⟨gb236, 5, none⟩ = some (.int .i64 (rd t226 3)) := (bkc BK236.o 5).trans rfl; have hfz66_0 := bkf BK236.o 0; have hfz66_1 := bkf BK236.o 1; have hfz66_2 := bkf BK236.o 2; have hfz66_3 := bkf BK236.o 3; have hfz66_4 := bkf BK236.o 4; have hfz66_5 := bkf BK236.o 5) | (go_at_call 37; (with_reducible refine (qP.calls (rd t226 0) t232 t230 (rd t226 1) (rd t226 2) (rd t226 3) t238 _ ?sideL A31.o).mono ?_); (case sideL => exact Laid.below HL.o (zhB HB.o)); rintro e w67 ⟨rfl, hb⟩; replace HO_16 := Aq.mk (Kd.R_below (zRx HO_16.o) hb); replace BK206 := zbl BK206.o hb; replace BK213 := zbl BK213.o hb; replace BK236 := zbl BK236.o hb; replace HB := Aq.mk (bsq (zhB HB.o) hb); (try clear hb); (try clear hb2); (try clear hk); (try clear hi); have hnb68 := NB206_213.o; have hnc68 := NB213_206.o; have hcz69_0 : w67.cell? ⟨gb206, 0, none⟩ = some (.int .i64 0) := (bkc BK206.o 0).trans rfl; have hcz69_1 : w67.cell? ⟨gb206, 1, none⟩ = some (.int .i64 0) := (bkc BK206.o 1).trans rfl; have hcz69_2 : w67.cell? ⟨gb206, 2, none⟩ = some (.int .i64 0) := (bkc BK206.o 2).trans rfl; have hcz69_3 : w67.cell? ⟨gb206, 3, none⟩ = some (.int .i64 0) := (bkc BK206.o 3).trans rfl; have hcz69_4 : w67.cell? ⟨gb206, 4, none⟩ = some (.int .i64 0) := (bkc BK206.o 4).trans rfl; have hcz69_5 : w67.cell? ⟨gb206, 5, none⟩ = some (.int .i64 0) := (bkc BK206.o 5).trans rfl; have hfz69_0 := bkf BK206.o 0; have hfz69_1 := bkf BK206.o 1; have hfz69_2 := bkf BK206.o 2; have hfz69_3 := bkf BK206.o 3; have hfz69_4 := bkf BK206.o 4; have hfz69_5 := bkf BK206.o 5))
     refine bodyPost_ret (results_ct rfl _ _ gb206 25 #[.int .i64 0, .int .i64 0, .int .i64 0, .int .i64 0, .int .i64 0, .int .i64 0] (0, 0) _ rfl (zbp BK206.o) Tryz.underlying25 rfl (by kernel_rfl)) rfl ?_
     exact ⟨by first | rfl | (simp [errW_none, errW_some] <;> rfl) | (simp [*, errW_none, errW_some] <;> rfl), zhB HB.o⟩
def impl_ParseWarningLine.f (a0 : ByteArray) : Option (Int × Int × Int × Int × Int × Int × Bool) := pwRaw.f 8 a0
theorem impl_ParseWarningLine.calls (a0 : ByteArray) (r1 : Int) (r2 : Int) (r3 : Int) (r4 : Int) (r5 : Int) (r6 : Int) (r7 : Bool) (w : World) (hL : Laid w) (h : impl_ParseWarningLine.f a0 = some (r1, r2, r3, r4, r5, r6, r7)) :
    Calls Tryz.prog 9 #[.string a0] w fun e w' => e = .returned (.tuple #[.agg #[.int .i64 r1, .int .i64 r2, .int .i64 r3, .int .i64 r4, .int .i64 r5, .int .i64 r6], .bool r7]) ∧ Below w.heap.size w w' :=
  pwRaw.calls 8 a0 r1 r2 r3 r4 r5 r6 r7 w hL h
end Go.Proofs.YtlfoojgbiafffaaGreatDoor.Strs
