/- Printed for this claim: functions of the program as Lean functions, and that the calls answer so. -/
import Derived.Test.YtbheajjagkdjmaaPFnLocix0
import Derived.Test.YtbheajjagkdjmaaPFnLocix2
import Derived.Test.YtbheajjagkdjmaaPFnLocix3
import Derived.Test.YtbheajjagkdjmaaPFnLocix6
import Derived.Test.YtbheajjagkdjmaaPFnLocix7
import Derived.Test.YtbheajjagkdjmaaPFnLocix8
import Derived.Test.YtbheajjagkdjmaaPFnLocix9
import Derived.Test.YtbheajjagkdjmaaPFnLocix10
import Derived.Test.YtbheajjagkdjmaaPFnLocixD0
namespace Go.Proofs.Ytbheajjagkdjmaa.PFnLoci
open Go.RowKit Go.Proofs.YtbheajjagkdjmaaW.PrintWords Go.Proofs.YtbheajjagkdjmaaW.PrintLast Go.Proofs.YtbheajjagkdjmaaW.PrintMore
attribute [local go_sem] max2_int min2_int max_two min_two max_three min_three max_four min_four isSome_setCell   -- for this text's walks alone
theorem y11_0_ {p : Prop} (h : p := by first | exact Kd.R_nil _ _ _ _ _ | exact Kd.N_nil _ _ _ _ _ | exact Kd.V_nil _ _ _ _ _ | exact Kd.Q_nil _ _ _ _ _ | exact Kd.S_nil _ _ _ _ _) : p := h
theorem y11_1_ {p : Prop} (h : p := by repeat (first | (with_reducible first | exact HK.out | apply KeepBut.set_ | apply keep_drewN | apply keep_drew | apply keep_alloc) | exact HK.out)) : p := h
theorem y11_2_ {p : Prop} (h : p := by repeat (first | (with_reducible first | exact HB.out | apply lA_ | apply lN_ | apply lD_ | refine below_set ?_ (IsS90.ge HI415.out)) | exact HB.out)) : p := h
theorem y11_3_ {p : Prop} (h : p := by first | rfl | (simp; done) | (simp [*]; done)) : p := h
theorem y11_4_ {p : Prop} (h : p := by (with_reducible repeat (first | apply rA_ | apply rN_ | apply rD_)); exact HO418.out) : p := h
theorem y11_5_ {p : Prop} (h : p := by repeat (first | (with_reducible first | exact HI415.out | apply IsS90.alloc | apply IsS90.drewN | apply IsS90.drew | apply IsS90.set_1 | apply IsS90.set_2) | exact HI415.out)) : p := h
theorem y11_6_ {p : Prop} (h : p := by (with_reducible repeat (first | apply rA_ | apply rN_ | apply rD_)); exact HO_5.out) : p := h
theorem y11_7_ {p : Prop} (h : p := by (with_reducible repeat (first | apply rA_ | apply rN_ | apply rD_)); exact (Q_HO430 h0_)) : p := h
theorem y11_8_ {p : Prop} (h : p := by (with_reducible repeat (first | apply rA_ | apply rN_ | apply rD_)); exact HO430.out) : p := h
abbrev b11_15_0 : Array Bool := #[false, false, false, false, false, false, false, false, false, false, false, false, false, false, false]
abbrev b11_15_1 : Array Bool := #[true, false, false, false, false, false, false, false, false, false, false, false, false, false, false]
abbrev b11_15_20f : Array Bool := #[true, true, true, true, false, false, false, false, false, true, false, false, false, false, false]
abbrev b11_15_3 : Array Bool := #[true, true, false, false, false, false, false, false, false, false, false, false, false, false, false]
abbrev b11_15_7 : Array Bool := #[true, true, true, false, false, false, false, false, false, false, false, false, false, false, false]
abbrev b11_15_f : Array Bool := #[true, true, true, true, false, false, false, false, false, false, false, false, false, false, false]
set_option linter.unusedVariables false
set_option linter.unusedSimpArgs false

/-! ### impl_PointsAt: function 28 -/
set_option maxHeartbeats 8000000 in
set_option maxRecDepth 100000 in
theorem impl_PointsAt.calls (k : Nat) (A0 : Option Addr) (c0 : Nat) (l0 : List (S55)) (a1 : Int) (r1 : ByteArray) (r2 : Bool) (w : World) (hr0 : Kd.C k55 w A0 l0.length l0) (hc0 : l0.length ≤ c0) (h : impl_PointsAt.f k l0 a1 = some (r1, r2)) :
 Calls Try.prog 28 #[.slice A0 l0.length c0, .int .i64 a1] w fun e w' => e = .returned (.tuple #[.string r1, .bool r2]) ∧ Below w.heap.size w w' := by
 have HR0 := Aside0.mk hr0
 have HC0 := Aside0.mk hc0
 clear hr0 hc0
 have HB := Aside0.mk (Below.refl w.heap.size w)
 have H : ((impl_AreLoci.f k l0).bind fun t398 => (if t398 = true then ((impl_isAngle.f a1).bind fun t399 => (if t399 = true then ((impl_pointsAt.f k l0 a1).bind fun t400 => (some (t400, (t400.toList != ([] : List UInt8))))) else (some ((⟨#[]⟩ : ByteArray), false)))) else (some ((⟨#[]⟩ : ByteArray), false)))) = some (r1, r2) := h
 clear h
 replace H := Option.bind_eq_some_iff.mp H
 obtain ⟨t398, A30, H⟩ := H
 try dsimp only at H
 have A3 := Aside0.mk A30
 clear A30
 by_cases c4 : t398 = true
 rotate_left
 ·replace c4 := Bool.eq_false_iff.mpr c4
  subst c4
  replace H := in_ H (show ¬ (false = true) by decide)
  simp only [Option.some.injEq, Prod.mk.injEq] at H
  obtain ⟨rfl, rfl⟩ := H
  go_enter Try.func28, Try.ntmps28
  go_wp2_with (first | ((with_reducible refine gate_callee (f := 31) rfl ?_); refine goesM_ (some 8) Try.func31 #[.slice A0 l0.length c0] ?_; (with_reducible refine (impl_AreLoci.calls k _ _ l0 false _ ?side1 ?side2 A3.out).mono ?_); (case side1 => repeat (first | exact HR0.out | (with_reducible first | apply cA_ | apply cN_ | apply cD_))); (case side2 => exact HC0.out); rintro e w11 ⟨rfl, hb⟩; refine ⟨_, rfl, ?_⟩; replace HB := aM_ (below_step hB_ hb); (try clear hb)))
  go_ret2
  exact ⟨rT_, hB_⟩
 subst c4
 replace H := ip_ H rfl
 replace H := Option.bind_eq_some_iff.mp H
 obtain ⟨t399, A50, H⟩ := H
 try dsimp only at H
 have A5 := Aside0.mk A50
 clear A50
 have HC6 := Aside0.mk H
 clear H
 go_enter Try.func28, Try.ntmps28
 go_upto_if 14 with (first | ((with_reducible refine gate_callee (f := 31) rfl ?_); refine goesM_ (some 8) Try.func31 #[.slice A0 l0.length c0] ?_; (with_reducible refine (impl_AreLoci.calls k _ _ l0 true _ ?side1 ?side2 A3.out).mono ?_); (case side1 => repeat (first | exact HR0.out | (with_reducible first | apply cA_ | apply cN_ | apply cD_))); (case side2 => exact HC0.out); rintro e w7 ⟨rfl, hb⟩; refine ⟨_, rfl, ?_⟩; replace HB := aM_ (below_step hB_ hb); (try clear hb)) | (go_at_call 47; (with_reducible refine (impl_isAngle.calls a1 t399 _ A5.out).mono ?_); rintro e w' ⟨rfl, ⟨nd, rfl⟩⟩))
 (try simp only [Act.put, List.setIfInBounds_toArray, List.set_cons_zero, List.set_cons_succ])
 have H := HC6.out
 clear HC6
 by_cases c8 : t399 = true
 rotate_left
 ·replace c8 := Bool.eq_false_iff.mpr c8
  subst c8
  replace H := in_ H (show ¬ (false = true) by decide)
  simp only [Option.some.injEq, Prod.mk.injEq] at H
  obtain ⟨rfl, rfl⟩ := H
  go_wp2
  go_ret2
  exact ⟨rT_, hB_⟩
 subst c8
 replace H := ip_ H rfl
 replace H := Option.bind_eq_some_iff.mp H
 obtain ⟨t400, A90, H⟩ := H
 try dsimp only at H
 have A9 := Aside0.mk A90
 clear A90
 simp only [Option.some.injEq, Prod.mk.injEq] at H
 obtain ⟨rfl, rfl⟩ := H
 go_wp2_with (first | ((with_reducible refine gate_callee (f := 70) rfl ?_); refine goesM_ (some 17) Try.func70 #[.slice A0 l0.length c0, .int .i64 a1] ?_; (with_reducible refine (impl_pointsAt.calls k _ _ l0 a1 t400 _ ?side1 ?side2 A9.out).mono ?_); (case side1 => repeat (first | exact (Kd.C_below HR0.out HB.out) | (with_reducible first | apply cA_ | apply cN_ | apply cD_))); (case side2 => exact HC0.out); rintro e w10 ⟨rfl, hb⟩; refine ⟨_, rfl, ?_⟩; replace HB := aM_ (below_step hB_ hb); (try clear hb)))
 go_ret2
 exact ⟨rT_, hB_⟩

/-! ### impl_DropReferent: function 29 -/
set_option maxHeartbeats 8000000 in
set_option maxRecDepth 100000 in
theorem impl_DropReferent.calls (k : Nat) (A0 : Option Addr) (c0 : Nat) (l0 : List (S55)) (a1 : ByteArray) (r1 : List (S55)) (r2 : Bool) (w : World) (hr0 : Kd.C k55 w A0 l0.length l0) (hc0 : l0.length ≤ c0) (h : impl_DropReferent.f k l0 a1 = some (r1, r2)) :
 Calls Try.prog 29 #[.slice A0 l0.length c0, .string a1] w fun e w' => ∃ v0_ : Value, e = .returned (.tuple #[v0_, .bool r2]) ∧ Kd.R k55 55 w' w.heap.size (fun _ => True) v0_ r1 ∧ Below w.heap.size w w' := by
 have HR0 := Aside0.mk hr0
 have HC0 := Aside0.mk hc0
 clear hr0 hc0
 have HB := Aside0.mk (Below.refl w.heap.size w)
 have H : ((impl_AreLoci.f k l0).bind fun t401 => (if t401 = true then ((impl_isWordOf.f k a1 (⟨#[97, 98, 99, 100, 101, 102, 103, 104, 105, 106, 107, 108, 109, 110, 111, 112, 113, 114, 115, 116, 117, 118, 119, 120, 121, 122]⟩ : ByteArray)).bind fun t402 => (if t402 = true then ((impl_locusOf.f k l0 a1).bind fun t403 => (if t403 < 0 then (some (([] : List (S55)), false)) else ((impl_without.f k l0 a1).bind fun t404 => (some (t404, true))))) else (some (([] : List (S55)), false)))) else (some (([] : List (S55)), false)))) = some (r1, r2) := h
 clear h
 replace H := Option.bind_eq_some_iff.mp H
 obtain ⟨t401, A30, H⟩ := H
 try dsimp only at H
 have A3 := Aside0.mk A30
 clear A30
 by_cases c4 : t401 = true
 rotate_left
 ·replace c4 := Bool.eq_false_iff.mpr c4
  subst c4
  replace H := in_ H (show ¬ (false = true) by decide)
  simp only [Option.some.injEq, Prod.mk.injEq] at H
  obtain ⟨rfl, rfl⟩ := H
  go_enter Try.func29, Try.ntmps29
  go_wp2_with (first | ((with_reducible refine gate_callee (f := 31) rfl ?_); refine goesM_ (some 7) Try.func31 #[.slice A0 l0.length c0] ?_; (with_reducible refine (impl_AreLoci.calls k _ _ l0 false _ ?side1 ?side2 A3.out).mono ?_); (case side1 => repeat (first | exact HR0.out | (with_reducible first | apply cA_ | apply cN_ | apply cD_))); (case side2 => exact HC0.out); rintro e w15 ⟨rfl, hb⟩; refine ⟨_, rfl, ?_⟩; replace HB := aM_ (below_step hB_ hb); (try clear hb)))
  go_ret2
  exact ⟨_, rT_, y11_0_, hB_⟩
 subst c4
 replace H := ip_ H rfl
 replace H := Option.bind_eq_some_iff.mp H
 obtain ⟨t402, A50, H⟩ := H
 try dsimp only at H
 have A5 := Aside0.mk A50
 clear A50
 by_cases c6 : t402 = true
 rotate_left
 ·replace c6 := Bool.eq_false_iff.mpr c6
  subst c6
  replace H := in_ H (show ¬ (false = true) by decide)
  simp only [Option.some.injEq, Prod.mk.injEq] at H
  obtain ⟨rfl, rfl⟩ := H
  go_enter Try.func29, Try.ntmps29
  go_wp2_with (first | ((with_reducible refine gate_callee (f := 31) rfl ?_); refine goesM_ (some 7) Try.func31 #[.slice A0 l0.length c0] ?_; (with_reducible refine (impl_AreLoci.calls k _ _ l0 true _ ?side1 ?side2 A3.out).mono ?_); (case side1 => repeat (first | exact HR0.out | (with_reducible first | apply cA_ | apply cN_ | apply cD_))); (case side2 => exact HC0.out); rintro e w14 ⟨rfl, hb⟩; refine ⟨_, rfl, ?_⟩; replace HB := aM_ (below_step hB_ hb); (try clear hb)) | (go_at_call 46; (with_reducible refine (impl_isWordOf.calls k a1 (⟨#[97, 98, 99, 100, 101, 102, 103, 104, 105, 106, 107, 108, 109, 110, 111, 112, 113, 114, 115, 116, 117, 118, 119, 120, 121, 122]⟩ : ByteArray) false _ A5.out).mono ?_); rintro e w' ⟨rfl, ⟨nd, rfl⟩⟩))
  go_ret2
  exact ⟨_, rT_, y11_0_, hB_⟩
 subst c6
 replace H := ip_ H rfl
 replace H := Option.bind_eq_some_iff.mp H
 obtain ⟨t403, A70, H⟩ := H
 try dsimp only at H
 have A7 := Aside0.mk A70
 clear A70
 have HC8 := Aside0.mk H
 clear H
 go_enter Try.func29, Try.ntmps29
 go_upto_if 19 with (first | ((with_reducible refine gate_callee (f := 31) rfl ?_); refine goesM_ (some 7) Try.func31 #[.slice A0 l0.length c0] ?_; (with_reducible refine (impl_AreLoci.calls k _ _ l0 true _ ?side1 ?side2 A3.out).mono ?_); (case side1 => repeat (first | exact HR0.out | (with_reducible first | apply cA_ | apply cN_ | apply cD_))); (case side2 => exact HC0.out); rintro e w9 ⟨rfl, hb⟩; refine ⟨_, rfl, ?_⟩; replace HB := aM_ (below_step hB_ hb); (try clear hb)) | (go_at_call 46; (with_reducible refine (impl_isWordOf.calls k a1 (⟨#[97, 98, 99, 100, 101, 102, 103, 104, 105, 106, 107, 108, 109, 110, 111, 112, 113, 114, 115, 116, 117, 118, 119, 120, 121, 122]⟩ : ByteArray) true _ A5.out).mono ?_); rintro e w' ⟨rfl, ⟨nd, rfl⟩⟩) | (go_at_call 55; (with_reducible refine (impl_locusOf.calls k _ _ l0 a1 t403 _ ?side1 ?side2 A7.out).mono ?_); (case side1 => repeat (first | exact (Kd.C_below HR0.out hB_) | (with_reducible first | apply cA_ | apply cN_ | apply cD_))); (case side2 => exact HC0.out); rintro e w10 ⟨rfl, hb⟩; replace HB := aM_ (below_step hB_ hb); (try clear hb)))
 (try simp only [Act.put, List.setIfInBounds_toArray, List.set_cons_zero, List.set_cons_succ])
 have H := HC8.out
 clear HC8
 by_cases c11 : t403 < 0
 ·rw [if_pos c11] at H
  have c11b0 : decide (t403 < 0) = true := decide_eq_true c11
  clear c11
  (first | rw [c11b0] | (simp only [i64_w, i32_w]; rw [c11b0]) | skip)
  simp only [Option.some.injEq, Prod.mk.injEq] at H
  obtain ⟨rfl, rfl⟩ := H
  go_wp2
  go_ret2
  exact ⟨_, rT_, y11_0_, hB_⟩
 rw [if_neg c11] at H
 have c11b0 : decide (t403 < 0) = false := decide_eq_false c11
 clear c11
 (first | rw [c11b0] | (simp only [i64_w, i32_w]; rw [c11b0]) | skip)
 replace H := Option.bind_eq_some_iff.mp H
 obtain ⟨t404, A120, H⟩ := H
 try dsimp only at H
 have A12 := Aside0.mk A120
 clear A120
 simp only [Option.some.injEq, Prod.mk.injEq] at H
 obtain ⟨rfl, rfl⟩ := H
 go_wp2_with (first | ((with_reducible refine gate_callee (f := 49) rfl ?_); refine goesM_ (some 22) Try.func49 #[.slice A0 l0.length c0, .string a1] ?_; (with_reducible refine (impl_without.calls k _ _ l0 a1 t404 _ ?side1 ?side2 A12.out).mono ?_); (case side1 => repeat (first | exact (Kd.C_below HR0.out HB.out) | (with_reducible first | apply cA_ | apply cN_ | apply cD_))); (case side2 => exact HC0.out); rintro e w13 ⟨v405, rfl, ho0, hb⟩; refine ⟨_, rfl, ?_⟩; have HO406 := aM_ (Kd.R_lower ho0 (below_size hB_)); replace HB := aM_ (below_step hB_ hb); (try clear hb); (try clear ho0)))
 go_ret2
 exact ⟨_, rT_, by (with_reducible repeat (first | apply rA_ | apply rN_ | apply rD_)); exact HO406.out, hB_⟩

/-! ### spec_DropReferent: function 30 -/
set_option maxHeartbeats 8000000 in
set_option maxRecDepth 100000 in
theorem spec_DropReferent.calls (k : Nat) (A0 : Option Addr) (c0 : Nat) (l0 : List (S55)) (a1 : ByteArray) (r1 : List (S55)) (r2 : Bool) (w : World) (hr0 : Kd.C k55 w A0 l0.length l0) (hc0 : l0.length ≤ c0) (h : spec_DropReferent.f k l0 a1 = some (r1, r2)) :
 Calls Try.prog 30 #[.slice A0 l0.length c0, .string a1] w fun e w' => ∃ v0_ : Value, e = .returned (.tuple #[v0_, .bool r2]) ∧ Kd.R k55 55 w' w.heap.size (fun _ => True) v0_ r1 ∧ Below w.heap.size w w' := by
 have HR0 := Aside0.mk hr0
 have HC0 := Aside0.mk hc0
 clear hr0 hc0
 have HB := Aside0.mk (Below.refl w.heap.size w)
 have H : ((spec_loGood.f k l0).bind fun t407 => (if t407 = true then ((spec_loFind.f k l0 a1).bind fun t408 => (if t408 < 0 then (some (([] : List (S55)), false)) else ((spec_loWithout.f k l0 a1).bind fun t409 => (some (t409, true))))) else (some (([] : List (S55)), false)))) = some (r1, r2) := h
 clear h
 replace H := Option.bind_eq_some_iff.mp H
 obtain ⟨t407, A30, H⟩ := H
 try dsimp only at H
 have A3 := Aside0.mk A30
 clear A30
 by_cases c4 : t407 = true
 rotate_left
 ·replace c4 := Bool.eq_false_iff.mpr c4
  subst c4
  replace H := in_ H (show ¬ (false = true) by decide)
  simp only [Option.some.injEq, Prod.mk.injEq] at H
  obtain ⟨rfl, rfl⟩ := H
  go_enter Try.func30, Try.ntmps30
  go_wp2_with (first | ((with_reducible refine gate_callee (f := 39) rfl ?_); refine goesM_ (some 7) Try.func39 #[.slice A0 l0.length c0] ?_; (with_reducible refine (spec_loGood.calls k _ _ l0 false _ ?side1 ?side2 A3.out).mono ?_); (case side1 => repeat (first | exact HR0.out | (with_reducible first | apply cA_ | apply cN_ | apply cD_))); (case side2 => exact HC0.out); rintro e w12 ⟨rfl, hb⟩; refine ⟨_, rfl, ?_⟩; replace HB := aM_ (below_step hB_ hb); (try clear hb)))
  go_ret2
  exact ⟨_, rT_, y11_0_, hB_⟩
 subst c4
 replace H := ip_ H rfl
 replace H := Option.bind_eq_some_iff.mp H
 obtain ⟨t408, A50, H⟩ := H
 try dsimp only at H
 have A5 := Aside0.mk A50
 clear A50
 have HC6 := Aside0.mk H
 clear H
 go_enter Try.func30, Try.ntmps30
 go_upto_if 14 with (first | ((with_reducible refine gate_callee (f := 39) rfl ?_); refine goesM_ (some 7) Try.func39 #[.slice A0 l0.length c0] ?_; (with_reducible refine (spec_loGood.calls k _ _ l0 true _ ?side1 ?side2 A3.out).mono ?_); (case side1 => repeat (first | exact HR0.out | (with_reducible first | apply cA_ | apply cN_ | apply cD_))); (case side2 => exact HC0.out); rintro e w7 ⟨rfl, hb⟩; refine ⟨_, rfl, ?_⟩; replace HB := aM_ (below_step hB_ hb); (try clear hb)) | (go_at_call 52; (with_reducible refine (spec_loFind.calls k _ _ l0 a1 t408 _ ?side1 ?side2 A5.out).mono ?_); (case side1 => repeat (first | exact (Kd.C_below HR0.out HB.out) | (with_reducible first | apply cA_ | apply cN_ | apply cD_))); (case side2 => exact HC0.out); rintro e w8 ⟨rfl, hb⟩; replace HB := aM_ (below_step hB_ hb); (try clear hb)))
 (try simp only [Act.put, List.setIfInBounds_toArray, List.set_cons_zero, List.set_cons_succ])
 have H := HC6.out
 clear HC6
 by_cases c9 : t408 < 0
 ·rw [if_pos c9] at H
  have c9b0 : decide (t408 < 0) = true := decide_eq_true c9
  clear c9
  (first | rw [c9b0] | (simp only [i64_w, i32_w]; rw [c9b0]) | skip)
  simp only [Option.some.injEq, Prod.mk.injEq] at H
  obtain ⟨rfl, rfl⟩ := H
  go_wp2
  go_ret2
  exact ⟨_, rT_, y11_0_, hB_⟩
 rw [if_neg c9] at H
 have c9b0 : decide (t408 < 0) = false := decide_eq_false c9
 clear c9
 (first | rw [c9b0] | (simp only [i64_w, i32_w]; rw [c9b0]) | skip)
 replace H := Option.bind_eq_some_iff.mp H
 obtain ⟨t409, A100, H⟩ := H
 try dsimp only at H
 have A10 := Aside0.mk A100
 clear A100
 simp only [Option.some.injEq, Prod.mk.injEq] at H
 obtain ⟨rfl, rfl⟩ := H
 go_wp2_with (first | ((with_reducible refine gate_callee (f := 44) rfl ?_); refine goesM_ (some 17) Try.func44 #[.slice A0 l0.length c0, .string a1] ?_; (with_reducible refine (spec_loWithout.calls k _ _ l0 a1 t409 _ ?side1 ?side2 A10.out).mono ?_); (case side1 => repeat (first | exact (Kd.C_below HR0.out HB.out) | (with_reducible first | apply cA_ | apply cN_ | apply cD_))); (case side2 => exact HC0.out); rintro e w11 ⟨v410, rfl, ho0, hb⟩; refine ⟨_, rfl, ?_⟩; have HO411 := aM_ (Kd.R_lower ho0 (below_size hB_)); replace HB := aM_ (below_step hB_ hb); (try clear hb); (try clear ho0)))
 go_ret2
 exact ⟨_, rT_, by (with_reducible repeat (first | apply rA_ | apply rN_ | apply rD_)); exact HO411.out, hB_⟩

/-! ### spec_l1Cur_one: function 71 -/
set_option maxHeartbeats 8000000 in
set_option maxRecDepth 100000 in
theorem spec_l1Cur_one.calls (g : Nat) (s0_0 : List Int) (s0_1 : Int) (s0_2 : Int) (a1 : Int) (r1 : Bool) (r2 : Int) (r3 : Int) (w0 w : World) (hI : IsS90 w0 w g s0_0 s0_1 s0_2) (hB : Below w0.heap.size w0 w) (h : spec_l1Cur_one.f s0_0 s0_1 s0_2 a1 = some (r1, r2, r3)) :
 Calls Try.prog 71 #[.pointer (some ⟨g, 0, none⟩), .int .i64 a1] w fun e w' => e = .returned (.bool r1) ∧ IsS90 w0 w' g s0_0 r2 r3 ∧ Below w0.heap.size w0 w' ∧ KeepBut w w' g none := by
 have HI0 := Aside0.mk hI
 have HK := Aside0.mk (KeepBut.refl w g none)
 have HL := Aside0.mk hB.size
 clear hI
 have HW0 := Aside0.mk hB.size
 have HB := Aside0.mk hB
 clear hB
 have H : ((spec_l1Cur_pick.f s0_0 s0_1 s0_2 a1).bind fun bt412 => (some ((bt412.1 == 0), bt412.2.1, bt412.2.2))) = some (r1, r2, r3) := h
 clear h
 replace H := Option.bind_eq_some_iff.mp H
 obtain ⟨⟨t412, t413, t414⟩, A30, H⟩ := H
 try dsimp only at H
 have A3 := Aside0.mk A30
 clear A30
 simp only [Option.some.injEq, Prod.mk.injEq] at H
 obtain ⟨rfl, rfl, rfl⟩ := H
 go_enter Try.func71, Try.ntmps71
 go_wp2_with (first | ((with_reducible refine gate_callee (f := 72) rfl ?_); refine goesM_ (some 7) Try.func72 #[.pointer (some ⟨g, 0, none⟩), .int .i64 a1] ?_; (with_reducible refine (spec_l1Cur_pick.calls g s0_0 s0_1 s0_2 a1 t412 t413 t414 w0 _ ?side1 ?side2 A3.out).mono ?_); (case side1 => repeat (first | (with_reducible first | exact HI0.out | apply IsS90.alloc | apply IsS90.drewN | apply IsS90.drew | apply IsS90.set_1 | apply IsS90.set_2) | exact HI0.out)); (case side2 => repeat (first | (with_reducible first | exact HB.out | apply lA_ | apply lN_ | apply lD_ | refine below_set ?_ (IsS90.ge HI0.out)) | exact HB.out)); rintro e w4 ⟨rfl, hi, hb, hk⟩; refine ⟨_, rfl, ?_⟩; replace HK := aM_ (KeepBut.trans y11_1_ hk (.inl rfl)); replace HB := aM_ (hb); replace HI0 := aM_ (hi); (try clear hb); (try clear hk); (try clear hi)))
 go_ret
 exact ⟨rT_, by repeat (first | (with_reducible first | exact HI0.out | apply IsS90.alloc | apply IsS90.drewN | apply IsS90.drew | apply IsS90.set_1 | apply IsS90.set_2) | exact HI0.out), by repeat (first | (with_reducible first | exact HB.out | apply lA_ | apply lN_ | apply lD_ | refine below_set ?_ (IsS90.ge HI0.out)) | exact HB.out), y11_1_⟩

/-! ### spec_DrawPointsAt: function 32 -/
def spec_DrawPointsAt.T4 : Bool × List (List Nat × List Nat) := (true, [([], []), ([], []), ([], []), ([], []), ([3], [3]), ([2, 4], [2, 4]), ([1, 5], [1, 5]), ([6], [6]), ([7], [7]), ([], []), ([], []), ([9, 10, 5], [9, 10]), ([8, 11], [8, 11]), ([0, 11, 0], [0]), ([12, 13, 0, 1, 2, 3, 4, 5, 6, 7, 8, 9, 10, 11, 12, 13], [12])])
def spec_DrawPointsAt.B4 : List Nat := [0, 0, 0, 0, 8, 28, 62, 126, 254, 0, 0, 1596, 4094, 3645, 16383]
theorem spec_DrawPointsAt.tab4 : rtab .any (opsOf Try.f32 4) = spec_DrawPointsAt.T4 := by kernel_rfl
theorem spec_DrawPointsAt.bits4 : waitsOk spec_DrawPointsAt.T4.2 spec_DrawPointsAt.B4 = true := by kernel_rfl
set_option maxHeartbeats 8000000 in
set_option maxRecDepth 100000 in
theorem spec_DrawPointsAt.calls (k : Nat) (A0 : Option Addr) (c0 : Nat) (l0 : List Int) (r1 : List (S55)) (r2 : Int) (w : World) (hr0 : Kd.C (Kd.int .u8) w A0 l0.length l0) (hc0 : l0.length ≤ c0) (h : spec_DrawPointsAt.f k l0 = some (r1, r2)) :
 Calls Try.prog 32 #[.slice A0 l0.length c0] w fun e w' => ∃ v0_ : Value, e = .returned (.tuple #[v0_, .int .i64 r2]) ∧ Kd.R k55 55 w' w.heap.size (fun _ => True) v0_ r1 ∧ Below w.heap.size w w' := by
 have hu90 := Try.underlying90
 have HR0 := Aside0.mk hr0
 have HC0 := Aside0.mk hc0
 clear hr0 hc0
 have HB := Aside0.mk (Below.refl w.heap.size w)
 have H : ((spec_l1Cur_loci.f k l0 0 0).bind fun bt416 => (if (bt416.1.length : Int) > 0 then ((spec_l1Cur_one.f l0 bt416.2.1 bt416.2.2 2).bind fun bt421 => (spec_DrawPointsAt.j0 k bt416.1 bt421.1 l0 bt421.2.1 bt421.2.2)) else (spec_DrawPointsAt.j0 k bt416.1 false l0 bt416.2.1 bt416.2.2))) = some (r1, r2) := h
 clear h
 replace H := Option.bind_eq_some_iff.mp H
 obtain ⟨⟨t416, t419, t420⟩, A20, H⟩ := H
 try dsimp only at H
 have A2 := Aside0.mk A20
 clear A20
 have HC3 := Aside0.mk H
 clear H
 go_enter Try.func32, Try.ntmps32
 go_upto_region 3 with (first | ((with_reducible refine gate_dst (N := 8) rfl ?_); refine box_event ?hg (N := 8) ?hd (cs := #[.slice A0 l0.length c0, .int .i64 0, .int .u64 0]) (t := 90) ?hr ?_; (case hd => rfl); (case hg => rfl); (case hr => first | (go_simp; done) | (go_simp; rfl)); intro gb415 hg w4 hbox hb; have HI415 := aM_ ((show IsS90 w w4 gb415 l0 0 0 from ⟨A0, c0, hbox, (by rw [hg]; exact (below_size hB_) : w.heap.size ≤ gb415), HR0.out⟩)); replace HB := aM_ (below_step hB_ hb); clear hb hbox hg) | ((with_reducible refine gate_callee (f := 67) rfl ?_); refine goesM_ (some 10) Try.func67 #[.pointer (some ⟨gb415, 0, none⟩)] ?_; (with_reducible refine (spec_l1Cur_loci.calls k gb415 l0 0 0 t416 t419 t420 w _ ?side1 ?side2 A2.out).mono ?_); (case side1 => repeat (first | (with_reducible first | exact HI415.out | apply IsS90.alloc | apply IsS90.drewN | apply IsS90.drew | apply IsS90.set_1 | apply IsS90.set_2) | exact HI415.out)); (case side2 => repeat (first | (with_reducible first | exact HB.out | apply lA_ | apply lN_ | apply lD_ | refine below_set ?_ (IsS90.ge HI415.out)) | exact HB.out)); rintro e w5 ⟨v417, rfl, ho0, hi, hb, hk⟩; refine ⟨_, rfl, ?_⟩; have HO418 := aM_ (Kd.R_lower ho0 (below_size y11_2_)); replace HB := aM_ (hb); replace HI415 := aM_ (hi); (try clear hb); (try clear hk); (try clear hi); (try clear ho0)))
 (try simp only [Act.put, List.setIfInBounds_toArray, List.set_cons_zero, List.set_cons_succ])
 go_cut [17] (fun v17 wc => ∃ (kq : Nat) (x17_2 : Bool) (x416001_2 : Int) (x416002_2 : Int), v17 = .bool x17_2 ∧ Aside0 (spec_DrawPointsAt.j0 kq t416 x17_2 l0 x416001_2 x416002_2 = some (r1, r2)) ∧ Aside0 (kq ≤ k) ∧ Aside0 (Kd.R k55 55 wc w.heap.size (fun _ => True) v417 t416) ∧ Aside0 (IsS90 w wc gb415 l0 x416001_2 x416002_2) ∧ Aside0 (Below w.heap.size w wc))
 case first =>
  have H := HC3.out
  clear HC3
  by_cases c6 : (t416.length : Int) > 0
  rotate_left
  ·rw [if_neg c6] at H
   have c6b0 : decide (0 < (t416.length : Int)) = false := decide_eq_false c6
   have c6b1 : decide (0 < t416.length) = false := decide_eq_false (by omega)
   clear c6
   (first | rw [c6b0] | (simp only [i64_w, i32_w]; rw [c6b0]) | skip)
   have H' := Aside0.mk H
   clear H
   obtain ⟨Ao10, co10, eo10⟩ := Kd.R_slice HO418.out
   subst eo10
   go_wp2
   go_meet
   case rel => exact ⟨_, (false), (t419), (t420), y11_3_, H', ⟨oR_⟩, ⟨y11_4_⟩, ⟨y11_5_⟩, ⟨y11_2_⟩⟩
  rw [if_pos c6] at H
  have c6b0 : decide (0 < (t416.length : Int)) = true := decide_eq_true c6
  have c6b1 : decide (0 < t416.length) = true := decide_eq_true (by omega)
  clear c6
  (first | rw [c6b0] | (simp only [i64_w, i32_w]; rw [c6b0]) | skip)
  replace H := Option.bind_eq_some_iff.mp H
  obtain ⟨⟨t421, t422, t423⟩, A70, H⟩ := H
  try dsimp only at H
  have A7 := Aside0.mk A70
  clear A70
  have H' := Aside0.mk H
  clear H
  obtain ⟨Ao8, co8, eo8⟩ := Kd.R_slice HO418.out
  subst eo8
  go_wp2_with (first | (go_at_call 71; (with_reducible refine (spec_l1Cur_one.calls gb415 l0 t419 t420 2 t421 t422 t423 w _ ?side1 ?side2 A7.out).mono ?_); (case side1 => repeat (first | (with_reducible first | exact HI415.out | apply IsS90.alloc | apply IsS90.drewN | apply IsS90.drew | apply IsS90.set_1 | apply IsS90.set_2) | exact HI415.out)); (case side2 => repeat (first | (with_reducible first | exact HB.out | apply lA_ | apply lN_ | apply lD_ | refine below_set ?_ (IsS90.ge HI415.out)) | exact HB.out)); rintro e w9 ⟨rfl, hi, hb, hk⟩; replace HO418 := aM_ (Kd.R_mono (Kd.R_keep (IsS90.apart (show IsS90 w _ gb415 l0 t419 t420 from by repeat (first | (with_reducible first | exact HI415.out | apply IsS90.alloc | apply IsS90.drewN | apply IsS90.drew | apply IsS90.set_1 | apply IsS90.set_2) | exact HI415.out)) y11_4_ (by decide)) hk (fun _ h => h.2)) (fun _ h => h.1)); replace HB := aM_ (hb); replace HI415 := aM_ (hi); (try clear hb); (try clear hk); (try clear hi)))
  go_meet
  case rel => exact ⟨_, (t421), (t422), (t423), y11_3_, H', ⟨oR_⟩, ⟨y11_4_⟩, ⟨y11_5_⟩, ⟨y11_2_⟩⟩
 case rest =>
  clear HC3
  obtain ⟨kq, x17_2, x416001_2, x416002_2, rfl, HA, HJ2, HO_5, HI415, HB⟩ := hcut
  cases kq with
  | zero => exact absurd HA.out (by simp [spec_DrawPointsAt.j0])
  | succ kj2 =>
   have H := HA.out
   clear HA
   simp only [spec_DrawPointsAt.j0] at H
   by_cases c11 : x17_2 = true
   rotate_left
   ·replace c11 := Bool.eq_false_iff.mpr c11
    subst c11
    replace H := in_ H (show ¬ (false = true) by decide)
    replace H := Option.bind_eq_some_iff.mp H
    obtain ⟨⟨t434, t435, t436⟩, A240, H⟩ := H
    try dsimp only at H
    have A24 := Aside0.mk A240
    clear A240
    simp only [Option.some.injEq, Prod.mk.injEq] at H
    obtain ⟨rfl, rfl⟩ := H
    go_wp2_with (first | ((with_reducible refine gate_callee (f := 69) rfl ?_); refine goesM_ (some 33) Try.func69 #[.pointer (some ⟨gb415, 0, none⟩)] ?_; (with_reducible refine (spec_l1Cur_angleOf.calls gb415 l0 x416001_2 x416002_2 t434 t435 t436 w _ ?side1 ?side2 A24.out).mono ?_); (case side1 => repeat (first | (with_reducible first | exact HI415.out | apply IsS90.alloc | apply IsS90.drewN | apply IsS90.drew | apply IsS90.set_1 | apply IsS90.set_2) | exact HI415.out)); (case side2 => repeat (first | (with_reducible first | exact HB.out | apply lA_ | apply lN_ | apply lD_ | refine below_set ?_ (IsS90.ge HI415.out)) | exact HB.out)); rintro e w25 ⟨rfl, hi, hb, hk⟩; refine ⟨_, rfl, ?_⟩; replace HO_5 := aM_ (Kd.R_mono (Kd.R_keep (IsS90.apart (show IsS90 w _ gb415 l0 x416001_2 x416002_2 from by repeat (first | (with_reducible first | exact HI415.out | apply IsS90.alloc | apply IsS90.drewN | apply IsS90.drew | apply IsS90.set_1 | apply IsS90.set_2) | exact HI415.out)) y11_6_ (by decide)) hk (fun _ h => h.2)) (fun _ h => h.1)); replace HB := aM_ (hb); replace HI415 := aM_ (hi); (try clear hb); (try clear hk); (try clear hi)))
    go_ret2
    exact ⟨_, rT_, y11_6_, y11_2_⟩
   subst c11
   replace H := ip_ H rfl
   replace H := Option.bind_eq_some_iff.mp H
   obtain ⟨⟨t424, t425, t426⟩, A120, H⟩ := H
   try dsimp only at H
   have A12 := Aside0.mk A120
   clear A120
   by_cases c13 : 0 ≤ t424
   rotate_left
   ·rw [if_neg c13] at H
    exact absurd H (by simp)
   rw [if_pos c13] at H
   have c13b0 : decide (0 ≤ t424) = true := decide_eq_true c13
   clear c13
   by_cases c14 : t424 < (t416.length : Int)
   rotate_left
   ·rw [if_neg c14] at H
    exact absurd H (by simp)
   rw [if_pos c14] at H
   have c14b0 : decide (t424 < (t416.length : Int)) = true := decide_eq_true c14
   clear c14
   obtain ⟨y428, hy428⟩ : ∃ y_ : List Int, y_ = (([0, 5, (-5), 20, 21, (-20)] : List Int)) := ⟨_, rfl⟩
   replace H : ((spec_l1Cur_among.f l0 t425 t426 y428).bind fun bt431 => (some (t416, wrap64 (((rd_T55 t416 t424).f1) + bt431.1)))) = some (r1, r2) := by first | (rw [hy428]; with_reducible exact H) | (have H2_ := (Option.bind_some _ _).symm.trans H; rw [hy428]; with_reducible exact H2_) | (have H2_ := (Option.bind_some _ _).symm.trans H; with_reducible exact H2_) | with_reducible exact H | (rw [hy428]; exact H) | exact H
   have Ny428 := Aside0.mk hy428
   clear hy428
   replace H := Option.bind_eq_some_iff.mp H
   obtain ⟨⟨t431, t432, t433⟩, A150, H⟩ := H
   try dsimp only at H
   have A15 := Aside0.mk A150
   clear A150
   simp only [Option.some.injEq, Prod.mk.injEq] at H
   obtain ⟨rfl, rfl⟩ := H
   try go_wp2
   replace HO_5 := aM_ (Kd.R_drew HO_5.out)
   replace HI415 := aM_ (IsS90.drew HI415.out)
   replace HB := aM_ (below_drew1 HB.out)
   obtain ⟨Ao17, co17, eo17⟩ := Kd.R_slice HO_5.out
   (first | subst eo17 | (injection eo17 with f1_ f2_ f3_; have f4_ := f1_.symm; have f5_ := f3_.symm; clear f1_ f2_ f3_; subst f4_; subst f5_))
   have p427 : 0 ≤ (t424 : Int) := ode_
   have q427 : t424 < (t416.length : Int) := ode_
   obtain ⟨ad427, e427, hx427_0, hx427_1⟩ := at_T55 (Kd.R_reads' HO_5.out).2.2 t424 p427 q427
   cases e427
   replace p427 := eq_true p427
   replace q427 := eq_true q427
   refine start_ (n := 15) (S := fun w' => True) (ds := []) b11_15_0 (by kernel_rfl) rfl rfl trivial (fun hHeld => ?_); refine with_tabW spec_DrawPointsAt.tab4 spec_DrawPointsAt.bits4 (fun HT_ HW_ => ?_)
   generalize wc.drew = w16 at HO_5 HI415 HB hx427_0 hx427_1 hHeld ⊢
   refine pure_ (i := 0) (N := some 18) (v := ?_) (a' := ?_) b11_15_1 rfl rfl (aT_ HT_ (by kernel_rfl)) (fun _ _ _ h => h) (Or.inl ⟨by rfl, ?_⟩) ?_ ?_; rotate_left; (focus intro w'; go_simp; with_reducible rfl); rotate_left; (focus simp only [aP_, aQ_, aS_, aZ_, aU_, i64_w, i32_w]; try rfl)
   refine pure_ (i := 1) (N := some 19) (v := ?_) (a' := ?_) b11_15_3 rfl rfl (aT_ HT_ (by kernel_rfl)) (fun _ _ _ h => h) (Or.inl ⟨by rfl, ?_⟩) ?_ ?_; rotate_left; (focus intro w'; go_simp; with_reducible rfl); rotate_left; (focus simp only [aP_, aQ_, aS_, aZ_, aU_, i64_w, i32_w]; try rfl)
   refine pure_ (i := 2) (N := some 20) (v := ?_) (a' := ?_) b11_15_7 rfl rfl (aT_ HT_ (by kernel_rfl)) (fun _ _ _ h => h) (Or.inl ⟨by rfl, ?_⟩) ?_ ?_; rotate_left; (focus intro w'; go_simp; with_reducible rfl); rotate_left; (focus simp only [aP_, aQ_, aS_, aZ_, aU_, i64_w, i32_w]; try rfl)
   refine pure_ (i := 3) (N := some 21) (v := ?_) (a' := ?_) b11_15_f rfl rfl (aT_ HT_ (by kernel_rfl)) (fun _ _ _ h => h) (Or.inl ⟨by rfl, ?_⟩) ?_ ?_; rotate_left; (focus intro w'; go_simp; with_reducible rfl); rotate_left; (focus simp only [aP_, aQ_, aS_, aZ_, aU_, i64_w, i32_w]; try rfl)
   refine pure_ (i := 9) (N := some 27) (v := ?_) (a' := ?_) b11_15_20f rfl rfl (aT_ HT_ (by kernel_rfl)) (fun _ _ _ h => h) (Or.inl ⟨by rfl, ?_⟩) ?_ ?_; rotate_left; (focus intro w'; go_simp; with_reducible rfl); rotate_left; (focus simp only [aP_, aQ_, aS_, aZ_, aU_, i64_w, i32_w]; try rfl)
   refine inv_at [4, 5, 6, 7, 8, 10, 11, 12, 13, 14] (fun a0_ b a w' => ∃ (v429 : Value), a = putSel a0_ b [(4, 22, .int .i64 (t416.length : Int)), (5, 23, .int .i64 t424), (6, 24, .pointer (some (ad427.add ((t424).toNat * 2)))), (7, 25, .pointer (some ⟨(ad427.add ((t424).toNat * 2)).block, (ad427.add ((t424).toNat * 2)).off + 1, none⟩)), (8, 26, .int .i64 ((rd_T55 t416 t424).f1)), (10, 28, v429), (11, 29, .int .i64 t431), (12, 30, .int .i64 (wrap64 (((rd_T55 t416 t424).f1) + t431))), (13, 2, .slice (some ad427) t416.length co17), (14, 3, .int .i64 (wrap64 (((rd_T55 t416 t424).f1) + t431)))] ∧ (Kd.R k55 55 w' w.heap.size (fun _ => True) (.slice (some ad427) t416.length co17) t416) ∧ (b 5 = false → IsS90 w w' gb415 l0 x416001_2 x416002_2) ∧ (Below w.heap.size w w') ∧ (b 5 = true → b 11 = false → IsS90 w w' gb415 l0 t425 t426) ∧ (b 10 = true → Kd.R (Kd.int .i64) 3 w' w.heap.size (fun _ => True) v429 y428) ∧ (b 11 = true → IsS90 w w' gb415 l0 t432 t433)) HT_.out HW_.out (by kernel_rfl) (by kernel_rfl) ?_ ?_ ?_
   ·exact ⟨.bool false, by simp only [putSel, Bool.false_eq_true, if_false], HO_5.out, fun _ => HI415.out, HB.out, fun h_ => absurd h_ (by decide), fun h_ => absurd h_ (by decide), fun h_ => absurd h_ (by decide)⟩
   ·skip
    clear HB HI415 HO_5
    refine steps_cons ?_ ?_
    ·rintro b a w' ⟨v429, ha, Q_HO_5, Q_HI415, Q_HB, Q_HI415_e5, Q_HO430, Q_HI415_e11⟩ hb_ hon hoff
     refine ⟨_, rfl, fun K hK => ?_⟩
     have e21 : a.tmps[21]? = some (.slice (some ad427) t416.length co17) := by rw [ha]; exact (putSel_off rfl).trans rfl
     replace ha := Aside0.mk ha
     have HO_5 := Aside0.mk Q_HO_5
     have HI415 := Aside0.mk (Q_HI415 (hoff 5 (by kernel_rfl)))
     have HB := Aside0.mk Q_HB
     refine value_ (w1 := w') (v := .int .i64 (t416.length : Int)) (by rfl) rfl ?_ ?_
     ·go_simp
      (try simp only [i64_w])
      try rfl
     refine hK.out _ _ ⟨v429, (by rw [ha.out]; exact putSel_upk 0 hb_ rfl rfl rfl), Q_HO_5, Q_HI415, Q_HB, fun h0_ _ => absurd ((hoff 5 (by kernel_rfl)).symm.trans h0_) (by decide), Q_HO430, fun h0_ => absurd ((hoff 11 (by kernel_rfl)).symm.trans h0_) (by decide)⟩
    refine steps_cons ?_ ?_
    ·rintro b a w' ⟨v429, ha, Q_HO_5, Q_HI415, Q_HB, Q_HI415_e5, Q_HO430, Q_HI415_e11⟩ hb_ hon hoff
     refine ⟨_, rfl, fun K hK => ?_⟩
     have e20 : a.tmps[20]? = some (.pointer (some ⟨gb415, 0, none⟩)) := by rw [ha]; exact (putSel_off rfl).trans rfl
     have e22 : a.tmps[22]? = some (.int .i64 (t416.length : Int)) := by rw [ha]; exact putSel_on (e := (4, 22, .int .i64 (t416.length : Int))) 0 rfl rfl (hon 4 (by kernel_rfl)) rfl
     replace ha := Aside0.mk ha
     have HO_5 := Aside0.mk Q_HO_5
     have HI415 := Aside0.mk (Q_HI415 hb_)
     have HB := Aside0.mk Q_HB
     refine goes_ Try.func72 (by kernel_rfl) rfl #[.pointer (some ⟨gb415, 0, none⟩), .int .i64 (t416.length : Int)] (by rfl) rfl rfl (by first | (simp only [List.map_toArray, List.map_cons, List.map_nil, Act.eval, Array.getD_eq_getD_getElem?, Option.getD_some, e20, e22]; done) | (simp only [List.map_toArray, List.map_cons, List.map_nil, Act.eval, Array.getD_eq_getD_getElem?, Option.getD_some, e20, e22]; rfl)) ?_
     with_reducible refine (spec_l1Cur_pick.calls gb415 l0 x416001_2 x416002_2 (t416.length : Int) t424 t425 t426 w _ ?side1 ?side2 A12.out).mono ?_
     (case side1 => repeat (first | (with_reducible first | exact HI415.out | apply IsS90.alloc | apply IsS90.drewN | apply IsS90.drew | apply IsS90.set_1 | apply IsS90.set_2) | exact HI415.out))
     (case side2 => repeat (first | (with_reducible first | exact HB.out | apply lA_ | apply lN_ | apply lD_ | refine below_set ?_ (IsS90.ge HI415.out)) | exact HB.out))
     rintro e w18 ⟨rfl, hi, hb, hk⟩
     refine ⟨_, rfl, ?_⟩
     have n0_ := Aside0.mk (Kd.R_mono (Kd.R_keep (IsS90.apart (show IsS90 w _ gb415 l0 x416001_2 x416002_2 from by repeat (first | (with_reducible first | exact HI415.out | apply IsS90.alloc | apply IsS90.drewN | apply IsS90.drew | apply IsS90.set_1 | apply IsS90.set_2) | exact HI415.out)) y11_6_ (by decide)) hk (fun _ h => h.2)) (fun _ h => h.1))
     have n1_ := Aside0.mk (hb)
     have n2_ := Aside0.mk (hi)
     have z_HO430 := fun (h0_ : b 10 = true) => (show Kd.R (Kd.int .i64) 3 w18 w.heap.size (fun _ => True) v429 y428 from by first | exact (Kd.R_mono (Kd.R_keep (IsS90.apart (show IsS90 w _ gb415 l0 x416001_2 x416002_2 from by repeat (first | (with_reducible first | exact HI415.out | apply IsS90.alloc | apply IsS90.drewN | apply IsS90.drew | apply IsS90.set_1 | apply IsS90.set_2) | exact HI415.out)) y11_7_ (by decide)) hk (fun _ h => h.2)) (fun _ h => h.1)) | exact Kd.R_mono (Kd.R_mono (Kd.R_keep (IsS90.apart (show IsS90 w _ gb415 l0 x416001_2 x416002_2 from by repeat (first | (with_reducible first | exact HI415.out | apply IsS90.alloc | apply IsS90.drewN | apply IsS90.drew | apply IsS90.set_1 | apply IsS90.set_2) | exact HI415.out)) y11_7_ (by decide)) hk (fun _ h => h.2)) (fun _ h => h.1)) (fun _ h_ => by first | trivial | exact h_ | exact h_.1))
     clear HO_5
     clear HB
     clear HI415
     have HO_5 := n0_
     have HB := n1_
     have HI415 := n2_
     clear n0_ n1_ n2_
     (try clear hb)
     (try clear hb2)
     (try clear hk)
     (try clear hi)
     refine hK.out _ _ ⟨v429, (by rw [ha.out]; exact putSel_upk 1 hb_ rfl rfl rfl), y11_6_, fun h0_ => absurd ((up_self b 5).symm.trans h0_) (by decide), y11_2_, fun _ _ => y11_5_, z_HO430, fun h0_ => absurd ((hoff 11 (by kernel_rfl)).symm.trans h0_) (by decide)⟩
    refine steps_cons ?_ ?_
    ·rintro b a w' ⟨v429, ha, Q_HO_5, Q_HI415, Q_HB, Q_HI415_e5, Q_HO430, Q_HI415_e11⟩ hb_ hon hoff
     refine ⟨_, rfl, fun K hK => ?_⟩
     have e19 : a.tmps[19]? = some (.slice (some ad427) t416.length co17) := by rw [ha]; exact (putSel_off rfl).trans rfl
     have e23 : a.tmps[23]? = some (.int .i64 t424) := by rw [ha]; exact putSel_on (e := (5, 23, .int .i64 t424)) 1 rfl rfl (hon 5 (by kernel_rfl)) rfl
     replace ha := Aside0.mk ha
     have HO_5 := Aside0.mk Q_HO_5
     have HB := Aside0.mk Q_HB
     refine value_ (w1 := w') (v := .pointer (some (ad427.add ((t424).toNat * 2)))) (by rfl) rfl ?_ ?_
     ·go_simp
      (try simp only [i64_w])
      try rfl
     refine hK.out _ _ ⟨v429, (by rw [ha.out]; exact putSel_upk 2 hb_ rfl rfl rfl), Q_HO_5, fun h0_ => absurd ((hon 5 (by kernel_rfl)).symm.trans h0_) (by decide), Q_HB, Q_HI415_e5, Q_HO430, Q_HI415_e11⟩
    refine steps_cons ?_ ?_
    ·rintro b a w' ⟨v429, ha, Q_HO_5, Q_HI415, Q_HB, Q_HI415_e5, Q_HO430, Q_HI415_e11⟩ hb_ hon hoff
     refine ⟨_, rfl, fun K hK => ?_⟩
     have e24 : a.tmps[24]? = some (.pointer (some (ad427.add ((t424).toNat * 2)))) := by rw [ha]; exact putSel_on (e := (6, 24, .pointer (some (ad427.add ((t424).toNat * 2))))) 2 rfl rfl (hon 6 (by kernel_rfl)) rfl
     replace ha := Aside0.mk ha
     have HO_5 := Aside0.mk Q_HO_5
     have HB := Aside0.mk Q_HB
     refine value_ (w1 := w') (v := .pointer (some ⟨(ad427.add ((t424).toNat * 2)).block, (ad427.add ((t424).toNat * 2)).off + 1, none⟩)) (by rfl) rfl ?_ ?_
     ·go_simp
      (try simp only [i64_w])
      try rfl
     refine hK.out _ _ ⟨v429, (by rw [ha.out]; exact putSel_upk 3 hb_ rfl rfl rfl), Q_HO_5, fun h0_ => absurd ((hon 5 (by kernel_rfl)).symm.trans h0_) (by decide), Q_HB, Q_HI415_e5, Q_HO430, Q_HI415_e11⟩
    refine steps_cons ?_ ?_
    ·rintro b a w' ⟨v429, ha, Q_HO_5, Q_HI415, Q_HB, Q_HI415_e5, Q_HO430, Q_HI415_e11⟩ hb_ hon hoff
     refine ⟨_, rfl, fun K hK => ?_⟩
     have e25 : a.tmps[25]? = some (.pointer (some ⟨(ad427.add ((t424).toNat * 2)).block, (ad427.add ((t424).toNat * 2)).off + 1, none⟩)) := by rw [ha]; exact putSel_on (e := (7, 25, .pointer (some ⟨(ad427.add ((t424).toNat * 2)).block, (ad427.add ((t424).toNat * 2)).off + 1, none⟩))) 3 rfl rfl (hon 7 (by kernel_rfl)) rfl
     replace ha := Aside0.mk ha
     have HO_5 := Aside0.mk Q_HO_5
     have HB := Aside0.mk Q_HB
     obtain ⟨ad427_z, e427_z, hx427_0_z, hx427_1_z⟩ := at_T55 (Kd.R_reads' HO_5.out).2.2 t424 (of_eq_true p427) (of_eq_true q427)
     cases e427_z
     have hs0_ : w'.cell? (ad427.add ((t424).toNat * 2)) = some (.string ((rd_T55 t416 t424).f0)) := (by first | exact hx427_0_z | (have h_ := hx427_0_z; (try simp only [Int.reduceToNat, Nat.zero_mul, Nat.reduceMul, Nat.reduceEqDiff, Go.Addr.add, ↓reduceIte, Addr.add_zero'] at h_); exact h_))
     have hs1_ : w'.cell? ⟨(ad427.add ((t424).toNat * 2)).block, (ad427.add ((t424).toNat * 2)).off + 1, none⟩ = some (.int .i64 ((rd_T55 t416 t424).f1)) := (by first | exact hx427_1_z | (have h_ := hx427_1_z; (try simp only [Int.reduceToNat, Nat.zero_mul, Nat.reduceMul, Nat.reduceEqDiff, Go.Addr.add, ↓reduceIte, Addr.add_zero'] at h_); exact h_))
     refine value_ (w1 := w') (v := .int .i64 ((rd_T55 t416 t424).f1)) (by rfl) rfl ?_ ?_
     ·go_simp
      (try simp only [i64_w])
      try rfl
     refine hK.out _ _ ⟨v429, (by rw [ha.out]; exact putSel_upk 4 hb_ rfl rfl rfl), Q_HO_5, fun h0_ => absurd ((hon 5 (by kernel_rfl)).symm.trans h0_) (by decide), Q_HB, Q_HI415_e5, Q_HO430, Q_HI415_e11⟩
    refine steps_cons ?_ ?_
    ·rintro b a w' ⟨v429, ha, Q_HO_5, Q_HI415, Q_HB, Q_HI415_e5, Q_HO430, Q_HI415_e11⟩ hb_ hon hoff
     refine ⟨_, rfl, fun K hK => ?_⟩
     replace ha := Aside0.mk ha
     have HO_5 := Aside0.mk Q_HO_5
     have HB := Aside0.mk Q_HB
     refine Kd.R_lit_step (Kd.int .i64) _ 3 ?hg (N := 28) ?hd (xs := ([0, 5, (-5), 20, 21, (-20)] : List Int)) (inner := [.int .i64 0, .int .i64 5, .int .i64 (-5), .int .i64 20, .int .i64 21, .int .i64 (-20)]) (ok := fun _ => True) (okp := fun _ => True) ?hr ?hp (fun _ hk => hk) trivial (Below.refl _ _) (Nat.le_refl _) (by simp) ?_; (case hd => rfl); (case hg => rfl); (case hr => first | (go_simp; done) | (go_simp; rfl)); (case hp => exact (Reps.one (show Kd.M (Kd.int .i64) _ _ _ 0 [.int .i64 0] from rfl) (Reps.one (show Kd.M (Kd.int .i64) _ _ _ 5 [.int .i64 5] from rfl) (Reps.one (show Kd.M (Kd.int .i64) _ _ _ (-5) [.int .i64 (-5)] from rfl) (Reps.one (show Kd.M (Kd.int .i64) _ _ _ 20 [.int .i64 20] from rfl) (Reps.one (show Kd.M (Kd.int .i64) _ _ _ 21 [.int .i64 21] from rfl) (Reps.one (show Kd.M (Kd.int .i64) _ _ _ (-20) [.int .i64 (-20)] from rfl) (Reps.none _ _))))))))
     intro v429 w18 ho19 hb hg_ hnew_
     clear hg_ hnew_
     (first | rw [← Ny428.out] at ho19 | (simp only [Int.reduceToNat] at ho19; rw [← Ny428.out] at ho19))
     have n0_ := Aside0.mk (Kd.R_below y11_6_ hb)
     have n1_ := Aside0.mk (Kd.R_lower ho19 (below_size hB_))
     have n3_ := Aside0.mk (below_step hB_ hb)
     have z_HI415 := fun (h0_ : b 5 = false) => (show IsS90 w w18 gb415 l0 x416001_2 x416002_2 from by first | exact (IsS90.below (by repeat (first | (with_reducible first | exact (Q_HI415 h0_) | apply IsS90.alloc | apply IsS90.drewN | apply IsS90.drew | apply IsS90.set_1 | apply IsS90.set_2) | exact (Q_HI415 h0_))) hb))
     have z_HI415_e5 := fun (h0_ : b 5 = true) (h1_ : b 11 = false) => (show IsS90 w w18 gb415 l0 t425 t426 from by first | exact (IsS90.below (by repeat (first | (with_reducible first | exact (Q_HI415_e5 h0_ h1_) | apply IsS90.alloc | apply IsS90.drewN | apply IsS90.drew | apply IsS90.set_1 | apply IsS90.set_2) | exact (Q_HI415_e5 h0_ h1_))) hb))
     clear HO_5
     clear HB
     have HO_5 := n0_
     have HO430 := n1_
     have HB := n3_
     clear n0_ n1_ n3_
     clear hb ho19
     refine hK.out _ _ ⟨v429, (by rw [ha.out]; exact putSel_upk 5 hb_ rfl rfl rfl), y11_6_, z_HI415, hB_, z_HI415_e5, fun _ => y11_8_, fun h0_ => absurd ((hoff 11 (by kernel_rfl)).symm.trans h0_) (by decide)⟩
    refine steps_cons ?_ ?_
    ·rintro b a w' ⟨v429, ha, Q_HO_5, Q_HI415, Q_HB, Q_HI415_e5, Q_HO430, Q_HI415_e11⟩ hb_ hon hoff
     refine ⟨_, rfl, fun K hK => ?_⟩
     have e27 : a.tmps[27]? = some (.pointer (some ⟨gb415, 0, none⟩)) := by rw [ha]; exact (putSel_off rfl).trans rfl
     have e28 : a.tmps[28]? = some (v429) := by rw [ha]; exact putSel_on (e := (10, 28, v429)) 5 rfl rfl (hon 10 (by kernel_rfl)) rfl
     replace ha := Aside0.mk ha
     have HO_5 := Aside0.mk Q_HO_5
     have HB := Aside0.mk Q_HB
     have HI415 := Aside0.mk (Q_HI415_e5 (hon 5 (by kernel_rfl)) hb_)
     have HO430 := Aside0.mk (Q_HO430 (hon 10 (by kernel_rfl)))
     obtain ⟨Ao22, co22, eo22⟩ := Kd.R_slice HO430.out
     (first | subst eo22 | (injection eo22 with f1_ f2_ f3_; have f4_ := f1_.symm; have f5_ := f3_.symm; clear f1_ f2_ f3_; subst f4_; subst f5_))
     refine goes_ Try.func73 (by kernel_rfl) rfl #[.pointer (some ⟨gb415, 0, none⟩), .slice Ao22 y428.length co22] (by rfl) rfl rfl (by first | (simp only [List.map_toArray, List.map_cons, List.map_nil, Act.eval, Array.getD_eq_getD_getElem?, Option.getD_some, e27, e28]; done) | (simp only [List.map_toArray, List.map_cons, List.map_nil, Act.eval, Array.getD_eq_getD_getElem?, Option.getD_some, e27, e28]; rfl)) ?_
     with_reducible refine (spec_l1Cur_among.calls gb415 l0 t425 t426 _ _ y428 t431 t432 t433 w _ ?side1 ?side2 ?side3 ?side4 ?side5 A15.out).mono ?_
     (case side1 => repeat (first | (with_reducible first | exact HI415.out | apply IsS90.alloc | apply IsS90.drewN | apply IsS90.drew | apply IsS90.set_1 | apply IsS90.set_2) | exact HI415.out))
     (case side2 => repeat (first | (with_reducible first | exact HB.out | apply lA_ | apply lN_ | apply lD_ | refine below_set ?_ (IsS90.ge HI415.out)) | exact HB.out))
     (case side3 => repeat (first | exact (Kd.R_reads' HO430.out).2.2 | (with_reducible first | apply cA_ | apply cN_ | apply cD_)))
     (case side4 => exact (Kd.R_reads' HO430.out).2.1)
     (case side5 => exact far_slice (IsS90.own_ne HI415.out HO430.out (by decide)))
     rintro e w23 ⟨rfl, hi, hb, hk⟩
     refine ⟨_, rfl, ?_⟩
     replace HO_5 := aM_ (Kd.R_mono (Kd.R_keep (IsS90.apart (show IsS90 w _ gb415 l0 t425 t426 from by repeat (first | (with_reducible first | exact HI415.out | apply IsS90.alloc | apply IsS90.drewN | apply IsS90.drew | apply IsS90.set_1 | apply IsS90.set_2) | exact HI415.out)) y11_6_ (by decide)) hk (fun _ h => h.2)) (fun _ h => h.1))
     replace HO430 := aM_ (Kd.R_mono (Kd.R_keep (IsS90.apart (show IsS90 w _ gb415 l0 t425 t426 from by repeat (first | (with_reducible first | exact HI415.out | apply IsS90.alloc | apply IsS90.drewN | apply IsS90.drew | apply IsS90.set_1 | apply IsS90.set_2) | exact HI415.out)) y11_8_ (by decide)) hk (fun _ h => h.2)) (fun _ h => h.1))
     replace HB := aM_ (hb)
     replace HI415 := aM_ (hi)
     (try clear hb)
     (try clear hb2)
     (try clear hk)
     (try clear hi)
     refine hK.out _ _ ⟨.slice Ao22 y428.length co22, (by rw [ha.out]; exact putSel_upk 6 hb_ rfl rfl rfl), y11_6_, fun h0_ => absurd ((hon 5 (by kernel_rfl)).symm.trans h0_) (by decide), y11_2_, fun _ h1_ => absurd ((up_self b 11).symm.trans h1_) (by decide), fun _ => y11_8_, fun _ => y11_5_⟩
    refine steps_cons ?_ ?_
    ·rintro b a w' ⟨v429, ha, Q_HO_5, Q_HI415, Q_HB, Q_HI415_e5, Q_HO430, Q_HI415_e11⟩ hb_ hon hoff
     refine ⟨_, rfl, fun K hK => ?_⟩
     have e26 : a.tmps[26]? = some (.int .i64 ((rd_T55 t416 t424).f1)) := by rw [ha]; exact putSel_on (e := (8, 26, .int .i64 ((rd_T55 t416 t424).f1))) 4 rfl rfl (hon 8 (by kernel_rfl)) rfl
     have e29 : a.tmps[29]? = some (.int .i64 t431) := by rw [ha]; exact putSel_on (e := (11, 29, .int .i64 t431)) 6 rfl rfl (hon 11 (by kernel_rfl)) rfl
     replace ha := Aside0.mk ha
     have HO_5 := Aside0.mk Q_HO_5
     have HB := Aside0.mk Q_HB
     have HO430 := Aside0.mk (Q_HO430 (hon 10 (by kernel_rfl)))
     have HI415 := Aside0.mk (Q_HI415_e11 (hon 11 (by kernel_rfl)))
     refine value_ (w1 := w') (v := .int .i64 (wrap64 (((rd_T55 t416 t424).f1) + t431))) (by rfl) rfl ?_ ?_
     ·go_simp
      (try simp only [i64_w])
      try rfl
     refine hK.out _ _ ⟨v429, (by rw [ha.out]; exact putSel_upk 7 hb_ rfl rfl rfl), Q_HO_5, fun h0_ => absurd ((hon 5 (by kernel_rfl)).symm.trans h0_) (by decide), Q_HB, fun _ h1_ => absurd ((hon 11 (by kernel_rfl)).symm.trans h1_) (by decide), Q_HO430, Q_HI415_e11⟩
    refine steps_cons ?_ ?_
    ·rintro b a w' ⟨v429, ha, Q_HO_5, Q_HI415, Q_HB, Q_HI415_e5, Q_HO430, Q_HI415_e11⟩ hb_ hon hoff
     refine ⟨_, rfl, fun K hK => ?_⟩
     have e18 : a.tmps[18]? = some (.slice (some ad427) t416.length co17) := by rw [ha]; exact (putSel_off rfl).trans rfl
     replace ha := Aside0.mk ha
     have HO_5 := Aside0.mk Q_HO_5
     have HB := Aside0.mk Q_HB
     have HO430 := Aside0.mk (Q_HO430 (hon 10 (by kernel_rfl)))
     have HI415 := Aside0.mk (Q_HI415_e11 (hon 11 (by kernel_rfl)))
     refine value_ (w1 := w') (v := .slice (some ad427) t416.length co17) (by rfl) rfl ?_ ?_
     ·go_simp
      (try simp only [i64_w])
      try rfl
     refine hK.out _ _ ⟨v429, (by rw [ha.out]; exact putSel_upk 8 hb_ rfl rfl rfl), Q_HO_5, fun h0_ => absurd ((hon 5 (by kernel_rfl)).symm.trans h0_) (by decide), Q_HB, fun _ h1_ => absurd ((hon 11 (by kernel_rfl)).symm.trans h1_) (by decide), Q_HO430, Q_HI415_e11⟩
    refine steps_cons ?_ ?_
    ·rintro b a w' ⟨v429, ha, Q_HO_5, Q_HI415, Q_HB, Q_HI415_e5, Q_HO430, Q_HI415_e11⟩ hb_ hon hoff
     refine ⟨_, rfl, fun K hK => ?_⟩
     have e30 : a.tmps[30]? = some (.int .i64 (wrap64 (((rd_T55 t416 t424).f1) + t431))) := by rw [ha]; exact putSel_on (e := (12, 30, .int .i64 (wrap64 (((rd_T55 t416 t424).f1) + t431)))) 7 rfl rfl (hon 12 (by kernel_rfl)) rfl
     replace ha := Aside0.mk ha
     have HO_5 := Aside0.mk Q_HO_5
     have HB := Aside0.mk Q_HB
     have HO430 := Aside0.mk (Q_HO430 (hon 10 (by kernel_rfl)))
     have HI415 := Aside0.mk (Q_HI415_e11 (hon 11 (by kernel_rfl)))
     refine value_ (w1 := w') (v := .int .i64 (wrap64 (((rd_T55 t416 t424).f1) + t431))) (by rfl) rfl ?_ ?_
     ·go_simp
      (try simp only [i64_w])
      try rfl
     refine hK.out _ _ ⟨v429, (by rw [ha.out]; exact putSel_upk 9 hb_ rfl rfl rfl), Q_HO_5, fun h0_ => absurd ((hon 5 (by kernel_rfl)).symm.trans h0_) (by decide), Q_HB, fun _ h1_ => absurd ((hon 11 (by kernel_rfl)).symm.trans h1_) (by decide), Q_HO430, Q_HI415_e11⟩
    exact steps_nil
   rintro b a w23 hall ⟨v429, ha, Q_HO_5, Q_HI415, Q_HB, Q_HI415_e5, Q_HO430, Q_HI415_e11⟩
   clear HB HI415 HO_5
   have hb4_ := hall 4 (by kernel_rfl)
   have hb5_ := hall 5 (by kernel_rfl)
   have hb6_ := hall 6 (by kernel_rfl)
   have hb7_ := hall 7 (by kernel_rfl)
   have hb8_ := hall 8 (by kernel_rfl)
   have hb10_ := hall 10 (by kernel_rfl)
   have hb11_ := hall 11 (by kernel_rfl)
   have hb12_ := hall 12 (by kernel_rfl)
   have hb13_ := hall 13 (by kernel_rfl)
   have hb14_ := hall 14 (by kernel_rfl)
   subst ha
   simp only [putSel, hb4_, hb5_, hb6_, hb7_, hb8_, hb10_, hb11_, hb12_, hb13_, hb14_, if_true, Act.put, List.setIfInBounds_toArray, List.set_cons_zero, List.set_cons_succ]
   have HO_5 := Aside0.mk Q_HO_5
   clear Q_HO_5
   clear Q_HI415
   have HB := Aside0.mk Q_HB
   clear Q_HB
   clear Q_HI415_e5
   have HO430 := Aside0.mk (Q_HO430 hb10_)
   clear Q_HO430
   have HI415 := Aside0.mk (Q_HI415_e11 hb11_)
   clear Q_HI415_e11
   clear hall hb4_ hb5_ hb6_ hb7_ hb8_ hb10_ hb11_ hb12_ hb13_ hb14_
   try go_wp2
   go_ret2
   exact ⟨_, rT_, y11_6_, y11_2_⟩

/-! ### spec_l1Abs: function 77 -/
set_option maxHeartbeats 8000000 in
set_option maxRecDepth 100000 in
theorem spec_l1Abs.calls (a0 : Int) (r : Int) (w : World) (h : spec_l1Abs.f a0 = some r) :
 Calls Try.prog 77 #[.int .i64 a0] w fun e w' => e = .returned (.int .i64 r) ∧ Drawn0 w w' := by
 have H : ((spec_l1Most.f a0 (wrap64 (-a0))).bind fun t437 => (some t437)) = some r := h
 clear h
 replace H := Option.bind_eq_some_iff.mp H
 obtain ⟨t437, A20, H⟩ := H
 try dsimp only at H
 have A2 := Aside0.mk A20
 clear A20
 obtain rfl := Option.some.inj H
 go_enter Try.func77, Try.ntmps77
 go_wp2_with (first | ((with_reducible refine gate_callee (f := 53) rfl ?_); refine goesM_ (some 6) Try.func53 #[.int .i64 a0, .int .i64 (wrap64 (-a0))] ?_; (with_reducible refine (spec_l1Most.calls a0 (wrap64 (-a0)) t437 _ A2.out).mono ?_); rintro e w' ⟨rfl, ⟨nd, rfl⟩⟩; refine ⟨_, rfl, ?_⟩))
 go_ret
 exact ⟨y11_3_, by repeat (first | exact Drawn0.refl _ | apply Drawn0.step)⟩

/-! ### spec_loLeast: function 97 -/
set_option maxHeartbeats 8000000 in
set_option maxRecDepth 100000 in
theorem spec_loLeast.calls (k : Nat) (A0 : Option Addr) (c0 : Nat) (l0 : List (S55)) (a1 : Int) (r1 : Int) (r2 : Int) (w : World) (hr0 : Kd.C k55 w A0 l0.length l0) (hc0 : l0.length ≤ c0) (h : spec_loLeast.f k l0 a1 = some (r1, r2)) :
 Calls Try.prog 97 #[.slice A0 l0.length c0, .int .i64 a1] w fun e w' => e = .returned (.tuple #[.int .i64 r1, .int .i64 r2]) ∧ Below w.heap.size w w' := by
 have hu55 := Try.underlying55
 have HR0 := Aside0.mk hr0
 have HC0 := Aside0.mk hc0
 clear hr0 hc0
 have HB := Aside0.mk (Below.refl w.heap.size w)
 have H : (spec_loLeast.l0 k a1 181 0 l0 (l0.length : Int) 0) = some (r1, r2) := h
 clear h
 have H' := Aside0.mk H
 clear H
 go_enter Try.func97, Try.ntmps97
 go_wp2
 go_loopg [6, 7, 13] k (fun kq v6 v7 v13 w' => ∃ (x6_1 : Int) (x7_1 : Int) (x13_1 : Int), v6 = .int .i64 x6_1 ∧ v7 = .int .i64 x7_1 ∧ v13 = .int .i64 x13_1 ∧ Aside0 (spec_loLeast.l0 kq a1 x6_1 x7_1 l0 (l0.length : Int) x13_1 = some (r1, r2)) ∧ Aside0 (kq ≤ k) ∧ Aside0 (Below w.heap.size w w'))
 case atStart => exact ⟨(181), (0), (0), y11_3_, y11_3_, y11_3_, H', ⟨Nat.le_refl _⟩, ⟨hB_⟩⟩
 case round =>
  clear H'
  obtain ⟨x6_1, x7_1, x13_1, rfl, rfl, rfl, HA, HK1, HB⟩ := hrel
  cases gk with
  | zero => exact absurd HA.out (by simp [spec_loLeast.l0])
  | succ k1 =>
   have H := HA.out
   clear HA
   simp only [spec_loLeast.l0] at H
   by_cases c3 : x13_1 < (l0.length : Int)
   rotate_left
   ·rw [if_neg c3] at H
    have c3b0 : decide (x13_1 < (l0.length : Int)) = false := decide_eq_false c3
    clear c3
    simp only [Option.some.injEq, Prod.mk.injEq] at H
    obtain ⟨rfl, rfl⟩ := H
    go_wp2
    go_ret2
    exact ⟨rT_, hB_⟩
   rw [if_pos c3] at H
   have c3b0 : decide (x13_1 < (l0.length : Int)) = true := decide_eq_true c3
   clear c3
   by_cases c4 : 0 ≤ x13_1
   rotate_left
   ·rw [if_neg c4] at H
    exact absurd H (by simp)
   rw [if_pos c4] at H
   have c4b0 : decide (0 ≤ x13_1) = true := decide_eq_true c4
   clear c4
   by_cases c5 : x13_1 < (l0.length : Int)
   rotate_left
   ·rw [if_neg c5] at H
    exact absurd H (by simp)
   rw [if_pos c5] at H
   have c5b0 : decide (x13_1 < (l0.length : Int)) = true := decide_eq_true c5
   clear c5
   replace H := Option.bind_eq_some_iff.mp H
   obtain ⟨t440, A60, H⟩ := H
   try dsimp only at H
   have A6 := Aside0.mk A60
   clear A60
   have HC7 := Aside0.mk H
   clear H
   have p438 : 0 ≤ (x13_1 : Int) := ode_
   have q438 : x13_1 < (l0.length : Int) := ode_
   obtain ⟨ad438, e438, hx438_0, hx438_1⟩ := at_T55 HR0.out x13_1 p438 q438
   cases e438
   replace hx438_0 := (HB.out.cell (World.block_lt_of_cell? w _ hx438_0)).trans hx438_0
   replace hx438_1 := (HB.out.cell (World.block_lt_of_cell? w _ hx438_1)).trans hx438_1
   replace p438 := eq_true p438
   replace q438 := eq_true q438
   go_upto_if 22 with (first | ((with_reducible refine gate_dst (N := 9) rfl ?_); refine box_event ?hg (N := 9) ?hd (cs := #[.string (⟨#[]⟩ : ByteArray), .int .i64 0]) (t := 55) ?hr ?_; (case hd => rfl); (case hg => rfl); (case hr => first | (go_simp; done) | (go_simp; rfl)); intro gb439 hg w8 hbox hb; have BK439 := aM_ (hbox); have GW439 := aM_ (gw_ w hg); have GE439 := aM_ (gw_ w hg); replace HB := aM_ (below_step hB_ hb); clear hb hbox hg; have hz9 := cf2_ BK439.out) | ((with_reducible refine gate_callee (f := 77) rfl ?_); refine goesM_ (some 21) Try.func77 #[.int .i64 (wrap64 (((rd_T55 l0 x13_1).f1) - a1))] ?_; (with_reducible refine (spec_l1Abs.calls (wrap64 (((rd_T55 l0 x13_1).f1) - a1)) t440 _ A6.out).mono ?_); rintro e w' ⟨rfl, ⟨nd, rfl⟩⟩; refine ⟨_, rfl, ?_⟩))
   (try simp only [Act.put, List.setIfInBounds_toArray, List.set_cons_zero, List.set_cons_succ])
   have H := HC7.out
   clear HC7
   by_cases c10 : t440 < x6_1
   ·rw [if_pos c10] at H
    have c10b0 : decide (t440 < x6_1) = true := decide_eq_true c10
    clear c10
    (first | rw [c10b0] | (simp only [i64_w, i32_w]; rw [c10b0]) | skip)
    have H' := Aside0.mk H
    clear H
    go_wp2
    go_roundg k1
    case measure => have := HK1.out; omega
    case rel => exact ⟨(t440), (1), (wrap64 (x13_1 + 1)), y11_3_, y11_3_, y11_3_, H', ⟨by have := HK1.out; omega⟩, ⟨hB_⟩⟩
   rw [if_neg c10] at H
   have c10b0 : decide (t440 < x6_1) = false := decide_eq_false c10
   clear c10
   (first | rw [c10b0] | (simp only [i64_w, i32_w]; rw [c10b0]) | skip)
   by_cases c11 : t440 = x6_1
   rotate_left
   ·rw [if_neg c11] at H
    have c11b0 : (t440 == x6_1) = false := beq_eq_false_iff_ne.mpr c11
    have c11b1 : (t440 != x6_1) = true := bne_iff_ne.mpr c11
    have H' := Aside0.mk H
    clear H
    go_wp2
    go_roundg k1
    case measure => have := HK1.out; omega
    case rel => exact ⟨(x6_1), (x7_1), (wrap64 (x13_1 + 1)), y11_3_, y11_3_, y11_3_, H', ⟨by have := HK1.out; omega⟩, ⟨hB_⟩⟩
   rw [if_pos c11] at H
   have c11b0 : (t440 == x6_1) = true := beq_iff_eq.mpr c11
   have c11b1 : (t440 != x6_1) = false := bne_eq_false_iff_eq.mpr c11
   clear c11
   have H' := Aside0.mk H
   clear H
   go_wp2
   go_roundg k1
   case measure => have := HK1.out; omega
   case rel => exact ⟨(x6_1), (wrap64 (x7_1 + 1)), (wrap64 (x13_1 + 1)), y11_3_, y11_3_, y11_3_, H', ⟨by have := HK1.out; omega⟩, ⟨hB_⟩⟩

end Go.Proofs.Ytbheajjagkdjmaa.PFnLoci
