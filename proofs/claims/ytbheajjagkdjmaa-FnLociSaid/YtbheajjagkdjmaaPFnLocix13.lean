/- Printed for this claim: functions of the program as Lean functions, and that the calls answer so. -/
import Derived.Test.YtbheajjagkdjmaaPFnLocix0
import Derived.Test.YtbheajjagkdjmaaPFnLocix2
import Derived.Test.YtbheajjagkdjmaaPFnLocix3
import Derived.Test.YtbheajjagkdjmaaPFnLocix11
import Derived.Test.YtbheajjagkdjmaaPFnLocixD0
namespace Go.Proofs.Ytbheajjagkdjmaa.PFnLoci
open Go.RowKit Go.Proofs.YtbheajjagkdjmaaW.PrintWords Go.Proofs.YtbheajjagkdjmaaW.PrintLast Go.Proofs.YtbheajjagkdjmaaW.PrintMore
attribute [local go_sem] max2_int min2_int max_two min_two max_three min_three max_four min_four isSome_setCell   -- for this text's walks alone
theorem y13_0_ {p : Prop} (h : p := by first | rfl | (simp; done) | (simp [*]; done)) : p := h
theorem y13_1_ {p : Prop} (h : p := by (with_reducible repeat (first | apply kN_ | apply kD_ | apply kA_)); refine blk_put (cs := #[.string ((rd_T55 l0 x28_2).f0), .int .i64 0]) ?_ 1 _ rfl; (with_reducible repeat (first | apply kN_ | apply kD_ | apply kA_)); refine blk_put (cs := #[.string (⟨#[]⟩ : ByteArray), .int .i64 0]) ?_ 0 _ rfl; (with_reducible repeat (first | apply kN_ | apply kD_ | apply kA_)); exact BK488.out) : p := h
theorem y13_2_ {p : Prop} (h : p := by have := HJ3.out; have := HK2.out; omega) : p := h
abbrev b13_20_0 : Array Bool := #[false, false, false, false, false, false, false, false, false, false, false, false, false, false, false, false, false, false, false, false]
abbrev b13_20_1 : Array Bool := #[true, false, false, false, false, false, false, false, false, false, false, false, false, false, false, false, false, false, false, false]
abbrev b13_20_1def : Array Bool := #[true, true, true, true, false, true, true, true, true, false, true, true, true, false, false, false, false, false, false, false]
abbrev b13_20_1ef : Array Bool := #[true, true, true, true, false, true, true, true, true, false, false, false, false, false, false, false, false, false, false, false]
abbrev b13_20_1ffff : Array Bool := #[true, true, true, true, true, true, true, true, true, true, true, true, true, true, true, true, true, false, false, false]
abbrev b13_20_2f : Array Bool := #[true, true, true, true, false, true, false, false, false, false, false, false, false, false, false, false, false, false, false, false]
abbrev b13_20_3 : Array Bool := #[true, true, false, false, false, false, false, false, false, false, false, false, false, false, false, false, false, false, false, false]
abbrev b13_20_3def : Array Bool := #[true, true, true, true, false, true, true, true, true, false, true, true, true, true, false, false, false, false, false, false]
abbrev b13_20_3dff : Array Bool := #[true, true, true, true, true, true, true, true, true, false, true, true, true, true, false, false, false, false, false, false]
abbrev b13_20_3fff : Array Bool := #[true, true, true, true, true, true, true, true, true, true, true, true, true, true, false, false, false, false, false, false]
abbrev b13_20_3ffff : Array Bool := #[true, true, true, true, true, true, true, true, true, true, true, true, true, true, true, true, true, true, false, false]
abbrev b13_20_5ef : Array Bool := #[true, true, true, true, false, true, true, true, true, false, true, false, false, false, false, false, false, false, false, false]
abbrev b13_20_6f : Array Bool := #[true, true, true, true, false, true, true, false, false, false, false, false, false, false, false, false, false, false, false, false]
abbrev b13_20_7 : Array Bool := #[true, true, true, false, false, false, false, false, false, false, false, false, false, false, false, false, false, false, false, false]
abbrev b13_20_7fff : Array Bool := #[true, true, true, true, true, true, true, true, true, true, true, true, true, true, true, false, false, false, false, false]
abbrev b13_20_7ffff : Array Bool := #[true, true, true, true, true, true, true, true, true, true, true, true, true, true, true, true, true, true, true, false]
abbrev b13_20_def : Array Bool := #[true, true, true, true, false, true, true, true, true, false, true, true, false, false, false, false, false, false, false, false]
abbrev b13_20_ef : Array Bool := #[true, true, true, true, false, true, true, true, false, false, false, false, false, false, false, false, false, false, false, false]
abbrev b13_20_f : Array Bool := #[true, true, true, true, false, false, false, false, false, false, false, false, false, false, false, false, false, false, false, false]
abbrev b13_20_ffff : Array Bool := #[true, true, true, true, true, true, true, true, true, true, true, true, true, true, true, true, false, false, false, false]
abbrev b13_20_fffff : Array Bool := #[true, true, true, true, true, true, true, true, true, true, true, true, true, true, true, true, true, true, true, true]
abbrev b13_31_0 : Array Bool := #[false, false, false, false, false, false, false, false, false, false, false, false, false, false, false, false, false, false, false, false, false, false, false, false, false, false, false, false, false, false, false]
abbrev b13_31_1 : Array Bool := #[true, false, false, false, false, false, false, false, false, false, false, false, false, false, false, false, false, false, false, false, false, false, false, false, false, false, false, false, false, false, false]
abbrev b13_31_11eff : Array Bool := #[true, true, true, true, true, true, true, true, false, true, true, true, true, false, false, false, true, false, false, false, false, false, false, false, false, false, false, false, false, false, false]
abbrev b13_31_1ef1eff : Array Bool := #[true, true, true, true, true, true, true, true, false, true, true, true, true, false, false, false, true, true, true, true, false, true, true, true, true, false, false, false, false, false, false]
abbrev b13_31_1ef1fff : Array Bool := #[true, true, true, true, true, true, true, true, true, true, true, true, true, false, false, false, true, true, true, true, false, true, true, true, true, false, false, false, false, false, false]
abbrev b13_31_1ef3fff : Array Bool := #[true, true, true, true, true, true, true, true, true, true, true, true, true, true, false, false, true, true, true, true, false, true, true, true, true, false, false, false, false, false, false]
abbrev b13_31_1ef7fff : Array Bool := #[true, true, true, true, true, true, true, true, true, true, true, true, true, true, true, false, true, true, true, true, false, true, true, true, true, false, false, false, false, false, false]
abbrev b13_31_1eff : Array Bool := #[true, true, true, true, true, true, true, true, false, true, true, true, true, false, false, false, false, false, false, false, false, false, false, false, false, false, false, false, false, false, false]
abbrev b13_31_1f : Array Bool := #[true, true, true, true, true, false, false, false, false, false, false, false, false, false, false, false, false, false, false, false, false, false, false, false, false, false, false, false, false, false, false]
abbrev b13_31_1ff : Array Bool := #[true, true, true, true, true, true, true, true, true, false, false, false, false, false, false, false, false, false, false, false, false, false, false, false, false, false, false, false, false, false, false]
abbrev b13_31_1ff7fff : Array Bool := #[true, true, true, true, true, true, true, true, true, true, true, true, true, true, true, false, true, true, true, true, true, true, true, true, true, false, false, false, false, false, false]
abbrev b13_31_1fff : Array Bool := #[true, true, true, true, true, true, true, true, true, true, true, true, true, false, false, false, false, false, false, false, false, false, false, false, false, false, false, false, false, false, false]
abbrev b13_31_1ffff : Array Bool := #[true, true, true, true, true, true, true, true, true, true, true, true, true, true, true, true, true, false, false, false, false, false, false, false, false, false, false, false, false, false, false]
abbrev b13_31_1fffff : Array Bool := #[true, true, true, true, true, true, true, true, true, true, true, true, true, true, true, true, true, true, true, true, true, false, false, false, false, false, false, false, false, false, false]
abbrev b13_31_1ffffff : Array Bool := #[true, true, true, true, true, true, true, true, true, true, true, true, true, true, true, true, true, true, true, true, true, true, true, true, true, false, false, false, false, false, false]
abbrev b13_31_1fffffff : Array Bool := #[true, true, true, true, true, true, true, true, true, true, true, true, true, true, true, true, true, true, true, true, true, true, true, true, true, true, true, true, true, false, false]
abbrev b13_31_2f1eff : Array Bool := #[true, true, true, true, true, true, true, true, false, true, true, true, true, false, false, false, true, true, true, true, false, true, false, false, false, false, false, false, false, false, false]
abbrev b13_31_2ff : Array Bool := #[true, true, true, true, true, true, true, true, false, true, false, false, false, false, false, false, false, false, false, false, false, false, false, false, false, false, false, false, false, false, false]
abbrev b13_31_3 : Array Bool := #[true, true, false, false, false, false, false, false, false, false, false, false, false, false, false, false, false, false, false, false, false, false, false, false, false, false, false, false, false, false, false]
abbrev b13_31_31eff : Array Bool := #[true, true, true, true, true, true, true, true, false, true, true, true, true, false, false, false, true, true, false, false, false, false, false, false, false, false, false, false, false, false, false]
abbrev b13_31_3f : Array Bool := #[true, true, true, true, true, true, false, false, false, false, false, false, false, false, false, false, false, false, false, false, false, false, false, false, false, false, false, false, false, false, false]
abbrev b13_31_3ff : Array Bool := #[true, true, true, true, true, true, true, true, true, true, false, false, false, false, false, false, false, false, false, false, false, false, false, false, false, false, false, false, false, false, false]
abbrev b13_31_3ff7fff : Array Bool := #[true, true, true, true, true, true, true, true, true, true, true, true, true, true, true, false, true, true, true, true, true, true, true, true, true, true, false, false, false, false, false]
abbrev b13_31_3fff : Array Bool := #[true, true, true, true, true, true, true, true, true, true, true, true, true, true, false, false, false, false, false, false, false, false, false, false, false, false, false, false, false, false, false]
abbrev b13_31_3ffff : Array Bool := #[true, true, true, true, true, true, true, true, true, true, true, true, true, true, true, true, true, true, false, false, false, false, false, false, false, false, false, false, false, false, false]
abbrev b13_31_3fffff : Array Bool := #[true, true, true, true, true, true, true, true, true, true, true, true, true, true, true, true, true, true, true, true, true, true, false, false, false, false, false, false, false, false, false]
abbrev b13_31_3ffffff : Array Bool := #[true, true, true, true, true, true, true, true, true, true, true, true, true, true, true, true, true, true, true, true, true, true, true, true, true, true, false, false, false, false, false]
abbrev b13_31_3fffffff : Array Bool := #[true, true, true, true, true, true, true, true, true, true, true, true, true, true, true, true, true, true, true, true, true, true, true, true, true, true, true, true, true, true, false]
abbrev b13_31_6f1eff : Array Bool := #[true, true, true, true, true, true, true, true, false, true, true, true, true, false, false, false, true, true, true, true, false, true, true, false, false, false, false, false, false, false, false]
abbrev b13_31_6ff : Array Bool := #[true, true, true, true, true, true, true, true, false, true, true, false, false, false, false, false, false, false, false, false, false, false, false, false, false, false, false, false, false, false, false]
abbrev b13_31_7 : Array Bool := #[true, true, true, false, false, false, false, false, false, false, false, false, false, false, false, false, false, false, false, false, false, false, false, false, false, false, false, false, false, false, false]
abbrev b13_31_71eff : Array Bool := #[true, true, true, true, true, true, true, true, false, true, true, true, true, false, false, false, true, true, true, false, false, false, false, false, false, false, false, false, false, false, false]
abbrev b13_31_7f : Array Bool := #[true, true, true, true, true, true, true, false, false, false, false, false, false, false, false, false, false, false, false, false, false, false, false, false, false, false, false, false, false, false, false]
abbrev b13_31_7ff : Array Bool := #[true, true, true, true, true, true, true, true, true, true, true, false, false, false, false, false, false, false, false, false, false, false, false, false, false, false, false, false, false, false, false]
abbrev b13_31_7ff7fff : Array Bool := #[true, true, true, true, true, true, true, true, true, true, true, true, true, true, true, false, true, true, true, true, true, true, true, true, true, true, true, false, false, false, false]
abbrev b13_31_7fff : Array Bool := #[true, true, true, true, true, true, true, true, true, true, true, true, true, true, true, false, false, false, false, false, false, false, false, false, false, false, false, false, false, false, false]
abbrev b13_31_7ffff : Array Bool := #[true, true, true, true, true, true, true, true, true, true, true, true, true, true, true, true, true, true, true, false, false, false, false, false, false, false, false, false, false, false, false]
abbrev b13_31_7fffff : Array Bool := #[true, true, true, true, true, true, true, true, true, true, true, true, true, true, true, true, true, true, true, true, true, true, true, false, false, false, false, false, false, false, false]
abbrev b13_31_7ffffff : Array Bool := #[true, true, true, true, true, true, true, true, true, true, true, true, true, true, true, true, true, true, true, true, true, true, true, true, true, true, true, false, false, false, false]
abbrev b13_31_7fffffff : Array Bool := #[true, true, true, true, true, true, true, true, true, true, true, true, true, true, true, true, true, true, true, true, true, true, true, true, true, true, true, true, true, true, true]
abbrev b13_31_ef1eff : Array Bool := #[true, true, true, true, true, true, true, true, false, true, true, true, true, false, false, false, true, true, true, true, false, true, true, true, false, false, false, false, false, false, false]
abbrev b13_31_eff : Array Bool := #[true, true, true, true, true, true, true, true, false, true, true, true, false, false, false, false, false, false, false, false, false, false, false, false, false, false, false, false, false, false, false]
abbrev b13_31_f : Array Bool := #[true, true, true, true, false, false, false, false, false, false, false, false, false, false, false, false, false, false, false, false, false, false, false, false, false, false, false, false, false, false, false]
abbrev b13_31_f1eff : Array Bool := #[true, true, true, true, true, true, true, true, false, true, true, true, true, false, false, false, true, true, true, true, false, false, false, false, false, false, false, false, false, false, false]
abbrev b13_31_ff : Array Bool := #[true, true, true, true, true, true, true, true, false, false, false, false, false, false, false, false, false, false, false, false, false, false, false, false, false, false, false, false, false, false, false]
abbrev b13_31_fff : Array Bool := #[true, true, true, true, true, true, true, true, true, true, true, true, false, false, false, false, false, false, false, false, false, false, false, false, false, false, false, false, false, false, false]
abbrev b13_31_ffff : Array Bool := #[true, true, true, true, true, true, true, true, true, true, true, true, true, true, true, true, false, false, false, false, false, false, false, false, false, false, false, false, false, false, false]
abbrev b13_31_fffff : Array Bool := #[true, true, true, true, true, true, true, true, true, true, true, true, true, true, true, true, true, true, true, true, false, false, false, false, false, false, false, false, false, false, false]
abbrev b13_31_ffffff : Array Bool := #[true, true, true, true, true, true, true, true, true, true, true, true, true, true, true, true, true, true, true, true, true, true, true, true, false, false, false, false, false, false, false]
abbrev b13_31_fffffff : Array Bool := #[true, true, true, true, true, true, true, true, true, true, true, true, true, true, true, true, true, true, true, true, true, true, true, true, true, true, true, true, false, false, false]
set_option linter.unusedVariables false
set_option linter.unusedSimpArgs false

/-! ### spec_NearestTo: function 37 -/
def spec_NearestTo.T8 : Bool × List (List Nat × List Nat) := (true, [([], []), ([], []), ([0, 1], [0, 1]), ([2], [2]), ([3], [3]), ([4, 3], [3, 4]), ([5, 3, 3], [3, 5]), ([6], [6]), ([7, 6], [6, 7]), ([6], [6]), ([6], [6]), ([9, 10, 6], [6, 9, 10]), ([11, 6], [6, 11]), ([12, 6], [6, 12]), ([8, 13, 6], [6, 8, 13]), ([14, 6, 6], [6, 14]), ([6], [6]), ([6], [6]), ([16, 17, 6], [6, 16, 17]), ([18, 6], [6, 18]), ([19, 6], [6, 19]), ([6], [6]), ([6], [6]), ([21, 22, 6], [6, 21, 22]), ([23, 6], [6, 23]), ([24, 6], [6, 24]), ([20, 25, 6], [6, 20, 25]), ([26, 15, 6], [6, 26]), ([15, 27, 6], [6, 15, 27]), ([6, 28, 3], [3, 6, 28]), ([3, 29], [3, 29])])
def spec_NearestTo.B8 : List Nat := [0, 0, 3, 7, 15, 31, 63, 127, 255, 127, 127, 1663, 3711, 7807, 16383, 32767, 127, 127, 196735, 458879, 983167, 127, 127, 6291583, 14680191, 31457407, 67043455, 134217727, 268435455, 536870911, 1073741823]
theorem spec_NearestTo.tab8 : rtab .any (opsOf Try.f37 8) = spec_NearestTo.T8 := by kernel_rfl
theorem spec_NearestTo.bits8 : waitsOk spec_NearestTo.T8.2 spec_NearestTo.B8 = true := by kernel_rfl
def spec_NearestTo.T11 : Bool × List (List Nat × List Nat) := (true, [([], []), ([], []), ([0, 1], [0, 1]), ([2], [2]), ([3], [3]), ([], []), ([], []), ([5, 6], [5, 6]), ([7], [7]), ([8], [8]), ([], []), ([], []), ([10, 11], [10, 11]), ([12], [12]), ([13], [13]), ([9, 14], [9, 14]), ([15], [15]), ([4, 16, 0, 1, 2, 3, 4], [4]), ([16, 17, 0, 1, 2, 3, 4, 5, 6, 7, 8, 9, 10, 11, 12, 13, 14, 15, 16, 17], [16]), ([18, 0, 1, 2, 3, 4, 5, 6, 7, 8, 9, 10, 11, 12, 13, 14, 15, 16, 17, 18], [])])
def spec_NearestTo.B11 : List Nat := [0, 0, 3, 7, 15, 0, 0, 96, 224, 480, 0, 0, 3072, 7168, 15360, 32736, 65504, 131071, 262143, 524287]
theorem spec_NearestTo.tab11 : rtab .any (opsOf Try.f37 11) = spec_NearestTo.T11 := by kernel_rfl
theorem spec_NearestTo.bits11 : waitsOk spec_NearestTo.T11.2 spec_NearestTo.B11 = true := by kernel_rfl
set_option maxHeartbeats 8000000 in
set_option maxRecDepth 100000 in
theorem spec_NearestTo.calls (k : Nat) (A0 : Option Addr) (c0 : Nat) (l0 : List (S55)) (a1 : ByteArray) (r1 : ByteArray) (r2 : Int) (r3 : Bool) (w : World) (hr0 : Kd.C k55 w A0 l0.length l0) (hc0 : l0.length ≤ c0) (h : spec_NearestTo.f k l0 a1 = some (r1, r2, r3)) :
 Calls Try.prog 37 #[.slice A0 l0.length c0, .string a1] w fun e w' => e = .returned (.tuple #[.string r1, .int .i64 r2, .bool r3]) ∧ Below w.heap.size w w' := by
 have hu55 := Try.underlying55
 have HR0 := Aside0.mk hr0
 have HC0 := Aside0.mk hc0
 clear hr0 hc0
 have HB := Aside0.mk (Below.refl w.heap.size w)
 have H : ((spec_loFind.f k l0 a1).bind fun t481 => ((spec_loGood.f k l0).bind fun t482 => (if t482 = true then (if t481 < 0 then (spec_NearestTo.j0 k l0 t481 true) else (spec_NearestTo.j0 k l0 t481 ((l0.length : Int) == 1))) else (spec_NearestTo.j0 k l0 t481 true)))) = some (r1, r2, r3) := h
 clear h
 replace H := Option.bind_eq_some_iff.mp H
 obtain ⟨t481, A30, H⟩ := H
 try dsimp only at H
 have A3 := Aside0.mk A30
 clear A30
 have HC4 := Aside0.mk H
 clear H
 go_enter Try.func37, Try.ntmps37
 go_upto_region 2 with (first | ((with_reducible refine gate_callee (f := 52) rfl ?_); refine goesM_ (some 13) Try.func52 #[.slice A0 l0.length c0, .string a1] ?_; (with_reducible refine (spec_loFind.calls k _ _ l0 a1 t481 _ ?side1 ?side2 A3.out).mono ?_); (case side1 => repeat (first | exact HR0.out | (with_reducible first | apply cA_ | apply cN_ | apply cD_))); (case side2 => exact HC0.out); rintro e w5 ⟨rfl, hb⟩; refine ⟨_, rfl, ?_⟩; replace HB := aM_ (below_step hB_ hb); (try clear hb)))
 (try simp only [Act.put, List.setIfInBounds_toArray, List.set_cons_zero, List.set_cons_succ])
 go_cut [25] (fun v25 wc => ∃ (kq : Nat) (x25_3 : Bool), v25 = .bool x25_3 ∧ Aside0 (spec_NearestTo.j0 kq l0 t481 x25_3 = some (r1, r2, r3)) ∧ Aside0 (kq ≤ k) ∧ Aside0 (Below w.heap.size w wc))
 case first =>
  have H := HC4.out
  clear HC4
  replace H := Option.bind_eq_some_iff.mp H
  obtain ⟨t482, A60, H⟩ := H
  try dsimp only at H
  have A6 := Aside0.mk A60
  clear A60
  by_cases c7 : t482 = true
  rotate_left
  ·replace c7 := Bool.eq_false_iff.mpr c7
   subst c7
   replace H := in_ H (show ¬ (false = true) by decide)
   have H' := Aside0.mk H
   clear H
   go_wp2_with (first | ((with_reducible refine gate_callee (f := 39) rfl ?_); refine goesM_ (some 15) Try.func39 #[.slice A0 l0.length c0] ?_; (with_reducible refine (spec_loGood.calls k _ _ l0 false _ ?side1 ?side2 A6.out).mono ?_); (case side1 => repeat (first | exact (Kd.C_below HR0.out HB.out) | (with_reducible first | apply cA_ | apply cN_ | apply cD_))); (case side2 => exact HC0.out); rintro e w11 ⟨rfl, hb⟩; refine ⟨_, rfl, ?_⟩; replace HB := aM_ (below_step hB_ hb); (try clear hb)))
   go_meet
   case rel => exact ⟨_, (true), y13_0_, H', ⟨oR_⟩, ⟨hB_⟩⟩
  subst c7
  replace H := ip_ H rfl
  by_cases c8 : t481 < 0
  ·rw [if_pos c8] at H
   have c8b0 : decide (t481 < 0) = true := decide_eq_true c8
   clear c8
   (first | rw [c8b0] | (simp only [i64_w, i32_w]; rw [c8b0]) | skip)
   have H' := Aside0.mk H
   clear H
   go_wp2_with (first | ((with_reducible refine gate_callee (f := 39) rfl ?_); refine goesM_ (some 15) Try.func39 #[.slice A0 l0.length c0] ?_; (with_reducible refine (spec_loGood.calls k _ _ l0 true _ ?side1 ?side2 A6.out).mono ?_); (case side1 => repeat (first | exact (Kd.C_below HR0.out HB.out) | (with_reducible first | apply cA_ | apply cN_ | apply cD_))); (case side2 => exact HC0.out); rintro e w9 ⟨rfl, hb⟩; refine ⟨_, rfl, ?_⟩; replace HB := aM_ (below_step hB_ hb); (try clear hb)))
   go_meet
   case rel => exact ⟨_, (true), y13_0_, H', ⟨oR_⟩, ⟨hB_⟩⟩
  rw [if_neg c8] at H
  have c8b0 : decide (t481 < 0) = false := decide_eq_false c8
  clear c8
  (first | rw [c8b0] | (simp only [i64_w, i32_w]; rw [c8b0]) | skip)
  have H' := Aside0.mk H
  clear H
  go_wp2_with (first | ((with_reducible refine gate_callee (f := 39) rfl ?_); refine goesM_ (some 15) Try.func39 #[.slice A0 l0.length c0] ?_; (with_reducible refine (spec_loGood.calls k _ _ l0 true _ ?side1 ?side2 A6.out).mono ?_); (case side1 => repeat (first | exact (Kd.C_below HR0.out HB.out) | (with_reducible first | apply cA_ | apply cN_ | apply cD_))); (case side2 => exact HC0.out); rintro e w10 ⟨rfl, hb⟩; refine ⟨_, rfl, ?_⟩; replace HB := aM_ (below_step hB_ hb); (try clear hb)))
  go_meet
  case rel => exact ⟨_, (((l0.length : Int) == 1)), y13_0_, H', ⟨oR_⟩, ⟨hB_⟩⟩
 case rest =>
  clear HC4
  obtain ⟨kq, x25_3, rfl, HA, HJ3, HB⟩ := hcut
  cases kq with
  | zero => exact absurd HA.out (by simp [spec_NearestTo.j0])
  | succ kj3 =>
   have H := HA.out
   clear HA
   simp only [spec_NearestTo.j0] at H
   by_cases c12 : x25_3 = true
   ·subst c12
    replace H := ip_ H rfl
    simp only [Option.some.injEq, Prod.mk.injEq] at H
    obtain ⟨rfl, rfl, rfl⟩ := H
    go_wp2
    go_ret3
    exact ⟨rT_, hB_⟩
   replace c12 := Bool.eq_false_iff.mpr c12
   subst c12
   replace H := in_ H (show ¬ (false = true) by decide)
   have H' := Aside0.mk H
   clear H
   go_wp2
   go_loopg [8, 28] kj3 (fun kq v8 v28 w' => ∃ (x8_2 : Int) (x28_2 : Int), v8 = .int .i64 x8_2 ∧ v28 = .int .i64 x28_2 ∧ Aside0 (spec_NearestTo.l0 kq l0 t481 x8_2 l0 (l0.length : Int) x28_2 = some (r1, r2, r3)) ∧ Aside0 (kq ≤ kj3) ∧ Aside0 (Below w.heap.size w w'))
   case atStart => exact ⟨((-1)), (0), y13_0_, y13_0_, H', ⟨Nat.le_refl _⟩, ⟨hB_⟩⟩
   case round =>
    clear H'
    (try clear c12)
    obtain ⟨x8_2, x28_2, rfl, rfl, HA, HK2, HB⟩ := hrel
    cases gk with
    | zero => exact absurd HA.out (by simp [spec_NearestTo.l0])
    | succ k2 =>
     have H := HA.out
     clear HA
     simp only [spec_NearestTo.l0] at H
     by_cases c13 : x28_2 < (l0.length : Int)
     rotate_left
     ·rw [if_neg c13] at H
      have c13b0 : decide (x28_2 < (l0.length : Int)) = false := decide_eq_false c13
      clear c13
      by_cases c38 : 0 ≤ x8_2
      rotate_left
      ·rw [if_neg c38] at H
       exact absurd H (by simp)
      rw [if_pos c38] at H
      have c38b0 : decide (0 ≤ x8_2) = true := decide_eq_true c38
      clear c38
      by_cases c39 : x8_2 < (l0.length : Int)
      rotate_left
      ·rw [if_neg c39] at H
       exact absurd H (by simp)
      rw [if_pos c39] at H
      have c39b0 : decide (x8_2 < (l0.length : Int)) = true := decide_eq_true c39
      clear c39
      by_cases c40 : 0 ≤ t481
      rotate_left
      ·rw [if_neg c40] at H
       exact absurd H (by simp)
      rw [if_pos c40] at H
      have c40b0 : decide (0 ≤ t481) = true := decide_eq_true c40
      clear c40
      by_cases c41 : t481 < (l0.length : Int)
      rotate_left
      ·rw [if_neg c41] at H
       exact absurd H (by simp)
      rw [if_pos c41] at H
      have c41b0 : decide (t481 < (l0.length : Int)) = true := decide_eq_true c41
      clear c41
      replace H := Option.bind_eq_some_iff.mp H
      obtain ⟨t486, A420, H⟩ := H
      try dsimp only at H
      have A42 := Aside0.mk A420
      clear A420
      simp only [Option.some.injEq, Prod.mk.injEq] at H
      obtain ⟨rfl, rfl, rfl⟩ := H
      try go_wp2
      replace HB := aM_ (below_drew1 HB.out)
      have p483 : 0 ≤ (x8_2 : Int) := ode_
      have q483 : x8_2 < (l0.length : Int) := ode_
      obtain ⟨ad483, e483, hx483_0, hx483_1⟩ := at_T55 HR0.out x8_2 p483 q483
      have hw483_1 := hx483_1
      have hw483_0 := hx483_0
      cases e483
      replace hx483_0 := (HB.out.cell (World.block_lt_of_cell? w _ hx483_0)).trans hx483_0
      replace hx483_1 := (HB.out.cell (World.block_lt_of_cell? w _ hx483_1)).trans hx483_1
      replace p483 := eq_true p483
      replace q483 := eq_true q483
      have p484 : 0 ≤ (x8_2 : Int) := ode_
      have q484 : x8_2 < (l0.length : Int) := ode_
      obtain ⟨ad484, e484, hx484_0, hx484_1⟩ := at_T55 HR0.out x8_2 p484 q484
      have hw484_1 := hx484_1
      have hw484_0 := hx484_0
      obtain rfl : ad483 = ad484 := (by injection e484)
      replace hx484_0 := (HB.out.cell (World.block_lt_of_cell? w _ hx484_0)).trans hx484_0
      replace hx484_1 := (HB.out.cell (World.block_lt_of_cell? w _ hx484_1)).trans hx484_1
      replace p484 := eq_true p484
      replace q484 := eq_true q484
      have p485 : 0 ≤ (t481 : Int) := ode_
      have q485 : t481 < (l0.length : Int) := ode_
      obtain ⟨ad485, e485, hx485_0, hx485_1⟩ := at_T55 HR0.out t481 p485 q485
      have hw485_1 := hx485_1
      have hw485_0 := hx485_0
      obtain rfl : ad483 = ad485 := (by injection e485)
      replace hx485_0 := (HB.out.cell (World.block_lt_of_cell? w _ hx485_0)).trans hx485_0
      replace hx485_1 := (HB.out.cell (World.block_lt_of_cell? w _ hx485_1)).trans hx485_1
      replace p485 := eq_true p485
      replace q485 := eq_true q485
      refine start_ (n := 20) (S := fun w' => w'.cell? (ad483.add ((x8_2).toNat * 2)) = some (.string ((rd_T55 l0 x8_2).f0)) ∧ w'.cell? ⟨(ad483.add ((x8_2).toNat * 2)).block, (ad483.add ((x8_2).toNat * 2)).off + 1, none⟩ = some (.int .i64 ((rd_T55 l0 x8_2).f1)) ∧ w'.cell? (ad483.add ((x8_2).toNat * 2)) = some (.string ((rd_T55 l0 x8_2).f0)) ∧ w'.cell? ⟨(ad483.add ((x8_2).toNat * 2)).block, (ad483.add ((x8_2).toNat * 2)).off + 1, none⟩ = some (.int .i64 ((rd_T55 l0 x8_2).f1)) ∧ w'.cell? (ad483.add ((t481).toNat * 2)) = some (.string ((rd_T55 l0 t481).f0)) ∧ w'.cell? ⟨(ad483.add ((t481).toNat * 2)).block, (ad483.add ((t481).toNat * 2)).off + 1, none⟩ = some (.int .i64 ((rd_T55 l0 t481).f1))) (ds := []) b13_20_0 (by kernel_rfl) rfl rfl ⟨((HB.out.cell (World.block_lt_of_cell? w _ hw483_0)).trans hw483_0), ((HB.out.cell (World.block_lt_of_cell? w _ hw483_1)).trans hw483_1), ((HB.out.cell (World.block_lt_of_cell? w _ hw484_0)).trans hw484_0), ((HB.out.cell (World.block_lt_of_cell? w _ hw484_1)).trans hw484_1), ((HB.out.cell (World.block_lt_of_cell? w _ hw485_0)).trans hw485_0), ((HB.out.cell (World.block_lt_of_cell? w _ hw485_1)).trans hw485_1)⟩ (fun hHeld => ?_); refine with_tabW spec_NearestTo.tab11 spec_NearestTo.bits11 (fun HT_ HW_ => ?_)
      generalize wr.drew = w43 at HB hx483_0 hx483_1 hx484_0 hx484_1 hx485_0 hx485_1 hHeld ⊢
      refine pure_ (i := 0) (N := some 66) (v := ?_) (a' := ?_) b13_20_1 rfl rfl (aT_ HT_ (by kernel_rfl)) (fun _ _ _ h => h) (Or.inl ⟨by rfl, ?_⟩) ?_ ?_; rotate_left; (focus intro w'; go_simp; with_reducible rfl); rotate_left; (focus simp only [aP_, aQ_, aS_, aZ_, aU_, i64_w, i32_w]; try rfl)
      refine pure_ (i := 1) (N := some 67) (v := ?_) (a' := ?_) b13_20_3 rfl rfl (aT_ HT_ (by kernel_rfl)) (fun _ _ _ h => h) (Or.inl ⟨by rfl, ?_⟩) ?_ ?_; rotate_left; (focus intro w'; go_simp; with_reducible rfl); rotate_left; (focus simp only [aP_, aQ_, aS_, aZ_, aU_, i64_w, i32_w]; try rfl)
      refine pure_ (i := 2) (N := some 68) (v := ?_) (a' := ?_) b13_20_7 rfl rfl (aT_ HT_ (by kernel_rfl)) (fun _ _ _ h => h) (Or.inl ⟨by rfl, ?_⟩) ?_ ?_; rotate_left; (focus intro w'; go_simp; with_reducible rfl); rotate_left; (focus simp only [aP_, aQ_, aS_, aZ_, aU_, i64_w, i32_w]; try rfl)
      refine pure_ (i := 3) (N := some 69) (v := ?_) (a' := ?_) b13_20_f rfl rfl (aT_ HT_ (by kernel_rfl)) (fun _ _ _ h => h) (Or.inl ⟨by rfl, ?_⟩) ?_ ?_; rotate_left; (focus intro w'; go_simp; with_reducible rfl); rotate_left; (focus simp only [aP_, aQ_, aS_, aZ_, aU_, i64_w, i32_w]; try rfl)
      refine pure_ (i := 5) (N := some 71) (v := ?_) (a' := ?_) b13_20_2f rfl rfl (aT_ HT_ (by kernel_rfl)) (fun _ _ _ h => h) (Or.inl ⟨by rfl, ?_⟩) ?_ ?_; rotate_left; (focus intro w'; go_simp; with_reducible rfl); rotate_left; (focus simp only [aP_, aQ_, aS_, aZ_, aU_, i64_w, i32_w]; try rfl)
      refine pure_ (i := 6) (N := some 72) (v := ?_) (a' := ?_) b13_20_6f rfl rfl (aT_ HT_ (by kernel_rfl)) (fun _ _ _ h => h) (Or.inl ⟨by rfl, ?_⟩) ?_ ?_; rotate_left; (focus intro w'; go_simp; with_reducible rfl); rotate_left; (focus simp only [aP_, aQ_, aS_, aZ_, aU_, i64_w, i32_w]; try rfl)
      refine pure_ (i := 7) (N := some 73) (v := ?_) (a' := ?_) b13_20_ef rfl rfl (aT_ HT_ (by kernel_rfl)) (fun _ _ _ h => h) (Or.inl ⟨by rfl, ?_⟩) ?_ ?_; rotate_left; (focus intro w'; go_simp; with_reducible rfl); rotate_left; (focus simp only [aP_, aQ_, aS_, aZ_, aU_, i64_w, i32_w]; try rfl)
      refine pure_ (i := 8) (N := some 74) (v := ?_) (a' := ?_) b13_20_1ef rfl rfl (aT_ HT_ (by kernel_rfl)) (fun _ _ _ h => h) (Or.inl ⟨by rfl, ?_⟩) ?_ ?_; rotate_left; (focus intro w'; go_simp; with_reducible rfl); rotate_left; (focus simp only [aP_, aQ_, aS_, aZ_, aU_, i64_w, i32_w]; try rfl)
      refine pure_ (i := 10) (N := some 76) (v := ?_) (a' := ?_) b13_20_5ef rfl rfl (aT_ HT_ (by kernel_rfl)) (fun _ _ _ h => h) (Or.inl ⟨by rfl, ?_⟩) ?_ ?_; rotate_left; (focus intro w'; go_simp; with_reducible rfl); rotate_left; (focus simp only [aP_, aQ_, aS_, aZ_, aU_, i64_w, i32_w]; try rfl)
      refine pure_ (i := 11) (N := some 77) (v := ?_) (a' := ?_) b13_20_def rfl rfl (aT_ HT_ (by kernel_rfl)) (fun _ _ _ h => h) (Or.inl ⟨by rfl, ?_⟩) ?_ ?_; rotate_left; (focus intro w'; go_simp; with_reducible rfl); rotate_left; (focus simp only [aP_, aQ_, aS_, aZ_, aU_, i64_w, i32_w]; try rfl)
      refine pure_ (i := 12) (N := some 78) (v := ?_) (a' := ?_) b13_20_1def rfl rfl (aT_ HT_ (by kernel_rfl)) (fun _ _ _ h => h) (Or.inl ⟨by rfl, ?_⟩) ?_ ?_; rotate_left; (focus intro w'; go_simp; with_reducible rfl); rotate_left; (focus simp only [aP_, aQ_, aS_, aZ_, aU_, i64_w, i32_w]; try rfl)
      refine pure_ (i := 13) (N := some 79) (v := ?_) (a' := ?_) b13_20_3def rfl rfl (aT_ HT_ (by kernel_rfl)) (fun _ _ _ h => h) (Or.inl ⟨by rfl, ?_⟩) ?_ ?_; rotate_left; (focus intro w'; go_simp; with_reducible rfl); rotate_left; (focus simp only [aP_, aQ_, aS_, aZ_, aU_, i64_w, i32_w]; try rfl)
      refine take_ (i := 4) (N := some 70) (v := ?_) (a' := ?_) b13_20_3dff rfl rfl (take_ofW HT_.out HW_.out (by kernel_rfl)) (fun _ _ _ h => h) (Or.inl ⟨by rfl, ?_⟩) hHeld ?_ ?_; rotate_left; (focus rintro w' ⟨s0, s1, s2, s3, s4, s5⟩; go_simp; with_reducible rfl); rotate_left; (focus simp only [aP_, aQ_, aS_, aZ_, aU_, i64_w, i32_w]; try rfl)
      refine take_ (i := 9) (N := some 75) (v := ?_) (a' := ?_) b13_20_3fff rfl rfl (take_ofW HT_.out HW_.out (by kernel_rfl)) (fun _ _ _ h => h) (Or.inl ⟨by rfl, ?_⟩) hHeld ?_ ?_; rotate_left; (focus rintro w' ⟨s0, s1, s2, s3, s4, s5⟩; go_simp; with_reducible rfl); rotate_left; (focus simp only [aP_, aQ_, aS_, aZ_, aU_, i64_w, i32_w]; try rfl)
      refine take_ (i := 14) (N := some 80) (v := ?_) (a' := ?_) b13_20_7fff rfl rfl (take_ofW HT_.out HW_.out (by kernel_rfl)) (fun _ _ _ h => h) (Or.inl ⟨by rfl, ?_⟩) hHeld ?_ ?_; rotate_left; (focus rintro w' ⟨s0, s1, s2, s3, s4, s5⟩; go_simp; with_reducible rfl); rotate_left; (focus simp only [aP_, aQ_, aS_, aZ_, aU_, i64_w, i32_w]; try rfl)
      refine pure_ (i := 15) (N := some 81) (v := ?_) (a' := ?_) b13_20_ffff rfl rfl (aT_ HT_ (by kernel_rfl)) (fun _ _ _ h => h) (Or.inl ⟨by rfl, ?_⟩) ?_ ?_; rotate_left; (focus intro w'; go_simp; with_reducible rfl); rotate_left; (focus simp only [aP_, aQ_, aS_, aZ_, aU_, i64_w, i32_w]; try rfl)
      refine one_ (i := 16) (N := some 82) b13_20_1ffff rfl rfl (one_of HT_.out (by kernel_rfl)) (by decide) (fun K hK => ?_)
      refine goes_ Try.func77 (by kernel_rfl) rfl #[.int .i64 (wrap64 (((rd_T55 l0 x8_2).f1) - ((rd_T55 l0 t481).f1)))] (by rfl) rfl rfl aR_ ?_
      with_reducible refine (spec_l1Abs.calls (wrap64 (((rd_T55 l0 x8_2).f1) - ((rd_T55 l0 t481).f1))) t486 _ A42.out).mono ?_
      rintro e w' ⟨rfl, ⟨nd, rfl⟩⟩
      refine ⟨_, rfl, ?_⟩
      refine hK.out _ _ ⟨((HB.out.cell (World.block_lt_of_cell? w _ hw483_0)).trans hw483_0), ((HB.out.cell (World.block_lt_of_cell? w _ hw483_1)).trans hw483_1), ((HB.out.cell (World.block_lt_of_cell? w _ hw484_0)).trans hw484_0), ((HB.out.cell (World.block_lt_of_cell? w _ hw484_1)).trans hw484_1), ((HB.out.cell (World.block_lt_of_cell? w _ hw485_0)).trans hw485_0), ((HB.out.cell (World.block_lt_of_cell? w _ hw485_1)).trans hw485_1)⟩ (fun hHeld => ?_)
      clear hK K
      refine norm_ (a' := ?_) ?_ ?_; rotate_left; (focus show Act.put _ (some 82) _ = _; simp only [aP_, aQ_, aS_, aZ_, aU_, i64_w, i32_w]; try rfl)
      refine pure_ (i := 17) (N := some 4) (v := ?_) (a' := ?_) b13_20_3ffff rfl rfl (aT_ HT_ (by kernel_rfl)) (fun _ _ _ h => h) (Or.inl ⟨by rfl, ?_⟩) ?_ ?_; rotate_left; (focus intro w'; go_simp; with_reducible rfl); rotate_left; (focus simp only [aP_, aQ_, aS_, aZ_, aU_, i64_w, i32_w]; try rfl)
      refine pure_ (i := 18) (N := some 5) (v := ?_) (a' := ?_) b13_20_7ffff rfl rfl (aT_ HT_ (by kernel_rfl)) (fun _ _ _ h => h) (Or.inl ⟨by rfl, ?_⟩) ?_ ?_; rotate_left; (focus intro w'; go_simp; with_reducible rfl); rotate_left; (focus simp only [aP_, aQ_, aS_, aZ_, aU_, i64_w, i32_w]; try rfl)
      refine pure_ (i := 19) (N := some 6) (v := ?_) (a' := ?_) b13_20_fffff rfl rfl (aT_ HT_ (by kernel_rfl)) (fun _ _ _ h => h) (Or.inl ⟨by rfl, ?_⟩) ?_ ?_; rotate_left; (focus intro w'; go_simp; with_reducible rfl); rotate_left; (focus simp only [aP_, aQ_, aS_, aZ_, aU_, i64_w, i32_w]; try rfl)
      refine done_ (done_of HT_.out (by kernel_rfl)) ?_
      try go_wp2
      go_ret3
      exact ⟨rT_, hB_⟩
     rw [if_pos c13] at H
     have c13b0 : decide (x28_2 < (l0.length : Int)) = true := decide_eq_true c13
     clear c13
     by_cases c14 : 0 ≤ x28_2
     rotate_left
     ·rw [if_neg c14] at H
      exact absurd H (by simp)
     rw [if_pos c14] at H
     have c14b0 : decide (0 ≤ x28_2) = true := decide_eq_true c14
     clear c14
     by_cases c15 : x28_2 < (l0.length : Int)
     rotate_left
     ·rw [if_neg c15] at H
      exact absurd H (by simp)
     rw [if_pos c15] at H
     have c15b0 : decide (x28_2 < (l0.length : Int)) = true := decide_eq_true c15
     clear c15
     by_cases c16 : x28_2 = t481
     ·rw [if_pos c16] at H
      have c16b0 : (x28_2 == t481) = true := beq_iff_eq.mpr c16
      have c16b1 : (x28_2 != t481) = false := bne_eq_false_iff_eq.mpr c16
      clear c16
      have H' := Aside0.mk H
      clear H
      have p487 : 0 ≤ (x28_2 : Int) := ode_
      have q487 : x28_2 < (l0.length : Int) := ode_
      obtain ⟨ad487, e487, hx487_0, hx487_1⟩ := at_T55 HR0.out x28_2 p487 q487
      cases e487
      replace hx487_0 := (HB.out.cell (World.block_lt_of_cell? w _ hx487_0)).trans hx487_0
      replace hx487_1 := (HB.out.cell (World.block_lt_of_cell? w _ hx487_1)).trans hx487_1
      replace p487 := eq_true p487
      replace q487 := eq_true q487
      try go_wp2_with (first | ((with_reducible refine gate_dst (N := 10) rfl ?_); (try (refine gate_guard (by rfl) ?_; dsimp only)); refine box_event ?hg (N := 10) ?hd (cs := #[.string (⟨#[]⟩ : ByteArray), .int .i64 0]) (t := 55) ?hr ?_; (case hd => rfl); (case hg => rfl); (case hr => first | (go_simp; done) | (go_simp; rfl)); intro gb488 hg w17 hbox hb; have BK488 := aM_ (hbox); have GW488 := aM_ (gw_ w hg); have GE488 := aM_ (gw_ w hg); replace HB := aM_ (below_step hB_ hb); clear hb hbox hg; have hz18 := cf2_ BK488.out))
      have n0_ : Aside0 (((w17.setCell ⟨gb488, 0, none⟩ (.string ((rd_T55 l0 x28_2).f0))).setCell ⟨gb488, 1, none⟩ (.int .i64 ((rd_T55 l0 x28_2).f1))).heap[gb488]? = some (.cells #[.string ((rd_T55 l0 x28_2).f0), .int .i64 ((rd_T55 l0 x28_2).f1)] 55 (0, 0))) := ⟨y13_1_⟩
      have n1_ : Aside0 (Below w.heap.size w ((w17.setCell ⟨gb488, 0, none⟩ (.string ((rd_T55 l0 x28_2).f0))).setCell ⟨gb488, 1, none⟩ (.int .i64 ((rd_T55 l0 x28_2).f1)))) := ⟨hB_⟩
      (try clear BK488)
      (try clear HB)
      generalize ((w17.setCell ⟨gb488, 0, none⟩ (.string ((rd_T55 l0 x28_2).f0))).setCell ⟨gb488, 1, none⟩ (.int .i64 ((rd_T55 l0 x28_2).f1))) = w19 at n0_ n1_ ⊢
      have BK488 := n0_
      have HB := n1_
      clear n0_ n1_
      replace BK488 := aM_ (blk_drew BK488.out)
      replace HB := aM_ (below_drew1 HB.out)
      refine start_ (n := 31) (S := fun w' => True) (ds := []) b13_31_0 (by kernel_rfl) rfl rfl trivial (fun hHeld => ?_); refine with_tabW spec_NearestTo.tab8 spec_NearestTo.bits8 (fun HT_ HW_ => ?_)
      generalize w19.drew = w20 at BK488 HB hHeld ⊢
      refine pure_ (i := 0) (N := some 33) (v := ?_) (a' := ?_) b13_31_1 rfl rfl (aT_ HT_ (by kernel_rfl)) (fun _ _ _ h => h) (Or.inl ⟨by rfl, ?_⟩) ?_ ?_; rotate_left; (focus intro w'; go_simp; with_reducible rfl); rotate_left; (focus simp only [aP_, aQ_, aS_, aZ_, aU_, i64_w, i32_w]; try rfl)
      refine pure_ (i := 1) (N := some 34) (v := ?_) (a' := ?_) b13_31_3 rfl rfl (aT_ HT_ (by kernel_rfl)) (fun _ _ _ h => h) (Or.inl ⟨by rfl, ?_⟩) ?_ ?_; rotate_left; (focus intro w'; go_simp; with_reducible rfl); rotate_left; (focus simp only [aP_, aQ_, aS_, aZ_, aU_, i64_w, i32_w]; try rfl)
      refine pure_ (i := 2) (N := some 35) (v := ?_) (a' := ?_) b13_31_7 rfl rfl (aT_ HT_ (by kernel_rfl)) (fun _ _ _ h => h) (Or.inl ⟨by rfl, ?_⟩) ?_ ?_; rotate_left; (focus intro w'; go_simp; with_reducible rfl); rotate_left; (focus simp only [aP_, aQ_, aS_, aZ_, aU_, i64_w, i32_w]; try rfl)
      refine pure_ (i := 3) (N := some 36) (v := ?_) (a' := ?_) b13_31_f rfl rfl (aT_ HT_ (by kernel_rfl)) (fun _ _ _ h => h) (Or.inl ⟨by rfl, ?_⟩) ?_ ?_; rotate_left; (focus intro w'; go_simp; with_reducible rfl); rotate_left; (focus simp only [aP_, aQ_, aS_, aZ_, aU_, i64_w, i32_w]; try rfl)
      refine pure_ (i := 4) (N := some 37) (v := undef) (a' := ?_) b13_31_1f rfl rfl (aT_ HT_ (by kernel_rfl)) (fun _ _ _ h => h) (Or.inr ⟨by rfl, rfl⟩) ?_ ?_; rotate_left; (focus simp only [aP_, aQ_, aS_, aZ_, aU_, i64_w, i32_w]; try rfl)
      refine pure_ (i := 5) (N := some 38) (v := undef) (a' := ?_) b13_31_3f rfl rfl (aT_ HT_ (by kernel_rfl)) (fun _ _ _ h => h) (Or.inr ⟨by rfl, rfl⟩) ?_ ?_; rotate_left; (focus simp only [aP_, aQ_, aS_, aZ_, aU_, i64_w, i32_w]; try rfl)
      refine pure_ (i := 6) (N := some 39) (v := undef) (a' := ?_) b13_31_7f rfl rfl (aT_ HT_ (by kernel_rfl)) (fun _ _ _ h => h) (Or.inr ⟨by rfl, rfl⟩) ?_ ?_; rotate_left; (focus simp only [aP_, aQ_, aS_, aZ_, aU_, i64_w, i32_w]; try rfl)
      refine pure_ (i := 7) (N := some 40) (v := undef) (a' := ?_) b13_31_ff rfl rfl (aT_ HT_ (by kernel_rfl)) (fun _ _ _ h => h) (Or.inr ⟨by rfl, rfl⟩) ?_ ?_; rotate_left; (focus simp only [aP_, aQ_, aS_, aZ_, aU_, i64_w, i32_w]; try rfl)
      refine pure_ (i := 8) (N := some 41) (v := undef) (a' := ?_) b13_31_1ff rfl rfl (aT_ HT_ (by kernel_rfl)) (fun _ _ _ h => h) (Or.inr ⟨by rfl, rfl⟩) ?_ ?_; rotate_left; (focus simp only [aP_, aQ_, aS_, aZ_, aU_, i64_w, i32_w]; try rfl)
      refine pure_ (i := 9) (N := some 42) (v := undef) (a' := ?_) b13_31_3ff rfl rfl (aT_ HT_ (by kernel_rfl)) (fun _ _ _ h => h) (Or.inr ⟨by rfl, rfl⟩) ?_ ?_; rotate_left; (focus simp only [aP_, aQ_, aS_, aZ_, aU_, i64_w, i32_w]; try rfl)
      refine pure_ (i := 10) (N := some 43) (v := undef) (a' := ?_) b13_31_7ff rfl rfl (aT_ HT_ (by kernel_rfl)) (fun _ _ _ h => h) (Or.inr ⟨by rfl, rfl⟩) ?_ ?_; rotate_left; (focus simp only [aP_, aQ_, aS_, aZ_, aU_, i64_w, i32_w]; try rfl)
      refine pure_ (i := 11) (N := some 44) (v := undef) (a' := ?_) b13_31_fff rfl rfl (aT_ HT_ (by kernel_rfl)) (fun _ _ _ h => h) (Or.inr ⟨by rfl, rfl⟩) ?_ ?_; rotate_left; (focus simp only [aP_, aQ_, aS_, aZ_, aU_, i64_w, i32_w]; try rfl)
      refine pure_ (i := 12) (N := some 45) (v := undef) (a' := ?_) b13_31_1fff rfl rfl (aT_ HT_ (by kernel_rfl)) (fun _ _ _ h => h) (Or.inr ⟨by rfl, rfl⟩) ?_ ?_; rotate_left; (focus simp only [aP_, aQ_, aS_, aZ_, aU_, i64_w, i32_w]; try rfl)
      refine pure_ (i := 13) (N := some 46) (v := undef) (a' := ?_) b13_31_3fff rfl rfl (aT_ HT_ (by kernel_rfl)) (fun _ _ _ h => h) (Or.inr ⟨by rfl, rfl⟩) ?_ ?_; rotate_left; (focus simp only [aP_, aQ_, aS_, aZ_, aU_, i64_w, i32_w]; try rfl)
      refine pure_ (i := 14) (N := some 47) (v := undef) (a' := ?_) b13_31_7fff rfl rfl (aT_ HT_ (by kernel_rfl)) (fun _ _ _ h => h) (Or.inr ⟨by rfl, rfl⟩) ?_ ?_; rotate_left; (focus simp only [aP_, aQ_, aS_, aZ_, aU_, i64_w, i32_w]; try rfl)
      refine pure_ (i := 15) (N := some 48) (v := undef) (a' := ?_) b13_31_ffff rfl rfl (aT_ HT_ (by kernel_rfl)) (fun _ _ _ h => h) (Or.inr ⟨by rfl, rfl⟩) ?_ ?_; rotate_left; (focus simp only [aP_, aQ_, aS_, aZ_, aU_, i64_w, i32_w]; try rfl)
      refine pure_ (i := 16) (N := some 49) (v := undef) (a' := ?_) b13_31_1ffff rfl rfl (aT_ HT_ (by kernel_rfl)) (fun _ _ _ h => h) (Or.inr ⟨by rfl, rfl⟩) ?_ ?_; rotate_left; (focus simp only [aP_, aQ_, aS_, aZ_, aU_, i64_w, i32_w]; try rfl)
      refine pure_ (i := 17) (N := some 50) (v := undef) (a' := ?_) b13_31_3ffff rfl rfl (aT_ HT_ (by kernel_rfl)) (fun _ _ _ h => h) (Or.inr ⟨by rfl, rfl⟩) ?_ ?_; rotate_left; (focus simp only [aP_, aQ_, aS_, aZ_, aU_, i64_w, i32_w]; try rfl)
      refine pure_ (i := 18) (N := some 51) (v := undef) (a' := ?_) b13_31_7ffff rfl rfl (aT_ HT_ (by kernel_rfl)) (fun _ _ _ h => h) (Or.inr ⟨by rfl, rfl⟩) ?_ ?_; rotate_left; (focus simp only [aP_, aQ_, aS_, aZ_, aU_, i64_w, i32_w]; try rfl)
      refine pure_ (i := 19) (N := some 52) (v := undef) (a' := ?_) b13_31_fffff rfl rfl (aT_ HT_ (by kernel_rfl)) (fun _ _ _ h => h) (Or.inr ⟨by rfl, rfl⟩) ?_ ?_; rotate_left; (focus simp only [aP_, aQ_, aS_, aZ_, aU_, i64_w, i32_w]; try rfl)
      refine pure_ (i := 20) (N := some 53) (v := undef) (a' := ?_) b13_31_1fffff rfl rfl (aT_ HT_ (by kernel_rfl)) (fun _ _ _ h => h) (Or.inr ⟨by rfl, rfl⟩) ?_ ?_; rotate_left; (focus simp only [aP_, aQ_, aS_, aZ_, aU_, i64_w, i32_w]; try rfl)
      refine pure_ (i := 21) (N := some 54) (v := undef) (a' := ?_) b13_31_3fffff rfl rfl (aT_ HT_ (by kernel_rfl)) (fun _ _ _ h => h) (Or.inr ⟨by rfl, rfl⟩) ?_ ?_; rotate_left; (focus simp only [aP_, aQ_, aS_, aZ_, aU_, i64_w, i32_w]; try rfl)
      refine pure_ (i := 22) (N := some 55) (v := undef) (a' := ?_) b13_31_7fffff rfl rfl (aT_ HT_ (by kernel_rfl)) (fun _ _ _ h => h) (Or.inr ⟨by rfl, rfl⟩) ?_ ?_; rotate_left; (focus simp only [aP_, aQ_, aS_, aZ_, aU_, i64_w, i32_w]; try rfl)
      refine pure_ (i := 23) (N := some 56) (v := undef) (a' := ?_) b13_31_ffffff rfl rfl (aT_ HT_ (by kernel_rfl)) (fun _ _ _ h => h) (Or.inr ⟨by rfl, rfl⟩) ?_ ?_; rotate_left; (focus simp only [aP_, aQ_, aS_, aZ_, aU_, i64_w, i32_w]; try rfl)
      refine pure_ (i := 24) (N := some 57) (v := undef) (a' := ?_) b13_31_1ffffff rfl rfl (aT_ HT_ (by kernel_rfl)) (fun _ _ _ h => h) (Or.inr ⟨by rfl, rfl⟩) ?_ ?_; rotate_left; (focus simp only [aP_, aQ_, aS_, aZ_, aU_, i64_w, i32_w]; try rfl)
      refine pure_ (i := 25) (N := some 58) (v := undef) (a' := ?_) b13_31_3ffffff rfl rfl (aT_ HT_ (by kernel_rfl)) (fun _ _ _ h => h) (Or.inr ⟨by rfl, rfl⟩) ?_ ?_; rotate_left; (focus simp only [aP_, aQ_, aS_, aZ_, aU_, i64_w, i32_w]; try rfl)
      refine pure_ (i := 26) (N := some 59) (v := undef) (a' := ?_) b13_31_7ffffff rfl rfl (aT_ HT_ (by kernel_rfl)) (fun _ _ _ h => h) (Or.inr ⟨by rfl, rfl⟩) ?_ ?_; rotate_left; (focus simp only [aP_, aQ_, aS_, aZ_, aU_, i64_w, i32_w]; try rfl)
      refine pure_ (i := 27) (N := some 60) (v := undef) (a' := ?_) b13_31_fffffff rfl rfl (aT_ HT_ (by kernel_rfl)) (fun _ _ _ h => h) (Or.inr ⟨by rfl, rfl⟩) ?_ ?_; rotate_left; (focus simp only [aP_, aQ_, aS_, aZ_, aU_, i64_w, i32_w]; try rfl)
      refine pure_ (i := 28) (N := some 61) (v := undef) (a' := ?_) b13_31_1fffffff rfl rfl (aT_ HT_ (by kernel_rfl)) (fun _ _ _ h => h) (Or.inr ⟨by rfl, rfl⟩) ?_ ?_; rotate_left; (focus simp only [aP_, aQ_, aS_, aZ_, aU_, i64_w, i32_w]; try rfl)
      refine pure_ (i := 29) (N := some 62) (v := undef) (a' := ?_) b13_31_3fffffff rfl rfl (aT_ HT_ (by kernel_rfl)) (fun _ _ _ h => h) (Or.inr ⟨by rfl, rfl⟩) ?_ ?_; rotate_left; (focus simp only [aP_, aQ_, aS_, aZ_, aU_, i64_w, i32_w]; try rfl)
      refine pure_ (i := 30) (N := some 63) (v := ?_) (a' := ?_) b13_31_7fffffff rfl rfl (aT_ HT_ (by kernel_rfl)) (fun _ _ _ h => h) (Or.inl ⟨by rfl, ?_⟩) ?_ ?_; rotate_left; (focus intro w'; go_simp; with_reducible rfl); rotate_left; (focus simp only [aP_, aQ_, aS_, aZ_, aU_, i64_w, i32_w]; try rfl)
      refine done_ (done_of HT_.out (by kernel_rfl)) ?_
      try go_wp2
      go_roundg k2
      case measure => have := HJ3.out; have := HK2.out; omega
      case rel => exact ⟨(x8_2), (wrap64 (x28_2 + 1)), y13_0_, y13_0_, H', ⟨y13_2_⟩, ⟨hB_⟩⟩
     rw [if_neg c16] at H
     have c16b0 : (x28_2 == t481) = false := beq_eq_false_iff_ne.mpr c16
     have c16b1 : (x28_2 != t481) = true := bne_iff_ne.mpr c16
     by_cases c21 : x8_2 < 0
     ·rw [if_pos c21] at H
      have c21b0 : decide (x8_2 < 0) = true := decide_eq_true c21
      clear c21
      have H' := Aside0.mk H
      clear H
      have p487 : 0 ≤ (x28_2 : Int) := ode_
      have q487 : x28_2 < (l0.length : Int) := ode_
      obtain ⟨ad487, e487, hx487_0, hx487_1⟩ := at_T55 HR0.out x28_2 p487 q487
      cases e487
      replace hx487_0 := (HB.out.cell (World.block_lt_of_cell? w _ hx487_0)).trans hx487_0
      replace hx487_1 := (HB.out.cell (World.block_lt_of_cell? w _ hx487_1)).trans hx487_1
      replace p487 := eq_true p487
      replace q487 := eq_true q487
      try go_wp2_with (first | ((with_reducible refine gate_dst (N := 10) rfl ?_); (try (refine gate_guard (by rfl) ?_; dsimp only)); refine box_event ?hg (N := 10) ?hd (cs := #[.string (⟨#[]⟩ : ByteArray), .int .i64 0]) (t := 55) ?hr ?_; (case hd => rfl); (case hg => rfl); (case hr => first | (go_simp; done) | (go_simp; rfl)); intro gb488 hg w22 hbox hb; have BK488 := aM_ (hbox); have GW488 := aM_ (gw_ w hg); have GE488 := aM_ (gw_ w hg); replace HB := aM_ (below_step hB_ hb); clear hb hbox hg; have hz23 := cf2_ BK488.out))
      have n0_ : Aside0 (((w22.setCell ⟨gb488, 0, none⟩ (.string ((rd_T55 l0 x28_2).f0))).setCell ⟨gb488, 1, none⟩ (.int .i64 ((rd_T55 l0 x28_2).f1))).heap[gb488]? = some (.cells #[.string ((rd_T55 l0 x28_2).f0), .int .i64 ((rd_T55 l0 x28_2).f1)] 55 (0, 0))) := ⟨y13_1_⟩
      have n1_ : Aside0 (Below w.heap.size w ((w22.setCell ⟨gb488, 0, none⟩ (.string ((rd_T55 l0 x28_2).f0))).setCell ⟨gb488, 1, none⟩ (.int .i64 ((rd_T55 l0 x28_2).f1)))) := ⟨hB_⟩
      (try clear BK488)
      (try clear HB)
      generalize ((w22.setCell ⟨gb488, 0, none⟩ (.string ((rd_T55 l0 x28_2).f0))).setCell ⟨gb488, 1, none⟩ (.int .i64 ((rd_T55 l0 x28_2).f1))) = w24 at n0_ n1_ ⊢
      have BK488 := n0_
      have HB := n1_
      clear n0_ n1_
      replace BK488 := aM_ (blk_drew BK488.out)
      replace HB := aM_ (below_drew1 HB.out)
      refine start_ (n := 31) (S := fun w' => True) (ds := []) b13_31_0 (by kernel_rfl) rfl rfl trivial (fun hHeld => ?_); refine with_tabW spec_NearestTo.tab8 spec_NearestTo.bits8 (fun HT_ HW_ => ?_)
      generalize w24.drew = w25 at BK488 HB hHeld ⊢
      refine pure_ (i := 0) (N := some 33) (v := ?_) (a' := ?_) b13_31_1 rfl rfl (aT_ HT_ (by kernel_rfl)) (fun _ _ _ h => h) (Or.inl ⟨by rfl, ?_⟩) ?_ ?_; rotate_left; (focus intro w'; go_simp; with_reducible rfl); rotate_left; (focus simp only [aP_, aQ_, aS_, aZ_, aU_, i64_w, i32_w]; try rfl)
      refine pure_ (i := 1) (N := some 34) (v := ?_) (a' := ?_) b13_31_3 rfl rfl (aT_ HT_ (by kernel_rfl)) (fun _ _ _ h => h) (Or.inl ⟨by rfl, ?_⟩) ?_ ?_; rotate_left; (focus intro w'; go_simp; with_reducible rfl); rotate_left; (focus simp only [aP_, aQ_, aS_, aZ_, aU_, i64_w, i32_w]; try rfl)
      refine pure_ (i := 2) (N := some 35) (v := ?_) (a' := ?_) b13_31_7 rfl rfl (aT_ HT_ (by kernel_rfl)) (fun _ _ _ h => h) (Or.inl ⟨by rfl, ?_⟩) ?_ ?_; rotate_left; (focus intro w'; go_simp; with_reducible rfl); rotate_left; (focus simp only [aP_, aQ_, aS_, aZ_, aU_, i64_w, i32_w]; try rfl)
      refine pure_ (i := 3) (N := some 36) (v := ?_) (a' := ?_) b13_31_f rfl rfl (aT_ HT_ (by kernel_rfl)) (fun _ _ _ h => h) (Or.inl ⟨by rfl, ?_⟩) ?_ ?_; rotate_left; (focus intro w'; go_simp; with_reducible rfl); rotate_left; (focus simp only [aP_, aQ_, aS_, aZ_, aU_, i64_w, i32_w]; try rfl)
      refine pure_ (i := 4) (N := some 37) (v := ?_) (a' := ?_) b13_31_1f rfl rfl (aT_ HT_ (by kernel_rfl)) (fun _ _ _ h => h) (Or.inl ⟨by rfl, ?_⟩) ?_ ?_; rotate_left; (focus intro w'; go_simp; with_reducible rfl); rotate_left; (focus simp only [aP_, aQ_, aS_, aZ_, aU_, i64_w, i32_w]; try rfl)
      refine pure_ (i := 5) (N := some 38) (v := ?_) (a' := ?_) b13_31_3f rfl rfl (aT_ HT_ (by kernel_rfl)) (fun _ _ _ h => h) (Or.inl ⟨by rfl, ?_⟩) ?_ ?_; rotate_left; (focus intro w'; go_simp; with_reducible rfl); rotate_left; (focus simp only [aP_, aQ_, aS_, aZ_, aU_, i64_w, i32_w]; try rfl)
      refine pure_ (i := 6) (N := some 39) (v := ?_) (a' := ?_) b13_31_7f rfl rfl (aT_ HT_ (by kernel_rfl)) (fun _ _ _ h => h) (Or.inl ⟨by rfl, ?_⟩) ?_ ?_; rotate_left; (focus intro w'; go_simp; with_reducible rfl); rotate_left; (focus simp only [aP_, aQ_, aS_, aZ_, aU_, i64_w, i32_w]; try rfl)
      refine pure_ (i := 7) (N := some 40) (v := undef) (a' := ?_) b13_31_ff rfl rfl (aT_ HT_ (by kernel_rfl)) (fun _ _ _ h => h) (Or.inr ⟨by rfl, rfl⟩) ?_ ?_; rotate_left; (focus simp only [aP_, aQ_, aS_, aZ_, aU_, i64_w, i32_w]; try rfl)
      refine pure_ (i := 8) (N := some 41) (v := undef) (a' := ?_) b13_31_1ff rfl rfl (aT_ HT_ (by kernel_rfl)) (fun _ _ _ h => h) (Or.inr ⟨by rfl, rfl⟩) ?_ ?_; rotate_left; (focus simp only [aP_, aQ_, aS_, aZ_, aU_, i64_w, i32_w]; try rfl)
      refine pure_ (i := 9) (N := some 42) (v := undef) (a' := ?_) b13_31_3ff rfl rfl (aT_ HT_ (by kernel_rfl)) (fun _ _ _ h => h) (Or.inr ⟨by rfl, rfl⟩) ?_ ?_; rotate_left; (focus simp only [aP_, aQ_, aS_, aZ_, aU_, i64_w, i32_w]; try rfl)
      refine pure_ (i := 10) (N := some 43) (v := undef) (a' := ?_) b13_31_7ff rfl rfl (aT_ HT_ (by kernel_rfl)) (fun _ _ _ h => h) (Or.inr ⟨by rfl, rfl⟩) ?_ ?_; rotate_left; (focus simp only [aP_, aQ_, aS_, aZ_, aU_, i64_w, i32_w]; try rfl)
      refine pure_ (i := 11) (N := some 44) (v := undef) (a' := ?_) b13_31_fff rfl rfl (aT_ HT_ (by kernel_rfl)) (fun _ _ _ h => h) (Or.inr ⟨by rfl, rfl⟩) ?_ ?_; rotate_left; (focus simp only [aP_, aQ_, aS_, aZ_, aU_, i64_w, i32_w]; try rfl)
      refine pure_ (i := 12) (N := some 45) (v := undef) (a' := ?_) b13_31_1fff rfl rfl (aT_ HT_ (by kernel_rfl)) (fun _ _ _ h => h) (Or.inr ⟨by rfl, rfl⟩) ?_ ?_; rotate_left; (focus simp only [aP_, aQ_, aS_, aZ_, aU_, i64_w, i32_w]; try rfl)
      refine pure_ (i := 13) (N := some 46) (v := undef) (a' := ?_) b13_31_3fff rfl rfl (aT_ HT_ (by kernel_rfl)) (fun _ _ _ h => h) (Or.inr ⟨by rfl, rfl⟩) ?_ ?_; rotate_left; (focus simp only [aP_, aQ_, aS_, aZ_, aU_, i64_w, i32_w]; try rfl)
      refine pure_ (i := 14) (N := some 47) (v := undef) (a' := ?_) b13_31_7fff rfl rfl (aT_ HT_ (by kernel_rfl)) (fun _ _ _ h => h) (Or.inr ⟨by rfl, rfl⟩) ?_ ?_; rotate_left; (focus simp only [aP_, aQ_, aS_, aZ_, aU_, i64_w, i32_w]; try rfl)
      refine pure_ (i := 15) (N := some 48) (v := undef) (a' := ?_) b13_31_ffff rfl rfl (aT_ HT_ (by kernel_rfl)) (fun _ _ _ h => h) (Or.inr ⟨by rfl, rfl⟩) ?_ ?_; rotate_left; (focus simp only [aP_, aQ_, aS_, aZ_, aU_, i64_w, i32_w]; try rfl)
      refine pure_ (i := 16) (N := some 49) (v := undef) (a' := ?_) b13_31_1ffff rfl rfl (aT_ HT_ (by kernel_rfl)) (fun _ _ _ h => h) (Or.inr ⟨by rfl, rfl⟩) ?_ ?_; rotate_left; (focus simp only [aP_, aQ_, aS_, aZ_, aU_, i64_w, i32_w]; try rfl)
      refine pure_ (i := 17) (N := some 50) (v := undef) (a' := ?_) b13_31_3ffff rfl rfl (aT_ HT_ (by kernel_rfl)) (fun _ _ _ h => h) (Or.inr ⟨by rfl, rfl⟩) ?_ ?_; rotate_left; (focus simp only [aP_, aQ_, aS_, aZ_, aU_, i64_w, i32_w]; try rfl)
      refine pure_ (i := 18) (N := some 51) (v := undef) (a' := ?_) b13_31_7ffff rfl rfl (aT_ HT_ (by kernel_rfl)) (fun _ _ _ h => h) (Or.inr ⟨by rfl, rfl⟩) ?_ ?_; rotate_left; (focus simp only [aP_, aQ_, aS_, aZ_, aU_, i64_w, i32_w]; try rfl)
      refine pure_ (i := 19) (N := some 52) (v := undef) (a' := ?_) b13_31_fffff rfl rfl (aT_ HT_ (by kernel_rfl)) (fun _ _ _ h => h) (Or.inr ⟨by rfl, rfl⟩) ?_ ?_; rotate_left; (focus simp only [aP_, aQ_, aS_, aZ_, aU_, i64_w, i32_w]; try rfl)
      refine pure_ (i := 20) (N := some 53) (v := undef) (a' := ?_) b13_31_1fffff rfl rfl (aT_ HT_ (by kernel_rfl)) (fun _ _ _ h => h) (Or.inr ⟨by rfl, rfl⟩) ?_ ?_; rotate_left; (focus simp only [aP_, aQ_, aS_, aZ_, aU_, i64_w, i32_w]; try rfl)
      refine pure_ (i := 21) (N := some 54) (v := undef) (a' := ?_) b13_31_3fffff rfl rfl (aT_ HT_ (by kernel_rfl)) (fun _ _ _ h => h) (Or.inr ⟨by rfl, rfl⟩) ?_ ?_; rotate_left; (focus simp only [aP_, aQ_, aS_, aZ_, aU_, i64_w, i32_w]; try rfl)
      refine pure_ (i := 22) (N := some 55) (v := undef) (a' := ?_) b13_31_7fffff rfl rfl (aT_ HT_ (by kernel_rfl)) (fun _ _ _ h => h) (Or.inr ⟨by rfl, rfl⟩) ?_ ?_; rotate_left; (focus simp only [aP_, aQ_, aS_, aZ_, aU_, i64_w, i32_w]; try rfl)
      refine pure_ (i := 23) (N := some 56) (v := undef) (a' := ?_) b13_31_ffffff rfl rfl (aT_ HT_ (by kernel_rfl)) (fun _ _ _ h => h) (Or.inr ⟨by rfl, rfl⟩) ?_ ?_; rotate_left; (focus simp only [aP_, aQ_, aS_, aZ_, aU_, i64_w, i32_w]; try rfl)
      refine pure_ (i := 24) (N := some 57) (v := undef) (a' := ?_) b13_31_1ffffff rfl rfl (aT_ HT_ (by kernel_rfl)) (fun _ _ _ h => h) (Or.inr ⟨by rfl, rfl⟩) ?_ ?_; rotate_left; (focus simp only [aP_, aQ_, aS_, aZ_, aU_, i64_w, i32_w]; try rfl)
      refine pure_ (i := 25) (N := some 58) (v := undef) (a' := ?_) b13_31_3ffffff rfl rfl (aT_ HT_ (by kernel_rfl)) (fun _ _ _ h => h) (Or.inr ⟨by rfl, rfl⟩) ?_ ?_; rotate_left; (focus simp only [aP_, aQ_, aS_, aZ_, aU_, i64_w, i32_w]; try rfl)
      refine pure_ (i := 26) (N := some 59) (v := undef) (a' := ?_) b13_31_7ffffff rfl rfl (aT_ HT_ (by kernel_rfl)) (fun _ _ _ h => h) (Or.inr ⟨by rfl, rfl⟩) ?_ ?_; rotate_left; (focus simp only [aP_, aQ_, aS_, aZ_, aU_, i64_w, i32_w]; try rfl)
      refine pure_ (i := 27) (N := some 60) (v := undef) (a' := ?_) b13_31_fffffff rfl rfl (aT_ HT_ (by kernel_rfl)) (fun _ _ _ h => h) (Or.inr ⟨by rfl, rfl⟩) ?_ ?_; rotate_left; (focus simp only [aP_, aQ_, aS_, aZ_, aU_, i64_w, i32_w]; try rfl)
      refine pure_ (i := 28) (N := some 61) (v := undef) (a' := ?_) b13_31_1fffffff rfl rfl (aT_ HT_ (by kernel_rfl)) (fun _ _ _ h => h) (Or.inr ⟨by rfl, rfl⟩) ?_ ?_; rotate_left; (focus simp only [aP_, aQ_, aS_, aZ_, aU_, i64_w, i32_w]; try rfl)
      refine pure_ (i := 29) (N := some 62) (v := ?_) (a' := ?_) b13_31_3fffffff rfl rfl (aT_ HT_ (by kernel_rfl)) (fun _ _ _ h => h) (Or.inl ⟨by rfl, ?_⟩) ?_ ?_; rotate_left; (focus intro w'; go_simp; with_reducible rfl); rotate_left; (focus simp only [aP_, aQ_, aS_, aZ_, aU_, i64_w, i32_w]; try rfl)
      refine pure_ (i := 30) (N := some 63) (v := ?_) (a' := ?_) b13_31_7fffffff rfl rfl (aT_ HT_ (by kernel_rfl)) (fun _ _ _ h => h) (Or.inl ⟨by rfl, ?_⟩) ?_ ?_; rotate_left; (focus intro w'; go_simp; with_reducible rfl); rotate_left; (focus simp only [aP_, aQ_, aS_, aZ_, aU_, i64_w, i32_w]; try rfl)
      refine done_ (done_of HT_.out (by kernel_rfl)) ?_
      try go_wp2
      go_roundg k2
      case measure => have := HJ3.out; have := HK2.out; omega
      case rel => exact ⟨(x28_2), (wrap64 (x28_2 + 1)), y13_0_, y13_0_, H', ⟨y13_2_⟩, ⟨hB_⟩⟩
     rw [if_neg c21] at H
     have c21b0 : decide (x8_2 < 0) = false := decide_eq_false c21
     clear c21
     by_cases c26 : 0 ≤ t481
     rotate_left
     ·rw [if_neg c26] at H
      exact absurd H (by simp)
     rw [if_pos c26] at H
     have c26b0 : decide (0 ≤ t481) = true := decide_eq_true c26
     clear c26
     by_cases c27 : t481 < (l0.length : Int)
     rotate_left
     ·rw [if_neg c27] at H
      exact absurd H (by simp)
     rw [if_pos c27] at H
     have c27b0 : decide (t481 < (l0.length : Int)) = true := decide_eq_true c27
     clear c27
     replace H := Option.bind_eq_some_iff.mp H
     obtain ⟨t490, A280, H⟩ := H
     try dsimp only at H
     have A28 := Aside0.mk A280
     clear A280
     by_cases c29 : 0 ≤ x8_2
     rotate_left
     ·rw [if_neg c29] at H
      exact absurd H (by simp)
     rw [if_pos c29] at H
     have c29b0 : decide (0 ≤ x8_2) = true := decide_eq_true c29
     clear c29
     by_cases c30 : x8_2 < (l0.length : Int)
     rotate_left
     ·rw [if_neg c30] at H
      exact absurd H (by simp)
     rw [if_pos c30] at H
     have c30b0 : decide (x8_2 < (l0.length : Int)) = true := decide_eq_true c30
     clear c30
     replace H := Option.bind_eq_some_iff.mp H
     obtain ⟨t493, A310, H⟩ := H
     try dsimp only at H
     have A31 := Aside0.mk A310
     clear A310
     have HC32 := Aside0.mk H
     clear H
     have p487 : 0 ≤ (x28_2 : Int) := ode_
     have q487 : x28_2 < (l0.length : Int) := ode_
     obtain ⟨ad487, e487, hx487_0, hx487_1⟩ := at_T55 HR0.out x28_2 p487 q487
     cases e487
     replace hx487_0 := (HB.out.cell (World.block_lt_of_cell? w _ hx487_0)).trans hx487_0
     replace hx487_1 := (HB.out.cell (World.block_lt_of_cell? w _ hx487_1)).trans hx487_1
     replace p487 := eq_true p487
     replace q487 := eq_true q487
     try go_wp2_with (first | ((with_reducible refine gate_dst (N := 10) rfl ?_); (try (refine gate_guard (by rfl) ?_; dsimp only)); refine box_event ?hg (N := 10) ?hd (cs := #[.string (⟨#[]⟩ : ByteArray), .int .i64 0]) (t := 55) ?hr ?_; (case hd => rfl); (case hg => rfl); (case hr => first | (go_simp; done) | (go_simp; rfl)); intro gb488 hg w33 hbox hb; have BK488 := aM_ (hbox); have GW488 := aM_ (gw_ w hg); have GE488 := aM_ (gw_ w hg); replace HB := aM_ (below_step hB_ hb); clear hb hbox hg; have hz34 := cf2_ BK488.out))
     have n0_ : Aside0 (((w33.setCell ⟨gb488, 0, none⟩ (.string ((rd_T55 l0 x28_2).f0))).setCell ⟨gb488, 1, none⟩ (.int .i64 ((rd_T55 l0 x28_2).f1))).heap[gb488]? = some (.cells #[.string ((rd_T55 l0 x28_2).f0), .int .i64 ((rd_T55 l0 x28_2).f1)] 55 (0, 0))) := ⟨y13_1_⟩
     have n1_ : Aside0 (Below w.heap.size w ((w33.setCell ⟨gb488, 0, none⟩ (.string ((rd_T55 l0 x28_2).f0))).setCell ⟨gb488, 1, none⟩ (.int .i64 ((rd_T55 l0 x28_2).f1)))) := ⟨hB_⟩
     (try clear BK488)
     (try clear HB)
     generalize ((w33.setCell ⟨gb488, 0, none⟩ (.string ((rd_T55 l0 x28_2).f0))).setCell ⟨gb488, 1, none⟩ (.int .i64 ((rd_T55 l0 x28_2).f1))) = w35 at n0_ n1_ ⊢
     have BK488 := n0_
     have HB := n1_
     clear n0_ n1_
     replace BK488 := aM_ (blk_drew BK488.out)
     replace HB := aM_ (below_drew1 HB.out)
     have p489 : 0 ≤ (t481 : Int) := ode_
     have q489 : t481 < (l0.length : Int) := ode_
     obtain ⟨ad489, e489, hx489_0, hx489_1⟩ := at_T55 HR0.out t481 p489 q489
     have hw489_1 := hx489_1
     have hw489_0 := hx489_0
     obtain rfl : ad487 = ad489 := (by injection e489)
     replace hx489_0 := (HB.out.cell (World.block_lt_of_cell? w _ hx489_0)).trans hx489_0
     replace hx489_1 := (HB.out.cell (World.block_lt_of_cell? w _ hx489_1)).trans hx489_1
     replace p489 := eq_true p489
     replace q489 := eq_true q489
     have p491 : 0 ≤ (x8_2 : Int) := ode_
     have q491 : x8_2 < (l0.length : Int) := ode_
     obtain ⟨ad491, e491, hx491_0, hx491_1⟩ := at_T55 HR0.out x8_2 p491 q491
     have hw491_1 := hx491_1
     have hw491_0 := hx491_0
     obtain rfl : ad487 = ad491 := (by injection e491)
     replace hx491_0 := (HB.out.cell (World.block_lt_of_cell? w _ hx491_0)).trans hx491_0
     replace hx491_1 := (HB.out.cell (World.block_lt_of_cell? w _ hx491_1)).trans hx491_1
     replace p491 := eq_true p491
     replace q491 := eq_true q491
     have p492 : 0 ≤ (t481 : Int) := ode_
     have q492 : t481 < (l0.length : Int) := ode_
     obtain ⟨ad492, e492, hx492_0, hx492_1⟩ := at_T55 HR0.out t481 p492 q492
     have hw492_1 := hx492_1
     have hw492_0 := hx492_0
     obtain rfl : ad487 = ad492 := (by injection e492)
     replace hx492_0 := (HB.out.cell (World.block_lt_of_cell? w _ hx492_0)).trans hx492_0
     replace hx492_1 := (HB.out.cell (World.block_lt_of_cell? w _ hx492_1)).trans hx492_1
     replace p492 := eq_true p492
     replace q492 := eq_true q492
     refine start_ (n := 31) (S := fun w' => w'.cell? ⟨gb488, 0, none⟩ = some (.string ((rd_T55 l0 x28_2).f0)) ∧ w'.cell? ⟨gb488, 1, none⟩ = some (.int .i64 ((rd_T55 l0 x28_2).f1)) ∧ w'.cell? (ad487.add ((t481).toNat * 2)) = some (.string ((rd_T55 l0 t481).f0)) ∧ w'.cell? ⟨(ad487.add ((t481).toNat * 2)).block, (ad487.add ((t481).toNat * 2)).off + 1, none⟩ = some (.int .i64 ((rd_T55 l0 t481).f1)) ∧ w'.cell? (ad487.add ((x8_2).toNat * 2)) = some (.string ((rd_T55 l0 x8_2).f0)) ∧ w'.cell? ⟨(ad487.add ((x8_2).toNat * 2)).block, (ad487.add ((x8_2).toNat * 2)).off + 1, none⟩ = some (.int .i64 ((rd_T55 l0 x8_2).f1)) ∧ w'.cell? (ad487.add ((t481).toNat * 2)) = some (.string ((rd_T55 l0 t481).f0)) ∧ w'.cell? ⟨(ad487.add ((t481).toNat * 2)).block, (ad487.add ((t481).toNat * 2)).off + 1, none⟩ = some (.int .i64 ((rd_T55 l0 t481).f1))) (ds := []) b13_31_0 (by kernel_rfl) rfl rfl ⟨(blk_cell BK488.out 0).trans rfl, (blk_cell BK488.out 1).trans rfl, ((HB.out.cell (World.block_lt_of_cell? w _ hw489_0)).trans hw489_0), ((HB.out.cell (World.block_lt_of_cell? w _ hw489_1)).trans hw489_1), ((HB.out.cell (World.block_lt_of_cell? w _ hw491_0)).trans hw491_0), ((HB.out.cell (World.block_lt_of_cell? w _ hw491_1)).trans hw491_1), ((HB.out.cell (World.block_lt_of_cell? w _ hw492_0)).trans hw492_0), ((HB.out.cell (World.block_lt_of_cell? w _ hw492_1)).trans hw492_1)⟩ (fun hHeld => ?_); refine with_tabW spec_NearestTo.tab8 spec_NearestTo.bits8 (fun HT_ HW_ => ?_)
     generalize w35.drew = w36 at BK488 HB hx489_0 hx489_1 hx491_0 hx491_1 hx492_0 hx492_1 hHeld ⊢
     refine pure_ (i := 0) (N := some 33) (v := ?_) (a' := ?_) b13_31_1 rfl rfl (aT_ HT_ (by kernel_rfl)) (fun _ _ _ h => h) (Or.inl ⟨by rfl, ?_⟩) ?_ ?_; rotate_left; (focus intro w'; go_simp; with_reducible rfl); rotate_left; (focus simp only [aP_, aQ_, aS_, aZ_, aU_, i64_w, i32_w]; try rfl)
     refine pure_ (i := 1) (N := some 34) (v := ?_) (a' := ?_) b13_31_3 rfl rfl (aT_ HT_ (by kernel_rfl)) (fun _ _ _ h => h) (Or.inl ⟨by rfl, ?_⟩) ?_ ?_; rotate_left; (focus intro w'; go_simp; with_reducible rfl); rotate_left; (focus simp only [aP_, aQ_, aS_, aZ_, aU_, i64_w, i32_w]; try rfl)
     refine pure_ (i := 2) (N := some 35) (v := ?_) (a' := ?_) b13_31_7 rfl rfl (aT_ HT_ (by kernel_rfl)) (fun _ _ _ h => h) (Or.inl ⟨by rfl, ?_⟩) ?_ ?_; rotate_left; (focus intro w'; go_simp; with_reducible rfl); rotate_left; (focus simp only [aP_, aQ_, aS_, aZ_, aU_, i64_w, i32_w]; try rfl)
     refine pure_ (i := 3) (N := some 36) (v := ?_) (a' := ?_) b13_31_f rfl rfl (aT_ HT_ (by kernel_rfl)) (fun _ _ _ h => h) (Or.inl ⟨by rfl, ?_⟩) ?_ ?_; rotate_left; (focus intro w'; go_simp; with_reducible rfl); rotate_left; (focus simp only [aP_, aQ_, aS_, aZ_, aU_, i64_w, i32_w]; try rfl)
     refine pure_ (i := 4) (N := some 37) (v := ?_) (a' := ?_) b13_31_1f rfl rfl (aT_ HT_ (by kernel_rfl)) (fun _ _ _ h => h) (Or.inl ⟨by rfl, ?_⟩) ?_ ?_; rotate_left; (focus intro w'; go_simp; with_reducible rfl); rotate_left; (focus simp only [aP_, aQ_, aS_, aZ_, aU_, i64_w, i32_w]; try rfl)
     refine pure_ (i := 5) (N := some 38) (v := ?_) (a' := ?_) b13_31_3f rfl rfl (aT_ HT_ (by kernel_rfl)) (fun _ _ _ h => h) (Or.inl ⟨by rfl, ?_⟩) ?_ ?_; rotate_left; (focus intro w'; go_simp; with_reducible rfl); rotate_left; (focus simp only [aP_, aQ_, aS_, aZ_, aU_, i64_w, i32_w]; try rfl)
     refine pure_ (i := 6) (N := some 39) (v := ?_) (a' := ?_) b13_31_7f rfl rfl (aT_ HT_ (by kernel_rfl)) (fun _ _ _ h => h) (Or.inl ⟨by rfl, ?_⟩) ?_ ?_; rotate_left; (focus intro w'; go_simp; with_reducible rfl); rotate_left; (focus simp only [aP_, aQ_, aS_, aZ_, aU_, i64_w, i32_w]; try rfl)
     refine pure_ (i := 7) (N := some 40) (v := ?_) (a' := ?_) b13_31_ff rfl rfl (aT_ HT_ (by kernel_rfl)) (fun _ _ _ h => h) (Or.inl ⟨by rfl, ?_⟩) ?_ ?_; rotate_left; (focus intro w'; go_simp; with_reducible rfl); rotate_left; (focus simp only [aP_, aQ_, aS_, aZ_, aU_, i64_w, i32_w]; try rfl)
     refine pure_ (i := 9) (N := some 42) (v := ?_) (a' := ?_) b13_31_2ff rfl rfl (aT_ HT_ (by kernel_rfl)) (fun _ _ _ h => h) (Or.inl ⟨by rfl, ?_⟩) ?_ ?_; rotate_left; (focus intro w'; go_simp; with_reducible rfl); rotate_left; (focus simp only [aP_, aQ_, aS_, aZ_, aU_, i64_w, i32_w]; try rfl)
     refine pure_ (i := 10) (N := some 43) (v := ?_) (a' := ?_) b13_31_6ff rfl rfl (aT_ HT_ (by kernel_rfl)) (fun _ _ _ h => h) (Or.inl ⟨by rfl, ?_⟩) ?_ ?_; rotate_left; (focus intro w'; go_simp; with_reducible rfl); rotate_left; (focus simp only [aP_, aQ_, aS_, aZ_, aU_, i64_w, i32_w]; try rfl)
     refine pure_ (i := 11) (N := some 44) (v := ?_) (a' := ?_) b13_31_eff rfl rfl (aT_ HT_ (by kernel_rfl)) (fun _ _ _ h => h) (Or.inl ⟨by rfl, ?_⟩) ?_ ?_; rotate_left; (focus intro w'; go_simp; with_reducible rfl); rotate_left; (focus simp only [aP_, aQ_, aS_, aZ_, aU_, i64_w, i32_w]; try rfl)
     refine pure_ (i := 12) (N := some 45) (v := ?_) (a' := ?_) b13_31_1eff rfl rfl (aT_ HT_ (by kernel_rfl)) (fun _ _ _ h => h) (Or.inl ⟨by rfl, ?_⟩) ?_ ?_; rotate_left; (focus intro w'; go_simp; with_reducible rfl); rotate_left; (focus simp only [aP_, aQ_, aS_, aZ_, aU_, i64_w, i32_w]; try rfl)
     refine pure_ (i := 16) (N := some 49) (v := ?_) (a' := ?_) b13_31_11eff rfl rfl (aT_ HT_ (by kernel_rfl)) (fun _ _ _ h => h) (Or.inl ⟨by rfl, ?_⟩) ?_ ?_; rotate_left; (focus intro w'; go_simp; with_reducible rfl); rotate_left; (focus simp only [aP_, aQ_, aS_, aZ_, aU_, i64_w, i32_w]; try rfl)
     refine pure_ (i := 17) (N := some 50) (v := ?_) (a' := ?_) b13_31_31eff rfl rfl (aT_ HT_ (by kernel_rfl)) (fun _ _ _ h => h) (Or.inl ⟨by rfl, ?_⟩) ?_ ?_; rotate_left; (focus intro w'; go_simp; with_reducible rfl); rotate_left; (focus simp only [aP_, aQ_, aS_, aZ_, aU_, i64_w, i32_w]; try rfl)
     refine pure_ (i := 18) (N := some 51) (v := ?_) (a' := ?_) b13_31_71eff rfl rfl (aT_ HT_ (by kernel_rfl)) (fun _ _ _ h => h) (Or.inl ⟨by rfl, ?_⟩) ?_ ?_; rotate_left; (focus intro w'; go_simp; with_reducible rfl); rotate_left; (focus simp only [aP_, aQ_, aS_, aZ_, aU_, i64_w, i32_w]; try rfl)
     refine pure_ (i := 19) (N := some 52) (v := ?_) (a' := ?_) b13_31_f1eff rfl rfl (aT_ HT_ (by kernel_rfl)) (fun _ _ _ h => h) (Or.inl ⟨by rfl, ?_⟩) ?_ ?_; rotate_left; (focus intro w'; go_simp; with_reducible rfl); rotate_left; (focus simp only [aP_, aQ_, aS_, aZ_, aU_, i64_w, i32_w]; try rfl)
     refine pure_ (i := 21) (N := some 54) (v := ?_) (a' := ?_) b13_31_2f1eff rfl rfl (aT_ HT_ (by kernel_rfl)) (fun _ _ _ h => h) (Or.inl ⟨by rfl, ?_⟩) ?_ ?_; rotate_left; (focus intro w'; go_simp; with_reducible rfl); rotate_left; (focus simp only [aP_, aQ_, aS_, aZ_, aU_, i64_w, i32_w]; try rfl)
     refine pure_ (i := 22) (N := some 55) (v := ?_) (a' := ?_) b13_31_6f1eff rfl rfl (aT_ HT_ (by kernel_rfl)) (fun _ _ _ h => h) (Or.inl ⟨by rfl, ?_⟩) ?_ ?_; rotate_left; (focus intro w'; go_simp; with_reducible rfl); rotate_left; (focus simp only [aP_, aQ_, aS_, aZ_, aU_, i64_w, i32_w]; try rfl)
     refine pure_ (i := 23) (N := some 56) (v := ?_) (a' := ?_) b13_31_ef1eff rfl rfl (aT_ HT_ (by kernel_rfl)) (fun _ _ _ h => h) (Or.inl ⟨by rfl, ?_⟩) ?_ ?_; rotate_left; (focus intro w'; go_simp; with_reducible rfl); rotate_left; (focus simp only [aP_, aQ_, aS_, aZ_, aU_, i64_w, i32_w]; try rfl)
     refine pure_ (i := 24) (N := some 57) (v := ?_) (a' := ?_) b13_31_1ef1eff rfl rfl (aT_ HT_ (by kernel_rfl)) (fun _ _ _ h => h) (Or.inl ⟨by rfl, ?_⟩) ?_ ?_; rotate_left; (focus intro w'; go_simp; with_reducible rfl); rotate_left; (focus simp only [aP_, aQ_, aS_, aZ_, aU_, i64_w, i32_w]; try rfl)
     refine take_ (i := 8) (N := some 41) (v := ?_) (a' := ?_) b13_31_1ef1fff rfl rfl (take_ofW HT_.out HW_.out (by kernel_rfl)) (fun _ _ _ h => h) (Or.inl ⟨by rfl, ?_⟩) hHeld ?_ ?_; rotate_left; (focus rintro w' ⟨s0, s1, s2, s3, s4, s5, s6, s7⟩; go_simp; with_reducible rfl); rotate_left; (focus simp only [aP_, aQ_, aS_, aZ_, aU_, i64_w, i32_w]; try rfl)
     refine take_ (i := 13) (N := some 46) (v := ?_) (a' := ?_) b13_31_1ef3fff rfl rfl (take_ofW HT_.out HW_.out (by kernel_rfl)) (fun _ _ _ h => h) (Or.inl ⟨by rfl, ?_⟩) hHeld ?_ ?_; rotate_left; (focus rintro w' ⟨s0, s1, s2, s3, s4, s5, s6, s7⟩; go_simp; with_reducible rfl); rotate_left; (focus simp only [aP_, aQ_, aS_, aZ_, aU_, i64_w, i32_w]; try rfl)
     refine pure_ (i := 14) (N := some 47) (v := ?_) (a' := ?_) b13_31_1ef7fff rfl rfl (aT_ HT_ (by kernel_rfl)) (fun _ _ _ h => h) (Or.inl ⟨by rfl, ?_⟩) ?_ ?_; rotate_left; (focus intro w'; go_simp; with_reducible rfl); rotate_left; (focus simp only [aP_, aQ_, aS_, aZ_, aU_, i64_w, i32_w]; try rfl)
     refine take_ (i := 20) (N := some 53) (v := ?_) (a' := ?_) b13_31_1ff7fff rfl rfl (take_ofW HT_.out HW_.out (by kernel_rfl)) (fun _ _ _ h => h) (Or.inl ⟨by rfl, ?_⟩) hHeld ?_ ?_; rotate_left; (focus rintro w' ⟨s0, s1, s2, s3, s4, s5, s6, s7⟩; go_simp; with_reducible rfl); rotate_left; (focus simp only [aP_, aQ_, aS_, aZ_, aU_, i64_w, i32_w]; try rfl)
     refine take_ (i := 25) (N := some 58) (v := ?_) (a' := ?_) b13_31_3ff7fff rfl rfl (take_ofW HT_.out HW_.out (by kernel_rfl)) (fun _ _ _ h => h) (Or.inl ⟨by rfl, ?_⟩) hHeld ?_ ?_; rotate_left; (focus rintro w' ⟨s0, s1, s2, s3, s4, s5, s6, s7⟩; go_simp; with_reducible rfl); rotate_left; (focus simp only [aP_, aQ_, aS_, aZ_, aU_, i64_w, i32_w]; try rfl)
     refine pure_ (i := 26) (N := some 59) (v := ?_) (a' := ?_) b13_31_7ff7fff rfl rfl (aT_ HT_ (by kernel_rfl)) (fun _ _ _ h => h) (Or.inl ⟨by rfl, ?_⟩) ?_ ?_; rotate_left; (focus intro w'; go_simp; with_reducible rfl); rotate_left; (focus simp only [aP_, aQ_, aS_, aZ_, aU_, i64_w, i32_w]; try rfl)
     refine one_ (i := 15) (N := some 48) b13_31_7ffffff rfl rfl (one_of HT_.out (by kernel_rfl)) (by decide) (fun K hK => ?_)
     refine goes_ Try.func77 (by kernel_rfl) rfl #[.int .i64 (wrap64 (((rd_T55 l0 x28_2).f1) - ((rd_T55 l0 t481).f1)))] (by rfl) rfl rfl aR_ ?_
     with_reducible refine (spec_l1Abs.calls (wrap64 (((rd_T55 l0 x28_2).f1) - ((rd_T55 l0 t481).f1))) t490 _ A28.out).mono ?_
     rintro e w' ⟨rfl, ⟨nd, rfl⟩⟩
     refine ⟨_, rfl, ?_⟩
     refine hK.out _ _ ⟨(blk_cell BK488.out 0).trans rfl, (blk_cell BK488.out 1).trans rfl, ((HB.out.cell (World.block_lt_of_cell? w _ hw489_0)).trans hw489_0), ((HB.out.cell (World.block_lt_of_cell? w _ hw489_1)).trans hw489_1), ((HB.out.cell (World.block_lt_of_cell? w _ hw491_0)).trans hw491_0), ((HB.out.cell (World.block_lt_of_cell? w _ hw491_1)).trans hw491_1), ((HB.out.cell (World.block_lt_of_cell? w _ hw492_0)).trans hw492_0), ((HB.out.cell (World.block_lt_of_cell? w _ hw492_1)).trans hw492_1)⟩ (fun hHeld => ?_)
     clear hK K
     refine norm_ (a' := ?_) ?_ ?_; rotate_left; (focus show Act.put _ (some 48) _ = _; simp only [aP_, aQ_, aS_, aZ_, aU_, i64_w, i32_w]; try rfl)
     refine one_ (i := 27) (N := some 60) b13_31_fffffff rfl rfl (one_of HT_.out (by kernel_rfl)) (by decide) (fun K hK => ?_)
     refine goes_ Try.func77 (by kernel_rfl) rfl #[.int .i64 (wrap64 (((rd_T55 l0 x8_2).f1) - ((rd_T55 l0 t481).f1)))] (by rfl) rfl rfl aR_ ?_
     with_reducible refine (spec_l1Abs.calls (wrap64 (((rd_T55 l0 x8_2).f1) - ((rd_T55 l0 t481).f1))) t493 _ A31.out).mono ?_
     rintro e w' ⟨rfl, ⟨nd, rfl⟩⟩
     refine ⟨_, rfl, ?_⟩
     refine hK.out _ _ ⟨(blk_cell BK488.out 0).trans rfl, (blk_cell BK488.out 1).trans rfl, ((HB.out.cell (World.block_lt_of_cell? w _ hw489_0)).trans hw489_0), ((HB.out.cell (World.block_lt_of_cell? w _ hw489_1)).trans hw489_1), ((HB.out.cell (World.block_lt_of_cell? w _ hw491_0)).trans hw491_0), ((HB.out.cell (World.block_lt_of_cell? w _ hw491_1)).trans hw491_1), ((HB.out.cell (World.block_lt_of_cell? w _ hw492_0)).trans hw492_0), ((HB.out.cell (World.block_lt_of_cell? w _ hw492_1)).trans hw492_1)⟩ (fun hHeld => ?_)
     clear hK K
     refine norm_ (a' := ?_) ?_ ?_; rotate_left; (focus show Act.put _ (some 60) _ = _; simp only [aP_, aQ_, aS_, aZ_, aU_, i64_w, i32_w]; try rfl)
     refine pure_ (i := 28) (N := some 61) (v := ?_) (a' := ?_) b13_31_1fffffff rfl rfl (aT_ HT_ (by kernel_rfl)) (fun _ _ _ h => h) (Or.inl ⟨by rfl, ?_⟩) ?_ ?_; rotate_left; (focus intro w'; go_simp; with_reducible rfl); rotate_left; (focus simp only [aP_, aQ_, aS_, aZ_, aU_, i64_w, i32_w]; try rfl)
     refine pure_ (i := 29) (N := some 62) (v := ?_) (a' := ?_) b13_31_3fffffff rfl rfl (aT_ HT_ (by kernel_rfl)) (fun _ _ _ h => h) (Or.inl ⟨by rfl, ?_⟩) ?_ ?_; rotate_left; (focus intro w'; go_simp; with_reducible rfl); rotate_left; (focus simp only [aP_, aQ_, aS_, aZ_, aU_, i64_w, i32_w]; try rfl)
     refine pure_ (i := 30) (N := some 63) (v := ?_) (a' := ?_) b13_31_7fffffff rfl rfl (aT_ HT_ (by kernel_rfl)) (fun _ _ _ h => h) (Or.inl ⟨by rfl, ?_⟩) ?_ ?_; rotate_left; (focus intro w'; go_simp; with_reducible rfl); rotate_left; (focus simp only [aP_, aQ_, aS_, aZ_, aU_, i64_w, i32_w]; try rfl)
     refine done_ (done_of HT_.out (by kernel_rfl)) ?_
     go_upto_if 63 with (fail)
     have H := HC32.out
     clear HC32
     by_cases c37 : t490 < t493
     ·rw [if_pos c37] at H
      have c37b0 : decide (t490 < t493) = true := decide_eq_true c37
      clear c37
      (first | rw [c37b0] | (simp only [i64_w, i32_w]; rw [c37b0]) | skip)
      have H' := Aside0.mk H
      clear H
      go_wp2
      go_roundg k2
      case measure => have := HJ3.out; have := HK2.out; omega
      case rel => exact ⟨(x28_2), (wrap64 (x28_2 + 1)), y13_0_, y13_0_, H', ⟨y13_2_⟩, ⟨hB_⟩⟩
     rw [if_neg c37] at H
     have c37b0 : decide (t490 < t493) = false := decide_eq_false c37
     clear c37
     (first | rw [c37b0] | (simp only [i64_w, i32_w]; rw [c37b0]) | skip)
     have H' := Aside0.mk H
     clear H
     go_wp2
     go_roundg k2
     case measure => have := HJ3.out; have := HK2.out; omega
     case rel => exact ⟨(x8_2), (wrap64 (x28_2 + 1)), y13_0_, y13_0_, H', ⟨y13_2_⟩, ⟨hB_⟩⟩

end Go.Proofs.Ytbheajjagkdjmaa.PFnLoci
