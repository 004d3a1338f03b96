/- Printed for this claim: functions of the program as Lean functions, and that the calls answer so. -/
import Derived.Test.YtbfkpgmdbafmhaaPFnTierCountsx0
import Derived.Test.YtbfkpgmdbafmhaaPFnTierCountsxD0
import Derived.Test.YtbfkpgmdbafmhaaPFnTierCountsxD1
namespace Go.Proofs.Ytbfkpgmdbafmhaa.PFnTierCounts
open Go.RowKit Go.Proofs.YtbfkpgmdbafmhaaW.PrintWords Go.Proofs.YtbfkpgmdbafmhaaW.PrintLast Go.Proofs.YtbfkpgmdbafmhaaW.PrintMore
attribute [local go_sem] max2_int min2_int max_two min_two max_three min_three max_four min_four isSome_setCell   -- for this text's walks alone
set_option linter.unusedVariables false
set_option linter.unusedSimpArgs false

theorem z10_0_ {p : Prop} (h : p := by have : (0 : Int) < (a0.size : Int) := ode_; omega) : p := h
/-! ### spec_quLike: function 43 -/
def spec_quLike.T5 : Bool × List (List Nat × List Nat) := (true, [([], []), ([0], [0]), ([1], [1]), ([2], [2]), ([3, 2], [2, 3]), ([4, 2], [2, 4]), ([5, 2, 2], [2, 5]), ([6], [6]), ([7, 6], [6, 7]), ([6], [6]), ([9, 6], [6, 9]), ([8, 10, 6], [6, 8, 10]), ([6, 11, 2], [2, 6, 11]), ([2, 12], [2, 12]), ([13, 6], [13]), ([14], [14]), ([15, 14], [14, 15]), ([14], [14]), ([17, 14], [14, 17]), ([16, 18, 14, 14], [14, 16, 18]), ([14, 19], [14, 19]), ([20, 19, 0, 1, 2, 3, 4, 5, 6, 7, 8, 9, 10, 11, 12, 13, 14, 15, 16, 17, 18, 19, 20], [20])])
def spec_quLike.B5 : List Nat := [0, 1, 3, 7, 15, 31, 63, 127, 255, 127, 639, 2047, 4095, 8191, 16383, 32767, 65535, 32767, 163839, 524287, 1048575, 2097151]
theorem spec_quLike.tab5 : rtab .any (opsOf Try.f43 5) = spec_quLike.T5 := by kernel_rfl
theorem spec_quLike.bits5 : waitsOk spec_quLike.T5.2 spec_quLike.B5 = true := by kernel_rfl
set_option maxHeartbeats 8000000 in
set_option maxRecDepth 100000 in
theorem spec_quLike.calls (k : Nat) : ∀ (a0 : ByteArray) (a1 : ByteArray) (r : Bool) (w : World) (h : spec_quLike.f k a0 a1 = some r),
 Calls Try.prog 43 #[.string a0, .string a1] w fun e w' => e = .returned (.bool r) ∧ Below w.heap.size w w' := by
 induction k using Nat.strongRecOn with
 | _ k ih =>
 intro a0 a1 r w h
 cases k with
 | zero => exact absurd h (by simp [spec_quLike.f])
 | succ k =>
 simp only [spec_quLike.f] at h
 have HB := Aside0.mk (Below.refl w.heap.size w)
 have H : (if a0.toList = ([] : List UInt8) then (some (a1.toList == ([] : List UInt8))) else (if 0 < (a0.size : Int) then (if (bt a0 0) = 42 then (if 1 ≤ (a0.size : Int) then ((spec_quLike.f k (a0.extract 1 a0.size) a1).bind fun t441 => (if t441 = true then (some true) else (if a1.toList = ([] : List UInt8) then (some false) else (if 1 ≤ (a1.size : Int) then ((spec_quLike.f k a0 (a1.extract 1 a1.size)).bind fun t442 => (some t442)) else (none))))) else (none)) else (if a1.toList = ([] : List UInt8) then (some false) else (if (bt a0 0) = 63 then (if 1 ≤ (a0.size : Int) then (if 1 ≤ (a1.size : Int) then ((spec_quLike.f k (a0.extract 1 a0.size) (a1.extract 1 a1.size)).bind fun t443 => (some t443)) else (none)) else (none)) else (if 0 < (a1.size : Int) then (if (bt a0 0) = (bt a1 0) then (if 1 ≤ (a0.size : Int) then (if 1 ≤ (a1.size : Int) then ((spec_quLike.f k (a0.extract 1 a0.size) (a1.extract 1 a1.size)).bind fun t444 => (some t444)) else (none)) else (none)) else (some false)) else (none))))) else (none))) = some r := h
 clear h
 by_cases c3 : a0.toList = ([] : List UInt8)
 ·rw [if_pos c3] at H
  have c3b0 : (a0.toList == ([] : List UInt8)) = true := beq_iff_eq.mpr c3
  have c3b1 : (a0.toList != ([] : List UInt8)) = false := bne_eq_false_iff_eq.mpr c3
  clear c3
  obtain rfl := Option.some.inj H
  go_enter Try.func43, Try.ntmps43
  go_wp2
  go_ret
  exact ⟨rT_, hB_⟩
 rw [if_neg c3] at H
 have c3b0 : (a0.toList == ([] : List UInt8)) = false := beq_eq_false_iff_ne.mpr c3
 have c3b1 : (a0.toList != ([] : List UInt8)) = true := bne_iff_ne.mpr c3
 by_cases c4 : 0 < (a0.size : Int)
 rotate_left
 ·rw [if_neg c4] at H
  exact absurd H (by simp)
 rw [if_pos c4] at H
 have c4b0 : decide (0 < (a0.size : Int)) = true := decide_eq_true c4
 have c4b1 : decide (0 < a0.size) = true := decide_eq_true (by omega)
 clear c4
 by_cases c6 : (bt a0 0) = 42
 ·rw [if_pos c6] at H
  have c6b0 : ((bt a0 0) == 42) = true := beq_iff_eq.mpr c6
  have c6b1 : ((bt a0 0) != 42) = false := bne_eq_false_iff_eq.mpr c6
  clear c6
  replace H := it_ H; obtain ⟨c7b0, c7b1, H⟩ := H
  replace H := ob_ H; obtain ⟨t441, A8, H⟩ := H; try dsimp only at H
  by_cases c9 : t441 = true
  ·subst c9
   replace H := ip_ H rfl
   obtain rfl := Option.some.inj H
   have p5 : 0 ≤ (0 : Int) := (by omega)
   have q5 : 0 < a0.size := z10_0_
   have hx5 : ∀ h : 0 < a0.size, ((a0[0]'h).toNat : Int) = bt a0 0 := bt_at a0 0
   clear p5
   have qi5 : (0 < (a0.size : Int)) = True := eq_true ode_
   replace q5 := eq_true q5
   go_enter Try.func43, Try.ntmps43
   go_wp2_with (first | (refine gM_ (some 15) Try.func43 #[.string (a0.extract 1 a0.size), .string a1] ?_; (with_reducible refine (ih k (by omega) (a0.extract 1 a0.size) a1 true _ A8.out).mono ?_); rintro e w10 ⟨rfl, hb⟩; refine ⟨_, rfl, ?_⟩; replace HB := aM_ (below_step hB_ hb); (try clear hb)))
   go_ret
   exact ⟨rT_, hB_⟩
  replace c9 := Bool.eq_false_iff.mpr c9
  subst c9
  replace H := in_ H (show ¬ (false = true) by decide)
  by_cases c11 : a1.toList = ([] : List UInt8)
  ·rw [if_pos c11] at H
   have c11b0 : (a1.toList == ([] : List UInt8)) = true := beq_iff_eq.mpr c11
   have c11b1 : (a1.toList != ([] : List UInt8)) = false := bne_eq_false_iff_eq.mpr c11
   clear c11
   obtain rfl := Option.some.inj H
   have p5 : 0 ≤ (0 : Int) := (by omega)
   have q5 : 0 < a0.size := z10_0_
   have hx5 : ∀ h : 0 < a0.size, ((a0[0]'h).toNat : Int) = bt a0 0 := bt_at a0 0
   clear p5
   have qi5 : (0 < (a0.size : Int)) = True := eq_true ode_
   replace q5 := eq_true q5
   go_enter Try.func43, Try.ntmps43
   go_wp2_with (first | (refine gM_ (some 15) Try.func43 #[.string (a0.extract 1 a0.size), .string a1] ?_; (with_reducible refine (ih k (by omega) (a0.extract 1 a0.size) a1 false _ A8.out).mono ?_); rintro e w12 ⟨rfl, hb⟩; refine ⟨_, rfl, ?_⟩; replace HB := aM_ (below_step hB_ hb); (try clear hb)))
   go_ret
   exact ⟨rT_, hB_⟩
  rw [if_neg c11] at H
  have c11b0 : (a1.toList == ([] : List UInt8)) = false := beq_eq_false_iff_ne.mpr c11
  have c11b1 : (a1.toList != ([] : List UInt8)) = true := bne_iff_ne.mpr c11
  replace H := it_ H; obtain ⟨c13b0, c13b1, H⟩ := H
  replace H := ob_ H; obtain ⟨t442, A14, H⟩ := H; try dsimp only at H
  obtain rfl := Option.some.inj H
  have p5 : 0 ≤ (0 : Int) := (by omega)
  have q5 : 0 < a0.size := z10_0_
  have hx5 : ∀ h : 0 < a0.size, ((a0[0]'h).toNat : Int) = bt a0 0 := bt_at a0 0
  clear p5
  have qi5 : (0 < (a0.size : Int)) = True := eq_true ode_
  replace q5 := eq_true q5
  go_enter Try.func43, Try.ntmps43
  go_wp2_with (first | (refine gM_ (some 15) Try.func43 #[.string (a0.extract 1 a0.size), .string a1] ?_; (with_reducible refine (ih k (by omega) (a0.extract 1 a0.size) a1 false _ A8.out).mono ?_); rintro e w15 ⟨rfl, hb⟩; refine ⟨_, rfl, ?_⟩; replace HB := aM_ (below_step hB_ hb); (try clear hb)) | (go_at_call 43; (with_reducible refine (ih k (by omega) a0 (a1.extract 1 a1.size) t442 _ A14.out).mono ?_); rintro e w16 ⟨rfl, hb⟩; replace HB := aM_ (below_step hB_ hb); (try clear hb)))
  go_ret
  exact ⟨rT_, hB_⟩
 rw [if_neg c6] at H
 have c6b0 : ((bt a0 0) == 42) = false := beq_eq_false_iff_ne.mpr c6
 have c6b1 : ((bt a0 0) != 42) = true := bne_iff_ne.mpr c6
 by_cases c17 : a1.toList = ([] : List UInt8)
 ·rw [if_pos c17] at H
  have c17b0 : (a1.toList == ([] : List UInt8)) = true := beq_iff_eq.mpr c17
  have c17b1 : (a1.toList != ([] : List UInt8)) = false := bne_eq_false_iff_eq.mpr c17
  clear c17
  obtain rfl := Option.some.inj H
  have p5 : 0 ≤ (0 : Int) := (by omega)
  have q5 : 0 < a0.size := z10_0_
  have hx5 : ∀ h : 0 < a0.size, ((a0[0]'h).toNat : Int) = bt a0 0 := bt_at a0 0
  clear p5
  have qi5 : (0 < (a0.size : Int)) = True := eq_true ode_
  replace q5 := eq_true q5
  go_enter Try.func43, Try.ntmps43
  try go_wp2
  replace HB := aM_ (below_drew1 HB.out)
  refine st_ 22 (fun w' => True) [] spec_quLike.tab5 spec_quLike.bits5 trivial fun hHeld HT_ HW_ => ?_
  generalize w.drew = w18 at HB hHeld ⊢
  refine pu_ 0 26 ?_
  refine pu_ 1 27 ?_
  refine pu_ 2 28 ?_
  refine pv_ 3 29 ?_
  refine pv_ 4 30 ?_
  refine pv_ 5 31 ?_
  refine pv_ 6 32 ?_
  refine pv_ 7 33 ?_
  refine pv_ 8 34 ?_
  refine pv_ 9 35 ?_
  refine pv_ 10 36 ?_
  refine pv_ 11 37 ?_
  refine pv_ 12 38 ?_
  refine pu_ 13 39 ?_
  refine pu_ 14 40 ?_
  refine pv_ 15 41 ?_
  refine pv_ 16 42 ?_
  refine pv_ 17 43 ?_
  refine pv_ 18 44 ?_
  refine pv_ 19 45 ?_
  refine pu_ 20 46 ?_
  refine pu_ 21 4 ?_
  refine dn_ ?_
  try go_wp2
  go_ret
  exact ⟨rT_, hB_⟩
 rw [if_neg c17] at H
 have c17b0 : (a1.toList == ([] : List UInt8)) = false := beq_eq_false_iff_ne.mpr c17
 have c17b1 : (a1.toList != ([] : List UInt8)) = true := bne_iff_ne.mpr c17
 by_cases c20 : (bt a0 0) = 63
 ·rw [if_pos c20] at H
  have c20b0 : ((bt a0 0) == 63) = true := beq_iff_eq.mpr c20
  have c20b1 : ((bt a0 0) != 63) = false := bne_eq_false_iff_eq.mpr c20
  clear c20
  replace H := it_ H; obtain ⟨c21b0, c21b1, H⟩ := H
  replace H := it_ H; obtain ⟨c22b0, c22b1, H⟩ := H
  replace H := ob_ H; obtain ⟨t443, A23, H⟩ := H; try dsimp only at H
  obtain rfl := Option.some.inj H
  have p5 : 0 ≤ (0 : Int) := (by omega)
  have q5 : 0 < a0.size := z10_0_
  have hx5 : ∀ h : 0 < a0.size, ((a0[0]'h).toNat : Int) = bt a0 0 := bt_at a0 0
  clear p5
  have qi5 : (0 < (a0.size : Int)) = True := eq_true ode_
  replace q5 := eq_true q5
  go_enter Try.func43, Try.ntmps43
  try go_wp2
  replace HB := aM_ (below_drew1 HB.out)
  have p19 : 0 ≤ (0 : Int) := (by omega)
  have q19 : 0 < a0.size := z10_0_
  have hx19 : ∀ h : 0 < a0.size, ((a0[0]'h).toNat : Int) = bt a0 0 := bt_at a0 0
  clear p19
  have qi19 : (0 < (a0.size : Int)) = True := eq_true ode_
  replace q19 := eq_true q19
  refine st_ 22 (fun w' => True) [] spec_quLike.tab5 spec_quLike.bits5 trivial fun hHeld HT_ HW_ => ?_
  generalize w.drew = w24 at HB hHeld ⊢
  refine pu_ 0 26 ?_
  refine pu_ 1 27 ?_
  refine pu_ 2 28 ?_
  refine pu_ 3 29 ?_
  refine tk_ 4 30 ?_
  refine pu_ 5 31 ?_
  refine pu_ 6 32 ?_
  refine pv_ 7 33 ?_
  refine pv_ 8 34 ?_
  refine pv_ 9 35 ?_
  refine pv_ 10 36 ?_
  refine pv_ 11 37 ?_
  refine pu_ 12 38 ?_
  refine pu_ 13 39 ?_
  refine pu_ 14 40 ?_
  refine pu_ 15 41 ?_
  refine pu_ 16 42 ?_
  refine pu_ 17 43 ?_
  refine pu_ 18 44 ?_
  refine on_ 19 45 fun K hK => ?_
  refine gS_ Try.func43 #[.string (a0.extract 1 a0.size), .string (a1.extract 1 a1.size)] ?_
  with_reducible refine (ih k (by omega) (a0.extract 1 a0.size) (a1.extract 1 a1.size) t443 _ A23.out).mono ?_
  rintro e w25 ⟨rfl, hb⟩
  refine ⟨_, rfl, ?_⟩
  replace HB := aM_ (below_step hB_ hb)
  (try clear hb)
  (try clear hb2)
  (try clear hk)
  (try clear hi)
  refine hK.out _ _ trivial (fun hHeld => ?_)
  clear hK K
  refine nm_ 45 ?_
  refine pu_ 20 46 ?_
  refine pu_ 21 4 ?_
  refine dn_ ?_
  try go_wp2
  go_ret
  exact ⟨rT_, hB_⟩
 rw [if_neg c20] at H
 have c20b0 : ((bt a0 0) == 63) = false := beq_eq_false_iff_ne.mpr c20
 have c20b1 : ((bt a0 0) != 63) = true := bne_iff_ne.mpr c20
 by_cases c27 : 0 < (a1.size : Int)
 rotate_left
 ·rw [if_neg c27] at H
  exact absurd H (by simp)
 rw [if_pos c27] at H
 have c27b0 : decide (0 < (a1.size : Int)) = true := decide_eq_true c27
 have c27b1 : decide (0 < a1.size) = true := decide_eq_true (by omega)
 clear c27
 by_cases c29 : (bt a0 0) = (bt a1 0)
 rotate_left
 ·rw [if_neg c29] at H
  have c29b0 : ((bt a0 0) == (bt a1 0)) = false := beq_eq_false_iff_ne.mpr c29
  have c29b1 : ((bt a0 0) != (bt a1 0)) = true := bne_iff_ne.mpr c29
  obtain rfl := Option.some.inj H
  have p5 : 0 ≤ (0 : Int) := (by omega)
  have q5 : 0 < a0.size := z10_0_
  have hx5 : ∀ h : 0 < a0.size, ((a0[0]'h).toNat : Int) = bt a0 0 := bt_at a0 0
  clear p5
  have qi5 : (0 < (a0.size : Int)) = True := eq_true ode_
  replace q5 := eq_true q5
  go_enter Try.func43, Try.ntmps43
  try go_wp2
  replace HB := aM_ (below_drew1 HB.out)
  have p19 : 0 ≤ (0 : Int) := (by omega)
  have q19 : 0 < a0.size := z10_0_
  have hx19 : ∀ h : 0 < a0.size, ((a0[0]'h).toNat : Int) = bt a0 0 := bt_at a0 0
  clear p19
  have qi19 : (0 < (a0.size : Int)) = True := eq_true ode_
  replace q19 := eq_true q19
  have p26 : 0 ≤ (0 : Int) := (by omega)
  have q26 : 0 < a0.size := z10_0_
  have hx26 : ∀ h : 0 < a0.size, ((a0[0]'h).toNat : Int) = bt a0 0 := bt_at a0 0
  clear p26
  have qi26 : (0 < (a0.size : Int)) = True := eq_true ode_
  replace q26 := eq_true q26
  have p28 : 0 ≤ (0 : Int) := (by omega)
  have q28 : 0 < a1.size := (by have : (0 : Int) < (a1.size : Int) := ode_; omega)
  have hx28 : ∀ h : 0 < a1.size, ((a1[0]'h).toNat : Int) = bt a1 0 := bt_at a1 0
  clear p28
  have qi28 : (0 < (a1.size : Int)) = True := eq_true ode_
  replace q28 := eq_true q28
  refine st_ 22 (fun w' => True) [] spec_quLike.tab5 spec_quLike.bits5 trivial fun hHeld HT_ HW_ => ?_
  generalize w.drew = w35 at HB hHeld ⊢
  refine pu_ 0 26 ?_
  refine pu_ 1 27 ?_
  refine pu_ 2 28 ?_
  refine pu_ 3 29 ?_
  refine tk_ 4 30 ?_
  refine pu_ 5 31 ?_
  refine pu_ 6 32 ?_
  refine pu_ 7 33 ?_
  refine pu_ 9 35 ?_
  refine tk_ 8 34 ?_
  refine tk_ 10 36 ?_
  refine pu_ 11 37 ?_
  refine pu_ 12 38 ?_
  refine pu_ 13 39 ?_
  refine pu_ 14 40 ?_
  refine pv_ 15 41 ?_
  refine pv_ 16 42 ?_
  refine pv_ 17 43 ?_
  refine pv_ 18 44 ?_
  refine pv_ 19 45 ?_
  refine pu_ 20 46 ?_
  refine pu_ 21 4 ?_
  refine dn_ ?_
  try go_wp2
  go_ret
  exact ⟨rT_, hB_⟩
 rw [if_pos c29] at H
 have c29b0 : ((bt a0 0) == (bt a1 0)) = true := beq_iff_eq.mpr c29
 have c29b1 : ((bt a0 0) != (bt a1 0)) = false := bne_eq_false_iff_eq.mpr c29
 clear c29
 replace H := it_ H; obtain ⟨c30b0, c30b1, H⟩ := H
 replace H := it_ H; obtain ⟨c31b0, c31b1, H⟩ := H
 replace H := ob_ H; obtain ⟨t444, A32, H⟩ := H; try dsimp only at H
 obtain rfl := Option.some.inj H
 have p5 : 0 ≤ (0 : Int) := (by omega)
 have q5 : 0 < a0.size := z10_0_
 have hx5 : ∀ h : 0 < a0.size, ((a0[0]'h).toNat : Int) = bt a0 0 := bt_at a0 0
 clear p5
 have qi5 : (0 < (a0.size : Int)) = True := eq_true ode_
 replace q5 := eq_true q5
 go_enter Try.func43, Try.ntmps43
 try go_wp2
 replace HB := aM_ (below_drew1 HB.out)
 have p19 : 0 ≤ (0 : Int) := (by omega)
 have q19 : 0 < a0.size := z10_0_
 have hx19 : ∀ h : 0 < a0.size, ((a0[0]'h).toNat : Int) = bt a0 0 := bt_at a0 0
 clear p19
 have qi19 : (0 < (a0.size : Int)) = True := eq_true ode_
 replace q19 := eq_true q19
 have p26 : 0 ≤ (0 : Int) := (by omega)
 have q26 : 0 < a0.size := z10_0_
 have hx26 : ∀ h : 0 < a0.size, ((a0[0]'h).toNat : Int) = bt a0 0 := bt_at a0 0
 clear p26
 have qi26 : (0 < (a0.size : Int)) = True := eq_true ode_
 replace q26 := eq_true q26
 have p28 : 0 ≤ (0 : Int) := (by omega)
 have q28 : 0 < a1.size := (by have : (0 : Int) < (a1.size : Int) := ode_; omega)
 have hx28 : ∀ h : 0 < a1.size, ((a1[0]'h).toNat : Int) = bt a1 0 := bt_at a1 0
 clear p28
 have qi28 : (0 < (a1.size : Int)) = True := eq_true ode_
 replace q28 := eq_true q28
 refine st_ 22 (fun w' => True) [] spec_quLike.tab5 spec_quLike.bits5 trivial fun hHeld HT_ HW_ => ?_
 generalize w.drew = w33 at HB hHeld ⊢
 refine pu_ 0 26 ?_
 refine pu_ 1 27 ?_
 refine pu_ 2 28 ?_
 refine pu_ 3 29 ?_
 refine tk_ 4 30 ?_
 refine pu_ 5 31 ?_
 refine pu_ 6 32 ?_
 refine pu_ 7 33 ?_
 refine pu_ 9 35 ?_
 refine tk_ 8 34 ?_
 refine tk_ 10 36 ?_
 refine pu_ 11 37 ?_
 refine pu_ 12 38 ?_
 refine pu_ 13 39 ?_
 refine pu_ 14 40 ?_
 refine pu_ 15 41 ?_
 refine pu_ 16 42 ?_
 refine pu_ 17 43 ?_
 refine pu_ 18 44 ?_
 refine on_ 19 45 fun K hK => ?_
 refine gS_ Try.func43 #[.string (a0.extract 1 a0.size), .string (a1.extract 1 a1.size)] ?_
 with_reducible refine (ih k (by omega) (a0.extract 1 a0.size) (a1.extract 1 a1.size) t444 _ A32.out).mono ?_
 rintro e w34 ⟨rfl, hb⟩
 refine ⟨_, rfl, ?_⟩
 replace HB := aM_ (below_step hB_ hb)
 (try clear hb)
 (try clear hb2)
 (try clear hk)
 (try clear hi)
 refine hK.out _ _ trivial (fun hHeld => ?_)
 clear hK K
 refine nm_ 45 ?_
 refine pu_ 20 46 ?_
 refine pu_ 21 4 ?_
 refine dn_ ?_
 try go_wp2
 go_ret
 exact ⟨rT_, hB_⟩

end Go.Proofs.Ytbfkpgmdbafmhaa.PFnTierCounts
