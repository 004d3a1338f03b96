/- Printed for this claim: functions of the program as Lean functions, and that the calls answer so. -/
import Derived.Test.YtbheajjagkdjmaaPFnLocix0
import Derived.Test.YtbheajjagkdjmaaPFnLocix2
import Derived.Test.YtbheajjagkdjmaaPFnLocix3
import Derived.Test.YtbheajjagkdjmaaPFnLocix6
import Derived.Test.YtbheajjagkdjmaaPFnLocix7
import Derived.Test.YtbheajjagkdjmaaPFnLocix8
import Derived.Test.YtbheajjagkdjmaaPFnLocix9
import Derived.Test.YtbheajjagkdjmaaPFnLocix10
import Derived.Test.YtbheajjagkdjmaaPFnLocix11
import Derived.Test.YtbheajjagkdjmaaPFnLocixD0
namespace Go.Proofs.Ytbheajjagkdjmaa.PFnLoci
open Go.RowKit Go.Proofs.YtbheajjagkdjmaaW.PrintWords Go.Proofs.YtbheajjagkdjmaaW.PrintLast Go.Proofs.YtbheajjagkdjmaaW.PrintMore
attribute [local go_sem] max2_int min2_int max_two min_two max_three min_three max_four min_four isSome_setCell   -- for this text's walks alone
theorem y12_0_ {p : Prop} (h : p := by first | rfl | (simp; done) | (simp [*]; done)) : p := h
theorem y12_1_ {p : Prop} (h : p := by repeat (first | (with_reducible first | exact HB.out | apply lA_ | apply lN_ | apply lD_ | refine below_set ?_ (IsS90.ge HI450.out)) | exact HB.out)) : p := h
theorem y12_2_ {p : Prop} (h : p := by (with_reducible repeat (first | apply rA_ | apply rN_ | apply rD_)); exact HO453.out) : p := h
theorem y12_3_ {p : Prop} (h : p := by repeat (first | (with_reducible first | exact HI450.out | apply IsS90.alloc | apply IsS90.drewN | apply IsS90.drew | apply IsS90.set_1 | apply IsS90.set_2) | exact HI450.out)) : p := h
theorem y12_4_ {p : Prop} (h : p := by (with_reducible repeat (first | apply rA_ | apply rN_ | apply rD_)); exact HO_5.out) : p := h
abbrev b12_11_0 : Array Bool := #[false, false, false, false, false, false, false, false, false, false, false]
abbrev b12_11_1 : Array Bool := #[true, false, false, false, false, false, false, false, false, false, false]
abbrev b12_11_1f : Array Bool := #[true, true, true, true, true, false, false, false, false, false, false]
abbrev b12_11_2ff : Array Bool := #[true, true, true, true, true, true, true, true, false, true, false]
abbrev b12_11_3 : Array Bool := #[true, true, false, false, false, false, false, false, false, false, false]
abbrev b12_11_3f : Array Bool := #[true, true, true, true, true, true, false, false, false, false, false]
abbrev b12_11_3ff : Array Bool := #[true, true, true, true, true, true, true, true, true, true, false]
abbrev b12_11_7 : Array Bool := #[true, true, true, false, false, false, false, false, false, false, false]
abbrev b12_11_7f : Array Bool := #[true, true, true, true, true, true, true, false, false, false, false]
abbrev b12_11_7ff : Array Bool := #[true, true, true, true, true, true, true, true, true, true, true]
abbrev b12_11_f : Array Bool := #[true, true, true, true, false, false, false, false, false, false, false]
abbrev b12_11_ff : Array Bool := #[true, true, true, true, true, true, true, true, false, false, false]
abbrev b12_14_0 : Array Bool := #[false, false, false, false, false, false, false, false, false, false, false, false, false, false]
abbrev b12_14_1 : Array Bool := #[true, false, false, false, false, false, false, false, false, false, false, false, false, false]
abbrev b12_14_1b : Array Bool := #[true, true, false, true, true, false, false, false, false, false, false, false, false, false]
abbrev b12_14_1ff : Array Bool := #[true, true, true, true, true, true, true, true, true, false, false, false, false, false]
abbrev b12_14_1fff : Array Bool := #[true, true, true, true, true, true, true, true, true, true, true, true, true, false]
abbrev b12_14_3 : Array Bool := #[true, true, false, false, false, false, false, false, false, false, false, false, false, false]
abbrev b12_14_3b : Array Bool := #[true, true, false, true, true, true, false, false, false, false, false, false, false, false]
abbrev b12_14_3ff : Array Bool := #[true, true, true, true, true, true, true, true, true, true, false, false, false, false]
abbrev b12_14_3fff : Array Bool := #[true, true, true, true, true, true, true, true, true, true, true, true, true, true]
abbrev b12_14_7b : Array Bool := #[true, true, false, true, true, true, true, false, false, false, false, false, false, false]
abbrev b12_14_7ff : Array Bool := #[true, true, true, true, true, true, true, true, true, true, true, false, false, false]
abbrev b12_14_b : Array Bool := #[true, true, false, true, false, false, false, false, false, false, false, false, false, false]
abbrev b12_14_fb : Array Bool := #[true, true, false, true, true, true, true, true, false, false, false, false, false, false]
abbrev b12_14_ff : Array Bool := #[true, true, true, true, true, true, true, true, false, false, false, false, false, false]
abbrev b12_14_fff : Array Bool := #[true, true, true, true, true, true, true, true, true, true, true, true, false, false]
set_option linter.unusedVariables false
set_option linter.unusedSimpArgs false

/-! ### spec_loMeans: function 74 -/
set_option maxHeartbeats 8000000 in
set_option maxRecDepth 100000 in
theorem spec_loMeans.calls (k : Nat) (A0 : Option Addr) (c0 : Nat) (l0 : List (S55)) (a1 : Int) (r1 : ByteArray) (r2 : Bool) (w : World) (hr0 : Kd.C k55 w A0 l0.length l0) (hc0 : l0.length ≤ c0) (h : spec_loMeans.f k l0 a1 = some (r1, r2)) :
 Calls Try.prog 74 #[.slice A0 l0.length c0, .int .i64 a1] w fun e w' => e = .returned (.tuple #[.string r1, .bool r2]) ∧ Below w.heap.size w w' := by
 have hu55 := Try.underlying55
 have HR0 := Aside0.mk hr0
 have HC0 := Aside0.mk hc0
 clear hr0 hc0
 have HB := Aside0.mk (Below.refl w.heap.size w)
 have H : ((spec_loLeast.f k l0 a1).bind fun bt441 => (if bt441.1 > 20 then (spec_loMeans.j0 k l0 a1 bt441.1 true) else (spec_loMeans.j0 k l0 a1 bt441.1 (bt441.2 != 1)))) = some (r1, r2) := h
 clear h
 replace H := Option.bind_eq_some_iff.mp H
 obtain ⟨⟨t441, t442⟩, A30, H⟩ := H
 try dsimp only at H
 have A3 := Aside0.mk A30
 clear A30
 have HC4 := Aside0.mk H
 clear H
 go_enter Try.func74, Try.ntmps74
 go_upto_region 2 with (first | ((with_reducible refine gate_callee (f := 97) rfl ?_); refine goesM_ (some 13) Try.func97 #[.slice A0 l0.length c0, .int .i64 a1] ?_; (with_reducible refine (spec_loLeast.calls k _ _ l0 a1 t441 t442 _ ?side1 ?side2 A3.out).mono ?_); (case side1 => repeat (first | exact HR0.out | (with_reducible first | apply cA_ | apply cN_ | apply cD_))); (case side2 => exact HC0.out); rintro e w5 ⟨rfl, hb⟩; refine ⟨_, rfl, ?_⟩; replace HB := aM_ (below_step hB_ hb); (try clear hb)))
 (try simp only [Act.put, List.setIfInBounds_toArray, List.set_cons_zero, List.set_cons_succ])
 go_cut [21] (fun v21 wc => ∃ (kq : Nat) (x21_3 : Bool), v21 = .bool x21_3 ∧ Aside0 (spec_loMeans.j0 kq l0 a1 t441 x21_3 = some (r1, r2)) ∧ Aside0 (kq ≤ k) ∧ Aside0 (Below w.heap.size w wc))
 case first =>
  have H := HC4.out
  clear HC4
  by_cases c6 : t441 > 20
  ·rw [if_pos c6] at H
   have c6b0 : decide (20 < t441) = true := decide_eq_true c6
   clear c6
   (first | rw [c6b0] | (simp only [i64_w, i32_w]; rw [c6b0]) | skip)
   have H' := Aside0.mk H
   clear H
   go_wp2
   go_meet
   case rel => exact ⟨_, (true), y12_0_, H', ⟨oR_⟩, ⟨hB_⟩⟩
  rw [if_neg c6] at H
  have c6b0 : decide (20 < t441) = false := decide_eq_false c6
  clear c6
  (first | rw [c6b0] | (simp only [i64_w, i32_w]; rw [c6b0]) | skip)
  have H' := Aside0.mk H
  clear H
  go_wp2
  go_meet
  case rel => exact ⟨_, ((t442 != 1)), y12_0_, H', ⟨oR_⟩, ⟨hB_⟩⟩
 case rest =>
  clear HC4
  obtain ⟨kq, x21_3, rfl, HA, HJ3, HB⟩ := hcut
  cases kq with
  | zero => exact absurd HA.out (by simp [spec_loMeans.j0])
  | succ kj3 =>
   have H := HA.out
   clear HA
   simp only [spec_loMeans.j0] at H
   by_cases c7 : x21_3 = true
   ·subst c7
    replace H := ip_ H rfl
    simp only [Option.some.injEq, Prod.mk.injEq] at H
    obtain ⟨rfl, rfl⟩ := H
    go_wp2
    go_ret2
    exact ⟨rT_, hB_⟩
   replace c7 := Bool.eq_false_iff.mpr c7
   subst c7
   replace H := in_ H (show ¬ (false = true) by decide)
   have H' := Aside0.mk H
   clear H
   go_wp2
   go_loopg [24] kj3 (fun kq v24 w' => ∃ (x24_2 : Int), v24 = .int .i64 x24_2 ∧ Aside0 (spec_loMeans.l0 kq a1 t441 l0 (l0.length : Int) x24_2 = some (r1, r2)) ∧ Aside0 (kq ≤ kj3) ∧ Aside0 (Below w.heap.size w w'))
   case atStart => exact ⟨(0), y12_0_, H', ⟨Nat.le_refl _⟩, ⟨hB_⟩⟩
   case round =>
    clear H'
    (try clear c7)
    obtain ⟨x24_2, rfl, HA, HK2, HB⟩ := hrel
    cases gk with
    | zero => exact absurd HA.out (by simp [spec_loMeans.l0])
    | succ k2 =>
     have H := HA.out
     clear HA
     simp only [spec_loMeans.l0] at H
     by_cases c8 : x24_2 < (l0.length : Int)
     rotate_left
     ·rw [if_neg c8] at H
      have c8b0 : decide (x24_2 < (l0.length : Int)) = false := decide_eq_false c8
      clear c8
      simp only [Option.some.injEq, Prod.mk.injEq] at H
      obtain ⟨rfl, rfl⟩ := H
      go_wp2
      go_ret2
      exact ⟨rT_, hB_⟩
     rw [if_pos c8] at H
     have c8b0 : decide (x24_2 < (l0.length : Int)) = true := decide_eq_true c8
     clear c8
     by_cases c9 : 0 ≤ x24_2
     rotate_left
     ·rw [if_neg c9] at H
      exact absurd H (by simp)
     rw [if_pos c9] at H
     have c9b0 : decide (0 ≤ x24_2) = true := decide_eq_true c9
     clear c9
     by_cases c10 : x24_2 < (l0.length : Int)
     rotate_left
     ·rw [if_neg c10] at H
      exact absurd H (by simp)
     rw [if_pos c10] at H
     have c10b0 : decide (x24_2 < (l0.length : Int)) = true := decide_eq_true c10
     clear c10
     replace H := Option.bind_eq_some_iff.mp H
     obtain ⟨t445, A110, H⟩ := H
     try dsimp only at H
     have A11 := Aside0.mk A110
     clear A110
     have HC12 := Aside0.mk H
     clear H
     have p443 : 0 ≤ (x24_2 : Int) := ode_
     have q443 : x24_2 < (l0.length : Int) := ode_
     obtain ⟨ad443, e443, hx443_0, hx443_1⟩ := at_T55 HR0.out x24_2 p443 q443
     cases e443
     replace hx443_0 := (HB.out.cell (World.block_lt_of_cell? w _ hx443_0)).trans hx443_0
     replace hx443_1 := (HB.out.cell (World.block_lt_of_cell? w _ hx443_1)).trans hx443_1
     replace p443 := eq_true p443
     replace q443 := eq_true q443
     go_upto_if 34 with (first | ((with_reducible refine gate_dst (N := 9) rfl ?_); refine box_event ?hg (N := 9) ?hd (cs := #[.string (⟨#[]⟩ : ByteArray), .int .i64 0]) (t := 55) ?hr ?_; (case hd => rfl); (case hg => rfl); (case hr => first | (go_simp; done) | (go_simp; rfl)); intro gb444 hg w13 hbox hb; have BK444 := aM_ (hbox); have GW444 := aM_ (gw_ w hg); have GE444 := aM_ (gw_ w hg); replace HB := aM_ (below_step hB_ hb); clear hb hbox hg; have hz14 := cf2_ BK444.out) | ((with_reducible refine gate_callee (f := 77) rfl ?_); refine goesM_ (some 32) Try.func77 #[.int .i64 (wrap64 (((rd_T55 l0 x24_2).f1) - a1))] ?_; (with_reducible refine (spec_l1Abs.calls (wrap64 (((rd_T55 l0 x24_2).f1) - a1)) t445 _ A11.out).mono ?_); rintro e w' ⟨rfl, ⟨nd, rfl⟩⟩; refine ⟨_, rfl, ?_⟩))
     (try simp only [Act.put, List.setIfInBounds_toArray, List.set_cons_zero, List.set_cons_succ])
     have H := HC12.out
     clear HC12
     by_cases c15 : t445 = t441
     ·rw [if_pos c15] at H
      have c15b0 : (t445 == t441) = true := beq_iff_eq.mpr c15
      have c15b1 : (t445 != t441) = false := bne_eq_false_iff_eq.mpr c15
      clear c15
      (first | rw [c15b0] | (simp only [i64_w, i32_w]; rw [c15b0]) | skip)
      simp only [Option.some.injEq, Prod.mk.injEq] at H
      obtain ⟨rfl, rfl⟩ := H
      have hz16 := cf2_ BK444.out
      go_wp2
      go_ret2
      exact ⟨rT_, hB_⟩
     rw [if_neg c15] at H
     have c15b0 : (t445 == t441) = false := beq_eq_false_iff_ne.mpr c15
     have c15b1 : (t445 != t441) = true := bne_iff_ne.mpr c15
     (first | rw [c15b0] | (simp only [i64_w, i32_w]; rw [c15b0]) | skip)
     have H' := Aside0.mk H
     clear H
     go_wp2
     go_roundg k2
     case measure => have := HJ3.out; have := HK2.out; omega
     case rel => exact ⟨(wrap64 (x24_2 + 1)), y12_0_, H', ⟨by have := HJ3.out; have := HK2.out; omega⟩, ⟨hB_⟩⟩

/-! ### spec_PointsAt: function 33 -/
set_option maxHeartbeats 8000000 in
set_option maxRecDepth 100000 in
theorem spec_PointsAt.calls (k : Nat) (A0 : Option Addr) (c0 : Nat) (l0 : List (S55)) (a1 : Int) (r1 : ByteArray) (r2 : Bool) (w : World) (hr0 : Kd.C k55 w A0 l0.length l0) (hc0 : l0.length ≤ c0) (h : spec_PointsAt.f k l0 a1 = some (r1, r2)) :
 Calls Try.prog 33 #[.slice A0 l0.length c0, .int .i64 a1] w fun e w' => e = .returned (.tuple #[.string r1, .bool r2]) ∧ Below w.heap.size w w' := by
 have HR0 := Aside0.mk hr0
 have HC0 := Aside0.mk hc0
 clear hr0 hc0
 have HB := Aside0.mk (Below.refl w.heap.size w)
 have H : ((spec_loGood.f k l0).bind fun t446 => (if t446 = true then ((spec_loAngle.f a1).bind fun t447 => (if t447 = true then ((spec_loMeans.f k l0 a1).bind fun bt448 => (some (bt448.1, bt448.2))) else (some ((⟨#[]⟩ : ByteArray), false)))) else (some ((⟨#[]⟩ : ByteArray), false)))) = some (r1, r2) := h
 clear h
 replace H := Option.bind_eq_some_iff.mp H
 obtain ⟨t446, A30, H⟩ := H
 try dsimp only at H
 have A3 := Aside0.mk A30
 clear A30
 by_cases c4 : t446 = true
 rotate_left
 ·replace c4 := Bool.eq_false_iff.mpr c4
  subst c4
  replace H := in_ H (show ¬ (false = true) by decide)
  simp only [Option.some.injEq, Prod.mk.injEq] at H
  obtain ⟨rfl, rfl⟩ := H
  go_enter Try.func33, Try.ntmps33
  go_wp2_with (first | ((with_reducible refine gate_callee (f := 39) rfl ?_); refine goesM_ (some 7) Try.func39 #[.slice A0 l0.length c0] ?_; (with_reducible refine (spec_loGood.calls k _ _ l0 false _ ?side1 ?side2 A3.out).mono ?_); (case side1 => repeat (first | exact HR0.out | (with_reducible first | apply cA_ | apply cN_ | apply cD_))); (case side2 => exact HC0.out); rintro e w11 ⟨rfl, hb⟩; refine ⟨_, rfl, ?_⟩; replace HB := aM_ (below_step hB_ hb); (try clear hb)))
  go_ret2
  exact ⟨rT_, hB_⟩
 subst c4
 replace H := ip_ H rfl
 replace H := Option.bind_eq_some_iff.mp H
 obtain ⟨t447, A50, H⟩ := H
 try dsimp only at H
 have A5 := Aside0.mk A50
 clear A50
 have HC6 := Aside0.mk H
 clear H
 go_enter Try.func33, Try.ntmps33
 go_upto_if 13 with (first | ((with_reducible refine gate_callee (f := 39) rfl ?_); refine goesM_ (some 7) Try.func39 #[.slice A0 l0.length c0] ?_; (with_reducible refine (spec_loGood.calls k _ _ l0 true _ ?side1 ?side2 A3.out).mono ?_); (case side1 => repeat (first | exact HR0.out | (with_reducible first | apply cA_ | apply cN_ | apply cD_))); (case side2 => exact HC0.out); rintro e w7 ⟨rfl, hb⟩; refine ⟨_, rfl, ?_⟩; replace HB := aM_ (below_step hB_ hb); (try clear hb)) | (go_at_call 41; (with_reducible refine (spec_loAngle.calls a1 t447 _ A5.out).mono ?_); rintro e w' ⟨rfl, ⟨nd, rfl⟩⟩))
 (try simp only [Act.put, List.setIfInBounds_toArray, List.set_cons_zero, List.set_cons_succ])
 have H := HC6.out
 clear HC6
 by_cases c8 : t447 = true
 rotate_left
 ·replace c8 := Bool.eq_false_iff.mpr c8
  subst c8
  replace H := in_ H (show ¬ (false = true) by decide)
  simp only [Option.some.injEq, Prod.mk.injEq] at H
  obtain ⟨rfl, rfl⟩ := H
  go_wp2
  go_ret2
  exact ⟨rT_, hB_⟩
 subst c8
 replace H := ip_ H rfl
 replace H := Option.bind_eq_some_iff.mp H
 obtain ⟨⟨t448, t449⟩, A90, H⟩ := H
 try dsimp only at H
 have A9 := Aside0.mk A90
 clear A90
 simp only [Option.some.injEq, Prod.mk.injEq] at H
 obtain ⟨rfl, rfl⟩ := H
 go_wp2_with (first | ((with_reducible refine gate_callee (f := 74) rfl ?_); refine goesM_ (some 16) Try.func74 #[.slice A0 l0.length c0, .int .i64 a1] ?_; (with_reducible refine (spec_loMeans.calls k _ _ l0 a1 t448 t449 _ ?side1 ?side2 A9.out).mono ?_); (case side1 => repeat (first | exact (Kd.C_below HR0.out HB.out) | (with_reducible first | apply cA_ | apply cN_ | apply cD_))); (case side2 => exact HC0.out); rintro e w10 ⟨rfl, hb⟩; refine ⟨_, rfl, ?_⟩; replace HB := aM_ (below_step hB_ hb); (try clear hb)))
 go_ret2
 exact ⟨rT_, hB_⟩

/-! ### laws_pAbs: function 34 -/
set_option maxHeartbeats 8000000 in
set_option maxRecDepth 100000 in
theorem laws_pAbs.calls (a0 : Int) (r : Int) (w : World) (h : laws_pAbs.f a0 = some r) :
 Calls Try.prog 34 #[.int .i64 a0] w fun e w' => e = .returned (.int .i64 r) ∧ Drawn0 w w' := by
 have H : (if a0 < 0 then (some (wrap64 (-a0))) else (some a0)) = some r := h
 clear h
 by_cases c2 : a0 < 0
 ·rw [if_pos c2] at H
  have c2b0 : decide (a0 < 0) = true := decide_eq_true c2
  clear c2
  obtain rfl := Option.some.inj H
  go_enter Try.func34, Try.ntmps34
  go_wp2
  go_ret
  exact ⟨y12_0_, by repeat (first | exact Drawn0.refl _ | apply Drawn0.step)⟩
 rw [if_neg c2] at H
 have c2b0 : decide (a0 < 0) = false := decide_eq_false c2
 clear c2
 obtain rfl := Option.some.inj H
 go_enter Try.func34, Try.ntmps34
 go_wp2
 go_ret
 exact ⟨y12_0_, by repeat (first | exact Drawn0.refl _ | apply Drawn0.step)⟩

/-! ### spec_DrawDropReferent: function 75 -/
def spec_DrawDropReferent.T4 : Bool × List (List Nat × List Nat) := (true, [([], []), ([], []), ([], []), ([], []), ([3], [3]), ([2, 4], [2, 4]), ([1, 5], [1, 5]), ([6], [6]), ([7], [7]), ([0, 5, 0], [0]), ([8, 9, 0, 1, 2, 3, 4, 5, 6, 7, 8, 9], [8])])
def spec_DrawDropReferent.B4 : List Nat := [0, 0, 0, 0, 8, 28, 62, 126, 254, 61, 1023]
theorem spec_DrawDropReferent.tab4 : rtab .any (opsOf Try.f75 4) = spec_DrawDropReferent.T4 := by kernel_rfl
theorem spec_DrawDropReferent.bits4 : waitsOk spec_DrawDropReferent.T4.2 spec_DrawDropReferent.B4 = true := by kernel_rfl
set_option maxHeartbeats 8000000 in
set_option maxRecDepth 100000 in
theorem spec_DrawDropReferent.calls (k : Nat) (A0 : Option Addr) (c0 : Nat) (l0 : List Int) (r1 : List (S55)) (r2 : ByteArray) (w : World) (hr0 : Kd.C (Kd.int .u8) w A0 l0.length l0) (hc0 : l0.length ≤ c0) (h : spec_DrawDropReferent.f k l0 = some (r1, r2)) :
 Calls Try.prog 75 #[.slice A0 l0.length c0] w fun e w' => ∃ v0_ : Value, e = .returned (.tuple #[v0_, .string r2]) ∧ Kd.R k55 55 w' w.heap.size (fun _ => True) v0_ r1 ∧ Below w.heap.size w w' := by
 have hu90 := Try.underlying90
 have HR0 := Aside0.mk hr0
 have HC0 := Aside0.mk hc0
 clear hr0 hc0
 have HB := Aside0.mk (Below.refl w.heap.size w)
 have H : ((spec_l1Cur_loci.f k l0 0 0).bind fun bt451 => (if (bt451.1.length : Int) > 0 then ((spec_l1Cur_one.f l0 bt451.2.1 bt451.2.2 4).bind fun bt456 => (spec_DrawDropReferent.j0 k bt451.1 (!bt456.1) l0 bt456.2.1 bt456.2.2)) else (spec_DrawDropReferent.j0 k bt451.1 false l0 bt451.2.1 bt451.2.2))) = some (r1, r2) := h
 clear h
 replace H := Option.bind_eq_some_iff.mp H
 obtain ⟨⟨t451, t454, t455⟩, A20, H⟩ := H
 try dsimp only at H
 have A2 := Aside0.mk A20
 clear A20
 have HC3 := Aside0.mk H
 clear H
 go_enter Try.func75, Try.ntmps75
 go_upto_region 3 with (first | ((with_reducible refine gate_dst (N := 8) rfl ?_); refine box_event ?hg (N := 8) ?hd (cs := #[.slice A0 l0.length c0, .int .i64 0, .int .u64 0]) (t := 90) ?hr ?_; (case hd => rfl); (case hg => rfl); (case hr => first | (go_simp; done) | (go_simp; rfl)); intro gb450 hg w4 hbox hb; have HI450 := aM_ ((show IsS90 w w4 gb450 l0 0 0 from ⟨A0, c0, hbox, (by rw [hg]; exact (below_size hB_) : w.heap.size ≤ gb450), HR0.out⟩)); replace HB := aM_ (below_step hB_ hb); clear hb hbox hg) | ((with_reducible refine gate_callee (f := 67) rfl ?_); refine goesM_ (some 10) Try.func67 #[.pointer (some ⟨gb450, 0, none⟩)] ?_; (with_reducible refine (spec_l1Cur_loci.calls k gb450 l0 0 0 t451 t454 t455 w _ ?side1 ?side2 A2.out).mono ?_); (case side1 => repeat (first | (with_reducible first | exact HI450.out | apply IsS90.alloc | apply IsS90.drewN | apply IsS90.drew | apply IsS90.set_1 | apply IsS90.set_2) | exact HI450.out)); (case side2 => repeat (first | (with_reducible first | exact HB.out | apply lA_ | apply lN_ | apply lD_ | refine below_set ?_ (IsS90.ge HI450.out)) | exact HB.out)); rintro e w5 ⟨v452, rfl, ho0, hi, hb, hk⟩; refine ⟨_, rfl, ?_⟩; have HO453 := aM_ (Kd.R_lower ho0 (below_size y12_1_)); replace HB := aM_ (hb); replace HI450 := aM_ (hi); (try clear hb); (try clear hk); (try clear hi); (try clear ho0)))
 (try simp only [Act.put, List.setIfInBounds_toArray, List.set_cons_zero, List.set_cons_succ])
 go_cut [18] (fun v18 wc => ∃ (kq : Nat) (x18_2 : Bool) (x451001_2 : Int) (x451002_2 : Int), v18 = .bool x18_2 ∧ Aside0 (spec_DrawDropReferent.j0 kq t451 x18_2 l0 x451001_2 x451002_2 = some (r1, r2)) ∧ Aside0 (kq ≤ k) ∧ Aside0 (Kd.R k55 55 wc w.heap.size (fun _ => True) v452 t451) ∧ Aside0 (IsS90 w wc gb450 l0 x451001_2 x451002_2) ∧ Aside0 (Below w.heap.size w wc))
 case first =>
  have H := HC3.out
  clear HC3
  by_cases c6 : (t451.length : Int) > 0
  rotate_left
  ·rw [if_neg c6] at H
   have c6b0 : decide (0 < (t451.length : Int)) = false := decide_eq_false c6
   have c6b1 : decide (0 < t451.length) = false := decide_eq_false (by omega)
   clear c6
   (first | rw [c6b0] | (simp only [i64_w, i32_w]; rw [c6b0]) | skip)
   have H' := Aside0.mk H
   clear H
   obtain ⟨Ao10, co10, eo10⟩ := Kd.R_slice HO453.out
   subst eo10
   go_wp2
   go_meet
   case rel => exact ⟨_, (false), (t454), (t455), y12_0_, H', ⟨oR_⟩, ⟨y12_2_⟩, ⟨y12_3_⟩, ⟨y12_1_⟩⟩
  rw [if_pos c6] at H
  have c6b0 : decide (0 < (t451.length : Int)) = true := decide_eq_true c6
  have c6b1 : decide (0 < t451.length) = true := decide_eq_true (by omega)
  clear c6
  (first | rw [c6b0] | (simp only [i64_w, i32_w]; rw [c6b0]) | skip)
  replace H := Option.bind_eq_some_iff.mp H
  obtain ⟨⟨t456, t457, t458⟩, A70, H⟩ := H
  try dsimp only at H
  have A7 := Aside0.mk A70
  clear A70
  have H' := Aside0.mk H
  clear H
  obtain ⟨Ao8, co8, eo8⟩ := Kd.R_slice HO453.out
  subst eo8
  go_wp2_with (first | (go_at_call 71; (with_reducible refine (spec_l1Cur_one.calls gb450 l0 t454 t455 4 t456 t457 t458 w _ ?side1 ?side2 A7.out).mono ?_); (case side1 => repeat (first | (with_reducible first | exact HI450.out | apply IsS90.alloc | apply IsS90.drewN | apply IsS90.drew | apply IsS90.set_1 | apply IsS90.set_2) | exact HI450.out)); (case side2 => repeat (first | (with_reducible first | exact HB.out | apply lA_ | apply lN_ | apply lD_ | refine below_set ?_ (IsS90.ge HI450.out)) | exact HB.out)); rintro e w9 ⟨rfl, hi, hb, hk⟩; replace HO453 := aM_ (Kd.R_mono (Kd.R_keep (IsS90.apart (show IsS90 w _ gb450 l0 t454 t455 from by repeat (first | (with_reducible first | exact HI450.out | apply IsS90.alloc | apply IsS90.drewN | apply IsS90.drew | apply IsS90.set_1 | apply IsS90.set_2) | exact HI450.out)) y12_2_ (by decide)) hk (fun _ h => h.2)) (fun _ h => h.1)); replace HB := aM_ (hb); replace HI450 := aM_ (hi); (try clear hb); (try clear hk); (try clear hi)))
  go_meet
  case rel => exact ⟨_, (!t456), (t457), (t458), y12_0_, H', ⟨oR_⟩, ⟨y12_2_⟩, ⟨y12_3_⟩, ⟨y12_1_⟩⟩
 case rest =>
  clear HC3
  obtain ⟨kq, x18_2, x451001_2, x451002_2, rfl, HA, HJ2, HO_5, HI450, HB⟩ := hcut
  cases kq with
  | zero => exact absurd HA.out (by simp [spec_DrawDropReferent.j0])
  | succ kj2 =>
   have H := HA.out
   clear HA
   simp only [spec_DrawDropReferent.j0] at H
   by_cases c11 : x18_2 = true
   rotate_left
   ·replace c11 := Bool.eq_false_iff.mpr c11
    subst c11
    replace H := in_ H (show ¬ (false = true) by decide)
    replace H := Option.bind_eq_some_iff.mp H
    obtain ⟨⟨t463, t464, t465⟩, A180, H⟩ := H
    try dsimp only at H
    have A18 := Aside0.mk A180
    clear A180
    simp only [Option.some.injEq, Prod.mk.injEq] at H
    obtain ⟨rfl, rfl⟩ := H
    go_wp2_with (first | ((with_reducible refine gate_callee (f := 68) rfl ?_); refine goesM_ (some 30) Try.func68 #[.pointer (some ⟨gb450, 0, none⟩)] ?_; (with_reducible refine (spec_l1Cur_anyReferent.calls gb450 l0 x451001_2 x451002_2 t463 t464 t465 w _ ?side1 ?side2 A18.out).mono ?_); (case side1 => repeat (first | (with_reducible first | exact HI450.out | apply IsS90.alloc | apply IsS90.drewN | apply IsS90.drew | apply IsS90.set_1 | apply IsS90.set_2) | exact HI450.out)); (case side2 => repeat (first | (with_reducible first | exact HB.out | apply lA_ | apply lN_ | apply lD_ | refine below_set ?_ (IsS90.ge HI450.out)) | exact HB.out)); rintro e w19 ⟨rfl, hi, hb, hk⟩; refine ⟨_, rfl, ?_⟩; replace HO_5 := aM_ (Kd.R_mono (Kd.R_keep (IsS90.apart (show IsS90 w _ gb450 l0 x451001_2 x451002_2 from by repeat (first | (with_reducible first | exact HI450.out | apply IsS90.alloc | apply IsS90.drewN | apply IsS90.drew | apply IsS90.set_1 | apply IsS90.set_2) | exact HI450.out)) y12_4_ (by decide)) hk (fun _ h => h.2)) (fun _ h => h.1)); replace HB := aM_ (hb); replace HI450 := aM_ (hi); (try clear hb); (try clear hk); (try clear hi)))
    go_ret2
    exact ⟨_, rT_, y12_4_, y12_1_⟩
   subst c11
   replace H := ip_ H rfl
   replace H := Option.bind_eq_some_iff.mp H
   obtain ⟨⟨t459, t460, t461⟩, A120, H⟩ := H
   try dsimp only at H
   have A12 := Aside0.mk A120
   clear A120
   by_cases c13 : 0 ≤ t459
   rotate_left
   ·rw [if_neg c13] at H
    exact absurd H (by simp)
   rw [if_pos c13] at H
   have c13b0 : decide (0 ≤ t459) = true := decide_eq_true c13
   clear c13
   by_cases c14 : t459 < (t451.length : Int)
   rotate_left
   ·rw [if_neg c14] at H
    exact absurd H (by simp)
   rw [if_pos c14] at H
   have c14b0 : decide (t459 < (t451.length : Int)) = true := decide_eq_true c14
   clear c14
   simp only [Option.some.injEq, Prod.mk.injEq] at H
   obtain ⟨rfl, rfl⟩ := H
   try go_wp2
   replace HO_5 := aM_ (Kd.R_drew HO_5.out)
   replace HI450 := aM_ (IsS90.drew HI450.out)
   replace HB := aM_ (below_drew1 HB.out)
   obtain ⟨Ao16, co16, eo16⟩ := Kd.R_slice HO_5.out
   (first | subst eo16 | (injection eo16 with f1_ f2_ f3_; have f4_ := f1_.symm; have f5_ := f3_.symm; clear f1_ f2_ f3_; subst f4_; subst f5_))
   have p462 : 0 ≤ (t459 : Int) := ode_
   have q462 : t459 < (t451.length : Int) := ode_
   obtain ⟨ad462, e462, hx462_0, hx462_1⟩ := at_T55 (Kd.R_reads' HO_5.out).2.2 t459 p462 q462
   cases e462
   replace p462 := eq_true p462
   replace q462 := eq_true q462
   refine start_ (n := 11) (S := fun w' => w'.cell? (ad462.add ((t459).toNat * 2)) = some (.string ((rd_T55 t451 t459).f0)) ∧ w'.cell? ⟨(ad462.add ((t459).toNat * 2)).block, (ad462.add ((t459).toNat * 2)).off + 1, none⟩ = some (.int .i64 ((rd_T55 t451 t459).f1))) (ds := []) b12_11_0 (by kernel_rfl) rfl rfl ⟨hx462_0, hx462_1⟩ (fun hHeld => ?_); refine with_tabW spec_DrawDropReferent.tab4 spec_DrawDropReferent.bits4 (fun HT_ HW_ => ?_)
   generalize wc.drew = w15 at HO_5 HI450 HB hx462_0 hx462_1 hHeld ⊢
   refine pure_ (i := 0) (N := some 19) (v := ?_) (a' := ?_) b12_11_1 rfl rfl (aT_ HT_ (by kernel_rfl)) (fun _ _ _ h => h) (Or.inl ⟨by rfl, ?_⟩) ?_ ?_; rotate_left; (focus intro w'; go_simp; with_reducible rfl); rotate_left; (focus simp only [aP_, aQ_, aS_, aZ_, aU_, i64_w, i32_w]; try rfl)
   refine pure_ (i := 1) (N := some 20) (v := ?_) (a' := ?_) b12_11_3 rfl rfl (aT_ HT_ (by kernel_rfl)) (fun _ _ _ h => h) (Or.inl ⟨by rfl, ?_⟩) ?_ ?_; rotate_left; (focus intro w'; go_simp; with_reducible rfl); rotate_left; (focus simp only [aP_, aQ_, aS_, aZ_, aU_, i64_w, i32_w]; try rfl)
   refine pure_ (i := 2) (N := some 21) (v := ?_) (a' := ?_) b12_11_7 rfl rfl (aT_ HT_ (by kernel_rfl)) (fun _ _ _ h => h) (Or.inl ⟨by rfl, ?_⟩) ?_ ?_; rotate_left; (focus intro w'; go_simp; with_reducible rfl); rotate_left; (focus simp only [aP_, aQ_, aS_, aZ_, aU_, i64_w, i32_w]; try rfl)
   refine pure_ (i := 3) (N := some 22) (v := ?_) (a' := ?_) b12_11_f rfl rfl (aT_ HT_ (by kernel_rfl)) (fun _ _ _ h => h) (Or.inl ⟨by rfl, ?_⟩) ?_ ?_; rotate_left; (focus intro w'; go_simp; with_reducible rfl); rotate_left; (focus simp only [aP_, aQ_, aS_, aZ_, aU_, i64_w, i32_w]; try rfl)
   refine pure_ (i := 4) (N := some 23) (v := ?_) (a' := ?_) b12_11_1f rfl rfl (aT_ HT_ (by kernel_rfl)) (fun _ _ _ h => h) (Or.inl ⟨by rfl, ?_⟩) ?_ ?_; rotate_left; (focus intro w'; go_simp; with_reducible rfl); rotate_left; (focus simp only [aP_, aQ_, aS_, aZ_, aU_, i64_w, i32_w]; try rfl)
   refine one_ (i := 5) (N := some 24) b12_11_3f rfl rfl (one_of HT_.out (by kernel_rfl)) (by decide) (fun K hK => ?_)
   refine goes_ Try.func72 (by kernel_rfl) rfl #[.pointer (some ⟨gb450, 0, none⟩), .int .i64 (t451.length : Int)] (by rfl) rfl rfl aR_ ?_
   with_reducible refine (spec_l1Cur_pick.calls gb450 l0 x451001_2 x451002_2 (t451.length : Int) t459 t460 t461 w _ ?side1 ?side2 A12.out).mono ?_
   (case side1 => repeat (first | (with_reducible first | exact HI450.out | apply IsS90.alloc | apply IsS90.drewN | apply IsS90.drew | apply IsS90.set_1 | apply IsS90.set_2) | exact HI450.out))
   (case side2 => repeat (first | (with_reducible first | exact HB.out | apply lA_ | apply lN_ | apply lD_ | refine below_set ?_ (IsS90.ge HI450.out)) | exact HB.out))
   rintro e w17 ⟨rfl, hi, hb, hk⟩
   have HS0_ := keep_cell hk (hHeld.1) (by first | (rw [add_block]; exact Kd.own_blk (IsS90.own_ne HI450.out HO_5.out (by decide))) | (show (Addr.add _ _).block ≠ _; rw [add_block]; exact Kd.own_blk (IsS90.own_ne HI450.out HO_5.out (by decide))) | exact Kd.own_blk (IsS90.own_ne HI450.out HO_5.out (by decide)))
   have HS1_ := keep_cell hk (hHeld.2) (by first | (rw [add_block]; exact Kd.own_blk (IsS90.own_ne HI450.out HO_5.out (by decide))) | (show (Addr.add _ _).block ≠ _; rw [add_block]; exact Kd.own_blk (IsS90.own_ne HI450.out HO_5.out (by decide))) | exact Kd.own_blk (IsS90.own_ne HI450.out HO_5.out (by decide)))
   refine ⟨_, rfl, ?_⟩
   replace HO_5 := aM_ (Kd.R_mono (Kd.R_keep (IsS90.apart (show IsS90 w _ gb450 l0 x451001_2 x451002_2 from by repeat (first | (with_reducible first | exact HI450.out | apply IsS90.alloc | apply IsS90.drewN | apply IsS90.drew | apply IsS90.set_1 | apply IsS90.set_2) | exact HI450.out)) y12_4_ (by decide)) hk (fun _ h => h.2)) (fun _ h => h.1))
   replace HB := aM_ (hb)
   replace HI450 := aM_ (hi)
   (try clear hb)
   (try clear hb2)
   (try clear hk)
   (try clear hi)
   refine hK.out _ _ ⟨HS0_, HS1_⟩ (fun hHeld => ?_)
   clear hK K
   refine norm_ (a' := ?_) ?_ ?_; rotate_left; (focus show Act.put _ (some 24) _ = _; simp only [aP_, aQ_, aS_, aZ_, aU_, i64_w, i32_w]; try rfl)
   refine pure_ (i := 6) (N := some 25) (v := ?_) (a' := ?_) b12_11_7f rfl rfl (aT_ HT_ (by kernel_rfl)) (fun _ _ _ h => h) (Or.inl ⟨by rfl, ?_⟩) ?_ ?_; rotate_left; (focus intro w'; go_simp; with_reducible rfl); rotate_left; (focus simp only [aP_, aQ_, aS_, aZ_, aU_, i64_w, i32_w]; try rfl)
   refine pure_ (i := 7) (N := some 26) (v := ?_) (a' := ?_) b12_11_ff rfl rfl (aT_ HT_ (by kernel_rfl)) (fun _ _ _ h => h) (Or.inl ⟨by rfl, ?_⟩) ?_ ?_; rotate_left; (focus intro w'; go_simp; with_reducible rfl); rotate_left; (focus simp only [aP_, aQ_, aS_, aZ_, aU_, i64_w, i32_w]; try rfl)
   refine pure_ (i := 9) (N := some 2) (v := ?_) (a' := ?_) b12_11_2ff rfl rfl (aT_ HT_ (by kernel_rfl)) (fun _ _ _ h => h) (Or.inl ⟨by rfl, ?_⟩) ?_ ?_; rotate_left; (focus intro w'; go_simp; with_reducible rfl); rotate_left; (focus simp only [aP_, aQ_, aS_, aZ_, aU_, i64_w, i32_w]; try rfl)
   refine take_ (i := 8) (N := some 27) (v := ?_) (a' := ?_) b12_11_3ff rfl rfl (take_ofW HT_.out HW_.out (by kernel_rfl)) (fun _ _ _ h => h) (Or.inl ⟨by rfl, ?_⟩) hHeld ?_ ?_; rotate_left; (focus rintro w' ⟨s0, s1⟩; go_simp; with_reducible rfl); rotate_left; (focus simp only [aP_, aQ_, aS_, aZ_, aU_, i64_w, i32_w]; try rfl)
   refine pure_ (i := 10) (N := some 3) (v := ?_) (a' := ?_) b12_11_7ff rfl rfl (aT_ HT_ (by kernel_rfl)) (fun _ _ _ h => h) (Or.inl ⟨by rfl, ?_⟩) ?_ ?_; rotate_left; (focus intro w'; go_simp; with_reducible rfl); rotate_left; (focus simp only [aP_, aQ_, aS_, aZ_, aU_, i64_w, i32_w]; try rfl)
   refine done_ (done_of HT_.out (by kernel_rfl)) ?_
   try go_wp2
   go_ret2
   exact ⟨_, rT_, y12_4_, y12_1_⟩

/-! ### spec_DrawShiftRole: function 35 -/
set_option maxHeartbeats 8000000 in
set_option maxRecDepth 100000 in
theorem spec_DrawShiftRole.calls (k : Nat) (A0 : Option Addr) (c0 : Nat) (l0 : List Int) (r1 : List (S55)) (r2 : ByteArray) (w : World) (hr0 : Kd.C (Kd.int .u8) w A0 l0.length l0) (hc0 : l0.length ≤ c0) (h : spec_DrawShiftRole.f k l0 = some (r1, r2)) :
 Calls Try.prog 35 #[.slice A0 l0.length c0] w fun e w' => ∃ v0_ : Value, e = .returned (.tuple #[v0_, .string r2]) ∧ Kd.R k55 55 w' w.heap.size (fun _ => True) v0_ r1 ∧ Below w.heap.size w w' := by
 have HR0 := Aside0.mk hr0
 have HC0 := Aside0.mk hc0
 clear hr0 hc0
 have HB := Aside0.mk (Below.refl w.heap.size w)
 have H : ((spec_DrawDropReferent.f k l0).bind fun bt466 => (some (bt466.1, bt466.2))) = some (r1, r2) := h
 clear h
 replace H := Option.bind_eq_some_iff.mp H
 obtain ⟨⟨t466, t467⟩, A20, H⟩ := H
 try dsimp only at H
 have A2 := Aside0.mk A20
 clear A20
 simp only [Option.some.injEq, Prod.mk.injEq] at H
 obtain ⟨rfl, rfl⟩ := H
 go_enter Try.func35, Try.ntmps35
 go_wp2_with (first | ((with_reducible refine gate_callee (f := 75) rfl ?_); refine goesM_ (some 5) Try.func75 #[.slice A0 l0.length c0] ?_; (with_reducible refine (spec_DrawDropReferent.calls k _ _ l0 t466 t467 _ ?side1 ?side2 A2.out).mono ?_); (case side1 => repeat (first | exact HR0.out | (with_reducible first | apply cA_ | apply cN_ | apply cD_))); (case side2 => exact HC0.out); rintro e w3 ⟨v468, rfl, ho0, hb⟩; refine ⟨_, rfl, ?_⟩; have HO469 := aM_ (Kd.R_lower ho0 (below_size hB_)); replace HB := aM_ (below_step hB_ hb); (try clear hb); (try clear ho0)))
 go_ret2
 exact ⟨_, rT_, by (with_reducible repeat (first | apply rA_ | apply rN_ | apply rD_)); exact HO469.out, hB_⟩

/-! ### impl_NearestTo: function 36 -/
def impl_NearestTo.T4 : Bool × List (List Nat × List Nat) := (true, [([], []), ([], []), ([0, 1], [0, 1]), ([], []), ([], []), ([3, 4], [3, 4]), ([5], [5]), ([6], [6]), ([2, 7, 2], [2, 7]), ([8], [8]), ([9], [9]), ([9], [9]), ([10, 8, 0, 1, 2, 3, 4, 5, 6, 7, 8, 9, 10], [10]), ([11, 12, 0, 1, 2, 3, 4, 5, 6, 7, 8, 9, 10, 11, 12], [11])])
def impl_NearestTo.B4 : List Nat := [0, 0, 3, 0, 0, 24, 56, 120, 255, 511, 1023, 1023, 2047, 8191]
theorem impl_NearestTo.tab4 : rtab .any (opsOf Try.f36 4) = impl_NearestTo.T4 := by kernel_rfl
theorem impl_NearestTo.bits4 : waitsOk impl_NearestTo.T4.2 impl_NearestTo.B4 = true := by kernel_rfl
set_option maxHeartbeats 8000000 in
set_option maxRecDepth 100000 in
theorem impl_NearestTo.calls (k : Nat) (A0 : Option Addr) (c0 : Nat) (l0 : List (S55)) (a1 : ByteArray) (r1 : ByteArray) (r2 : Int) (r3 : Bool) (w : World) (hr0 : Kd.C k55 w A0 l0.length l0) (hc0 : l0.length ≤ c0) (h : impl_NearestTo.f k l0 a1 = some (r1, r2, r3)) :
 Calls Try.prog 36 #[.slice A0 l0.length c0, .string a1] w fun e w' => e = .returned (.tuple #[.string r1, .int .i64 r2, .bool r3]) ∧ Below w.heap.size w w' := by
 have HR0 := Aside0.mk hr0
 have HC0 := Aside0.mk hc0
 clear hr0 hc0
 have HB := Aside0.mk (Below.refl w.heap.size w)
 have H : ((impl_locusOf.f k l0 a1).bind fun t470 => ((impl_AreLoci.f k l0).bind fun t471 => (if t471 = true then (if t470 < 0 then (impl_NearestTo.j0 k l0 a1 t470 true) else (impl_NearestTo.j0 k l0 a1 t470 ((l0.length : Int) == 1))) else (impl_NearestTo.j0 k l0 a1 t470 true)))) = some (r1, r2, r3) := h
 clear h
 replace H := Option.bind_eq_some_iff.mp H
 obtain ⟨t470, A30, H⟩ := H
 try dsimp only at H
 have A3 := Aside0.mk A30
 clear A30
 have HC4 := Aside0.mk H
 clear H
 go_enter Try.func36, Try.ntmps36
 go_upto_region 2 with (first | ((with_reducible refine gate_callee (f := 55) rfl ?_); refine goesM_ (some 12) Try.func55 #[.slice A0 l0.length c0, .string a1] ?_; (with_reducible refine (impl_locusOf.calls k _ _ l0 a1 t470 _ ?side1 ?side2 A3.out).mono ?_); (case side1 => repeat (first | exact HR0.out | (with_reducible first | apply cA_ | apply cN_ | apply cD_))); (case side2 => exact HC0.out); rintro e w5 ⟨rfl, hb⟩; refine ⟨_, rfl, ?_⟩; replace HB := aM_ (below_step hB_ hb); (try clear hb)))
 (try simp only [Act.put, List.setIfInBounds_toArray, List.set_cons_zero, List.set_cons_succ])
 go_cut [24] (fun v24 wc => ∃ (kq : Nat) (x24_3 : Bool), v24 = .bool x24_3 ∧ Aside0 (impl_NearestTo.j0 kq l0 a1 t470 x24_3 = some (r1, r2, r3)) ∧ Aside0 (kq ≤ k) ∧ Aside0 (Below w.heap.size w wc))
 case first =>
  have H := HC4.out
  clear HC4
  replace H := Option.bind_eq_some_iff.mp H
  obtain ⟨t471, A60, H⟩ := H
  try dsimp only at H
  have A6 := Aside0.mk A60
  clear A60
  by_cases c7 : t471 = true
  rotate_left
  ·replace c7 := Bool.eq_false_iff.mpr c7
   subst c7
   replace H := in_ H (show ¬ (false = true) by decide)
   have H' := Aside0.mk H
   clear H
   go_wp2_with (first | ((with_reducible refine gate_callee (f := 31) rfl ?_); refine goesM_ (some 14) Try.func31 #[.slice A0 l0.length c0] ?_; (with_reducible refine (impl_AreLoci.calls k _ _ l0 false _ ?side1 ?side2 A6.out).mono ?_); (case side1 => repeat (first | exact (Kd.C_below HR0.out HB.out) | (with_reducible first | apply cA_ | apply cN_ | apply cD_))); (case side2 => exact HC0.out); rintro e w11 ⟨rfl, hb⟩; refine ⟨_, rfl, ?_⟩; replace HB := aM_ (below_step hB_ hb); (try clear hb)))
   go_meet
   case rel => exact ⟨_, (true), y12_0_, H', ⟨oR_⟩, ⟨hB_⟩⟩
  subst c7
  replace H := ip_ H rfl
  by_cases c8 : t470 < 0
  ·rw [if_pos c8] at H
   have c8b0 : decide (t470 < 0) = true := decide_eq_true c8
   clear c8
   (first | rw [c8b0] | (simp only [i64_w, i32_w]; rw [c8b0]) | skip)
   have H' := Aside0.mk H
   clear H
   go_wp2_with (first | ((with_reducible refine gate_callee (f := 31) rfl ?_); refine goesM_ (some 14) Try.func31 #[.slice A0 l0.length c0] ?_; (with_reducible refine (impl_AreLoci.calls k _ _ l0 true _ ?side1 ?side2 A6.out).mono ?_); (case side1 => repeat (first | exact (Kd.C_below HR0.out HB.out) | (with_reducible first | apply cA_ | apply cN_ | apply cD_))); (case side2 => exact HC0.out); rintro e w9 ⟨rfl, hb⟩; refine ⟨_, rfl, ?_⟩; replace HB := aM_ (below_step hB_ hb); (try clear hb)))
   go_meet
   case rel => exact ⟨_, (true), y12_0_, H', ⟨oR_⟩, ⟨hB_⟩⟩
  rw [if_neg c8] at H
  have c8b0 : decide (t470 < 0) = false := decide_eq_false c8
  clear c8
  (first | rw [c8b0] | (simp only [i64_w, i32_w]; rw [c8b0]) | skip)
  have H' := Aside0.mk H
  clear H
  go_wp2_with (first | ((with_reducible refine gate_callee (f := 31) rfl ?_); refine goesM_ (some 14) Try.func31 #[.slice A0 l0.length c0] ?_; (with_reducible refine (impl_AreLoci.calls k _ _ l0 true _ ?side1 ?side2 A6.out).mono ?_); (case side1 => repeat (first | exact (Kd.C_below HR0.out HB.out) | (with_reducible first | apply cA_ | apply cN_ | apply cD_))); (case side2 => exact HC0.out); rintro e w10 ⟨rfl, hb⟩; refine ⟨_, rfl, ?_⟩; replace HB := aM_ (below_step hB_ hb); (try clear hb)))
  go_meet
  case rel => exact ⟨_, (((l0.length : Int) == 1)), y12_0_, H', ⟨oR_⟩, ⟨hB_⟩⟩
 case rest =>
  clear HC4
  obtain ⟨kq, x24_3, rfl, HA, HJ3, HB⟩ := hcut
  cases kq with
  | zero => exact absurd HA.out (by simp [impl_NearestTo.j0])
  | succ kj3 =>
   have H := HA.out
   clear HA
   simp only [impl_NearestTo.j0] at H
   by_cases c12 : x24_3 = true
   ·subst c12
    replace H := ip_ H rfl
    simp only [Option.some.injEq, Prod.mk.injEq] at H
    obtain ⟨rfl, rfl, rfl⟩ := H
    go_wp2
    go_ret3
    exact ⟨rT_, hB_⟩
   replace c12 := Bool.eq_false_iff.mpr c12
   subst c12
   replace H := in_ H (show ¬ (false = true) by decide)
   replace H := Option.bind_eq_some_iff.mp H
   obtain ⟨t472, A130, H⟩ := H
   try dsimp only at H
   have A13 := Aside0.mk A130
   clear A130
   by_cases c14 : 0 ≤ t470
   rotate_left
   ·rw [if_neg c14] at H
    exact absurd H (by simp)
   rw [if_pos c14] at H
   have c14b0 : decide (0 ≤ t470) = true := decide_eq_true c14
   clear c14
   by_cases c15 : t470 < (l0.length : Int)
   rotate_left
   ·rw [if_neg c15] at H
    exact absurd H (by simp)
   rw [if_pos c15] at H
   have c15b0 : decide (t470 < (l0.length : Int)) = true := decide_eq_true c15
   clear c15
   replace H := Option.bind_eq_some_iff.mp H
   obtain ⟨⟨t476, t477⟩, A160, H⟩ := H
   try dsimp only at H
   have A16 := Aside0.mk A160
   clear A160
   by_cases c17 : 0 < (t477.length : Int)
   rotate_left
   ·rw [if_neg c17] at H
    exact absurd H (by simp)
   rw [if_pos c17] at H
   have c17b0 : decide (0 < (t477.length : Int)) = true := decide_eq_true c17
   have c17b1 : decide (0 < t477.length) = true := decide_eq_true (by omega)
   clear c17
   simp only [Option.some.injEq, Prod.mk.injEq] at H
   obtain ⟨rfl, rfl, rfl⟩ := H
   try go_wp2
   replace HB := aM_ (below_drew1 HB.out)
   have p475 : 0 ≤ (t470 : Int) := ode_
   have q475 : t470 < (l0.length : Int) := ode_
   obtain ⟨ad475, e475, hx475_0, hx475_1⟩ := at_T55 HR0.out t470 p475 q475
   have hw475_1 := hx475_1
   have hw475_0 := hx475_0
   cases e475
   replace hx475_0 := (HB.out.cell (World.block_lt_of_cell? w _ hx475_0)).trans hx475_0
   replace hx475_1 := (HB.out.cell (World.block_lt_of_cell? w _ hx475_1)).trans hx475_1
   replace p475 := eq_true p475
   replace q475 := eq_true q475
   refine start_ (n := 14) (S := fun w' => w'.cell? (ad475.add ((t470).toNat * 2)) = some (.string ((rd_T55 l0 t470).f0)) ∧ w'.cell? ⟨(ad475.add ((t470).toNat * 2)).block, (ad475.add ((t470).toNat * 2)).off + 1, none⟩ = some (.int .i64 ((rd_T55 l0 t470).f1))) (ds := []) b12_14_0 (by kernel_rfl) rfl rfl ⟨((HB.out.cell (World.block_lt_of_cell? w _ hw475_0)).trans hw475_0), ((HB.out.cell (World.block_lt_of_cell? w _ hw475_1)).trans hw475_1)⟩ (fun hHeld => ?_); refine with_tabW impl_NearestTo.tab4 impl_NearestTo.bits4 (fun HT_ HW_ => ?_)
   generalize wc.drew = w18 at HB hx475_0 hx475_1 hHeld ⊢
   refine pure_ (i := 0) (N := some 26) (v := ?_) (a' := ?_) b12_14_1 rfl rfl (aT_ HT_ (by kernel_rfl)) (fun _ _ _ h => h) (Or.inl ⟨by rfl, ?_⟩) ?_ ?_; rotate_left; (focus intro w'; go_simp; with_reducible rfl); rotate_left; (focus simp only [aP_, aQ_, aS_, aZ_, aU_, i64_w, i32_w]; try rfl)
   refine pure_ (i := 1) (N := some 27) (v := ?_) (a' := ?_) b12_14_3 rfl rfl (aT_ HT_ (by kernel_rfl)) (fun _ _ _ h => h) (Or.inl ⟨by rfl, ?_⟩) ?_ ?_; rotate_left; (focus intro w'; go_simp; with_reducible rfl); rotate_left; (focus simp only [aP_, aQ_, aS_, aZ_, aU_, i64_w, i32_w]; try rfl)
   refine pure_ (i := 3) (N := some 29) (v := ?_) (a' := ?_) b12_14_b rfl rfl (aT_ HT_ (by kernel_rfl)) (fun _ _ _ h => h) (Or.inl ⟨by rfl, ?_⟩) ?_ ?_; rotate_left; (focus intro w'; go_simp; with_reducible rfl); rotate_left; (focus simp only [aP_, aQ_, aS_, aZ_, aU_, i64_w, i32_w]; try rfl)
   refine pure_ (i := 4) (N := some 30) (v := ?_) (a' := ?_) b12_14_1b rfl rfl (aT_ HT_ (by kernel_rfl)) (fun _ _ _ h => h) (Or.inl ⟨by rfl, ?_⟩) ?_ ?_; rotate_left; (focus intro w'; go_simp; with_reducible rfl); rotate_left; (focus simp only [aP_, aQ_, aS_, aZ_, aU_, i64_w, i32_w]; try rfl)
   refine pure_ (i := 5) (N := some 31) (v := ?_) (a' := ?_) b12_14_3b rfl rfl (aT_ HT_ (by kernel_rfl)) (fun _ _ _ h => h) (Or.inl ⟨by rfl, ?_⟩) ?_ ?_; rotate_left; (focus intro w'; go_simp; with_reducible rfl); rotate_left; (focus simp only [aP_, aQ_, aS_, aZ_, aU_, i64_w, i32_w]; try rfl)
   refine pure_ (i := 6) (N := some 32) (v := ?_) (a' := ?_) b12_14_7b rfl rfl (aT_ HT_ (by kernel_rfl)) (fun _ _ _ h => h) (Or.inl ⟨by rfl, ?_⟩) ?_ ?_; rotate_left; (focus intro w'; go_simp; with_reducible rfl); rotate_left; (focus simp only [aP_, aQ_, aS_, aZ_, aU_, i64_w, i32_w]; try rfl)
   refine take_ (i := 7) (N := some 33) (v := ?_) (a' := ?_) b12_14_fb rfl rfl (take_ofW HT_.out HW_.out (by kernel_rfl)) (fun _ _ _ h => h) (Or.inl ⟨by rfl, ?_⟩) hHeld ?_ ?_; rotate_left; (focus rintro w' ⟨s0, s1⟩; go_simp; with_reducible rfl); rotate_left; (focus simp only [aP_, aQ_, aS_, aZ_, aU_, i64_w, i32_w]; try rfl)
   refine one_ (i := 2) (N := some 28) b12_14_ff rfl rfl (one_of HT_.out (by kernel_rfl)) (by decide) (fun K hK => ?_)
   refine goes_ Try.func49 (by kernel_rfl) rfl #[.slice (some ad475) l0.length c0, .string a1] (by rfl) rfl rfl aR_ ?_
   with_reducible refine (impl_without.calls kj3 _ _ l0 a1 t472 _ ?side1 ?side2 A13.out).mono ?_
   (case side1 => repeat (first | exact (Kd.C_below HR0.out HB.out) | (with_reducible first | apply cA_ | apply cN_ | apply cD_)))
   (case side2 => exact HC0.out)
   rintro e w19 ⟨v473, rfl, ho0, hb⟩
   refine ⟨_, rfl, ?_⟩
   have HO474 := aM_ (Kd.R_lower ho0 (below_size hB_))
   replace HB := aM_ (below_step hB_ hb)
   (try clear hb)
   (try clear hb2)
   (try clear hk)
   (try clear hi)
   (try clear ho0)
   obtain ⟨Ao20, co20, eo20⟩ := Kd.R_slice HO474.out
   (first | subst eo20 | (injection eo20 with f1_ f2_ f3_; have f4_ := f1_.symm; have f5_ := f3_.symm; clear f1_ f2_ f3_; subst f4_; subst f5_))
   refine hK.out _ _ ⟨((HB.out.cell (World.block_lt_of_cell? w _ hw475_0)).trans hw475_0), ((HB.out.cell (World.block_lt_of_cell? w _ hw475_1)).trans hw475_1)⟩ (fun hHeld => ?_)
   clear hK K
   refine norm_ (a' := ?_) ?_ ?_; rotate_left; (focus show Act.put _ (some 28) _ = _; simp only [aP_, aQ_, aS_, aZ_, aU_, i64_w, i32_w]; try rfl)
   refine one_ (i := 8) (N := some 34) b12_14_1ff rfl rfl (one_of HT_.out (by kernel_rfl)) (by decide) (fun K hK => ?_)
   refine goes_ Try.func76 (by kernel_rfl) rfl #[.slice Ao20 t472.length co20, .int .i64 ((rd_T55 l0 t470).f1)] (by rfl) rfl rfl aR_ ?_
   with_reducible refine (impl_nearestLoci.calls kj3 _ _ t472 ((rd_T55 l0 t470).f1) t476 t477 _ ?side1 ?side2 A16.out).mono ?_
   (case side1 => repeat (first | exact (Kd.R_reads' HO474.out).2.2 | (with_reducible first | apply cA_ | apply cN_ | apply cD_)))
   (case side2 => exact (Kd.R_reads' HO474.out).2.1)
   rintro e w21 ⟨v478, rfl, ho0, hb⟩
   refine ⟨_, rfl, ?_⟩
   have HO479 := aM_ (Kd.R_lower ho0 (below_size hB_))
   replace HO474 := aM_ (Kd.R_below (by (with_reducible repeat (first | apply rA_ | apply rN_ | apply rD_)); exact HO474.out) hb)
   replace HB := aM_ (below_step hB_ hb)
   (try clear hb)
   (try clear hb2)
   (try clear hk)
   (try clear hi)
   (try clear ho0)
   refine hK.out _ _ ⟨((HB.out.cell (World.block_lt_of_cell? w _ hw475_0)).trans hw475_0), ((HB.out.cell (World.block_lt_of_cell? w _ hw475_1)).trans hw475_1)⟩ (fun hHeld => ?_)
   clear hK K
   refine norm_ (a' := ?_) ?_ ?_; rotate_left; (focus show Act.put _ (some 34) _ = _; simp only [aP_, aQ_, aS_, aZ_, aU_, i64_w, i32_w]; try rfl)
   refine pure_ (i := 9) (N := some 25) (v := ?_) (a' := ?_) b12_14_3ff rfl rfl (aT_ HT_ (by kernel_rfl)) (fun _ _ _ h => h) (Or.inl ⟨by rfl, ?_⟩) ?_ ?_; rotate_left; (focus intro w'; go_simp; with_reducible rfl); rotate_left; (focus simp only [aP_, aQ_, aS_, aZ_, aU_, i64_w, i32_w]; try rfl)
   refine pure_ (i := 10) (N := some 35) (v := ?_) (a' := ?_) b12_14_7ff rfl rfl (aT_ HT_ (by kernel_rfl)) (fun _ _ _ h => h) (Or.inl ⟨by rfl, ?_⟩) ?_ ?_; rotate_left; (focus intro w'; go_simp; with_reducible rfl); rotate_left; (focus simp only [aP_, aQ_, aS_, aZ_, aU_, i64_w, i32_w]; try rfl)
   refine pure_ (i := 11) (N := some 36) (v := ?_) (a' := ?_) b12_14_fff rfl rfl (aT_ HT_ (by kernel_rfl)) (fun _ _ _ h => h) (Or.inl ⟨by rfl, ?_⟩) ?_ ?_; rotate_left; (focus intro w'; go_simp; with_reducible rfl); rotate_left; (focus simp only [aP_, aQ_, aS_, aZ_, aU_, i64_w, i32_w]; try rfl)
   refine pure_ (i := 12) (N := some 8) (v := ?_) (a' := ?_) b12_14_1fff rfl rfl (aT_ HT_ (by kernel_rfl)) (fun _ _ _ h => h) (Or.inl ⟨by rfl, ?_⟩) ?_ ?_; rotate_left; (focus intro w'; go_simp; with_reducible rfl); rotate_left; (focus simp only [aP_, aQ_, aS_, aZ_, aU_, i64_w, i32_w]; try rfl)
   refine pure_ (i := 13) (N := some 9) (v := ?_) (a' := ?_) b12_14_3fff rfl rfl (aT_ HT_ (by kernel_rfl)) (fun _ _ _ h => h) (Or.inl ⟨by rfl, ?_⟩) ?_ ?_; rotate_left; (focus intro w'; go_simp; with_reducible rfl); rotate_left; (focus simp only [aP_, aQ_, aS_, aZ_, aU_, i64_w, i32_w]; try rfl)
   refine done_ (done_of HT_.out (by kernel_rfl)) ?_
   obtain ⟨Ao22, co22, eo22⟩ := Kd.R_slice HO479.out
   subst eo22
   have p480 : 0 ≤ (0 : Int) := (by omega)
   have q480 : 0 < (t477.length : Int) := ode_
   obtain ⟨ad480, e480, hx480_0⟩ := Kd.at_string (Kd.R_reads' HO479.out).2.2 0 p480 q480
   cases e480
   have qi480 : (0 < t477.length) = True := eq_true (by omega)
   (try rw [show ((0 : Int)).toNat = 0 from rfl] at hx480_0)
   (try rw [Addr.add_zero'] at hx480_0)
   replace p480 := eq_true p480
   replace q480 := eq_true q480
   try go_wp2
   go_ret3
   exact ⟨rT_, hB_⟩

end Go.Proofs.Ytbheajjagkdjmaa.PFnLoci
