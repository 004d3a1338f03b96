/- Printed for this claim: functions of the program as Lean functions, and that the calls answer so. -/
import Derived.Test.YtfkdlfbjkdkffaaGreatDoorPFnVerbsx0
import Derived.Test.YtfkdlfbjkdkffaaGreatDoorPFnVerbsx2
import Derived.Test.YtfkdlfbjkdkffaaGreatDoorPFnVerbsx3
import Derived.Test.YtfkdlfbjkdkffaaGreatDoorPFnVerbsx6
import Derived.Test.YtfkdlfbjkdkffaaGreatDoorPFnVerbsx9
import Derived.Test.YtfkdlfbjkdkffaaGreatDoorPFnVerbsx10
import Derived.Test.YtfkdlfbjkdkffaaGreatDoorPFnVerbsx11
import Derived.Test.YtfkdlfbjkdkffaaGreatDoorPFnVerbsxD0
namespace Go.Proofs.YtfkdlfbjkdkffaaGreatDoor.PFnVerbs
open Go.RowKit Go.Proofs.YtfkdlfbjkdkffaaGreatDoorW.PrintWords Go.Proofs.YtfkdlfbjkdkffaaGreatDoorW.PrintLast Go.Proofs.YtfkdlfbjkdkffaaGreatDoorW.PrintMore
theorem z13_0_ {p : Prop} (h : p := by first | rfl | (simp; done) | (simp [*]; done)) : p := h
theorem z13_1_ {p : Prop} (h : p := by repeat (first | exact (Kd.C_below HR0.out HB.out) | (with_reducible first | apply cA_ | apply cN_ | apply cD_))) : p := h
theorem z13_2_ {p : Prop} (h : p := by repeat (first | (with_reducible first | exact HI486.out | apply IsS70.alloc | apply IsS70.drewN | apply IsS70.drew | apply IsS70.set_1 | apply IsS70.set_2 | refine IsS70.far ?_ (Aside0.out (by assumption)) _) | exact HI486.out)) : p := h
theorem z13_3_ {p : Prop} (h : p := by repeat (first | (with_reducible first | exact HB.out | apply lA_ | apply lN_ | apply lD_ | refine below_set ?_ (IsS70.ge HI486.out) | refine below_set ?_ GE485.out) | exact HB.out)) : p := h
set_option maxHeartbeats 8000000
set_option maxRecDepth 100000
attribute [local go_sem] max2_int min2_int max_two min_two max_three min_three max_four min_four isSome_setCell   -- for this text's walks alone
set_option linter.unusedVariables false
set_option linter.unusedSimpArgs false

/-! ### spec_veOne: function 54 -/
theorem spec_veOne.calls (k : Nat) (a0_0 : ByteArray) (a0_1 : Int) (a0_2 : Int) (r : Bool) (w : World) (h : spec_veOne.f k a0_0 a0_1 a0_2 = some r) :
 Calls Tryz.prog 54 #[.agg #[.string a0_0, .int .i64 a0_1, .int .i64 a0_2]] w fun e w' => e = .returned (.bool r) ∧ Below w.heap.size w w' := by
 have hu27 := Tryz.underlying27
 have HB := Aside0.mk (Below.refl w.heap.size w)
 have H : ((spec_fsWord.f k a0_0).bind fun t462 => (if t462 = true then ((spec_loAngle.f a0_1).bind fun t463 => (if t463 = true then ((spec_loAngle.f a0_2).bind fun t464 => (if t464 = true then (some (a0_1 != a0_2)) else (some false))) else (some false))) else (some false))) = some r := h
 clear h
 replace H := ob_ H; obtain ⟨t462, A2, H⟩ := H; try dsimp only at H
 by_cases c3 : t462 = true
 rotate_left
 ·replace c3 := Bool.eq_false_iff.mpr c3
  subst c3
  replace H := in_ H (show ¬ (false = true) by decide)
  obtain rfl := Option.some.inj H
  go_enter Tryz.func54, Tryz.ntmps54
  go_wp2_with (first | ((with_reducible refine gate_dst (N := 1) rfl ?_); refine bx_ 1 #[.string a0_0, .int .i64 a0_1, .int .i64 a0_2] 27 fun gb461 hg w14 hbox hb => ?_; have BK461 := aM_ (hbox); have GW461 := aM_ (gw_ w hg); have GE461 := aM_ (gw_ w hg); replace HB := aM_ (below_step hB_ hb); clear hb hbox hg; have hz15 := cf3_ BK461.out; clear BK461) | ((with_reducible refine gC_ 51 ?_); refine gM_ (some 5) Tryz.func51 #[.string a0_0] ?_; (with_reducible refine (spec_fsWord.calls k a0_0 false _ A2.out).mono ?_); rintro e w' ⟨rfl, ⟨nd, rfl⟩⟩; refine ⟨_, rfl, ?_⟩))
  go_ret
  exact ⟨rT_, hB_⟩
 subst c3
 replace H := ip_ H rfl
 replace H := ob_ H; obtain ⟨t463, A4, H⟩ := H; try dsimp only at H
 by_cases c5 : t463 = true
 rotate_left
 ·replace c5 := Bool.eq_false_iff.mpr c5
  subst c5
  replace H := in_ H (show ¬ (false = true) by decide)
  obtain rfl := Option.some.inj H
  go_enter Tryz.func54, Tryz.ntmps54
  go_wp2_with (first | ((with_reducible refine gate_dst (N := 1) rfl ?_); refine bx_ 1 #[.string a0_0, .int .i64 a0_1, .int .i64 a0_2] 27 fun gb461 hg w12 hbox hb => ?_; have BK461 := aM_ (hbox); have GW461 := aM_ (gw_ w hg); have GE461 := aM_ (gw_ w hg); replace HB := aM_ (below_step hB_ hb); clear hb hbox hg; have hz13 := cf3_ BK461.out) | ((with_reducible refine gC_ 51 ?_); refine gM_ (some 5) Tryz.func51 #[.string a0_0] ?_; (with_reducible refine (spec_fsWord.calls k a0_0 true _ A2.out).mono ?_); rintro e w' ⟨rfl, ⟨nd, rfl⟩⟩; refine ⟨_, rfl, ?_⟩; clear BK461) | (go_at_call 81; (with_reducible refine (spec_loAngle.calls a0_1 false _ A4.out).mono ?_); rintro e w' ⟨rfl, ⟨nd, rfl⟩⟩))
  go_ret
  exact ⟨rT_, hB_⟩
 subst c5
 replace H := ip_ H rfl
 replace H := ob_ H; obtain ⟨t464, A6, H⟩ := H; try dsimp only at H
 by_cases c7 : t464 = true
 ·subst c7
  replace H := ip_ H rfl
  obtain rfl := Option.some.inj H
  go_enter Tryz.func54, Tryz.ntmps54
  go_wp2_with (first | ((with_reducible refine gate_dst (N := 1) rfl ?_); refine bx_ 1 #[.string a0_0, .int .i64 a0_1, .int .i64 a0_2] 27 fun gb461 hg w8 hbox hb => ?_; have BK461 := aM_ (hbox); have GW461 := aM_ (gw_ w hg); have GE461 := aM_ (gw_ w hg); replace HB := aM_ (below_step hB_ hb); clear hb hbox hg; have hz9 := cf3_ BK461.out) | ((with_reducible refine gC_ 51 ?_); refine gM_ (some 5) Tryz.func51 #[.string a0_0] ?_; (with_reducible refine (spec_fsWord.calls k a0_0 true _ A2.out).mono ?_); rintro e w' ⟨rfl, ⟨nd, rfl⟩⟩; refine ⟨_, rfl, ?_⟩) | (go_at_call 81; (with_reducible refine (spec_loAngle.calls a0_1 true _ A4.out).mono ?_); rintro e w' ⟨rfl, ⟨nd, rfl⟩⟩) | (go_at_call 81; (with_reducible refine (spec_loAngle.calls a0_2 true _ A6.out).mono ?_); rintro e w' ⟨rfl, ⟨nd, rfl⟩⟩))
  go_ret
  exact ⟨rT_, hB_⟩
 replace c7 := Bool.eq_false_iff.mpr c7
 subst c7
 replace H := in_ H (show ¬ (false = true) by decide)
 obtain rfl := Option.some.inj H
 go_enter Tryz.func54, Tryz.ntmps54
 go_wp2_with (first | ((with_reducible refine gate_dst (N := 1) rfl ?_); refine bx_ 1 #[.string a0_0, .int .i64 a0_1, .int .i64 a0_2] 27 fun gb461 hg w10 hbox hb => ?_; have BK461 := aM_ (hbox); have GW461 := aM_ (gw_ w hg); have GE461 := aM_ (gw_ w hg); replace HB := aM_ (below_step hB_ hb); clear hb hbox hg; have hz11 := cf3_ BK461.out) | ((with_reducible refine gC_ 51 ?_); refine gM_ (some 5) Tryz.func51 #[.string a0_0] ?_; (with_reducible refine (spec_fsWord.calls k a0_0 true _ A2.out).mono ?_); rintro e w' ⟨rfl, ⟨nd, rfl⟩⟩; refine ⟨_, rfl, ?_⟩) | (go_at_call 81; (with_reducible refine (spec_loAngle.calls a0_1 true _ A4.out).mono ?_); rintro e w' ⟨rfl, ⟨nd, rfl⟩⟩; clear BK461) | (go_at_call 81; (with_reducible refine (spec_loAngle.calls a0_2 false _ A6.out).mono ?_); rintro e w' ⟨rfl, ⟨nd, rfl⟩⟩))
 go_ret
 exact ⟨rT_, hB_⟩

/-! ### spec_l1Abs: function 102 -/
theorem spec_l1Abs.calls (a0 : Int) (r : Int) (w : World) (h : spec_l1Abs.f a0 = some r) :
 Calls Tryz.prog 102 #[.int .i64 a0] w fun e w' => e = .returned (.int .i64 r) ∧ Drawn0 w w' := by
 have H : ((spec_l1Most.f a0 (wrap64 (-a0))).bind fun t465 => (some t465)) = some r := h
 clear h
 replace H := ob_ H; obtain ⟨t465, A2, H⟩ := H; try dsimp only at H
 obtain rfl := Option.some.inj H
 go_enter Tryz.func102, Tryz.ntmps102
 go_wp2_with (first | ((with_reducible refine gC_ 93 ?_); refine gM_ (some 6) Tryz.func93 #[.int .i64 a0, .int .i64 (wrap64 (-a0))] ?_; (with_reducible refine (spec_l1Most.calls a0 (wrap64 (-a0)) t465 _ A2.out).mono ?_); rintro e w' ⟨rfl, ⟨nd, rfl⟩⟩; refine ⟨_, rfl, ?_⟩))
 go_ret
 exact ⟨z13_0_, by repeat (first | exact Drawn0.refl _ | apply Drawn0.step)⟩

/-! ### spec_loLeast: function 68 -/
theorem spec_loLeast.calls (k : Nat) (A0 : Option Addr) (c0 : Nat) (l0 : List (S58)) (a1 : Int) (r1 : Int) (r2 : Int) (w : World) (hr0 : Kd.C k58 w A0 l0.length l0) (hc0 : l0.length ≤ c0) (h : spec_loLeast.f k l0 a1 = some (r1, r2)) :
 Calls Tryz.prog 68 #[.slice A0 l0.length c0, .int .i64 a1] w fun e w' => e = .returned (.tuple #[.int .i64 r1, .int .i64 r2]) ∧ Below w.heap.size w w' := by
 have hu58 := Tryz.underlying58
 have HR0 := Aside0.mk hr0
 have HC0 := Aside0.mk hc0
 clear hr0 hc0
 have HB := Aside0.mk (Below.refl w.heap.size w)
 have H : (spec_loLeast.l0 k a1 181 0 l0 (l0.length : Int) 0) = some (r1, r2) := h
 clear h
 have H' := Aside0.mk H
 clear H
 go_enter Tryz.func68, Tryz.ntmps68
 go_wp2
 go_loopg [6, 7, 13] k (fun kq v6 v7 v13 w' => ∃ (x6_1 : Int) (x7_1 : Int) (x13_1 : Int), v6 = .int .i64 x6_1 ∧ v7 = .int .i64 x7_1 ∧ v13 = .int .i64 x13_1 ∧ Aside0 (spec_loLeast.l0 kq a1 x6_1 x7_1 l0 (l0.length : Int) x13_1 = some (r1, r2)) ∧ Aside0 (kq ≤ k) ∧ Aside0 (Below w.heap.size w w'))
 case atStart => exact ⟨(181), (0), (0), z13_0_, z13_0_, z13_0_, H', ⟨Nat.le_refl _⟩, ⟨hB_⟩⟩
 case round =>
  clear H'
  obtain ⟨x6_1, x7_1, x13_1, rfl, rfl, rfl, HA, HK1, HB⟩ := hrel
  cases gk with
  | zero => exact absurd HA.out (by simp [spec_loLeast.l0])
  | succ k1 =>
   have H := HA.out
   clear HA
   simp only [spec_loLeast.l0] at H
   replace H := iF_ H; obtain ⟨c3b0, H⟩ | ⟨c3b0, H⟩ := H
   ·simp only [Option.some.injEq, Prod.mk.injEq] at H
    obtain ⟨rfl, rfl⟩ := H
    go_wp2
    go_ret2
    exact ⟨rT_, hB_⟩
   replace H := ig_ H; obtain ⟨c4b0, H⟩ := H
   replace H := ig_ H; obtain ⟨c5b0, H⟩ := H
   replace H := ob_ H; obtain ⟨t468, A6, H⟩ := H; try dsimp only at H
   have HC7 := Aside0.mk H
   clear H
   have p466 : 0 ≤ (x13_1 : Int) := ode_
   have q466 : x13_1 < (l0.length : Int) := ode_
   obtain ⟨ad466, e466, hx466_0, hx466_1⟩ := at_T58 HR0.out x13_1 p466 q466
   cases e466
   try replace hx466_0 := hc_ HB hx466_0
   try replace hx466_1 := hc_ HB hx466_1
   replace p466 := eq_true p466
   replace q466 := eq_true q466
   go_upto_if 22 with (first | ((with_reducible refine gate_dst (N := 9) rfl ?_); refine bx_ 9 #[.string (⟨#[]⟩ : ByteArray), .int .i64 0] 58 fun gb467 hg w8 hbox hb => ?_; have BK467 := aM_ (hbox); have GW467 := aM_ (gw_ w hg); have GE467 := aM_ (gw_ w hg); replace HB := aM_ (below_step hB_ hb); clear hb hbox hg; have hz9 := cf2_ BK467.out) | ((with_reducible refine gC_ 102 ?_); refine gM_ (some 21) Tryz.func102 #[.int .i64 (wrap64 (((rd_T58 l0 x13_1).f1) - a1))] ?_; (with_reducible refine (spec_l1Abs.calls (wrap64 (((rd_T58 l0 x13_1).f1) - a1)) t468 _ A6.out).mono ?_); rintro e w' ⟨rfl, ⟨nd, rfl⟩⟩; refine ⟨_, rfl, ?_⟩))
   (try simp only [Act.put, List.setIfInBounds_toArray, List.set_cons_zero, List.set_cons_succ])
   have H := HC7.out
   clear HC7
   replace H := iT_ H; obtain ⟨c10b0, H⟩ | ⟨c10b0, H⟩ := H
   ·(first | rw [c10b0] | (simp only [i64_w, i32_w]; rw [c10b0]) | skip)
    have H' := Aside0.mk H
    clear H
    go_wp2
    go_roundg k1
    case measure => have := HK1.out; omega
    case rel => exact ⟨(t468), (1), (wrap64 (x13_1 + 1)), z13_0_, z13_0_, z13_0_, H', ⟨by have := HK1.out; omega⟩, ⟨hB_⟩⟩
   (first | rw [c10b0] | (simp only [i64_w, i32_w]; rw [c10b0]) | skip)
   by_cases c11 : t468 = x6_1
   rotate_left
   ·rw [if_neg c11] at H
    have c11b0 : (t468 == x6_1) = false := beq_eq_false_iff_ne.mpr c11
    have c11b1 : (t468 != x6_1) = true := bne_iff_ne.mpr c11
    have H' := Aside0.mk H
    clear H
    go_wp2
    go_roundg k1
    case measure => have := HK1.out; omega
    case rel => exact ⟨(x6_1), (x7_1), (wrap64 (x13_1 + 1)), z13_0_, z13_0_, z13_0_, H', ⟨by have := HK1.out; omega⟩, ⟨hB_⟩⟩
   rw [if_pos c11] at H
   have c11b0 : (t468 == x6_1) = true := beq_iff_eq.mpr c11
   have c11b1 : (t468 != x6_1) = false := bne_eq_false_iff_eq.mpr c11
   clear c11
   have H' := Aside0.mk H
   clear H
   go_wp2
   go_roundg k1
   case measure => have := HK1.out; omega
   case rel => exact ⟨(x6_1), (wrap64 (x7_1 + 1)), (wrap64 (x13_1 + 1)), z13_0_, z13_0_, z13_0_, H', ⟨by have := HK1.out; omega⟩, ⟨hB_⟩⟩

/-! ### spec_loMeans: function 82 -/
theorem spec_loMeans.calls (k : Nat) (A0 : Option Addr) (c0 : Nat) (l0 : List (S58)) (a1 : Int) (r1 : ByteArray) (r2 : Bool) (w : World) (hr0 : Kd.C k58 w A0 l0.length l0) (hc0 : l0.length ≤ c0) (h : spec_loMeans.f k l0 a1 = some (r1, r2)) :
 Calls Tryz.prog 82 #[.slice A0 l0.length c0, .int .i64 a1] w fun e w' => e = .returned (.tuple #[.string r1, .bool r2]) ∧ Below w.heap.size w w' := by
 have hu58 := Tryz.underlying58
 have HR0 := Aside0.mk hr0
 have HC0 := Aside0.mk hc0
 clear hr0 hc0
 have HB := Aside0.mk (Below.refl w.heap.size w)
 have H : ((spec_loLeast.f k l0 a1).bind fun bt469 => (if bt469.1 > 20 then (spec_loMeans.j0 k l0 a1 bt469.1 true) else (spec_loMeans.j0 k l0 a1 bt469.1 (bt469.2 != 1)))) = some (r1, r2) := h
 clear h
 replace H := ob_ H; obtain ⟨⟨t469, t470⟩, A3, H⟩ := H; try dsimp only at H
 have HC4 := Aside0.mk H
 clear H
 go_enter Tryz.func82, Tryz.ntmps82
 go_upto_region 2 with (first | ((with_reducible refine gC_ 68 ?_); refine gM_ (some 13) Tryz.func68 #[.slice A0 l0.length c0, .int .i64 a1] ?_; (with_reducible refine (spec_loLeast.calls k _ _ l0 a1 t469 t470 _ ?side1 ?side2 A3.out).mono ?_); (case side1 => exact cC_ HR0); (case side2 => exact HC0.out); rintro e w5 ⟨rfl, hb⟩; refine ⟨_, rfl, ?_⟩; replace HB := aM_ (below_step hB_ hb); (try clear hb)))
 (try simp only [Act.put, List.setIfInBounds_toArray, List.set_cons_zero, List.set_cons_succ])
 go_cut [21] (fun v21 wc => ∃ (kq : Nat) (x21_3 : Bool), v21 = .bool x21_3 ∧ Aside0 (spec_loMeans.j0 kq l0 a1 t469 x21_3 = some (r1, r2)) ∧ Aside0 (kq ≤ k) ∧ Aside0 (Below w.heap.size w wc))
 case first =>
  have H := HC4.out
  clear HC4
  by_cases c6 : t469 > 20
  ·rw [if_pos c6] at H
   have c6b0 : decide (20 < t469) = true := decide_eq_true c6
   clear c6
   (first | rw [c6b0] | (simp only [i64_w, i32_w]; rw [c6b0]) | skip)
   have H' := Aside0.mk H
   clear H
   go_wp2
   go_meet
   case rel => exact ⟨_, (true), z13_0_, H', ⟨oR_⟩, ⟨hB_⟩⟩
  rw [if_neg c6] at H
  have c6b0 : decide (20 < t469) = false := decide_eq_false c6
  clear c6
  (first | rw [c6b0] | (simp only [i64_w, i32_w]; rw [c6b0]) | skip)
  have H' := Aside0.mk H
  clear H
  go_wp2
  go_meet
  case rel => exact ⟨_, ((t470 != 1)), z13_0_, H', ⟨oR_⟩, ⟨hB_⟩⟩
 case rest =>
  clear HC4
  obtain ⟨kq, x21_3, rfl, HA, HJ3, HB⟩ := hcut
  cases kq with
  | zero => exact absurd HA.out (by simp [spec_loMeans.j0])
  | succ kj3 =>
   have H := HA.out
   clear HA
   simp only [spec_loMeans.j0] at H
   by_cases c7 : x21_3 = true
   ·subst c7
    replace H := ip_ H rfl
    simp only [Option.some.injEq, Prod.mk.injEq] at H
    obtain ⟨rfl, rfl⟩ := H
    go_wp2
    go_ret2
    exact ⟨rT_, hB_⟩
   replace c7 := Bool.eq_false_iff.mpr c7
   subst c7
   replace H := in_ H (show ¬ (false = true) by decide)
   have H' := Aside0.mk H
   clear H
   go_wp2
   go_loopg [24] kj3 (fun kq v24 w' => ∃ (x24_2 : Int), v24 = .int .i64 x24_2 ∧ Aside0 (spec_loMeans.l0 kq a1 t469 l0 (l0.length : Int) x24_2 = some (r1, r2)) ∧ Aside0 (kq ≤ kj3) ∧ Aside0 (Below w.heap.size w w'))
   case atStart => exact ⟨(0), z13_0_, H', ⟨Nat.le_refl _⟩, ⟨hB_⟩⟩
   case round =>
    clear H'
    (try clear c7)
    obtain ⟨x24_2, rfl, HA, HK2, HB⟩ := hrel
    cases gk with
    | zero => exact absurd HA.out (by simp [spec_loMeans.l0])
    | succ k2 =>
     have H := HA.out
     clear HA
     simp only [spec_loMeans.l0] at H
     replace H := iF_ H; obtain ⟨c8b0, H⟩ | ⟨c8b0, H⟩ := H
     ·simp only [Option.some.injEq, Prod.mk.injEq] at H
      obtain ⟨rfl, rfl⟩ := H
      go_wp2
      go_ret2
      exact ⟨rT_, hB_⟩
     replace H := ig_ H; obtain ⟨c9b0, H⟩ := H
     replace H := ig_ H; obtain ⟨c10b0, H⟩ := H
     replace H := ob_ H; obtain ⟨t473, A11, H⟩ := H; try dsimp only at H
     have HC12 := Aside0.mk H
     clear H
     have p471 : 0 ≤ (x24_2 : Int) := ode_
     have q471 : x24_2 < (l0.length : Int) := ode_
     obtain ⟨ad471, e471, hx471_0, hx471_1⟩ := at_T58 HR0.out x24_2 p471 q471
     cases e471
     try replace hx471_0 := hc_ HB hx471_0
     try replace hx471_1 := hc_ HB hx471_1
     replace p471 := eq_true p471
     replace q471 := eq_true q471
     go_upto_if 34 with (first | ((with_reducible refine gate_dst (N := 9) rfl ?_); refine bx_ 9 #[.string (⟨#[]⟩ : ByteArray), .int .i64 0] 58 fun gb472 hg w13 hbox hb => ?_; have BK472 := aM_ (hbox); have GW472 := aM_ (gw_ w hg); have GE472 := aM_ (gw_ w hg); replace HB := aM_ (below_step hB_ hb); clear hb hbox hg; have hz14 := cf2_ BK472.out) | ((with_reducible refine gC_ 102 ?_); refine gM_ (some 32) Tryz.func102 #[.int .i64 (wrap64 (((rd_T58 l0 x24_2).f1) - a1))] ?_; (with_reducible refine (spec_l1Abs.calls (wrap64 (((rd_T58 l0 x24_2).f1) - a1)) t473 _ A11.out).mono ?_); rintro e w' ⟨rfl, ⟨nd, rfl⟩⟩; refine ⟨_, rfl, ?_⟩))
     (try simp only [Act.put, List.setIfInBounds_toArray, List.set_cons_zero, List.set_cons_succ])
     have H := HC12.out
     clear HC12
     by_cases c15 : t473 = t469
     ·rw [if_pos c15] at H
      have c15b0 : (t473 == t469) = true := beq_iff_eq.mpr c15
      have c15b1 : (t473 != t469) = false := bne_eq_false_iff_eq.mpr c15
      clear c15
      (first | rw [c15b0] | (simp only [i64_w, i32_w]; rw [c15b0]) | skip)
      simp only [Option.some.injEq, Prod.mk.injEq] at H
      obtain ⟨rfl, rfl⟩ := H
      have hz16 := cf2_ BK472.out
      go_wp2
      go_ret2
      exact ⟨rT_, hB_⟩
     rw [if_neg c15] at H
     have c15b0 : (t473 == t469) = false := beq_eq_false_iff_ne.mpr c15
     have c15b1 : (t473 != t469) = true := bne_iff_ne.mpr c15
     (first | rw [c15b0] | (simp only [i64_w, i32_w]; rw [c15b0]) | skip)
     have H' := Aside0.mk H
     clear H
     go_wp2
     go_roundg k2
     case measure => have := HJ3.out; have := HK2.out; omega
     case rel => exact ⟨(wrap64 (x24_2 + 1)), z13_0_, H', ⟨by have := HJ3.out; have := HK2.out; omega⟩, ⟨hB_⟩⟩

/-! ### spec_veMeans: function 55 -/
theorem spec_veMeans.calls (k : Nat) (A0 : Option Addr) (c0 : Nat) (l0 : List (S58)) (a1_0 : ByteArray) (a1_1 : Int) (a1_2 : Int) (r1 : ByteArray) (r2 : ByteArray) (r3 : Bool) (w : World) (hr0 : Kd.C k58 w A0 l0.length l0) (hc0 : l0.length ≤ c0) (h : spec_veMeans.f k l0 a1_0 a1_1 a1_2 = some (r1, r2, r3)) :
 Calls Tryz.prog 55 #[.slice A0 l0.length c0, .agg #[.string a1_0, .int .i64 a1_1, .int .i64 a1_2]] w fun e w' => e = .returned (.tuple #[.string r1, .string r2, .bool r3]) ∧ Below w.heap.size w w' := by
 have hu27 := Tryz.underlying27
 have HR0 := Aside0.mk hr0
 have HC0 := Aside0.mk hc0
 clear hr0 hc0
 have HB := Aside0.mk (Below.refl w.heap.size w)
 have H : ((spec_loMeans.f k l0 a1_1).bind fun bt475 => ((spec_loMeans.f k l0 a1_2).bind fun bt477 => (if bt475.2 = true then (if bt477.2 = true then (if bt475.1.toList = bt477.1.toList then (some ((⟨#[]⟩ : ByteArray), (⟨#[]⟩ : ByteArray), false)) else (some (bt475.1, bt477.1, true))) else (some ((⟨#[]⟩ : ByteArray), (⟨#[]⟩ : ByteArray), false))) else (some ((⟨#[]⟩ : ByteArray), (⟨#[]⟩ : ByteArray), false))))) = some (r1, r2, r3) := h
 clear h
 replace H := ob_ H; obtain ⟨⟨t475, t476⟩, A3, H⟩ := H; try dsimp only at H
 replace H := ob_ H; obtain ⟨⟨t477, t478⟩, A4, H⟩ := H; try dsimp only at H
 by_cases c5 : t476 = true
 rotate_left
 ·replace c5 := Bool.eq_false_iff.mpr c5
  subst c5
  replace H := in_ H (show ¬ (false = true) by decide)
  simp only [Option.some.injEq, Prod.mk.injEq] at H
  obtain ⟨rfl, rfl, rfl⟩ := H
  go_enter Tryz.func55, Tryz.ntmps55
  go_wp2_with (first | ((with_reducible refine gate_dst (N := 3) rfl ?_); refine bx_ 3 #[.string a1_0, .int .i64 a1_1, .int .i64 a1_2] 27 fun gb474 hg w19 hbox hb => ?_; have BK474 := aM_ (hbox); have GW474 := aM_ (gw_ w hg); have GE474 := aM_ (gw_ w hg); replace HB := aM_ (below_step hB_ hb); clear hb hbox hg; have hz20 := cf3_ BK474.out) | ((with_reducible refine gC_ 82 ?_); refine gM_ (some 15) Tryz.func82 #[.slice A0 l0.length c0, .int .i64 a1_1] ?_; (with_reducible refine (spec_loMeans.calls k _ _ l0 a1_1 t475 false _ ?side1 ?side2 A3.out).mono ?_); (case side1 => exact z13_1_); (case side2 => exact HC0.out); rintro e w21 ⟨rfl, hb⟩; refine ⟨_, rfl, ?_⟩; replace BK474 := aM_ (blk_below (g := gb474) (kR_ BK474) hb); replace HB := aM_ (below_step hB_ hb); (try clear hb); have hz22 := cf3_ BK474.out; clear BK474) | ((with_reducible refine gC_ 82 ?_); refine gM_ (some 22) Tryz.func82 #[.slice A0 l0.length c0, .int .i64 a1_2] ?_; (with_reducible refine (spec_loMeans.calls k _ _ l0 a1_2 t477 t478 _ ?side1 ?side2 A4.out).mono ?_); (case side1 => exact z13_1_); (case side2 => exact HC0.out); rintro e w23 ⟨rfl, hb⟩; refine ⟨_, rfl, ?_⟩; replace HB := aM_ (below_step hB_ hb); (try clear hb)))
  go_ret3
  exact ⟨rT_, hB_⟩
 subst c5
 replace H := ip_ H rfl
 by_cases c6 : t478 = true
 rotate_left
 ·replace c6 := Bool.eq_false_iff.mpr c6
  subst c6
  replace H := in_ H (show ¬ (false = true) by decide)
  simp only [Option.some.injEq, Prod.mk.injEq] at H
  obtain ⟨rfl, rfl, rfl⟩ := H
  go_enter Tryz.func55, Tryz.ntmps55
  go_wp2_with (first | ((with_reducible refine gate_dst (N := 3) rfl ?_); refine bx_ 3 #[.string a1_0, .int .i64 a1_1, .int .i64 a1_2] 27 fun gb474 hg w14 hbox hb => ?_; have BK474 := aM_ (hbox); have GW474 := aM_ (gw_ w hg); have GE474 := aM_ (gw_ w hg); replace HB := aM_ (below_step hB_ hb); clear hb hbox hg; have hz15 := cf3_ BK474.out) | ((with_reducible refine gC_ 82 ?_); refine gM_ (some 15) Tryz.func82 #[.slice A0 l0.length c0, .int .i64 a1_1] ?_; (with_reducible refine (spec_loMeans.calls k _ _ l0 a1_1 t475 true _ ?side1 ?side2 A3.out).mono ?_); (case side1 => exact z13_1_); (case side2 => exact HC0.out); rintro e w16 ⟨rfl, hb⟩; refine ⟨_, rfl, ?_⟩; replace BK474 := aM_ (blk_below (g := gb474) (kR_ BK474) hb); replace HB := aM_ (below_step hB_ hb); (try clear hb); have hz17 := cf3_ BK474.out; clear BK474) | ((with_reducible refine gC_ 82 ?_); refine gM_ (some 22) Tryz.func82 #[.slice A0 l0.length c0, .int .i64 a1_2] ?_; (with_reducible refine (spec_loMeans.calls k _ _ l0 a1_2 t477 false _ ?side1 ?side2 A4.out).mono ?_); (case side1 => exact z13_1_); (case side2 => exact HC0.out); rintro e w18 ⟨rfl, hb⟩; refine ⟨_, rfl, ?_⟩; replace HB := aM_ (below_step hB_ hb); (try clear hb)))
  go_ret3
  exact ⟨rT_, hB_⟩
 subst c6
 replace H := ip_ H rfl
 have HC7 := Aside0.mk H
 clear H
 go_enter Tryz.func55, Tryz.ntmps55
 go_upto_if 35 with (first | ((with_reducible refine gate_dst (N := 3) rfl ?_); refine bx_ 3 #[.string a1_0, .int .i64 a1_1, .int .i64 a1_2] 27 fun gb474 hg w8 hbox hb => ?_; have BK474 := aM_ (hbox); have GW474 := aM_ (gw_ w hg); have GE474 := aM_ (gw_ w hg); replace HB := aM_ (below_step hB_ hb); clear hb hbox hg; have hz9 := cf3_ BK474.out) | ((with_reducible refine gC_ 82 ?_); refine gM_ (some 15) Tryz.func82 #[.slice A0 l0.length c0, .int .i64 a1_1] ?_; (with_reducible refine (spec_loMeans.calls k _ _ l0 a1_1 t475 true _ ?side1 ?side2 A3.out).mono ?_); (case side1 => exact z13_1_); (case side2 => exact HC0.out); rintro e w10 ⟨rfl, hb⟩; refine ⟨_, rfl, ?_⟩; replace BK474 := aM_ (blk_below (g := gb474) (kR_ BK474) hb); replace HB := aM_ (below_step hB_ hb); (try clear hb); have hz11 := cf3_ BK474.out; clear BK474) | ((with_reducible refine gC_ 82 ?_); refine gM_ (some 22) Tryz.func82 #[.slice A0 l0.length c0, .int .i64 a1_2] ?_; (with_reducible refine (spec_loMeans.calls k _ _ l0 a1_2 t477 true _ ?side1 ?side2 A4.out).mono ?_); (case side1 => exact z13_1_); (case side2 => exact HC0.out); rintro e w12 ⟨rfl, hb⟩; refine ⟨_, rfl, ?_⟩; replace HB := aM_ (below_step hB_ hb); (try clear hb)))
 (try simp only [Act.put, List.setIfInBounds_toArray, List.set_cons_zero, List.set_cons_succ])
 have H := HC7.out
 clear HC7
 by_cases c13 : t475.toList = t477.toList
 rotate_left
 ·rw [if_neg c13] at H
  have c13b0 : (t475.toList == t477.toList) = false := beq_eq_false_iff_ne.mpr c13
  have c13b1 : (t475.toList != t477.toList) = true := bne_iff_ne.mpr c13
  (first | rw [c13b0] | (simp only [i64_w, i32_w]; rw [c13b0]) | skip)
  simp only [Option.some.injEq, Prod.mk.injEq] at H
  obtain ⟨rfl, rfl, rfl⟩ := H
  go_wp2
  go_ret3
  exact ⟨rT_, hB_⟩
 rw [if_pos c13] at H
 have c13b0 : (t475.toList == t477.toList) = true := beq_iff_eq.mpr c13
 have c13b1 : (t475.toList != t477.toList) = false := bne_eq_false_iff_eq.mpr c13
 clear c13
 (first | rw [c13b0] | (simp only [i64_w, i32_w]; rw [c13b0]) | skip)
 simp only [Option.some.injEq, Prod.mk.injEq] at H
 obtain ⟨rfl, rfl, rfl⟩ := H
 go_wp2
 go_ret3
 exact ⟨rT_, hB_⟩

/-! ### spec_MeaningOf: function 10 -/
theorem spec_MeaningOf.calls (k : Nat) (A0 : Option Addr) (c0 : Nat) (l0 : List (S58)) (a1_0 : ByteArray) (a1_1 : Int) (a1_2 : Int) (r1 : ByteArray) (r2 : ByteArray) (r3 : Bool) (w : World) (hr0 : Kd.C k58 w A0 l0.length l0) (hc0 : l0.length ≤ c0) (h : spec_MeaningOf.f k l0 a1_0 a1_1 a1_2 = some (r1, r2, r3)) :
 Calls Tryz.prog 10 #[.slice A0 l0.length c0, .agg #[.string a1_0, .int .i64 a1_1, .int .i64 a1_2]] w fun e w' => e = .returned (.tuple #[.string r1, .string r2, .bool r3]) ∧ Below w.heap.size w w' := by
 have hu27 := Tryz.underlying27
 have HR0 := Aside0.mk hr0
 have HC0 := Aside0.mk hc0
 clear hr0 hc0
 have HB := Aside0.mk (Below.refl w.heap.size w)
 have H : ((spec_loGood.f k l0).bind fun t480 => (if t480 = true then ((spec_veOne.f k a1_0 a1_1 a1_2).bind fun t481 => (if t481 = true then ((spec_veMeans.f k l0 a1_0 a1_1 a1_2).bind fun bt482 => (some (bt482.1, bt482.2.1, bt482.2.2))) else (some ((⟨#[]⟩ : ByteArray), (⟨#[]⟩ : ByteArray), false)))) else (some ((⟨#[]⟩ : ByteArray), (⟨#[]⟩ : ByteArray), false)))) = some (r1, r2, r3) := h
 clear h
 replace H := ob_ H; obtain ⟨t480, A3, H⟩ := H; try dsimp only at H
 by_cases c4 : t480 = true
 rotate_left
 ·replace c4 := Bool.eq_false_iff.mpr c4
  subst c4
  replace H := in_ H (show ¬ (false = true) by decide)
  simp only [Option.some.injEq, Prod.mk.injEq] at H
  obtain ⟨rfl, rfl, rfl⟩ := H
  go_enter Tryz.func10, Tryz.ntmps10
  go_wp2_with (first | ((with_reducible refine gate_dst (N := 3) rfl ?_); refine bx_ 3 #[.string a1_0, .int .i64 a1_1, .int .i64 a1_2] 27 fun gb479 hg w15 hbox hb => ?_; have BK479 := aM_ (hbox); have GW479 := aM_ (gw_ w hg); have GE479 := aM_ (gw_ w hg); replace HB := aM_ (below_step hB_ hb); clear hb hbox hg; clear BK479) | ((with_reducible refine gC_ 50 ?_); refine gM_ (some 8) Tryz.func50 #[.slice A0 l0.length c0] ?_; (with_reducible refine (spec_loGood.calls k _ _ l0 false _ ?side1 ?side2 A3.out).mono ?_); (case side1 => exact z13_1_); (case side2 => exact HC0.out); rintro e w16 ⟨rfl, hb⟩; refine ⟨_, rfl, ?_⟩; replace HB := aM_ (below_step hB_ hb); (try clear hb)))
  go_ret3
  exact ⟨rT_, hB_⟩
 subst c4
 replace H := ip_ H rfl
 replace H := ob_ H; obtain ⟨t481, A5, H⟩ := H; try dsimp only at H
 have HC6 := Aside0.mk H
 clear H
 go_enter Tryz.func10, Tryz.ntmps10
 go_upto_if 14 with (first | ((with_reducible refine gate_dst (N := 3) rfl ?_); refine bx_ 3 #[.string a1_0, .int .i64 a1_1, .int .i64 a1_2] 27 fun gb479 hg w7 hbox hb => ?_; have BK479 := aM_ (hbox); have GW479 := aM_ (gw_ w hg); have GE479 := aM_ (gw_ w hg); replace HB := aM_ (below_step hB_ hb); clear hb hbox hg) | ((with_reducible refine gC_ 50 ?_); refine gM_ (some 8) Tryz.func50 #[.slice A0 l0.length c0] ?_; (with_reducible refine (spec_loGood.calls k _ _ l0 true _ ?side1 ?side2 A3.out).mono ?_); (case side1 => exact z13_1_); (case side2 => exact HC0.out); rintro e w8 ⟨rfl, hb⟩; refine ⟨_, rfl, ?_⟩; replace BK479 := aM_ (blk_below (g := gb479) (kR_ BK479) hb); replace HB := aM_ (below_step hB_ hb); (try clear hb); have hz9 := cf3_ BK479.out) | (go_at_call 54; (with_reducible refine (spec_veOne.calls k a1_0 a1_1 a1_2 t481 _ A5.out).mono ?_); rintro e w10 ⟨rfl, hb⟩; replace BK479 := aM_ (blk_below (g := gb479) (kR_ BK479) hb); replace HB := aM_ (below_step hB_ hb); (try clear hb)))
 (try simp only [Act.put, List.setIfInBounds_toArray, List.set_cons_zero, List.set_cons_succ])
 have H := HC6.out
 clear HC6
 by_cases c11 : t481 = true
 rotate_left
 ·replace c11 := Bool.eq_false_iff.mpr c11
  subst c11
  replace H := in_ H (show ¬ (false = true) by decide)
  simp only [Option.some.injEq, Prod.mk.injEq] at H
  obtain ⟨rfl, rfl, rfl⟩ := H
  go_wp2
  go_ret3
  exact ⟨rT_, hB_⟩
 subst c11
 replace H := ip_ H rfl
 replace H := ob_ H; obtain ⟨⟨t482, t483, t484⟩, A12, H⟩ := H; try dsimp only at H
 simp only [Option.some.injEq, Prod.mk.injEq] at H
 obtain ⟨rfl, rfl, rfl⟩ := H
 have hz13 := cf3_ BK479.out
 clear BK479
 go_wp2_with (first | ((with_reducible refine gC_ 55 ?_); refine gM_ (some 17) Tryz.func55 #[.slice A0 l0.length c0, .agg #[.string a1_0, .int .i64 a1_1, .int .i64 a1_2]] ?_; (with_reducible refine (spec_veMeans.calls k _ _ l0 a1_0 a1_1 a1_2 t482 t483 t484 _ ?side1 ?side2 A12.out).mono ?_); (case side1 => exact z13_1_); (case side2 => exact HC0.out); rintro e w14 ⟨rfl, hb⟩; refine ⟨_, rfl, ?_⟩; replace HB := aM_ (below_step hB_ hb); (try clear hb)))
 go_ret3
 exact ⟨rT_, hB_⟩

/-! ### spec_DrawIsVerb: function 56 -/
theorem spec_DrawIsVerb.calls (k : Nat) (A0 : Option Addr) (c0 : Nat) (l0 : List Int) (r1 : ByteArray) (r2 : Int) (r3 : Int) (w : World) (hr0 : Kd.C (Kd.int .u8) w A0 l0.length l0) (hc0 : l0.length ≤ c0) (h : spec_DrawIsVerb.f k l0 = some (r1, r2, r3)) :
 Calls Tryz.prog 56 #[.slice A0 l0.length c0] w fun e w' => e = .returned (.agg #[.string r1, .int .i64 r2, .int .i64 r3]) ∧ Below w.heap.size w w' := by
 have hu27 := Tryz.underlying27
 have hu70 := Tryz.underlying70
 have HR0 := Aside0.mk hr0
 have HC0 := Aside0.mk hc0
 clear hr0 hc0
 have HB := Aside0.mk (Below.refl w.heap.size w)
 have H : ((spec_l1Cur_loci.f k l0 0 0).bind fun bt487 => ((spec_l1Cur_verb.f k l0 bt487.2.1 bt487.2.2 bt487.1).bind fun bt492 => (some (bt492.1, bt492.2.1, bt492.2.2.1)))) = some (r1, r2, r3) := h
 clear h
 replace H := ob_ H; obtain ⟨⟨t487, t490, t491⟩, A2, H⟩ := H; try dsimp only at H
 replace H := ob_ H; obtain ⟨⟨t492, t493, t494, t495, t496⟩, A3, H⟩ := H; try dsimp only at H
 simp only [Option.some.injEq, Prod.mk.injEq] at H
 obtain ⟨rfl, rfl, rfl⟩ := H
 go_enter Tryz.func56, Tryz.ntmps56
 go_wp2_with (first | ((with_reducible refine gate_dst (N := 2) rfl ?_); refine bx_ 2 #[.string (⟨#[]⟩ : ByteArray), .int .i64 0, .int .i64 0] 27 fun gb485 hg w4 hbox hb => ?_; have BK485 := aM_ (hbox); have GW485 := aM_ (gw_ w hg); have GE485 := aM_ (gw_ w hg); replace HB := aM_ (below_step hB_ hb); clear hb hbox hg) | ((with_reducible refine gate_dst (N := 6) rfl ?_); refine bx_ 6 #[.slice A0 l0.length c0, .int .i64 0, .int .u64 0] 70 fun gb486 hg w5 hbox hb => ?_; have NB485_486 := aM_ (nR_ BK485 hg); have NB486_485 := aM_ (mR_ BK485 hg); have HI486 := aM_ ((show IsS70 w w5 gb486 l0 0 0 from ⟨A0, c0, hbox, (by rw [hg]; exact (below_size hB_) : w.heap.size ≤ gb486), HR0.out⟩)); replace BK485 := aM_ (blk_below (g := gb485) (kR_ BK485) hb); replace HB := aM_ (below_step hB_ hb); clear hb hbox hg) | ((with_reducible refine gC_ 43 ?_); refine gM_ (some 9) Tryz.func43 #[.pointer (some ⟨gb486, 0, none⟩)] ?_; (with_reducible refine (spec_l1Cur_loci.calls k gb486 l0 0 0 t487 t490 t491 w _ ?side1 ?side2 A2.out).mono ?_); (case side1 => exact z13_2_); (case side2 => exact z13_3_); rintro e w6 ⟨v488, rfl, ho0, hi, hb, hk⟩; refine ⟨_, rfl, ?_⟩; have HO489 := aM_ (Kd.R_lower ho0 (below_size z13_3_)); replace BK485 := aM_ (KeepBut.blk hk (g' := gb485) (o := .cells #[.string (⟨#[]⟩ : ByteArray), .int .i64 0, .int .i64 0] 27 (0, 0)) (kR_ BK485) NB485_486.out (by simp)); replace HB := aM_ (hb); replace HI486 := aM_ (hi); (try clear hb); (try clear hk); (try clear hi); (try clear ho0); obtain ⟨Ao7, co7, eo7⟩ := Kd.R_slice HO489.out; subst eo7) | ((with_reducible refine gC_ 52 ?_); refine gM_ (some 10) Tryz.func52 #[.pointer (some ⟨gb486, 0, none⟩), .slice Ao7 t487.length co7] ?_; (with_reducible refine (spec_l1Cur_verb.calls k gb486 l0 t490 t491 _ _ t487 t492 t493 t494 t495 t496 w _ ?side1 ?side2 ?side3 ?side4 A3.out).mono ?_); (case side1 => exact z13_2_); (case side2 => exact z13_3_); (case side3 => exact Kd.C_foot_own (IsS70.apart (show IsS70 w _ gb486 l0 t490 t491 from by repeat (first | (with_reducible first | exact HI486.out | apply IsS70.alloc | apply IsS70.drewN | apply IsS70.drew | apply IsS70.set_1 | apply IsS70.set_2 | refine IsS70.far ?_ (Aside0.out (by assumption)) _) | exact HI486.out)) (rR_ HO489) (by decide)) (fun _ h_ => h_.2)); (case side4 => exact (Kd.R_reads' HO489.out).2.1); rintro e w8 ⟨rfl, hi, hb, hk⟩; refine ⟨_, rfl, ?_⟩; replace BK485 := aM_ (KeepBut.blk hk (g' := gb485) (o := .cells #[.string (⟨#[]⟩ : ByteArray), .int .i64 0, .int .i64 0] 27 (0, 0)) (kR_ BK485) NB485_486.out (by simp)); replace HO489 := aM_ (Kd.R_mono (Kd.R_keep (IsS70.apart (show IsS70 w _ gb486 l0 t490 t491 from by repeat (first | (with_reducible first | exact HI486.out | apply IsS70.alloc | apply IsS70.drewN | apply IsS70.drew | apply IsS70.set_1 | apply IsS70.set_2 | refine IsS70.far ?_ (Aside0.out (by assumption)) _) | exact HI486.out)) (rR_ HO489) (by decide)) hk (fun _ h => h.2)) (fun _ h => h.1)); replace HB := aM_ (hb); replace HI486 := aM_ (hi); (try clear hb); (try clear hk); (try clear hi); have hnb9 := NB485_486.out; have hnc9 := NB486_485.out; have hz10 := cf3_ BK485.out))
 refine bodyPost_ret (results_cell_row rfl _ _ gb485 27 #[.string t492, .int .i64 t493, .int .i64 t494] (0, 0) _ rfl (by (with_reducible repeat (first | apply kN_ | apply kD_ | apply kA_)); refine blk_put (cs := #[.string t492, .int .i64 t493, .int .i64 0]) ?_ 2 _ rfl; (with_reducible repeat (first | apply kN_ | apply kD_ | apply kA_)); refine blk_put (cs := #[.string t492, .int .i64 0, .int .i64 0]) ?_ 1 _ rfl; (with_reducible repeat (first | apply kN_ | apply kD_ | apply kA_)); refine blk_put (cs := #[.string (⟨#[]⟩ : ByteArray), .int .i64 0, .int .i64 0]) ?_ 0 _ rfl; (with_reducible repeat (first | apply kN_ | apply kD_ | apply kA_)); exact BK485.out) Tryz.underlying27 rfl (by kernel_rfl)) rfl ?_
 exact ⟨rT_, z13_3_⟩

/-! ### spec_DrawVerbText: function 11 -/
theorem spec_DrawVerbText.calls (k : Nat) (A0 : Option Addr) (c0 : Nat) (l0 : List Int) (r1 : ByteArray) (r2 : Int) (r3 : Int) (w : World) (hr0 : Kd.C (Kd.int .u8) w A0 l0.length l0) (hc0 : l0.length ≤ c0) (h : spec_DrawVerbText.f k l0 = some (r1, r2, r3)) :
 Calls Tryz.prog 11 #[.slice A0 l0.length c0] w fun e w' => e = .returned (.agg #[.string r1, .int .i64 r2, .int .i64 r3]) ∧ Below w.heap.size w w' := by
 have hu27 := Tryz.underlying27
 have HR0 := Aside0.mk hr0
 have HC0 := Aside0.mk hc0
 clear hr0 hc0
 have HB := Aside0.mk (Below.refl w.heap.size w)
 have H : ((spec_DrawIsVerb.f k l0).bind fun bt498 => (some (bt498.1, bt498.2.1, bt498.2.2))) = some (r1, r2, r3) := h
 clear h
 replace H := ob_ H; obtain ⟨⟨t498, t499, t500⟩, A2, H⟩ := H; try dsimp only at H
 simp only [Option.some.injEq, Prod.mk.injEq] at H
 obtain ⟨rfl, rfl, rfl⟩ := H
 go_enter Tryz.func11, Tryz.ntmps11
 go_wp2_with (first | ((with_reducible refine gate_dst (N := 2) rfl ?_); refine bx_ 2 #[.string (⟨#[]⟩ : ByteArray), .int .i64 0, .int .i64 0] 27 fun gb497 hg w3 hbox hb => ?_; have BK497 := aM_ (hbox); have GW497 := aM_ (gw_ w hg); have GE497 := aM_ (gw_ w hg); replace HB := aM_ (below_step hB_ hb); clear hb hbox hg) | ((with_reducible refine gC_ 56 ?_); refine gM_ (some 4) Tryz.func56 #[.slice A0 l0.length c0] ?_; (with_reducible refine (spec_DrawIsVerb.calls k _ _ l0 t498 t499 t500 _ ?side1 ?side2 A2.out).mono ?_); (case side1 => exact z13_1_); (case side2 => exact HC0.out); rintro e w4 ⟨rfl, hb⟩; refine ⟨_, rfl, ?_⟩; replace BK497 := aM_ (blk_below (g := gb497) (kR_ BK497) hb); replace HB := aM_ (below_step hB_ hb); (try clear hb); have hz5 := cf3_ BK497.out))
 refine bodyPost_ret (results_cell_row rfl _ _ gb497 27 #[.string t498, .int .i64 t499, .int .i64 t500] (0, 0) _ rfl (by (with_reducible repeat (first | apply kN_ | apply kD_ | apply kA_)); refine blk_put (cs := #[.string t498, .int .i64 t499, .int .i64 0]) ?_ 2 _ rfl; (with_reducible repeat (first | apply kN_ | apply kD_ | apply kA_)); refine blk_put (cs := #[.string t498, .int .i64 0, .int .i64 0]) ?_ 1 _ rfl; (with_reducible repeat (first | apply kN_ | apply kD_ | apply kA_)); refine blk_put (cs := #[.string (⟨#[]⟩ : ByteArray), .int .i64 0, .int .i64 0]) ?_ 0 _ rfl; (with_reducible repeat (first | apply kN_ | apply kD_ | apply kA_)); exact BK497.out) Tryz.underlying27 rfl (by kernel_rfl)) rfl ?_
 exact ⟨rT_, hB_⟩

/-! ### strconv_Itoa: function 95, by hand -/
open Go.Shelf Go.RowKit Go.Sort Go.Lib in
def laid_laysM171_ren : Go.Shelf.Ren := ⟨fun | 171 => 95 | 243 => 112 | 246 => 122 | 283 => 133 | 284 => 134 | 285 => 135 | 286 => 136 | 129 => 143 | 317 => 142 | 318 => 144 | 319 => 145 | 320 => 146 | 337 => 149 | 338 => 150 | n => n, fun | 3 => 3 | 9 => 9 | 2 => 2 | 4 => 4 | 171 => 129 | 0 => 0 | 53 => 68 | 37 => 22 | 5 => 5 | 173 => 132 | 212 => 148 | 51 => 134 | 20 => 20 | 213 => 149 | 46 => 115 | 232 => 157 | 233 => 158 | n => n, fun | 17 => 5 | 18 => 6 | 19 => 7 | n => n⟩
open Go.Shelf Go.RowKit Go.Sort Go.Lib in
theorem laid_laysM171 : Go.Proofs.LaysM.n171 Tryz.prog laid_laysM171_ren := {
 mixed := by kernel_rfl
 f129 := Tryz.func143.trans (congrArg some (by kernel_rfl))
 f171 := Tryz.func95.trans (congrArg some (by kernel_rfl))
 f243 := Tryz.func112.trans (congrArg some (by kernel_rfl))
 f246 := Tryz.func122.trans (congrArg some (by kernel_rfl))
 f283 := Tryz.func133.trans (congrArg some (by kernel_rfl))
 f284 := Tryz.func134.trans (congrArg some (by kernel_rfl))
 f285 := Tryz.func135.trans (congrArg some (by kernel_rfl))
 f286 := Tryz.func136.trans (congrArg some (by kernel_rfl))
 f317 := Tryz.func142.trans (congrArg some (by kernel_rfl))
 f318 := Tryz.func144.trans (congrArg some (by kernel_rfl))
 f319 := Tryz.func145.trans (congrArg some (by kernel_rfl))
 f320 := Tryz.func146.trans (congrArg some (by kernel_rfl))
 f337 := Tryz.func149.trans (congrArg some (by kernel_rfl))
 f338 := Tryz.func150.trans (congrArg some (by kernel_rfl))
 t0 := Tryz.underlying0
 a0 := Tryz.isAgg0
 z0 := Tryz.sizeOf0
 v0 := Tryz.zeroValue0
 t2 := Tryz.underlying2
 a2 := Tryz.isAgg2
 z2 := Tryz.sizeOf2
 v2 := Tryz.zeroValue2
 t3 := Tryz.underlying3
 a3 := Tryz.isAgg3
 z3 := Tryz.sizeOf3
 v3 := Tryz.zeroValue3
 t4 := Tryz.underlying4
 a4 := Tryz.isAgg4
 z4 := Tryz.sizeOf4
 v4 := Tryz.zeroValue4
 t5 := Tryz.underlying5
 a5 := Tryz.isAgg5
 z5 := Tryz.sizeOf5
 v5 := Tryz.zeroValue5
 t9 := Tryz.underlying9
 a9 := Tryz.isAgg9
 z9 := Tryz.sizeOf9
 v9 := Tryz.zeroValue9
 t20 := Tryz.underlying20
 a20 := Tryz.isAgg20
 z20 := Tryz.sizeOf20
 v20 := Tryz.zeroValue20
 t37 := Tryz.underlying22
 a37 := Tryz.isAgg22
 z37 := Tryz.sizeOf22
 v37 := Tryz.zeroValue22
 t46 := Tryz.underlying115
 a46 := Tryz.isAgg115
 z46 := Tryz.sizeOf115
 v46 := Tryz.zeroValue115
 t51 := Tryz.underlying134
 a51 := Tryz.isAgg134
 z51 := Tryz.sizeOf134
 v51 := Tryz.zeroValue134
 t53 := Tryz.underlying68
 a53 := Tryz.isAgg68
 z53 := Tryz.sizeOf68
 v53 := Tryz.zeroValue68
 t171 := Tryz.underlying129
 a171 := Tryz.isAgg129
 z171 := Tryz.sizeOf129
 v171 := Tryz.zeroValue129
 t173 := Tryz.underlying132
 a173 := Tryz.isAgg132
 z173 := Tryz.sizeOf132
 v173 := Tryz.zeroValue132
 t212 := Tryz.underlying148
 a212 := Tryz.isAgg148
 z212 := Tryz.sizeOf148
 v212 := Tryz.zeroValue148
 t213 := Tryz.underlying149
 a213 := Tryz.isAgg149
 z213 := Tryz.sizeOf149
 t232 := Tryz.underlying157
 a232 := Tryz.isAgg157
 z232 := Tryz.sizeOf157
 v232 := Tryz.zeroValue157
 t233 := Tryz.underlying158
 a233 := Tryz.isAgg158
 z233 := Tryz.sizeOf158
 v233 := Tryz.zeroValue158
 g17 := by kernel_rfl
 g18 := by kernel_rfl
 g19 := by kernel_rfl
 i0 := by kernel_rfl
 i2 := by kernel_rfl
 i3 := by kernel_rfl
 i4 := by kernel_rfl
 i5 := by kernel_rfl
 i9 := by kernel_rfl
 i20 := by kernel_rfl
 i37 := by kernel_rfl
 i46 := by kernel_rfl
 i51 := by kernel_rfl
 i53 := by kernel_rfl
 i171 := by kernel_rfl
 i173 := by kernel_rfl
 i212 := by kernel_rfl
 i232 := by kernel_rfl
 i233 := by kernel_rfl
 m17 := by kernel_rfl
 m18 := by kernel_rfl
 m19 := by kernel_rfl }
theorem strconv_Itoa.calls (a0 : Int) (r : ByteArray) (w : World) (hT_ : TabW Tryz.prog 0 w) (h : strconv_Itoa.f a0 = some r) :
 Calls Tryz.prog 95 #[.int .i64 a0] w fun e w' => e = .returned (.string r) ∧ Below w.heap.size w w' := by
 unfold strconv_Itoa.f at h
 split at h
 case isFalse => cases h
 case isTrue hl =>
  obtain rfl := Option.some.inj h
  exact itoa_tab (fun ht => Any.strconv_Itoa laid_laysM171 a0 hl.1 hl.2 w ht) hT_

end Go.Proofs.YtfkdlfbjkdkffaaGreatDoor.PFnVerbs
