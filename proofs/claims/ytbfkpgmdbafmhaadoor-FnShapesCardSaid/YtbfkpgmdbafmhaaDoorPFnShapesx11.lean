/- Printed for this claim: functions of the program as Lean functions, and that the calls answer so. -/
import Derived.Test.YtbfkpgmdbafmhaaDoorPFnShapesx16
import Derived.Test.YtbfkpgmdbafmhaaDoorPFnShapesx0
import Derived.Test.YtbfkpgmdbafmhaaDoorPFnShapesx3
import Derived.Test.YtbfkpgmdbafmhaaDoorPFnShapesx5
import Derived.Test.YtbfkpgmdbafmhaaDoorPFnShapesx6
import Derived.Test.YtbfkpgmdbafmhaaDoorPFnShapesx10
import Derived.Test.YtbfkpgmdbafmhaaDoorPFnShapesxD0
import Derived.Test.YtbfkpgmdbafmhaaDoorPFnShapesxD1
namespace Go.Proofs.YtbfkpgmdbafmhaaDoor.PFnShapes
open Go.RowKit Go.Proofs.YtbfkpgmdbafmhaaDoorW.PrintWords Go.Proofs.YtbfkpgmdbafmhaaDoorW.PrintLast Go.Proofs.YtbfkpgmdbafmhaaDoorW.PrintMore
theorem z11_0_ {p : Prop} (h : p := by first | rfl | (simp; done) | (simp [*]; done)) : p := h
set_option maxHeartbeats 8000000
set_option maxRecDepth 100000
attribute [local go_sem] max2_int min2_int max_two min_two max_three min_three max_four min_four isSome_setCell   -- for this text's walks alone
set_option linter.unusedVariables false
set_option linter.unusedSimpArgs false

/-! ### spec_ShapeDistance: function 9 -/
theorem spec_ShapeDistance.calls (k : Nat) (a0_0 : Int) (a0_1 : Int) (a0_2 : Int) (a0_3 : Int) (a0_4 : Int) (a0_5 : Bool) (a1_0 : Int) (a1_1 : Int) (a1_2 : Int) (a1_3 : Int) (a1_4 : Int) (a1_5 : Bool) (r1 : Int) (r2 : Bool) (w : World) (h : spec_ShapeDistance.f k a0_0 a0_1 a0_2 a0_3 a0_4 a0_5 a1_0 a1_1 a1_2 a1_3 a1_4 a1_5 = some (r1, r2)) :
 Calls Tryd.prog 9 #[.agg #[.int .i64 a0_0, .int .i64 a0_1, .int .i64 a0_2, .int .i64 a0_3, .int .i64 a0_4, .bool a0_5], .agg #[.int .i64 a1_0, .int .i64 a1_1, .int .i64 a1_2, .int .i64 a1_3, .int .i64 a1_4, .bool a1_5]] w fun e w' => e = .returned (.tuple #[.int .i64 r1, .bool r2]) ∧ Below w.heap.size w w' := by
 have hu25 := Tryd.underlying25
 have HB := Aside0.mk (Below.refl w.heap.size w)
 have H : ((spec_shGood.f k a0_0 a0_1 a0_2 a0_3 a0_4 a0_5).bind fun t454 => (if t454 = true then ((spec_shGood.f k a1_0 a1_1 a1_2 a1_3 a1_4 a1_5).bind fun t455 => (if t455 = true then ((spec_shFar.f k a0_0 a0_1 a0_2 a0_3 a0_4 a0_5 a1_0 a1_1 a1_2 a1_3 a1_4 a1_5).bind fun t456 => (some (t456, true))) else (some (0, false)))) else (some (0, false)))) = some (r1, r2) := h
 clear h
 replace H := ob_ H; obtain ⟨t454, A3, H⟩ := H; try dsimp only at H
 by_cases c4 : t454 = true
 rotate_left
 ·replace c4 := Bool.eq_false_iff.mpr c4
  subst c4
  replace H := in_ H (show ¬ (false = true) by decide)
  simp only [Option.some.injEq, Prod.mk.injEq] at H
  obtain ⟨rfl, rfl⟩ := H
  go_enter Tryd.func9, Tryd.ntmps9
  go_wp2_with (first | ((with_reducible refine gate_dst (N := 2) rfl ?_); refine bx_ 2 #[.int .i64 a0_0, .int .i64 a0_1, .int .i64 a0_2, .int .i64 a0_3, .int .i64 a0_4, .bool a0_5] 25 fun gb452 hg w20 hbox hb => ?_; have BK452 := aM_ (hbox); have GW452 := aM_ (gw_ w hg); have GE452 := aM_ (gw_ w hg); replace HB := aM_ (below_step hB_ hb); clear hb hbox hg) | ((with_reducible refine gate_dst (N := 3) rfl ?_); refine bx_ 3 #[.int .i64 a1_0, .int .i64 a1_1, .int .i64 a1_2, .int .i64 a1_3, .int .i64 a1_4, .bool a1_5] 25 fun gb453 hg w21 hbox hb => ?_; have BK453 := aM_ (hbox); have GW453 := aM_ (gw_ w hg); have GE453 := aM_ (gw_ w hg); have NB452_453 := aM_ (nR_ BK452 hg); have NB453_452 := aM_ (mR_ BK452 hg); replace BK452 := aM_ (blk_below (g := gb452) (kR_ BK452) hb); replace HB := aM_ (below_step hB_ hb); clear hb hbox hg; clear BK453; have hz22 := cf6_ BK452.out; clear BK452) | ((with_reducible refine gC_ 24 ?_); refine gM_ (some 7) Tryd.func24 #[.agg #[.int .i64 a0_0, .int .i64 a0_1, .int .i64 a0_2, .int .i64 a0_3, .int .i64 a0_4, .bool a0_5]] ?_; (with_reducible refine (spec_shGood.calls k a0_0 a0_1 a0_2 a0_3 a0_4 a0_5 false _ A3.out).mono ?_); rintro e w23 ⟨rfl, hb⟩; refine ⟨_, rfl, ?_⟩; replace HB := aM_ (below_step hB_ hb); (try clear hb)))
  go_ret2
  exact ⟨rT_, hB_⟩
 subst c4
 replace H := ip_ H rfl
 replace H := ob_ H; obtain ⟨t455, A5, H⟩ := H; try dsimp only at H
 have HC6 := Aside0.mk H
 clear H
 go_enter Tryd.func9, Tryd.ntmps9
 go_upto_if 13 with (first | ((with_reducible refine gate_dst (N := 2) rfl ?_); refine bx_ 2 #[.int .i64 a0_0, .int .i64 a0_1, .int .i64 a0_2, .int .i64 a0_3, .int .i64 a0_4, .bool a0_5] 25 fun gb452 hg w7 hbox hb => ?_; have BK452 := aM_ (hbox); have GW452 := aM_ (gw_ w hg); have GE452 := aM_ (gw_ w hg); replace HB := aM_ (below_step hB_ hb); clear hb hbox hg) | ((with_reducible refine gate_dst (N := 3) rfl ?_); refine bx_ 3 #[.int .i64 a1_0, .int .i64 a1_1, .int .i64 a1_2, .int .i64 a1_3, .int .i64 a1_4, .bool a1_5] 25 fun gb453 hg w8 hbox hb => ?_; have BK453 := aM_ (hbox); have GW453 := aM_ (gw_ w hg); have GE453 := aM_ (gw_ w hg); have NB452_453 := aM_ (nR_ BK452 hg); have NB453_452 := aM_ (mR_ BK452 hg); replace BK452 := aM_ (blk_below (g := gb452) (kR_ BK452) hb); replace HB := aM_ (below_step hB_ hb); clear hb hbox hg; have hnb9 := NB452_453.out; have hnc9 := NB453_452.out; have hz10 := cf6_ BK452.out) | ((with_reducible refine gC_ 24 ?_); refine gM_ (some 7) Tryd.func24 #[.agg #[.int .i64 a0_0, .int .i64 a0_1, .int .i64 a0_2, .int .i64 a0_3, .int .i64 a0_4, .bool a0_5]] ?_; (with_reducible refine (spec_shGood.calls k a0_0 a0_1 a0_2 a0_3 a0_4 a0_5 true _ A3.out).mono ?_); rintro e w11 ⟨rfl, hb⟩; refine ⟨_, rfl, ?_⟩; replace BK452 := aM_ (blk_below (g := gb452) (kR_ BK452) hb); replace BK453 := aM_ (blk_below (g := gb453) (kR_ BK453) hb); replace HB := aM_ (below_step hB_ hb); (try clear hb); have hz12 := cf6_ BK453.out) | (go_at_call 24; (with_reducible refine (spec_shGood.calls k a1_0 a1_1 a1_2 a1_3 a1_4 a1_5 t455 _ A5.out).mono ?_); rintro e w13 ⟨rfl, hb⟩; replace BK452 := aM_ (blk_below (g := gb452) (kR_ BK452) hb); replace BK453 := aM_ (blk_below (g := gb453) (kR_ BK453) hb); replace HB := aM_ (below_step hB_ hb); (try clear hb)))
 (try simp only [Act.put, List.setIfInBounds_toArray, List.set_cons_zero, List.set_cons_succ])
 have H := HC6.out
 clear HC6
 by_cases c14 : t455 = true
 rotate_left
 ·replace c14 := Bool.eq_false_iff.mpr c14
  subst c14
  replace H := in_ H (show ¬ (false = true) by decide)
  simp only [Option.some.injEq, Prod.mk.injEq] at H
  obtain ⟨rfl, rfl⟩ := H
  go_wp2
  go_ret2
  exact ⟨rT_, hB_⟩
 subst c14
 replace H := ip_ H rfl
 replace H := ob_ H; obtain ⟨t456, A15, H⟩ := H; try dsimp only at H
 simp only [Option.some.injEq, Prod.mk.injEq] at H
 obtain ⟨rfl, rfl⟩ := H
 have hnb16 := NB452_453.out
 have hnc16 := NB453_452.out
 have hz17 := cf6_ BK452.out
 clear BK452
 have hz18 := cf6_ BK453.out
 clear BK453
 go_wp2_with (first | ((with_reducible refine gC_ 29 ?_); refine gM_ (some 16) Tryd.func29 #[.agg #[.int .i64 a0_0, .int .i64 a0_1, .int .i64 a0_2, .int .i64 a0_3, .int .i64 a0_4, .bool a0_5], .agg #[.int .i64 a1_0, .int .i64 a1_1, .int .i64 a1_2, .int .i64 a1_3, .int .i64 a1_4, .bool a1_5]] ?_; (with_reducible refine (spec_shFar.calls k a0_0 a0_1 a0_2 a0_3 a0_4 a0_5 a1_0 a1_1 a1_2 a1_3 a1_4 a1_5 t456 _ A15.out).mono ?_); rintro e w19 ⟨rfl, hb⟩; refine ⟨_, rfl, ?_⟩; replace HB := aM_ (below_step hB_ hb); (try clear hb)))
 go_ret2
 exact ⟨rT_, hB_⟩

/-! ### impl_BetweenShapes: function 10 -/
def impl_BetweenShapes.T7 : Bool × List (List Nat × List Nat) := (true, [([], []), ([], []), ([1], [1]), ([], []), ([], []), ([4], [4]), ([], []), ([5, 6], [5, 6]), ([7], [7]), ([3, 8], [3, 8]), ([9], [9]), ([0, 2, 10, 5], [0, 2, 10]), ([11, 11, 0, 1, 2, 3, 4, 5, 6, 7, 8, 9, 10, 11], [11])])
def impl_BetweenShapes.B7 : List Nat := [0, 0, 2, 0, 0, 16, 0, 112, 240, 504, 1016, 2047, 4095]
theorem impl_BetweenShapes.tab7 : rtab .any (opsOf Tryd.f10 7) = impl_BetweenShapes.T7 := by kernel_rfl
theorem impl_BetweenShapes.bits7 : waitsOk impl_BetweenShapes.T7.2 impl_BetweenShapes.B7 = true := by kernel_rfl
theorem impl_BetweenShapes.calls (k : Nat) (a0_0 : Int) (a0_1 : Int) (a0_2 : Int) (a0_3 : Int) (a0_4 : Int) (a0_5 : Bool) (a1_0 : Int) (a1_1 : Int) (a1_2 : Int) (a1_3 : Int) (a1_4 : Int) (a1_5 : Bool) (r1 : Int) (r2 : Int) (r3 : Int) (r4 : Int) (r5 : Int) (r6 : Bool) (r7 : Bool) (w : World) (h : impl_BetweenShapes.f k a0_0 a0_1 a0_2 a0_3 a0_4 a0_5 a1_0 a1_1 a1_2 a1_3 a1_4 a1_5 = some (r1, r2, r3, r4, r5, r6, r7)) :
 Calls Tryd.prog 10 #[.agg #[.int .i64 a0_0, .int .i64 a0_1, .int .i64 a0_2, .int .i64 a0_3, .int .i64 a0_4, .bool a0_5], .agg #[.int .i64 a1_0, .int .i64 a1_1, .int .i64 a1_2, .int .i64 a1_3, .int .i64 a1_4, .bool a1_5]] w fun e w' => e = .returned (.tuple #[.agg #[.int .i64 r1, .int .i64 r2, .int .i64 r3, .int .i64 r4, .int .i64 r5, .bool r6], .bool r7]) ∧ Below w.heap.size w w' := by
 have hu25 := Tryd.underlying25
 have HB := Aside0.mk (Below.refl w.heap.size w)
 have H : ((impl_IsShape.f k a0_0 a0_1 a0_2 a0_3 a0_4 a0_5).bind fun t460 => (if t460 = true then ((impl_IsShape.f k a1_0 a1_1 a1_2 a1_3 a1_4 a1_5).bind fun t461 => (impl_BetweenShapes.j0 k (!t461) a0_0 a0_1 a0_2 a0_3 a0_4 a0_5 a1_0 a1_1 a1_2 a1_3 a1_4 a1_5)) else (impl_BetweenShapes.j0 k true a0_0 a0_1 a0_2 a0_3 a0_4 a0_5 a1_0 a1_1 a1_2 a1_3 a1_4 a1_5))) = some (r1, r2, r3, r4, r5, r6, r7) := h
 clear h
 have HC3 := Aside0.mk H
 clear H
 go_enter Tryd.func10, Tryd.ntmps10
 go_upto_region 1 with (first | ((with_reducible refine gate_dst (N := 2) rfl ?_); refine bx_ 2 #[.int .i64 a0_0, .int .i64 a0_1, .int .i64 a0_2, .int .i64 a0_3, .int .i64 a0_4, .bool a0_5] 25 fun gb457 hg w4 hbox hb => ?_; have BK457 := aM_ (hbox); have GW457 := aM_ (gw_ w hg); have GE457 := aM_ (gw_ w hg); replace HB := aM_ (below_step hB_ hb); clear hb hbox hg) | ((with_reducible refine gate_dst (N := 3) rfl ?_); refine bx_ 3 #[.int .i64 a1_0, .int .i64 a1_1, .int .i64 a1_2, .int .i64 a1_3, .int .i64 a1_4, .bool a1_5] 25 fun gb458 hg w5 hbox hb => ?_; have BK458 := aM_ (hbox); have GW458 := aM_ (gw_ w hg); have GE458 := aM_ (gw_ w hg); have NB457_458 := aM_ (nR_ BK457 hg); have NB458_457 := aM_ (mR_ BK457 hg); replace BK457 := aM_ (blk_below (g := gb457) (kR_ BK457) hb); replace HB := aM_ (below_step hB_ hb); clear hb hbox hg) | ((with_reducible refine gate_dst (N := 4) rfl ?_); refine bx_ 4 #[.int .i64 0, .int .i64 0, .int .i64 0, .int .i64 0, .int .i64 0, .bool false] 25 fun gb459 hg w6 hbox hb => ?_; have BK459 := aM_ (hbox); have GW459 := aM_ (gw_ w hg); have GE459 := aM_ (gw_ w hg); have NB457_459 := aM_ (nR_ BK457 hg); have NB459_457 := aM_ (mR_ BK457 hg); have NB458_459 := aM_ (nR_ BK458 hg); have NB459_458 := aM_ (mR_ BK458 hg); replace BK457 := aM_ (blk_below (g := gb457) (kR_ BK457) hb); replace BK458 := aM_ (blk_below (g := gb458) (kR_ BK458) hb); replace HB := aM_ (below_step hB_ hb); clear hb hbox hg))
 (try simp only [Act.put, List.setIfInBounds_toArray, List.set_cons_zero, List.set_cons_succ])
 go_cut [16] (fun v16 wc => ∃ (kq : Nat) (x16_2 : Bool), v16 = .bool x16_2 ∧ Aside0 (impl_BetweenShapes.j0 kq x16_2 a0_0 a0_1 a0_2 a0_3 a0_4 a0_5 a1_0 a1_1 a1_2 a1_3 a1_4 a1_5 = some (r1, r2, r3, r4, r5, r6, r7)) ∧ Aside0 (kq ≤ k) ∧ Aside0 (wc.heap[gb457]? = some (.cells #[.int .i64 a0_0, .int .i64 a0_1, .int .i64 a0_2, .int .i64 a0_3, .int .i64 a0_4, .bool a0_5] 25 (0, 0))) ∧ Aside0 (wc.heap[gb458]? = some (.cells #[.int .i64 a1_0, .int .i64 a1_1, .int .i64 a1_2, .int .i64 a1_3, .int .i64 a1_4, .bool a1_5] 25 (0, 0))) ∧ Aside0 (wc.heap[gb459]? = some (.cells #[.int .i64 0, .int .i64 0, .int .i64 0, .int .i64 0, .int .i64 0, .bool false] 25 (0, 0))) ∧ Aside0 (Below w.heap.size w wc))
 case first =>
  have H := HC3.out
  clear HC3
  replace H := ob_ H; obtain ⟨t460, A7, H⟩ := H; try dsimp only at H
  by_cases c8 : t460 = true
  rotate_left
  ·replace c8 := Bool.eq_false_iff.mpr c8
   subst c8
   replace H := in_ H (show ¬ (false = true) by decide)
   have H' := Aside0.mk H
   clear H
   have hnb17 := NB457_458.out
   have hnc17 := NB458_457.out
   have hnb18 := NB457_459.out
   have hnc18 := NB459_457.out
   have hz19 := cf6_ BK457.out
   go_wp2_with (first | ((with_reducible refine gC_ 13 ?_); refine gM_ (some 10) Tryd.func13 #[.agg #[.int .i64 a0_0, .int .i64 a0_1, .int .i64 a0_2, .int .i64 a0_3, .int .i64 a0_4, .bool a0_5]] ?_; (with_reducible refine (impl_IsShape.calls k a0_0 a0_1 a0_2 a0_3 a0_4 a0_5 false _ A7.out).mono ?_); rintro e w20 ⟨rfl, hb⟩; refine ⟨_, rfl, ?_⟩; replace BK457 := aM_ (blk_below (g := gb457) (kR_ BK457) hb); replace BK458 := aM_ (blk_below (g := gb458) (kR_ BK458) hb); replace BK459 := aM_ (blk_below (g := gb459) (kR_ BK459) hb); replace HB := aM_ (below_step hB_ hb); (try clear hb)))
   go_meet
   case rel => exact ⟨_, (true), z11_0_, H', ⟨oR_⟩, ⟨kP_⟩, ⟨kP_⟩, ⟨kP_⟩, ⟨hB_⟩⟩
  subst c8
  replace H := ip_ H rfl
  replace H := ob_ H; obtain ⟨t461, A9, H⟩ := H; try dsimp only at H
  have H' := Aside0.mk H
  clear H
  have hnb10 := NB457_458.out
  have hnc10 := NB458_457.out
  have hnb11 := NB457_459.out
  have hnc11 := NB459_457.out
  have hz12 := cf6_ BK457.out
  go_wp2_with (first | ((with_reducible refine gC_ 13 ?_); refine gM_ (some 10) Tryd.func13 #[.agg #[.int .i64 a0_0, .int .i64 a0_1, .int .i64 a0_2, .int .i64 a0_3, .int .i64 a0_4, .bool a0_5]] ?_; (with_reducible refine (impl_IsShape.calls k a0_0 a0_1 a0_2 a0_3 a0_4 a0_5 true _ A7.out).mono ?_); rintro e w13 ⟨rfl, hb⟩; refine ⟨_, rfl, ?_⟩; replace BK457 := aM_ (blk_below (g := gb457) (kR_ BK457) hb); replace BK458 := aM_ (blk_below (g := gb458) (kR_ BK458) hb); replace BK459 := aM_ (blk_below (g := gb459) (kR_ BK459) hb); replace HB := aM_ (below_step hB_ hb); (try clear hb); have hnb14 := NB458_459.out; have hnc14 := NB459_458.out; have hz15 := cf6_ BK458.out) | (go_at_call 13; (with_reducible refine (impl_IsShape.calls k a1_0 a1_1 a1_2 a1_3 a1_4 a1_5 t461 _ A9.out).mono ?_); rintro e w16 ⟨rfl, hb⟩; replace BK457 := aM_ (blk_below (g := gb457) (kR_ BK457) hb); replace BK458 := aM_ (blk_below (g := gb458) (kR_ BK458) hb); replace BK459 := aM_ (blk_below (g := gb459) (kR_ BK459) hb); replace HB := aM_ (below_step hB_ hb); (try clear hb)))
  go_meet
  case rel => exact ⟨_, (!t461), z11_0_, H', ⟨oR_⟩, ⟨kP_⟩, ⟨kP_⟩, ⟨kP_⟩, ⟨hB_⟩⟩
 case rest =>
  clear HC3
  obtain ⟨kq, x16_2, rfl, HA, HJ2, BK457, BK458, BK459, HB⟩ := hcut
  cases kq with
  | zero => exact absurd HA.out (by simp [impl_BetweenShapes.j0])
  | succ kj2 =>
   have H := HA.out
   clear HA
   simp only [impl_BetweenShapes.j0] at H
   by_cases c21 : x16_2 = true
   ·subst c21
    replace H := ip_ H rfl
    simp only [Option.some.injEq, Prod.mk.injEq] at H
    obtain ⟨rfl, rfl, rfl, rfl, rfl, rfl, rfl⟩ := H
    clear BK457 BK458
    have hz22 := cf6_ BK459.out
    go_wp2
    refine bodyPost_ret (results_ct rfl _ _ gb459 25 #[.int .i64 0, .int .i64 0, .int .i64 0, .int .i64 0, .int .i64 0, .bool false] (0, 0) _ rfl (by (with_reducible repeat (first | apply kN_ | apply kD_ | apply kA_)); refine blk_put (cs := #[.int .i64 0, .int .i64 0, .int .i64 0, .int .i64 0, .int .i64 0, .bool false]) ?_ 5 _ rfl; (with_reducible repeat (first | apply kN_ | apply kD_ | apply kA_)); refine blk_put (cs := #[.int .i64 0, .int .i64 0, .int .i64 0, .int .i64 0, .int .i64 0, .bool false]) ?_ 4 _ rfl; (with_reducible repeat (first | apply kN_ | apply kD_ | apply kA_)); refine blk_put (cs := #[.int .i64 0, .int .i64 0, .int .i64 0, .int .i64 0, .int .i64 0, .bool false]) ?_ 3 _ rfl; (with_reducible repeat (first | apply kN_ | apply kD_ | apply kA_)); refine blk_put (cs := #[.int .i64 0, .int .i64 0, .int .i64 0, .int .i64 0, .int .i64 0, .bool false]) ?_ 2 _ rfl; (with_reducible repeat (first | apply kN_ | apply kD_ | apply kA_)); refine blk_put (cs := #[.int .i64 0, .int .i64 0, .int .i64 0, .int .i64 0, .int .i64 0, .bool false]) ?_ 1 _ rfl; (with_reducible repeat (first | apply kN_ | apply kD_ | apply kA_)); refine blk_put (cs := #[.int .i64 0, .int .i64 0, .int .i64 0, .int .i64 0, .int .i64 0, .bool false]) ?_ 0 _ rfl; (with_reducible repeat (first | apply kN_ | apply kD_ | apply kA_)); exact BK459.out) Tryd.underlying25 rfl (by kernel_rfl)) rfl ?_
    exact ⟨rT_, hB_⟩
   replace c21 := Bool.eq_false_iff.mpr c21
   subst c21
   replace H := in_ H (show ¬ (false = true) by decide)
   replace H := ob_ H; obtain ⟨t463, A23, H⟩ := H; try dsimp only at H
   have H' := Aside0.mk H
   clear H
   have hnb24 := NB457_458.out
   have hnc24 := NB458_457.out
   have hnb25 := NB457_459.out
   have hnc25 := NB459_457.out
   have hz26 := cf6_ BK457.out
   go_wp2_with (first | ((with_reducible refine gate_dst (N := 6) rfl ?_); refine bx_ 6 #[.int .i64 0, .int .i64 0, .int .i64 0, .int .i64 0, .int .i64 0, .bool false] 25 fun gb462 hg w27 hbox hb => ?_; have BK462 := aM_ (hbox); have GW462 := aM_ (gw_ w hg); have GE462 := aM_ (gw_ w hg); have NB457_462 := aM_ (nR_ BK457 hg); have NB462_457 := aM_ (mR_ BK457 hg); have NB458_462 := aM_ (nR_ BK458 hg); have NB462_458 := aM_ (mR_ BK458 hg); have NB459_462 := aM_ (nR_ BK459 hg); have NB462_459 := aM_ (mR_ BK459 hg); replace BK457 := aM_ (blk_below (g := gb457) (kR_ BK457) hb); replace BK458 := aM_ (blk_below (g := gb458) (kR_ BK458) hb); replace BK459 := aM_ (blk_below (g := gb459) (kR_ BK459) hb); replace HB := aM_ (below_step hB_ hb); clear hb hbox hg; have hnb28 := NB462_457.out; have hnc28 := NB457_462.out; have hnb29 := NB462_458.out; have hnc29 := NB458_462.out; have hnb30 := NB462_459.out; have hnc30 := NB459_462.out; have hz31 := cf6_ BK462.out; have hz32 := cf6_ BK457.out) | ((with_reducible refine gC_ 21 ?_); refine gM_ (some 22) Tryd.func21 #[.agg #[.int .i64 a0_0, .int .i64 a0_1, .int .i64 a0_2, .int .i64 a0_3, .int .i64 a0_4, .bool a0_5]] ?_; (with_reducible refine (impl_Shape_bends.calls a0_0 a0_1 a0_2 a0_3 a0_4 a0_5 t463 _ A23.out).mono ?_); rintro e w33 ⟨v464, rfl, ho0, hb⟩; refine ⟨_, rfl, ?_⟩; have HO465 := aM_ (Kd.R_lower ho0 (below_size hB_)); replace BK457 := aM_ (blk_below (g := gb457) (kR_ BK457) hb); replace BK458 := aM_ (blk_below (g := gb458) (kR_ BK458) hb); replace BK459 := aM_ (blk_below (g := gb459) (kR_ BK459) hb); replace BK462 := aM_ (blk_below (g := gb462) (o := .cells #[.int .i64 a0_0, .int .i64 0, .int .i64 0, .int .i64 0, .int .i64 0, .bool false] 25 (0, 0)) (by (with_reducible repeat (first | apply kN_ | apply kD_ | apply kA_)); refine blk_put (cs := #[.int .i64 a0_0, .int .i64 0, .int .i64 0, .int .i64 0, .int .i64 0, .bool false]) ?_ 5 _ rfl; (with_reducible repeat (first | apply kN_ | apply kD_ | apply kA_)); refine blk_put (cs := #[.int .i64 a0_0, .int .i64 0, .int .i64 0, .int .i64 0, .int .i64 0, .bool false]) ?_ 4 _ rfl; (with_reducible repeat (first | apply kN_ | apply kD_ | apply kA_)); refine blk_put (cs := #[.int .i64 a0_0, .int .i64 0, .int .i64 0, .int .i64 0, .int .i64 0, .bool false]) ?_ 3 _ rfl; (with_reducible repeat (first | apply kN_ | apply kD_ | apply kA_)); refine blk_put (cs := #[.int .i64 a0_0, .int .i64 0, .int .i64 0, .int .i64 0, .int .i64 0, .bool false]) ?_ 2 _ rfl; (with_reducible repeat (first | apply kN_ | apply kD_ | apply kA_)); refine blk_put (cs := #[.int .i64 a0_0, .int .i64 0, .int .i64 0, .int .i64 0, .int .i64 0, .bool false]) ?_ 1 _ rfl; (with_reducible repeat (first | apply kN_ | apply kD_ | apply kA_)); refine blk_put (cs := #[.int .i64 0, .int .i64 0, .int .i64 0, .int .i64 0, .int .i64 0, .bool false]) ?_ 0 _ rfl; (with_reducible repeat (first | apply kN_ | apply kD_ | apply kA_)); exact BK462.out) hb); replace HB := aM_ (below_step hB_ hb); (try clear hb); (try clear ho0); obtain ⟨Ao34, co34, eo34⟩ := Kd.R_slice HO465.out; subst eo34))
   try simp only [Act.put, List.setIfInBounds_toArray, List.set_cons_zero, List.set_cons_succ]
   go_loopg [24] kj2 (fun kq v24 w' => ∃ (x24_2 : Int) (x463000_2 : Int) (x463001_2 : Int) (x463002_2 : Int) (x463003_2 : Int) (x463004_2 : Int) (x463005_2 : Bool), v24 = .int .i64 x24_2 ∧ Aside0 (impl_BetweenShapes.l0 kq t463 (t463.length : Int) x24_2 a1_0 a1_1 a1_2 a1_3 a1_4 a1_5 x463000_2 x463001_2 x463002_2 x463003_2 x463004_2 x463005_2 = some (r1, r2, r3, r4, r5, r6, r7)) ∧ Aside0 (kq ≤ kj2) ∧ Aside0 (Kd.R (Kd.int .i64) 3 w' w.heap.size (fun _ => True) (.slice Ao34 t463.length co34) t463) ∧ Aside0 (w'.heap[gb457]? = some (.cells #[.int .i64 a0_0, .int .i64 a0_1, .int .i64 a0_2, .int .i64 a0_3, .int .i64 a0_4, .bool a0_5] 25 (0, 0))) ∧ Aside0 (w'.heap[gb458]? = some (.cells #[.int .i64 a1_0, .int .i64 a1_1, .int .i64 a1_2, .int .i64 a1_3, .int .i64 a1_4, .bool a1_5] 25 (0, 0))) ∧ Aside0 (w'.heap[gb459]? = some (.cells #[.int .i64 0, .int .i64 0, .int .i64 0, .int .i64 0, .int .i64 0, .bool false] 25 (0, 0))) ∧ Aside0 (w'.heap[gb462]? = some (.cells #[.int .i64 x463000_2, .int .i64 x463001_2, .int .i64 x463002_2, .int .i64 x463003_2, .int .i64 x463004_2, .bool x463005_2] 25 (0, 0))) ∧ Aside0 (Below w.heap.size w w'))
   case atStart => exact ⟨(0), (a0_0), (0), (0), (0), (0), (false), z11_0_, H', ⟨Nat.le_refl _⟩, ⟨rR_ HO465⟩, ⟨kP_⟩, ⟨kP_⟩, ⟨kP_⟩, ⟨kP_⟩, ⟨hB_⟩⟩
   case round =>
    clear H'
    (try clear c21);(try clear hcz26_0);(try clear hcz26_1);(try clear hcz26_2);(try clear hcz26_3);(try clear hcz26_4);(try clear hcz26_5);(try clear hcz31_0);(try clear hcz31_1);(try clear hcz31_2);(try clear hcz31_3);(try clear hcz31_4);(try clear hcz31_5);(try clear hcz32_0);(try clear hcz32_1);(try clear hcz32_2);(try clear hcz32_3);(try clear hcz32_4);(try clear hcz32_5);(try clear hfz26_0);(try clear hfz26_1);(try clear hfz26_2);(try clear hfz26_3);(try clear hfz26_4);(try clear hfz26_5);(try clear hfz31_0);(try clear hfz31_1);(try clear hfz31_2);(try clear hfz31_3);(try clear hfz31_4);(try clear hfz31_5);(try clear hfz32_0);(try clear hfz32_1);(try clear hfz32_2);(try clear hfz32_3);(try clear hfz32_4);(try clear hfz32_5)
    obtain ⟨x24_2, x463000_2, x463001_2, x463002_2, x463003_2, x463004_2, x463005_2, rfl, HA, HK2, HO_22, BK457, BK458, BK459, BK462, HB⟩ := hrel
    cases gk with
    | zero => exact absurd HA.out (by simp [impl_BetweenShapes.l0])
    | succ k2 =>
     have H := HA.out
     clear HA
     simp only [impl_BetweenShapes.l0] at H
     replace H := iF_ H; obtain ⟨c35b0, H⟩ | ⟨c35b0, H⟩ := H
     ·simp only [Option.some.injEq, Prod.mk.injEq] at H
      obtain ⟨rfl, rfl, rfl, rfl, rfl, rfl, rfl⟩ := H
      clear BK457 BK458
      have hnb51 := NB462_459.out
      have hnc51 := NB459_462.out
      have hz52 := cf6_ BK462.out
      clear BK462
      have hz53 := cf6_ BK459.out
      go_wp2
      refine bodyPost_ret (results_ct rfl _ _ gb459 25 #[.int .i64 x463000_2, .int .i64 x463001_2, .int .i64 x463002_2, .int .i64 x463003_2, .int .i64 x463004_2, .bool x463005_2] (0, 0) _ rfl (by (with_reducible repeat (first | apply kN_ | apply kD_ | apply kA_)); refine blk_put (cs := #[.int .i64 x463000_2, .int .i64 x463001_2, .int .i64 x463002_2, .int .i64 x463003_2, .int .i64 x463004_2, .bool false]) ?_ 5 _ rfl; (with_reducible repeat (first | apply kN_ | apply kD_ | apply kA_)); refine blk_put (cs := #[.int .i64 x463000_2, .int .i64 x463001_2, .int .i64 x463002_2, .int .i64 x463003_2, .int .i64 0, .bool false]) ?_ 4 _ rfl; (with_reducible repeat (first | apply kN_ | apply kD_ | apply kA_)); refine blk_put (cs := #[.int .i64 x463000_2, .int .i64 x463001_2, .int .i64 x463002_2, .int .i64 0, .int .i64 0, .bool false]) ?_ 3 _ rfl; (with_reducible repeat (first | apply kN_ | apply kD_ | apply kA_)); refine blk_put (cs := #[.int .i64 x463000_2, .int .i64 x463001_2, .int .i64 0, .int .i64 0, .int .i64 0, .bool false]) ?_ 2 _ rfl; (with_reducible repeat (first | apply kN_ | apply kD_ | apply kA_)); refine blk_put (cs := #[.int .i64 x463000_2, .int .i64 0, .int .i64 0, .int .i64 0, .int .i64 0, .bool false]) ?_ 1 _ rfl; (with_reducible repeat (first | apply kN_ | apply kD_ | apply kA_)); refine blk_put (cs := #[.int .i64 0, .int .i64 0, .int .i64 0, .int .i64 0, .int .i64 0, .bool false]) ?_ 0 _ rfl; (with_reducible repeat (first | apply kN_ | apply kD_ | apply kA_)); exact BK459.out) Tryd.underlying25 rfl (by kernel_rfl)) rfl ?_
      exact ⟨rT_, hB_⟩
     replace H := ig_ H; obtain ⟨c36b0, H⟩ := H
     replace H := ig_ H; obtain ⟨c37b0, H⟩ := H
     replace H := ob_ H; obtain ⟨t467, A38, H⟩ := H; try dsimp only at H
     replace H := ig_ H; obtain ⟨c39b0, H⟩ := H
     replace H := ob_ H; obtain ⟨⟨t471, t472, t473, t474, t475, t476⟩, A40, H⟩ := H; try dsimp only at H
     have H' := Aside0.mk H
     clear H
     obtain ⟨⟨ad466, e466, hx466_0⟩, p466, q466⟩ := at2_ (Kd.at_int (Kd.R_reads' HO_22.out).2.2 x24_2); cases e466
     try go_wp2
     replace HO_22 := aM_ (Kd.R_drew HO_22.out)
     replace BK457 := aM_ (blk_drew BK457.out)
     replace BK458 := aM_ (blk_drew BK458.out)
     replace BK459 := aM_ (blk_drew BK459.out)
     replace BK462 := aM_ (blk_drew BK462.out)
     replace HB := aM_ (below_drew1 HB.out)
     refine st_ 13 (fun w' => w'.cell? ⟨gb462, 0, none⟩ = some (.int .i64 x463000_2) ∧ w'.cell? ⟨gb462, 1, none⟩ = some (.int .i64 x463001_2) ∧ w'.cell? ⟨gb462, 2, none⟩ = some (.int .i64 x463002_2) ∧ w'.cell? ⟨gb462, 3, none⟩ = some (.int .i64 x463003_2) ∧ w'.cell? ⟨gb462, 4, none⟩ = some (.int .i64 x463004_2) ∧ w'.cell? ⟨gb462, 5, none⟩ = some (.bool x463005_2) ∧ w'.cell? ⟨gb458, 0, none⟩ = some (.int .i64 a1_0) ∧ w'.cell? ⟨gb458, 1, none⟩ = some (.int .i64 a1_1) ∧ w'.cell? ⟨gb458, 2, none⟩ = some (.int .i64 a1_2) ∧ w'.cell? ⟨gb458, 3, none⟩ = some (.int .i64 a1_3) ∧ w'.cell? ⟨gb458, 4, none⟩ = some (.int .i64 a1_4) ∧ w'.cell? ⟨gb458, 5, none⟩ = some (.bool a1_5)) [12] impl_BetweenShapes.tab7 impl_BetweenShapes.bits7 ⟨(blk_cell BK462.out 0).trans rfl, (blk_cell BK462.out 1).trans rfl, (blk_cell BK462.out 2).trans rfl, (blk_cell BK462.out 3).trans rfl, (blk_cell BK462.out 4).trans rfl, (blk_cell BK462.out 5).trans rfl, (blk_cell BK458.out 0).trans rfl, (blk_cell BK458.out 1).trans rfl, (blk_cell BK458.out 2).trans rfl, (blk_cell BK458.out 3).trans rfl, (blk_cell BK458.out 4).trans rfl, (blk_cell BK458.out 5).trans rfl⟩ fun hHeld HT_ HW_ => ?_
     generalize wr.drew = w41 at HO_22 BK457 BK458 BK459 BK462 HB hHeld ⊢
     refine pu_ 1 30 ?_
     refine pu_ 2 31 ?_
     refine pu_ 3 32 ?_
     refine pu_ 6 35 ?_
     refine tk_ 0 29 ?_
     refine tk_ 4 33 ?_
     refine on_ 5 34 fun K hK => ?_
     refine gS_ Tryd.func21 #[.agg #[.int .i64 a1_0, .int .i64 a1_1, .int .i64 a1_2, .int .i64 a1_3, .int .i64 a1_4, .bool a1_5]] ?_
     with_reducible refine (impl_Shape_bends.calls a1_0 a1_1 a1_2 a1_3 a1_4 a1_5 t467 _ A38.out).mono ?_
     rintro e w42 ⟨v468, rfl, ho0, hb⟩
     refine ⟨_, rfl, ?_⟩
     have HO469 := aM_ (Kd.R_lower (Kd.R_new' ho0 (Kd.R_lt (rR_ HO_22))) (below_size hB_))
     replace HO_22 := aM_ (Kd.R_elder' (rR_ HO_22) (Kd.R_base ho0) hb)
     replace BK457 := aM_ (blk_below (g := gb457) (kR_ BK457) hb)
     replace BK458 := aM_ (blk_below (g := gb458) (kR_ BK458) hb)
     replace BK459 := aM_ (blk_below (g := gb459) (kR_ BK459) hb)
     replace BK462 := aM_ (blk_below (g := gb462) (kR_ BK462) hb)
     replace HB := aM_ (below_step hB_ hb)
     (try clear hb)
     (try clear hb2)
     (try clear hk)
     (try clear hi)
     (try clear ho0)
     obtain ⟨Ao43, co43, eo43⟩ := Kd.R_slice HO469.out
     (first | subst eo43 | (injection eo43 with f1_ f2_ f3_; have f4_ := f1_.symm; have f5_ := f3_.symm; clear f1_ f2_ f3_; subst f4_; subst f5_))
     obtain ⟨⟨ad470, e470, hx470_0⟩, p470, q470⟩ := at2_ (Kd.at_int (Kd.R_reads' HO469.out).2.2 x24_2); cases e470
     refine hK.out _ _ ⟨(blk_cell BK462.out 0).trans rfl, (blk_cell BK462.out 1).trans rfl, (blk_cell BK462.out 2).trans rfl, (blk_cell BK462.out 3).trans rfl, (blk_cell BK462.out 4).trans rfl, (blk_cell BK462.out 5).trans rfl, (blk_cell BK458.out 0).trans rfl, (blk_cell BK458.out 1).trans rfl, (blk_cell BK458.out 2).trans rfl, (blk_cell BK458.out 3).trans rfl, (blk_cell BK458.out 4).trans rfl, (blk_cell BK458.out 5).trans rfl⟩ (fun hHeld => ?_)
     clear hK K
     refine nm_ 34 ?_
     refine more_ (fun w' => w'.cell? (ad470.add (x24_2).toNat) = some (.int .i64 (rd t467 x24_2))) HT_ hHeld hx470_0 ?_
     have hHeld := And.intro hx470_0 hHeld
     refine pu_ 7 36 ?_
     refine tk_ 8 37 ?_
     refine pu_ 9 38 ?_
     refine pu_ 10 39 ?_
     refine on_ 11 40 fun K hK => ?_
     refine gS_ Tryd.func22 #[.agg #[.int .i64 x463000_2, .int .i64 x463001_2, .int .i64 x463002_2, .int .i64 x463003_2, .int .i64 x463004_2, .bool x463005_2], .int .i64 (wrap64 (x24_2 + 1)), .int .i64 (wrap64 (Int.tdiv (wrap64 ((rd t463 x24_2) + (rd t467 x24_2))) 2))] ?_
     with_reducible refine (impl_Shape_with.calls x463000_2 x463001_2 x463002_2 x463003_2 x463004_2 x463005_2 (wrap64 (x24_2 + 1)) (wrap64 (Int.tdiv (wrap64 ((rd t463 x24_2) + (rd t467 x24_2))) 2)) t471 t472 t473 t474 t475 t476 _ A40.out).mono ?_
     rintro e w44 ⟨rfl, hb⟩
     have HS12_ := (hb.cell (World.block_lt_of_cell? _ _ (hHeld.1))).trans (hHeld.1)
     refine ⟨_, rfl, ?_⟩
     replace HO_22 := aM_ (Kd.R_below (rR_ HO_22) hb)
     replace HO469 := aM_ (Kd.R_below (rR_ HO469) hb)
     replace BK457 := aM_ (blk_below (g := gb457) (kR_ BK457) hb)
     replace BK458 := aM_ (blk_below (g := gb458) (kR_ BK458) hb)
     replace BK459 := aM_ (blk_below (g := gb459) (kR_ BK459) hb)
     replace BK462 := aM_ (blk_below (g := gb462) (kR_ BK462) hb)
     replace HB := aM_ (below_step hB_ hb)
     (try clear hb)
     (try clear hb2)
     (try clear hk)
     (try clear hi)
     refine hK.out _ _ ⟨HS12_, (blk_cell BK462.out 0).trans rfl, (blk_cell BK462.out 1).trans rfl, (blk_cell BK462.out 2).trans rfl, (blk_cell BK462.out 3).trans rfl, (blk_cell BK462.out 4).trans rfl, (blk_cell BK462.out 5).trans rfl, (blk_cell BK458.out 0).trans rfl, (blk_cell BK458.out 1).trans rfl, (blk_cell BK458.out 2).trans rfl, (blk_cell BK458.out 3).trans rfl, (blk_cell BK458.out 4).trans rfl, (blk_cell BK458.out 5).trans rfl⟩ (fun hHeld => ?_)
     clear hK K
     refine nm_ 40 ?_
     refine last_ (i := 12) (N := none) (bz_ 13 0x1fff) rfl rfl (one_of HT_.out (by kernel_rfl)) (by decide) (fun K hK => ?_)
     have hs45 : w44.cell? ⟨gb462, 0, none⟩ = some (.int .i64 x463000_2) := (blk_cell BK462.out 0).trans rfl
     have hfs45 := blk_frozen BK462.out 0
     have hns45_0 := NB457_462.out
     have hns45_1 := NB458_462.out
     have hns45_2 := NB459_462.out
     have hms45_0 := NB462_457.out
     have hms45_1 := NB462_458.out
     have hms45_2 := NB462_459.out
     have hs46 : w44.cell? ⟨gb462, 1, none⟩ = some (.int .i64 x463001_2) := (blk_cell BK462.out 1).trans rfl
     have hfs46 := blk_frozen BK462.out 1
     have hns46_0 := NB457_462.out
     have hns46_1 := NB458_462.out
     have hns46_2 := NB459_462.out
     have hms46_0 := NB462_457.out
     have hms46_1 := NB462_458.out
     have hms46_2 := NB462_459.out
     have hs47 : w44.cell? ⟨gb462, 2, none⟩ = some (.int .i64 x463002_2) := (blk_cell BK462.out 2).trans rfl
     have hfs47 := blk_frozen BK462.out 2
     have hns47_0 := NB457_462.out
     have hns47_1 := NB458_462.out
     have hns47_2 := NB459_462.out
     have hms47_0 := NB462_457.out
     have hms47_1 := NB462_458.out
     have hms47_2 := NB462_459.out
     have hs48 : w44.cell? ⟨gb462, 3, none⟩ = some (.int .i64 x463003_2) := (blk_cell BK462.out 3).trans rfl
     have hfs48 := blk_frozen BK462.out 3
     have hns48_0 := NB457_462.out
     have hns48_1 := NB458_462.out
     have hns48_2 := NB459_462.out
     have hms48_0 := NB462_457.out
     have hms48_1 := NB462_458.out
     have hms48_2 := NB462_459.out
     have hs49 : w44.cell? ⟨gb462, 4, none⟩ = some (.int .i64 x463004_2) := (blk_cell BK462.out 4).trans rfl
     have hfs49 := blk_frozen BK462.out 4
     have hns49_0 := NB457_462.out
     have hns49_1 := NB458_462.out
     have hns49_2 := NB459_462.out
     have hms49_0 := NB462_457.out
     have hms49_1 := NB462_458.out
     have hms49_2 := NB462_459.out
     have hs50 : w44.cell? ⟨gb462, 5, none⟩ = some (.bool x463005_2) := (blk_cell BK462.out 5).trans rfl
     have hfs50 := blk_frozen BK462.out 5
     have hns50_0 := NB457_462.out
     have hns50_1 := NB458_462.out
     have hns50_2 := NB459_462.out
     have hms50_0 := NB462_457.out
     have hms50_1 := NB462_458.out
     have hms50_2 := NB462_459.out
     refine skip_ (w1 := ?_) (by rfl) rfl ?_ ?_
     rotate_left
     ·go_simp
      rfl
     refine hK.out _ _ ?_
     clear hK K
     refine dn_ ?_
     try go_wp2
     go_roundg k2
     case measure => have := HJ2.out; have := HK2.out; omega
     case rel => exact ⟨(wrap64 (x24_2 + 1)), (t471), (t472), (t473), (t474), (t475), (t476), z11_0_, H', ⟨by have := HJ2.out; have := HK2.out; omega⟩, ⟨by (with_reducible repeat (first | apply rA_ | apply rN_ | apply rD_)); exact Kd.R_mono (Kd.R_far (p := ⟨gb462, 5, none⟩) (Kd.R_far (p := ⟨gb462, 4, none⟩) (Kd.R_far (p := ⟨gb462, 3, none⟩) (Kd.R_far (p := ⟨gb462, 2, none⟩) (Kd.R_far (p := ⟨gb462, 1, none⟩) (Kd.R_far (p := ⟨gb462, 0, none⟩) (Kd.R_types HO_22.out BK462.out (by decide)) (fun _ hk => hk.2) (.int .i64 t471)) (fun _ hk => hk.2) (.int .i64 t472)) (fun _ hk => hk.2) (.int .i64 t473)) (fun _ hk => hk.2) (.int .i64 t474)) (fun _ hk => hk.2) (.int .i64 t475)) (fun _ hk => hk.2) (.bool t476)) (fun _ hk => trivial)⟩, ⟨by (with_reducible repeat (first | apply kN_ | apply kD_ | apply kA_)); refine blk_far ?_ NB457_462.out _; (with_reducible repeat (first | apply kN_ | apply kD_ | apply kA_)); refine blk_far ?_ NB457_462.out _; (with_reducible repeat (first | apply kN_ | apply kD_ | apply kA_)); refine blk_far ?_ NB457_462.out _; (with_reducible repeat (first | apply kN_ | apply kD_ | apply kA_)); refine blk_far ?_ NB457_462.out _; (with_reducible repeat (first | apply kN_ | apply kD_ | apply kA_)); refine blk_far ?_ NB457_462.out _; (with_reducible repeat (first | apply kN_ | apply kD_ | apply kA_)); refine blk_far ?_ NB457_462.out _; (with_reducible repeat (first | apply kN_ | apply kD_ | apply kA_)); exact BK457.out⟩, ⟨by (with_reducible repeat (first | apply kN_ | apply kD_ | apply kA_)); refine blk_far ?_ NB458_462.out _; (with_reducible repeat (first | apply kN_ | apply kD_ | apply kA_)); refine blk_far ?_ NB458_462.out _; (with_reducible repeat (first | apply kN_ | apply kD_ | apply kA_)); refine blk_far ?_ NB458_462.out _; (with_reducible repeat (first | apply kN_ | apply kD_ | apply kA_)); refine blk_far ?_ NB458_462.out _; (with_reducible repeat (first | apply kN_ | apply kD_ | apply kA_)); refine blk_far ?_ NB458_462.out _; (with_reducible repeat (first | apply kN_ | apply kD_ | apply kA_)); refine blk_far ?_ NB458_462.out _; (with_reducible repeat (first | apply kN_ | apply kD_ | apply kA_)); exact BK458.out⟩, ⟨by (with_reducible repeat (first | apply kN_ | apply kD_ | apply kA_)); refine blk_far ?_ NB459_462.out _; (with_reducible repeat (first | apply kN_ | apply kD_ | apply kA_)); refine blk_far ?_ NB459_462.out _; (with_reducible repeat (first | apply kN_ | apply kD_ | apply kA_)); refine blk_far ?_ NB459_462.out _; (with_reducible repeat (first | apply kN_ | apply kD_ | apply kA_)); refine blk_far ?_ NB459_462.out _; (with_reducible repeat (first | apply kN_ | apply kD_ | apply kA_)); refine blk_far ?_ NB459_462.out _; (with_reducible repeat (first | apply kN_ | apply kD_ | apply kA_)); refine blk_far ?_ NB459_462.out _; (with_reducible repeat (first | apply kN_ | apply kD_ | apply kA_)); exact BK459.out⟩, ⟨by (with_reducible repeat (first | apply kN_ | apply kD_ | apply kA_)); refine blk_put (cs := #[.int .i64 t471, .int .i64 t472, .int .i64 t473, .int .i64 t474, .int .i64 t475, .bool x463005_2]) ?_ 5 _ rfl; (with_reducible repeat (first | apply kN_ | apply kD_ | apply kA_)); refine blk_put (cs := #[.int .i64 t471, .int .i64 t472, .int .i64 t473, .int .i64 t474, .int .i64 x463004_2, .bool x463005_2]) ?_ 4 _ rfl; (with_reducible repeat (first | apply kN_ | apply kD_ | apply kA_)); refine blk_put (cs := #[.int .i64 t471, .int .i64 t472, .int .i64 t473, .int .i64 x463003_2, .int .i64 x463004_2, .bool x463005_2]) ?_ 3 _ rfl; (with_reducible repeat (first | apply kN_ | apply kD_ | apply kA_)); refine blk_put (cs := #[.int .i64 t471, .int .i64 t472, .int .i64 x463002_2, .int .i64 x463003_2, .int .i64 x463004_2, .bool x463005_2]) ?_ 2 _ rfl; (with_reducible repeat (first | apply kN_ | apply kD_ | apply kA_)); refine blk_put (cs := #[.int .i64 t471, .int .i64 x463001_2, .int .i64 x463002_2, .int .i64 x463003_2, .int .i64 x463004_2, .bool x463005_2]) ?_ 1 _ rfl; (with_reducible repeat (first | apply kN_ | apply kD_ | apply kA_)); refine blk_put (cs := #[.int .i64 x463000_2, .int .i64 x463001_2, .int .i64 x463002_2, .int .i64 x463003_2, .int .i64 x463004_2, .bool x463005_2]) ?_ 0 _ rfl; (with_reducible repeat (first | apply kN_ | apply kD_ | apply kA_)); exact BK462.out⟩, ⟨hB_⟩⟩

end Go.Proofs.YtbfkpgmdbafmhaaDoor.PFnShapes
