/- Printed for this claim: functions of the program as Lean functions, and that the calls answer so. -/
import Derived.Test.YtbfkpgmdbafmhaaDoorPFnShapesx0
import Derived.Test.YtbfkpgmdbafmhaaDoorPFnShapesx1
import Derived.Test.YtbfkpgmdbafmhaaDoorPFnShapesx2
import Derived.Test.YtbfkpgmdbafmhaaDoorPFnShapesx3
import Derived.Test.YtbfkpgmdbafmhaaDoorPFnShapesx5
import Derived.Test.YtbfkpgmdbafmhaaDoorPFnShapesxD0
import Derived.Test.YtbfkpgmdbafmhaaDoorPFnShapesxD1
namespace Go.Proofs.YtbfkpgmdbafmhaaDoor.PFnShapes
open Go.RowKit Go.Proofs.YtbfkpgmdbafmhaaDoorW.PrintWords Go.Proofs.YtbfkpgmdbafmhaaDoorW.PrintLast Go.Proofs.YtbfkpgmdbafmhaaDoorW.PrintMore
theorem z12_0_ {p : Prop} (h : p := by first | rfl | (simp; done) | (simp [*]; done)) : p := h
theorem z12_1_ {p : Prop} (h : p := by repeat (first | exact Drawn0.refl _ | apply Drawn0.step)) : p := h
theorem z12_2_ {p : Prop} (h : p := by repeat (first | (with_reducible first | exact HB.out | apply lA_ | apply lN_ | apply lD_ | refine below_set ?_ (IsS59.ge HI502.out) | refine below_set ?_ GE501.out) | exact HB.out)) : p := h
set_option maxHeartbeats 8000000
set_option maxRecDepth 100000
attribute [local go_sem] max2_int min2_int max_two min_two max_three min_three max_four min_four isSome_setCell   -- for this text's walks alone
set_option linter.unusedVariables false
set_option linter.unusedSimpArgs false

attribute [local go_sem high] eqA25
/-! ### spec_BetweenShapes: function 11 -/
theorem spec_BetweenShapes.calls (k : Nat) (a0_0 : Int) (a0_1 : Int) (a0_2 : Int) (a0_3 : Int) (a0_4 : Int) (a0_5 : Bool) (a1_0 : Int) (a1_1 : Int) (a1_2 : Int) (a1_3 : Int) (a1_4 : Int) (a1_5 : Bool) (r1 : Int) (r2 : Int) (r3 : Int) (r4 : Int) (r5 : Int) (r6 : Bool) (r7 : Bool) (w : World) (h : spec_BetweenShapes.f k a0_0 a0_1 a0_2 a0_3 a0_4 a0_5 a1_0 a1_1 a1_2 a1_3 a1_4 a1_5 = some (r1, r2, r3, r4, r5, r6, r7)) :
 Calls Tryd.prog 11 #[.agg #[.int .i64 a0_0, .int .i64 a0_1, .int .i64 a0_2, .int .i64 a0_3, .int .i64 a0_4, .bool a0_5], .agg #[.int .i64 a1_0, .int .i64 a1_1, .int .i64 a1_2, .int .i64 a1_3, .int .i64 a1_4, .bool a1_5]] w fun e w' => e = .returned (.tuple #[.agg #[.int .i64 r1, .int .i64 r2, .int .i64 r3, .int .i64 r4, .int .i64 r5, .bool r6], .bool r7]) ∧ Below w.heap.size w w' := by
 have hu25 := Tryd.underlying25
 have HB := Aside0.mk (Below.refl w.heap.size w)
 have H : ((spec_shGood.f k a0_0 a0_1 a0_2 a0_3 a0_4 a0_5).bind fun t480 => (if t480 = true then ((spec_shGood.f k a1_0 a1_1 a1_2 a1_3 a1_4 a1_5).bind fun t481 => (spec_BetweenShapes.j0 k (!t481) a0_0 a0_1 a0_2 a0_3 a0_4 a0_5 a1_0 a1_1 a1_2 a1_3 a1_4 a1_5)) else (spec_BetweenShapes.j0 k true a0_0 a0_1 a0_2 a0_3 a0_4 a0_5 a1_0 a1_1 a1_2 a1_3 a1_4 a1_5))) = some (r1, r2, r3, r4, r5, r6, r7) := h
 clear h
 have HC3 := Aside0.mk H
 clear H
 go_enter Tryd.func11, Tryd.ntmps11
 go_upto_region 1 with (first | ((with_reducible refine gate_dst (N := 2) rfl ?_); refine bx_ 2 #[.int .i64 a0_0, .int .i64 a0_1, .int .i64 a0_2, .int .i64 a0_3, .int .i64 a0_4, .bool a0_5] 25 fun gb477 hg w4 hbox hb => ?_; have BK477 := aM_ (hbox); have GW477 := aM_ (gw_ w hg); have GE477 := aM_ (gw_ w hg); replace HB := aM_ (below_step hB_ hb); clear hb hbox hg) | ((with_reducible refine gate_dst (N := 3) rfl ?_); refine bx_ 3 #[.int .i64 a1_0, .int .i64 a1_1, .int .i64 a1_2, .int .i64 a1_3, .int .i64 a1_4, .bool a1_5] 25 fun gb478 hg w5 hbox hb => ?_; have BK478 := aM_ (hbox); have GW478 := aM_ (gw_ w hg); have GE478 := aM_ (gw_ w hg); have NB477_478 := aM_ (nR_ BK477 hg); have NB478_477 := aM_ (mR_ BK477 hg); replace BK477 := aM_ (blk_below (g := gb477) (kR_ BK477) hb); replace HB := aM_ (below_step hB_ hb); clear hb hbox hg) | ((with_reducible refine gate_dst (N := 4) rfl ?_); refine bx_ 4 #[.int .i64 0, .int .i64 0, .int .i64 0, .int .i64 0, .int .i64 0, .bool false] 25 fun gb479 hg w6 hbox hb => ?_; have BK479 := aM_ (hbox); have GW479 := aM_ (gw_ w hg); have GE479 := aM_ (gw_ w hg); have NB477_479 := aM_ (nR_ BK477 hg); have NB479_477 := aM_ (mR_ BK477 hg); have NB478_479 := aM_ (nR_ BK478 hg); have NB479_478 := aM_ (mR_ BK478 hg); replace BK477 := aM_ (blk_below (g := gb477) (kR_ BK477) hb); replace BK478 := aM_ (blk_below (g := gb478) (kR_ BK478) hb); replace HB := aM_ (below_step hB_ hb); clear hb hbox hg))
 (try simp only [Act.put, List.setIfInBounds_toArray, List.set_cons_zero, List.set_cons_succ])
 go_cut [16] (fun v16 wc => ∃ (kq : Nat) (x16_2 : Bool), v16 = .bool x16_2 ∧ Aside0 (spec_BetweenShapes.j0 kq x16_2 a0_0 a0_1 a0_2 a0_3 a0_4 a0_5 a1_0 a1_1 a1_2 a1_3 a1_4 a1_5 = some (r1, r2, r3, r4, r5, r6, r7)) ∧ Aside0 (kq ≤ k) ∧ Aside0 (wc.heap[gb477]? = some (.cells #[.int .i64 a0_0, .int .i64 a0_1, .int .i64 a0_2, .int .i64 a0_3, .int .i64 a0_4, .bool a0_5] 25 (0, 0))) ∧ Aside0 (wc.heap[gb478]? = some (.cells #[.int .i64 a1_0, .int .i64 a1_1, .int .i64 a1_2, .int .i64 a1_3, .int .i64 a1_4, .bool a1_5] 25 (0, 0))) ∧ Aside0 (wc.heap[gb479]? = some (.cells #[.int .i64 0, .int .i64 0, .int .i64 0, .int .i64 0, .int .i64 0, .bool false] 25 (0, 0))) ∧ Aside0 (Below w.heap.size w wc))
 case first =>
  have H := HC3.out
  clear HC3
  replace H := ob_ H; obtain ⟨t480, A7, H⟩ := H; try dsimp only at H
  by_cases c8 : t480 = true
  rotate_left
  ·replace c8 := Bool.eq_false_iff.mpr c8
   subst c8
   replace H := in_ H (show ¬ (false = true) by decide)
   have H' := Aside0.mk H
   clear H
   have hnb17 := NB477_478.out
   have hnc17 := NB478_477.out
   have hnb18 := NB477_479.out
   have hnc18 := NB479_477.out
   have hz19 := cf6_ BK477.out
   go_wp2_with (first | ((with_reducible refine gC_ 24 ?_); refine gM_ (some 10) Tryd.func24 #[.agg #[.int .i64 a0_0, .int .i64 a0_1, .int .i64 a0_2, .int .i64 a0_3, .int .i64 a0_4, .bool a0_5]] ?_; (with_reducible refine (spec_shGood.calls k a0_0 a0_1 a0_2 a0_3 a0_4 a0_5 false _ A7.out).mono ?_); rintro e w20 ⟨rfl, hb⟩; refine ⟨_, rfl, ?_⟩; replace BK477 := aM_ (blk_below (g := gb477) (kR_ BK477) hb); replace BK478 := aM_ (blk_below (g := gb478) (kR_ BK478) hb); replace BK479 := aM_ (blk_below (g := gb479) (kR_ BK479) hb); replace HB := aM_ (below_step hB_ hb); (try clear hb)))
   go_meet
   case rel => exact ⟨_, (true), z12_0_, H', ⟨oR_⟩, ⟨kP_⟩, ⟨kP_⟩, ⟨kP_⟩, ⟨hB_⟩⟩
  subst c8
  replace H := ip_ H rfl
  replace H := ob_ H; obtain ⟨t481, A9, H⟩ := H; try dsimp only at H
  have H' := Aside0.mk H
  clear H
  have hnb10 := NB477_478.out
  have hnc10 := NB478_477.out
  have hnb11 := NB477_479.out
  have hnc11 := NB479_477.out
  have hz12 := cf6_ BK477.out
  go_wp2_with (first | ((with_reducible refine gC_ 24 ?_); refine gM_ (some 10) Tryd.func24 #[.agg #[.int .i64 a0_0, .int .i64 a0_1, .int .i64 a0_2, .int .i64 a0_3, .int .i64 a0_4, .bool a0_5]] ?_; (with_reducible refine (spec_shGood.calls k a0_0 a0_1 a0_2 a0_3 a0_4 a0_5 true _ A7.out).mono ?_); rintro e w13 ⟨rfl, hb⟩; refine ⟨_, rfl, ?_⟩; replace BK477 := aM_ (blk_below (g := gb477) (kR_ BK477) hb); replace BK478 := aM_ (blk_below (g := gb478) (kR_ BK478) hb); replace BK479 := aM_ (blk_below (g := gb479) (kR_ BK479) hb); replace HB := aM_ (below_step hB_ hb); (try clear hb); have hnb14 := NB478_479.out; have hnc14 := NB479_478.out; have hz15 := cf6_ BK478.out) | (go_at_call 24; (with_reducible refine (spec_shGood.calls k a1_0 a1_1 a1_2 a1_3 a1_4 a1_5 t481 _ A9.out).mono ?_); rintro e w16 ⟨rfl, hb⟩; replace BK477 := aM_ (blk_below (g := gb477) (kR_ BK477) hb); replace BK478 := aM_ (blk_below (g := gb478) (kR_ BK478) hb); replace BK479 := aM_ (blk_below (g := gb479) (kR_ BK479) hb); replace HB := aM_ (below_step hB_ hb); (try clear hb)))
  go_meet
  case rel => exact ⟨_, (!t481), z12_0_, H', ⟨oR_⟩, ⟨kP_⟩, ⟨kP_⟩, ⟨kP_⟩, ⟨hB_⟩⟩
 case rest =>
  clear HC3
  obtain ⟨kq, x16_2, rfl, HA, HJ2, BK477, BK478, BK479, HB⟩ := hcut
  cases kq with
  | zero => exact absurd HA.out (by simp [spec_BetweenShapes.j0])
  | succ kj2 =>
   have H := HA.out
   clear HA
   simp only [spec_BetweenShapes.j0] at H
   by_cases c21 : x16_2 = true
   ·subst c21
    replace H := ip_ H rfl
    simp only [Option.some.injEq, Prod.mk.injEq] at H
    obtain ⟨rfl, rfl, rfl, rfl, rfl, rfl, rfl⟩ := H
    clear BK477 BK478
    have hz22 := cf6_ BK479.out
    go_wp2
    refine bodyPost_ret (results_ct rfl _ _ gb479 25 #[.int .i64 0, .int .i64 0, .int .i64 0, .int .i64 0, .int .i64 0, .bool false] (0, 0) _ rfl (by (with_reducible repeat (first | apply kN_ | apply kD_ | apply kA_)); refine blk_put (cs := #[.int .i64 0, .int .i64 0, .int .i64 0, .int .i64 0, .int .i64 0, .bool false]) ?_ 5 _ rfl; (with_reducible repeat (first | apply kN_ | apply kD_ | apply kA_)); refine blk_put (cs := #[.int .i64 0, .int .i64 0, .int .i64 0, .int .i64 0, .int .i64 0, .bool false]) ?_ 4 _ rfl; (with_reducible repeat (first | apply kN_ | apply kD_ | apply kA_)); refine blk_put (cs := #[.int .i64 0, .int .i64 0, .int .i64 0, .int .i64 0, .int .i64 0, .bool false]) ?_ 3 _ rfl; (with_reducible repeat (first | apply kN_ | apply kD_ | apply kA_)); refine blk_put (cs := #[.int .i64 0, .int .i64 0, .int .i64 0, .int .i64 0, .int .i64 0, .bool false]) ?_ 2 _ rfl; (with_reducible repeat (first | apply kN_ | apply kD_ | apply kA_)); refine blk_put (cs := #[.int .i64 0, .int .i64 0, .int .i64 0, .int .i64 0, .int .i64 0, .bool false]) ?_ 1 _ rfl; (with_reducible repeat (first | apply kN_ | apply kD_ | apply kA_)); refine blk_put (cs := #[.int .i64 0, .int .i64 0, .int .i64 0, .int .i64 0, .int .i64 0, .bool false]) ?_ 0 _ rfl; (with_reducible repeat (first | apply kN_ | apply kD_ | apply kA_)); exact BK479.out) Tryd.underlying25 rfl (by kernel_rfl)) rfl ?_
    exact ⟨rT_, hB_⟩
   replace c21 := Bool.eq_false_iff.mpr c21
   subst c21
   replace H := in_ H (show ¬ (false = true) by decide)
   replace H := ob_ H; obtain ⟨t482, A23, H⟩ := H; try dsimp only at H
   have H' := Aside0.mk H
   clear H
   have hnb24 := NB477_478.out
   have hnc24 := NB478_477.out
   have hnb25 := NB477_479.out
   have hnc25 := NB479_477.out
   have hz26 := cf6_ BK477.out
   go_wp2_with (first | ((with_reducible refine gC_ 25 ?_); refine gM_ (some 19) Tryd.func25 #[.agg #[.int .i64 a0_0, .int .i64 a0_1, .int .i64 a0_2, .int .i64 a0_3, .int .i64 a0_4, .bool a0_5]] ?_; (with_reducible refine (spec_shFingers.calls a0_0 a0_1 a0_2 a0_3 a0_4 a0_5 t482 _ A23.out).mono ?_); rintro e w27 ⟨v483, rfl, ho0, hb⟩; refine ⟨_, rfl, ?_⟩; have HO484 := aM_ (Kd.R_lower ho0 (below_size hB_)); replace BK477 := aM_ (blk_below (g := gb477) (kR_ BK477) hb); replace BK478 := aM_ (blk_below (g := gb478) (kR_ BK478) hb); replace BK479 := aM_ (blk_below (g := gb479) (kR_ BK479) hb); replace HB := aM_ (below_step hB_ hb); (try clear hb); (try clear ho0); obtain ⟨Ao28, co28, eo28⟩ := Kd.R_slice HO484.out; subst eo28))
   go_loopg [6, 21] kj2 (fun kq v6 v21 w' => ∃ (x6_2 : List Int) (x21_2 : Int), v21 = .int .i64 x21_2 ∧ Aside0 (spec_BetweenShapes.l0 kq x6_2 t482 (t482.length : Int) x21_2 a0_0 a0_1 a0_2 a0_3 a0_4 a0_5 a1_0 a1_1 a1_2 a1_3 a1_4 a1_5 = some (r1, r2, r3, r4, r5, r6, r7)) ∧ Aside0 (kq ≤ kj2) ∧ Aside0 (Kd.R (Kd.int .i64) 3 w' w.heap.size (fun k_ => some k_ ≠ ((.slice Ao28 t482.length co28) : Value).ownBlock) v6 x6_2) ∧ Aside0 (Kd.R (Kd.int .i64) 3 w' w.heap.size (fun k_ => some k_ ≠ (v6 : Value).ownBlock) (.slice Ao28 t482.length co28) t482) ∧ Aside0 (w'.heap[gb477]? = some (.cells #[.int .i64 a0_0, .int .i64 a0_1, .int .i64 a0_2, .int .i64 a0_3, .int .i64 a0_4, .bool a0_5] 25 (0, 0))) ∧ Aside0 (w'.heap[gb478]? = some (.cells #[.int .i64 a1_0, .int .i64 a1_1, .int .i64 a1_2, .int .i64 a1_3, .int .i64 a1_4, .bool a1_5] 25 (0, 0))) ∧ Aside0 (w'.heap[gb479]? = some (.cells #[.int .i64 0, .int .i64 0, .int .i64 0, .int .i64 0, .int .i64 0, .bool false] 25 (0, 0))) ∧ Aside0 (Below w.heap.size w w'))
   case atStart => exact ⟨(([] : List Int)), (0), z12_0_, H', ⟨Nat.le_refl _⟩, ⟨by first | exact Kd.R_nil _ _ _ _ _ | exact Kd.N_nil _ _ _ _ _ | exact Kd.V_nil _ _ _ _ _ | exact Kd.Q_nil _ _ _ _ _ | exact Kd.S_nil _ _ _ _ _⟩, ⟨rM_ HO484 (fun _ hk => (by simp [Value.ownBlock]))⟩, ⟨kP_⟩, ⟨kP_⟩, ⟨kP_⟩, ⟨hB_⟩⟩
   case round =>
    clear H'
    (try clear c21);(try clear hcz26_0);(try clear hcz26_1);(try clear hcz26_2);(try clear hcz26_3);(try clear hcz26_4);(try clear hcz26_5);(try clear hfz26_0);(try clear hfz26_1);(try clear hfz26_2);(try clear hfz26_3);(try clear hfz26_4);(try clear hfz26_5)
    obtain ⟨x6_2, x21_2, rfl, HA, HK2, HO_6, HO_19, BK477, BK478, BK479, HB⟩ := hrel
    cases gk with
    | zero => exact absurd HA.out (by simp [spec_BetweenShapes.l0])
    | succ k2 =>
     have H := HA.out
     clear HA
     simp only [spec_BetweenShapes.l0] at H
     replace H := iF_ H; obtain ⟨c29b0, H⟩ | ⟨c29b0, H⟩ := H
     ·replace H := ob_ H; obtain ⟨⟨t493, t494, t495, t496, t497, t498⟩, A41, H⟩ := H; try dsimp only at H
      simp only [Option.some.injEq, Prod.mk.injEq] at H
      obtain ⟨rfl, rfl, rfl, rfl, rfl, rfl, rfl⟩ := H
      clear BK478
      have hnb42 := NB477_479.out
      have hnc42 := NB479_477.out
      have hz43 := cf6_ BK477.out
      clear BK477
      obtain ⟨Ao44, co44, eo44⟩ := Kd.R_slice HO_6.out
      subst eo44
      go_wp2_with (first | ((with_reducible refine gC_ 30 ?_); refine gM_ (some 41) Tryd.func30 #[.int .i64 a0_0, .slice Ao44 x6_2.length co44, .bool false] ?_; (with_reducible refine (spec_shMade.calls k2 a0_0 _ _ x6_2 false t493 t494 t495 t496 t497 t498 _ ?side1 ?side2 A41.out).mono ?_); (case side1 => exact cR_ HO_6); (case side2 => exact (Kd.R_reads' HO_6.out).2.1); rintro e w45 ⟨rfl, hb⟩; refine ⟨_, rfl, ?_⟩; replace HO_6 := aM_ (Kd.R_below (rR_ HO_6) hb); replace HO_19 := aM_ (Kd.R_below (rR_ HO_19) hb); replace BK479 := aM_ (blk_below (g := gb479) (kR_ BK479) hb); replace HB := aM_ (below_step hB_ hb); (try clear hb); have hz46 := cf6_ BK479.out))
      refine bodyPost_ret (results_ct rfl _ _ gb479 25 #[.int .i64 t493, .int .i64 t494, .int .i64 t495, .int .i64 t496, .int .i64 t497, .bool t498] (0, 0) _ rfl (by (with_reducible repeat (first | apply kN_ | apply kD_ | apply kA_)); refine blk_put (cs := #[.int .i64 t493, .int .i64 t494, .int .i64 t495, .int .i64 t496, .int .i64 t497, .bool false]) ?_ 5 _ rfl; (with_reducible repeat (first | apply kN_ | apply kD_ | apply kA_)); refine blk_put (cs := #[.int .i64 t493, .int .i64 t494, .int .i64 t495, .int .i64 t496, .int .i64 0, .bool false]) ?_ 4 _ rfl; (with_reducible repeat (first | apply kN_ | apply kD_ | apply kA_)); refine blk_put (cs := #[.int .i64 t493, .int .i64 t494, .int .i64 t495, .int .i64 0, .int .i64 0, .bool false]) ?_ 3 _ rfl; (with_reducible repeat (first | apply kN_ | apply kD_ | apply kA_)); refine blk_put (cs := #[.int .i64 t493, .int .i64 t494, .int .i64 0, .int .i64 0, .int .i64 0, .bool false]) ?_ 2 _ rfl; (with_reducible repeat (first | apply kN_ | apply kD_ | apply kA_)); refine blk_put (cs := #[.int .i64 t493, .int .i64 0, .int .i64 0, .int .i64 0, .int .i64 0, .bool false]) ?_ 1 _ rfl; (with_reducible repeat (first | apply kN_ | apply kD_ | apply kA_)); refine blk_put (cs := #[.int .i64 0, .int .i64 0, .int .i64 0, .int .i64 0, .int .i64 0, .bool false]) ?_ 0 _ rfl; (with_reducible repeat (first | apply kN_ | apply kD_ | apply kA_)); exact BK479.out) Tryd.underlying25 rfl (by kernel_rfl)) rfl ?_
      exact ⟨rT_, hB_⟩
     replace H := ig_ H; obtain ⟨c30b0, H⟩ := H
     replace H := ig_ H; obtain ⟨c31b0, H⟩ := H
     replace H := ob_ H; obtain ⟨t486, A32, H⟩ := H; try dsimp only at H
     replace H := ig_ H; obtain ⟨c33b0, H⟩ := H
     replace H := il_ H; obtain ⟨LMc34, H⟩ := H
     obtain ⟨y490, hy490⟩ : ∃ y_ : List Int, y_ = (x6_2 ++ [wrap64 (Int.tdiv (wrap64 ((rd t482 x21_2) + (rd t486 x21_2))) 2)]) := ⟨_, rfl⟩
     rw [← hy490] at H
     have Ny490 := Aside0.mk hy490; clear hy490
     have H' := Aside0.mk H
     clear H
     obtain ⟨⟨ad485, e485, hx485_0⟩, p485, q485⟩ := at2_ (Kd.at_int (Kd.R_reads' HO_19.out).2.2 x21_2); cases e485
     have hnb35 := NB478_477.out
     have hnc35 := NB477_478.out
     have hnb36 := NB478_479.out
     have hnc36 := NB479_478.out
     have hz37 := cf6_ BK478.out
     go_wp2_with (first | ((with_reducible refine gC_ 25 ?_); refine gM_ (some 29) Tryd.func25 #[.agg #[.int .i64 a1_0, .int .i64 a1_1, .int .i64 a1_2, .int .i64 a1_3, .int .i64 a1_4, .bool a1_5]] ?_; (with_reducible refine (spec_shFingers.calls a1_0 a1_1 a1_2 a1_3 a1_4 a1_5 t486 _ A32.out).mono ?_); rintro e w38 ⟨v487, rfl, ho0, hb⟩; refine ⟨_, rfl, ?_⟩; have HO488 := aM_ (Kd.R_lower (Kd.R_new' (Kd.R_new' ho0 (Kd.R_lt (rR_ HO_6))) (Kd.R_lt (rR_ HO_19))) (below_size hB_)); replace HO_6 := aM_ (Kd.R_elder' (rR_ HO_6) (Kd.R_base ho0) hb); replace HO_19 := aM_ (Kd.R_elder' (rR_ HO_19) (Kd.R_base ho0) hb); replace BK477 := aM_ (blk_below (g := gb477) (kR_ BK477) hb); replace BK478 := aM_ (blk_below (g := gb478) (kR_ BK478) hb); replace BK479 := aM_ (blk_below (g := gb479) (kR_ BK479) hb); replace HB := aM_ (below_step hB_ hb); (try clear hb); (try clear hk); (try clear ho0); obtain ⟨Ao39, co39, eo39⟩ := Kd.R_slice HO488.out; subst eo39; have p489 : 0 ≤ (x21_2 : Int) := ode_; have q489 : x21_2 < (t486.length : Int) := ode_; obtain ⟨ad489, e489, hx489_0⟩ := Kd.at_int (Kd.R_reads' HO488.out).2.2 x21_2 p489 q489; cases e489; replace p489 := eq_true p489; replace q489 := eq_true q489) | ((with_reducible refine gate_builtin (b := .append) (xs := #[.tmp 26, .tmp 35]) rfl ?_); at_builtin; refine Kd.R_append (Kd.int .i64) (w0 := w) w.heap.size rfl (.tmp 26) (.tmp 35) 42 3 (.int .i64 0) 8 rfl Tryd.underlying42 info3 rfl (by decide) (by omega) u6 x6_2 (wrap64 (Int.tdiv (wrap64 ((rd t482 x21_2) + (rd t486 x21_2))) 2)) [.int .i64 (wrap64 (Int.tdiv (wrap64 ((rd t482 x21_2) + (rd t486 x21_2))) 2))] (fun k_ => some k_ ≠ (.slice (some ad485) t482.length co28 : Value).ownBlock ∧ some k_ ≠ (.slice (some ad489) t486.length co39 : Value).ownBlock) (fun _ => False) rfl rfl ?aP (fun _ hk => hk.elim) ?aF ?aO ?aB ?aS ?aL ?_; (case aP => exact rfl); (case aB => exact hB_); (case aF => exact (fun k_ hk => ⟨Kd.fresh' (Kd.R_lt (rR_ HO_19)) k_ hk, Kd.fresh' (Kd.R_lt (rR_ HO488)) k_ hk⟩)); (case aO => exact (rR_ HO_6)); (case aS => exact (below_size hB_)); (case aL => have := LMc34.out; omega); intro v491 w40 ho hb hg hat; rw [← Ny490.out] at ho; have HO492 := aM_ (ho); replace HO_19 := aM_ (Kd.R_after (ok := (fun k_ => some k_ ≠ (.slice (some ad489) t486.length co39 : Value).ownBlock)) (rM_ HO_19 (fun _ hk => ⟨hk.2, hk.1⟩)) hg hat); replace BK477 := aM_ (blk_grown (g := gb477) (kR_ BK477) hg (Kd.R_ne HO_6.out BK477.out (by decide))); replace BK478 := aM_ (blk_grown (g := gb478) (kR_ BK478) hg (Kd.R_ne HO_6.out BK478.out (by decide))); replace BK479 := aM_ (blk_grown (g := gb479) (kR_ BK479) hg (Kd.R_ne HO_6.out BK479.out (by decide))); replace HO488 := aM_ (Kd.R_after (ok := (fun k_ => some k_ ≠ (.slice (some ad485) t482.length co28 : Value).ownBlock)) (rM_ HO488 (fun _ hk => ⟨hk.2, hk.1.2⟩)) hg hat); replace HB := aM_ (hb); clear HO_6; clear ho hb hg hat))
     go_roundg k2
     case measure => have := HJ2.out; have := HK2.out; omega
     case rel => exact ⟨(y490), (wrap64 (x21_2 + 1)), z12_0_, H', ⟨by have := HJ2.out; have := HK2.out; omega⟩, ⟨rM_ HO492 (fun _ hk => hk.1)⟩, ⟨rM_ HO_19 (fun _ hk => hk.2)⟩, ⟨kP_⟩, ⟨kP_⟩, ⟨kP_⟩, ⟨hB_⟩⟩

/-! ### laws_pSameShapes: function 12 -/
theorem laws_pSameShapes.calls (k : Nat) (A0 : Option Addr) (c0 : Nat) (l0 : List (S25)) (A1 : Option Addr) (c1 : Nat) (l1 : List (S25)) (r : Bool) (w : World) (hr0 : Kd.C k25 w A0 l0.length l0) (hc0 : l0.length ≤ c0) (hr1 : Kd.C k25 w A1 l1.length l1) (hc1 : l1.length ≤ c1) (h : laws_pSameShapes.f k l0 l1 = some r) :
 Calls Tryd.prog 12 #[.slice A0 l0.length c0, .slice A1 l1.length c1] w fun e w' => e = .returned (.bool r) ∧ Drawn0 w w' := by
 have hu25 := Tryd.underlying25
 have HR0 := Aside0.mk hr0
 have HC0 := Aside0.mk hc0
 clear hr0 hc0
 have HR1 := Aside0.mk hr1
 have HC1 := Aside0.mk hc1
 clear hr1 hc1
 have H : (if (l0.length : Int) = (l1.length : Int) then (laws_pSameShapes.l0 k l0 l1 (l0.length : Int) 0) else (some false)) = some r := h
 clear h
 by_cases c3 : (l0.length : Int) = (l1.length : Int)
 rotate_left
 ·rw [if_neg c3] at H
  have c3b0 : ((l0.length : Int) == (l1.length : Int)) = false := beq_eq_false_iff_ne.mpr c3
  have c3b1 : ((l0.length : Int) != (l1.length : Int)) = true := bne_iff_ne.mpr c3
  have c3b2 : (l0.length == l1.length) = false := by first | simpa using c3 | (simp at c3 ⊢; omega)
  obtain rfl := Option.some.inj H
  go_enter Tryd.func12, Tryd.ntmps12
  go_wp2
  repeat (go_quiet (fail); try go_wp2)
  go_ret
  exact ⟨z12_0_, z12_1_⟩
 rw [if_pos c3] at H
 have c3b0 : ((l0.length : Int) == (l1.length : Int)) = true := beq_iff_eq.mpr c3
 have c3b1 : ((l0.length : Int) != (l1.length : Int)) = false := bne_eq_false_iff_eq.mpr c3
 have c3b2 : (l0.length == l1.length) = true := by first | simpa using c3 | (simp at c3 ⊢; omega)
 clear c3
 have H' := Aside0.mk H
 clear H
 go_enter Tryd.func12, Tryd.ntmps12
 go_wp2
 repeat (go_quiet (fail); try go_wp2)
 go_loopg [13] k (fun kq v13 w' => ∃ (x13_1 : Int), v13 = .int .i64 x13_1 ∧ Aside0 (laws_pSameShapes.l0 kq l0 l1 (l0.length : Int) x13_1 = some r) ∧ Aside0 (kq ≤ k) ∧ Drawn0 w w')
 case atStart => exact ⟨(0), z12_0_, H', ⟨Nat.le_refl _⟩, z12_1_⟩
 case round =>
  clear H'
  (try clear c1);(try clear c3);(try clear c3b0);(try clear c3b1);(try clear c3b2)
  obtain ⟨x13_1, rfl, HA, HK1, ⟨m1, rfl⟩⟩ := hrel
  cases gk with
  | zero => exact absurd HA.out (by simp [laws_pSameShapes.l0])
  | succ k1 =>
   have H := HA.out
   clear HA
   simp only [laws_pSameShapes.l0] at H
   replace H := iF_ H; obtain ⟨c4b0, H⟩ | ⟨c4b0, H⟩ := H
   ·obtain rfl := Option.some.inj H
    go_wp2
    repeat (go_quiet (fail); try go_wp2)
    go_ret
    exact ⟨z12_0_, z12_1_⟩
   replace H := ig_ H; obtain ⟨c5b0, H⟩ := H
   replace H := ig_ H; obtain ⟨c6b0, H⟩ := H
   replace H := ig_ H; obtain ⟨c7b0, H⟩ := H
   by_cases c8 : (!(((rd_T25 l0 x13_1).f0) == ((rd_T25 l1 x13_1).f0)) || (!(((rd_T25 l0 x13_1).f1) == ((rd_T25 l1 x13_1).f1)) || (!(((rd_T25 l0 x13_1).f2) == ((rd_T25 l1 x13_1).f2)) || (!(((rd_T25 l0 x13_1).f3) == ((rd_T25 l1 x13_1).f3)) || (!(((rd_T25 l0 x13_1).f4) == ((rd_T25 l1 x13_1).f4)) || (!(((rd_T25 l0 x13_1).f5) == ((rd_T25 l1 x13_1).f5)))))))) = true
   ·rw [if_pos c8] at H
    have c8b0 : (!(((rd_T25 l0 x13_1).f0) == ((rd_T25 l1 x13_1).f0)) || (!(((rd_T25 l0 x13_1).f1) == ((rd_T25 l1 x13_1).f1)) || (!(((rd_T25 l0 x13_1).f2) == ((rd_T25 l1 x13_1).f2)) || (!(((rd_T25 l0 x13_1).f3) == ((rd_T25 l1 x13_1).f3)) || (!(((rd_T25 l0 x13_1).f4) == ((rd_T25 l1 x13_1).f4)) || (!(((rd_T25 l0 x13_1).f5) == ((rd_T25 l1 x13_1).f5)))))))) = true := c8
    clear c8
    obtain rfl := Option.some.inj H
    obtain ⟨⟨ad499, e499, hx499_0, hx499_1, hx499_2, hx499_3, hx499_4, hx499_5⟩, p499, q499⟩ := at2_ (at_T25 HR0.out x13_1); cases e499
    obtain ⟨⟨ad500, e500, hx500_0, hx500_1, hx500_2, hx500_3, hx500_4, hx500_5⟩, p500, q500⟩ := at2_ (at_T25 HR1.out x13_1); cases e500
    go_wp2
    repeat (go_quiet (fail); try go_wp2)
    go_ret
    exact ⟨z12_0_, z12_1_⟩
   rw [if_neg c8] at H
   have c8b0 : (!(((rd_T25 l0 x13_1).f0) == ((rd_T25 l1 x13_1).f0)) || (!(((rd_T25 l0 x13_1).f1) == ((rd_T25 l1 x13_1).f1)) || (!(((rd_T25 l0 x13_1).f2) == ((rd_T25 l1 x13_1).f2)) || (!(((rd_T25 l0 x13_1).f3) == ((rd_T25 l1 x13_1).f3)) || (!(((rd_T25 l0 x13_1).f4) == ((rd_T25 l1 x13_1).f4)) || (!(((rd_T25 l0 x13_1).f5) == ((rd_T25 l1 x13_1).f5)))))))) = false := by simpa using c8
   clear c8
   have H' := Aside0.mk H
   clear H
   obtain ⟨⟨ad499, e499, hx499_0, hx499_1, hx499_2, hx499_3, hx499_4, hx499_5⟩, p499, q499⟩ := at2_ (at_T25 HR0.out x13_1); cases e499
   obtain ⟨⟨ad500, e500, hx500_0, hx500_1, hx500_2, hx500_3, hx500_4, hx500_5⟩, p500, q500⟩ := at2_ (at_T25 HR1.out x13_1); cases e500
   go_wp2
   repeat (go_quiet (fail); try go_wp2)
   go_roundg k1
   case measure => have := HK1.out; omega
   case rel => exact ⟨(wrap64 (x13_1 + 1)), z12_0_, H', ⟨by have := HK1.out; omega⟩, z12_1_⟩

/-! ### spec_DrawIsShape: function 33 -/
theorem spec_DrawIsShape.calls (k : Nat) (A0 : Option Addr) (c0 : Nat) (l0 : List Int) (r1 : Int) (r2 : Int) (r3 : Int) (r4 : Int) (r5 : Int) (r6 : Bool) (w : World) (hr0 : Kd.C (Kd.int .u8) w A0 l0.length l0) (hc0 : l0.length ≤ c0) (h : spec_DrawIsShape.f k l0 = some (r1, r2, r3, r4, r5, r6)) :
 Calls Tryd.prog 33 #[.slice A0 l0.length c0] w fun e w' => e = .returned (.agg #[.int .i64 r1, .int .i64 r2, .int .i64 r3, .int .i64 r4, .int .i64 r5, .bool r6]) ∧ Below w.heap.size w w' := by
 have hu25 := Tryd.underlying25
 have hu59 := Tryd.underlying59
 have HR0 := Aside0.mk hr0
 have HC0 := Aside0.mk hc0
 clear hr0 hc0
 have HB := Aside0.mk (Below.refl w.heap.size w)
 have H : ((spec_l1Cur_anyShape.f k l0 0 0).bind fun bt503 => (some (bt503.1, bt503.2.1, bt503.2.2.1, bt503.2.2.2.1, bt503.2.2.2.2.1, bt503.2.2.2.2.2.1))) = some (r1, r2, r3, r4, r5, r6) := h
 clear h
 replace H := ob_ H; obtain ⟨⟨t503, t504, t505, t506, t507, t508, t509, t510⟩, A2, H⟩ := H; try dsimp only at H
 simp only [Option.some.injEq, Prod.mk.injEq] at H
 obtain ⟨rfl, rfl, rfl, rfl, rfl, rfl⟩ := H
 go_enter Tryd.func33, Tryd.ntmps33
 go_wp2_with (first | ((with_reducible refine gate_dst (N := 2) rfl ?_); refine bx_ 2 #[.int .i64 0, .int .i64 0, .int .i64 0, .int .i64 0, .int .i64 0, .bool false] 25 fun gb501 hg w3 hbox hb => ?_; have BK501 := aM_ (hbox); have GW501 := aM_ (gw_ w hg); have GE501 := aM_ (gw_ w hg); replace HB := aM_ (below_step hB_ hb); clear hb hbox hg) | ((with_reducible refine gate_dst (N := 6) rfl ?_); refine bx_ 6 #[.slice A0 l0.length c0, .int .i64 0, .int .u64 0] 59 fun gb502 hg w4 hbox hb => ?_; have NB501_502 := aM_ (nR_ BK501 hg); have NB502_501 := aM_ (mR_ BK501 hg); have HI502 := aM_ ((show IsS59 w w4 gb502 l0 0 0 from ⟨A0, c0, hbox, (by rw [hg]; exact (below_size hB_) : w.heap.size ≤ gb502), HR0.out⟩)); replace BK501 := aM_ (blk_below (g := gb501) (kR_ BK501) hb); replace HB := aM_ (below_step hB_ hb); clear hb hbox hg) | ((with_reducible refine gC_ 42 ?_); refine gM_ (some 8) Tryd.func42 #[.pointer (some ⟨gb502, 0, none⟩)] ?_; (with_reducible refine (spec_l1Cur_anyShape.calls k gb502 l0 0 0 t503 t504 t505 t506 t507 t508 t509 t510 w _ ?side1 ?side2 A2.out).mono ?_); (case side1 => exact (by repeat (first | (with_reducible first | exact HI502.out | apply IsS59.alloc | apply IsS59.drewN | apply IsS59.drew | apply IsS59.set_1 | apply IsS59.set_2 | refine IsS59.far ?_ (Aside0.out (by assumption)) _) | exact HI502.out))); (case side2 => exact z12_2_); rintro e w5 ⟨rfl, hi, hb, hk⟩; refine ⟨_, rfl, ?_⟩; replace BK501 := aM_ (KeepBut.blk hk (g' := gb501) (o := .cells #[.int .i64 0, .int .i64 0, .int .i64 0, .int .i64 0, .int .i64 0, .bool false] 25 (0, 0)) (kR_ BK501) NB501_502.out (by simp)); replace HB := aM_ (hb); replace HI502 := aM_ (hi); (try clear hb); (try clear hk); (try clear hi); have hnb6 := NB501_502.out; have hnc6 := NB502_501.out; have hz7 := cf6_ BK501.out))
 refine bodyPost_ret (results_cell_row rfl _ _ gb501 25 #[.int .i64 t503, .int .i64 t504, .int .i64 t505, .int .i64 t506, .int .i64 t507, .bool t508] (0, 0) _ rfl (by (with_reducible repeat (first | apply kN_ | apply kD_ | apply kA_)); refine blk_put (cs := #[.int .i64 t503, .int .i64 t504, .int .i64 t505, .int .i64 t506, .int .i64 t507, .bool false]) ?_ 5 _ rfl; (with_reducible repeat (first | apply kN_ | apply kD_ | apply kA_)); refine blk_put (cs := #[.int .i64 t503, .int .i64 t504, .int .i64 t505, .int .i64 t506, .int .i64 0, .bool false]) ?_ 4 _ rfl; (with_reducible repeat (first | apply kN_ | apply kD_ | apply kA_)); refine blk_put (cs := #[.int .i64 t503, .int .i64 t504, .int .i64 t505, .int .i64 0, .int .i64 0, .bool false]) ?_ 3 _ rfl; (with_reducible repeat (first | apply kN_ | apply kD_ | apply kA_)); refine blk_put (cs := #[.int .i64 t503, .int .i64 t504, .int .i64 0, .int .i64 0, .int .i64 0, .bool false]) ?_ 2 _ rfl; (with_reducible repeat (first | apply kN_ | apply kD_ | apply kA_)); refine blk_put (cs := #[.int .i64 t503, .int .i64 0, .int .i64 0, .int .i64 0, .int .i64 0, .bool false]) ?_ 1 _ rfl; (with_reducible repeat (first | apply kN_ | apply kD_ | apply kA_)); refine blk_put (cs := #[.int .i64 0, .int .i64 0, .int .i64 0, .int .i64 0, .int .i64 0, .bool false]) ?_ 0 _ rfl; (with_reducible repeat (first | apply kN_ | apply kD_ | apply kA_)); exact BK501.out) Tryd.underlying25 rfl (by kernel_rfl)) rfl ?_
 exact ⟨rT_, z12_2_⟩

/-! ### spec_DrawShapeText: function 14 -/
theorem spec_DrawShapeText.calls (k : Nat) (A0 : Option Addr) (c0 : Nat) (l0 : List Int) (r1 : Int) (r2 : Int) (r3 : Int) (r4 : Int) (r5 : Int) (r6 : Bool) (w : World) (hr0 : Kd.C (Kd.int .u8) w A0 l0.length l0) (hc0 : l0.length ≤ c0) (h : spec_DrawShapeText.f k l0 = some (r1, r2, r3, r4, r5, r6)) :
 Calls Tryd.prog 14 #[.slice A0 l0.length c0] w fun e w' => e = .returned (.agg #[.int .i64 r1, .int .i64 r2, .int .i64 r3, .int .i64 r4, .int .i64 r5, .bool r6]) ∧ Below w.heap.size w w' := by
 have hu25 := Tryd.underlying25
 have HR0 := Aside0.mk hr0
 have HC0 := Aside0.mk hc0
 clear hr0 hc0
 have HB := Aside0.mk (Below.refl w.heap.size w)
 have H : ((spec_DrawIsShape.f k l0).bind fun bt512 => (some (bt512.1, bt512.2.1, bt512.2.2.1, bt512.2.2.2.1, bt512.2.2.2.2.1, bt512.2.2.2.2.2))) = some (r1, r2, r3, r4, r5, r6) := h
 clear h
 replace H := ob_ H; obtain ⟨⟨t512, t513, t514, t515, t516, t517⟩, A2, H⟩ := H; try dsimp only at H
 simp only [Option.some.injEq, Prod.mk.injEq] at H
 obtain ⟨rfl, rfl, rfl, rfl, rfl, rfl⟩ := H
 go_enter Tryd.func14, Tryd.ntmps14
 go_wp2_with (first | ((with_reducible refine gate_dst (N := 2) rfl ?_); refine bx_ 2 #[.int .i64 0, .int .i64 0, .int .i64 0, .int .i64 0, .int .i64 0, .bool false] 25 fun gb511 hg w3 hbox hb => ?_; have BK511 := aM_ (hbox); have GW511 := aM_ (gw_ w hg); have GE511 := aM_ (gw_ w hg); replace HB := aM_ (below_step hB_ hb); clear hb hbox hg) | ((with_reducible refine gC_ 33 ?_); refine gM_ (some 4) Tryd.func33 #[.slice A0 l0.length c0] ?_; (with_reducible refine (spec_DrawIsShape.calls k _ _ l0 t512 t513 t514 t515 t516 t517 _ ?side1 ?side2 A2.out).mono ?_); (case side1 => exact (by repeat (first | exact (Kd.C_below HR0.out HB.out) | (with_reducible first | apply cA_ | apply cN_ | apply cD_)))); (case side2 => exact HC0.out); rintro e w4 ⟨rfl, hb⟩; refine ⟨_, rfl, ?_⟩; replace BK511 := aM_ (blk_below (g := gb511) (kR_ BK511) hb); replace HB := aM_ (below_step hB_ hb); (try clear hb); have hz5 := cf6_ BK511.out))
 refine bodyPost_ret (results_cell_row rfl _ _ gb511 25 #[.int .i64 t512, .int .i64 t513, .int .i64 t514, .int .i64 t515, .int .i64 t516, .bool t517] (0, 0) _ rfl (by (with_reducible repeat (first | apply kN_ | apply kD_ | apply kA_)); refine blk_put (cs := #[.int .i64 t512, .int .i64 t513, .int .i64 t514, .int .i64 t515, .int .i64 t516, .bool false]) ?_ 5 _ rfl; (with_reducible repeat (first | apply kN_ | apply kD_ | apply kA_)); refine blk_put (cs := #[.int .i64 t512, .int .i64 t513, .int .i64 t514, .int .i64 t515, .int .i64 0, .bool false]) ?_ 4 _ rfl; (with_reducible repeat (first | apply kN_ | apply kD_ | apply kA_)); refine blk_put (cs := #[.int .i64 t512, .int .i64 t513, .int .i64 t514, .int .i64 0, .int .i64 0, .bool false]) ?_ 3 _ rfl; (with_reducible repeat (first | apply kN_ | apply kD_ | apply kA_)); refine blk_put (cs := #[.int .i64 t512, .int .i64 t513, .int .i64 0, .int .i64 0, .int .i64 0, .bool false]) ?_ 2 _ rfl; (with_reducible repeat (first | apply kN_ | apply kD_ | apply kA_)); refine blk_put (cs := #[.int .i64 t512, .int .i64 0, .int .i64 0, .int .i64 0, .int .i64 0, .bool false]) ?_ 1 _ rfl; (with_reducible repeat (first | apply kN_ | apply kD_ | apply kA_)); refine blk_put (cs := #[.int .i64 0, .int .i64 0, .int .i64 0, .int .i64 0, .int .i64 0, .bool false]) ?_ 0 _ rfl; (with_reducible repeat (first | apply kN_ | apply kD_ | apply kA_)); exact BK511.out) Tryd.underlying25 rfl (by kernel_rfl)) rfl ?_
 exact ⟨rT_, hB_⟩

/-! ### strconv_Itoa: function 51, by hand -/
open Go.Shelf Go.RowKit Go.Sort Go.Lib in
def laid_lays171_ren : Go.Shelf.Ren := ⟨fun | 171 => 51 | 243 => 58 | 246 => 59 | 283 => 60 | 284 => 61 | 285 => 62 | 286 => 63 | 129 => 65 | 317 => 64 | 318 => 66 | 319 => 67 | 320 => 68 | 337 => 69 | 338 => 70 | n => n, fun | 3 => 3 | 9 => 9 | 2 => 2 | 4 => 4 | 171 => 73 | 0 => 0 | 53 => 57 | 37 => 22 | 5 => 5 | 173 => 76 | 212 => 79 | 51 => 80 | 20 => 20 | 213 => 81 | 46 => 71 | 232 => 84 | 233 => 85 | n => n, fun | 17 => 0 | 18 => 1 | 19 => 2 | n => n⟩
open Go.Shelf Go.RowKit Go.Sort Go.Lib in
theorem laid_lays171 : Go.Proofs.Lays.n171 Tryd.prog laid_lays171_ren := {
 mixed := by kernel_rfl
 f129 := Tryd.func65.trans (congrArg some (by kernel_rfl))
 f171 := Tryd.func51.trans (congrArg some (by kernel_rfl))
 f243 := Tryd.func58.trans (congrArg some (by kernel_rfl))
 f246 := Tryd.func59.trans (congrArg some (by kernel_rfl))
 f283 := Tryd.func60.trans (congrArg some (by kernel_rfl))
 f284 := Tryd.func61.trans (congrArg some (by kernel_rfl))
 f285 := Tryd.func62.trans (congrArg some (by kernel_rfl))
 f286 := Tryd.func63.trans (congrArg some (by kernel_rfl))
 f317 := Tryd.func64.trans (congrArg some (by kernel_rfl))
 f318 := Tryd.func66.trans (congrArg some (by kernel_rfl))
 f319 := Tryd.func67.trans (congrArg some (by kernel_rfl))
 f320 := Tryd.func68.trans (congrArg some (by kernel_rfl))
 f337 := Tryd.func69.trans (congrArg some (by kernel_rfl))
 f338 := Tryd.func70.trans (congrArg some (by kernel_rfl))
 t0 := Tryd.underlying0
 a0 := Tryd.isAgg0
 z0 := Tryd.sizeOf0
 v0 := Tryd.zeroValue0
 t2 := Tryd.underlying2
 a2 := Tryd.isAgg2
 z2 := Tryd.sizeOf2
 v2 := Tryd.zeroValue2
 t3 := Tryd.underlying3
 a3 := Tryd.isAgg3
 z3 := Tryd.sizeOf3
 v3 := Tryd.zeroValue3
 t4 := Tryd.underlying4
 a4 := Tryd.isAgg4
 z4 := Tryd.sizeOf4
 v4 := Tryd.zeroValue4
 t5 := Tryd.underlying5
 a5 := Tryd.isAgg5
 z5 := Tryd.sizeOf5
 v5 := Tryd.zeroValue5
 t9 := Tryd.underlying9
 a9 := Tryd.isAgg9
 z9 := Tryd.sizeOf9
 v9 := Tryd.zeroValue9
 t20 := Tryd.underlying20
 a20 := Tryd.isAgg20
 z20 := Tryd.sizeOf20
 v20 := Tryd.zeroValue20
 t37 := Tryd.underlying22
 a37 := Tryd.isAgg22
 z37 := Tryd.sizeOf22
 v37 := Tryd.zeroValue22
 t46 := Tryd.underlying71
 a46 := Tryd.isAgg71
 z46 := Tryd.sizeOf71
 v46 := Tryd.zeroValue71
 t51 := Tryd.underlying80
 a51 := Tryd.isAgg80
 z51 := Tryd.sizeOf80
 v51 := Tryd.zeroValue80
 t53 := Tryd.underlying57
 a53 := Tryd.isAgg57
 z53 := Tryd.sizeOf57
 v53 := Tryd.zeroValue57
 t171 := Tryd.underlying73
 a171 := Tryd.isAgg73
 z171 := Tryd.sizeOf73
 v171 := Tryd.zeroValue73
 t173 := Tryd.underlying76
 a173 := Tryd.isAgg76
 z173 := Tryd.sizeOf76
 v173 := Tryd.zeroValue76
 t212 := Tryd.underlying79
 a212 := Tryd.isAgg79
 z212 := Tryd.sizeOf79
 v212 := Tryd.zeroValue79
 t213 := Tryd.underlying81
 a213 := Tryd.isAgg81
 z213 := Tryd.sizeOf81
 t232 := Tryd.underlying84
 a232 := Tryd.isAgg84
 z232 := Tryd.sizeOf84
 v232 := Tryd.zeroValue84
 t233 := Tryd.underlying85
 a233 := Tryd.isAgg85
 z233 := Tryd.sizeOf85
 v233 := Tryd.zeroValue85
 g17 := by kernel_rfl
 g18 := by kernel_rfl
 g19 := by kernel_rfl }
theorem strconv_Itoa.same (a0 : Int) (r : ByteArray) (w : World) (h : strconv_Itoa.f a0 = some r) :
 Calls Tryd.prog 51 #[.int .i64 a0] w fun e w' => e = .returned (.string r) ∧ w' = w := by
 unfold strconv_Itoa.f at h
 split at h
 case isFalse => cases h
 case isTrue hl =>
  obtain rfl := Option.some.inj h
  obtain ⟨i, rfl⟩ : ∃ i : Nat, a0 = i := ⟨a0.toNat, by omega⟩
  rw [Int.toNat_natCast]
  exact Any.strconv_Itoa_small laid_lays171 i (by omega) w
theorem strconv_Itoa.calls (a0 : Int) (r : ByteArray) (w : World) (h : strconv_Itoa.f a0 = some r) :
 Calls Tryd.prog 51 #[.int .i64 a0] w fun e w' => e = .returned (.string r) ∧ Drawn0 w w' :=
 (strconv_Itoa.same a0 r w h).mono fun _ _ ⟨he, hw⟩ => ⟨he, by subst hw; exact Drawn0.refl _⟩

/-! ### impl_Shape_text: function 34 -/
theorem impl_Shape_text.calls (k : Nat) (a0_0 : Int) (a0_1 : Int) (a0_2 : Int) (a0_3 : Int) (a0_4 : Int) (a0_5 : Bool) (r : ByteArray) (w : World) (h : impl_Shape_text.f k a0_0 a0_1 a0_2 a0_3 a0_4 a0_5 = some r) :
 Calls Tryd.prog 34 #[.agg #[.int .i64 a0_0, .int .i64 a0_1, .int .i64 a0_2, .int .i64 a0_3, .int .i64 a0_4, .bool a0_5]] w fun e w' => e = .returned (.string r) ∧ Below w.heap.size w w' := by
 have hu25 := Tryd.underlying25
 have HB := Aside0.mk (Below.refl w.heap.size w)
 have H : ((strconv_Itoa.f a0_0).bind fun t519 => ((impl_Shape_bends.f a0_0 a0_1 a0_2 a0_3 a0_4 a0_5).bind fun t520 => (impl_Shape_text.l0 k t519 t520 (t520.length : Int) 0 a0_0 a0_1 a0_2 a0_3 a0_4 a0_5))) = some r := h
 clear h
 replace H := ob_ H; obtain ⟨t519, A2, H⟩ := H; try dsimp only at H
 replace H := ob_ H; obtain ⟨t520, A3, H⟩ := H; try dsimp only at H
 have H' := Aside0.mk H
 clear H
 go_enter Tryd.func34, Tryd.ntmps34
 go_wp2_with (first | ((with_reducible refine gate_dst (N := 1) rfl ?_); refine bx_ 1 #[.int .i64 a0_0, .int .i64 a0_1, .int .i64 a0_2, .int .i64 a0_3, .int .i64 a0_4, .bool a0_5] 25 fun gb518 hg w4 hbox hb => ?_; have BK518 := aM_ (hbox); have GW518 := aM_ (gw_ w hg); have GE518 := aM_ (gw_ w hg); replace HB := aM_ (below_step hB_ hb); clear hb hbox hg; have hz5 := cf6_ BK518.out) | ((with_reducible refine gC_ 51 ?_); refine gM_ (some 8) Tryd.func51 #[.int .i64 a0_0] ?_; (with_reducible refine (strconv_Itoa.calls a0_0 t519 _ A2.out).mono ?_); rintro e w' ⟨rfl, ⟨nd, rfl⟩⟩; refine ⟨_, rfl, ?_⟩) | ((with_reducible refine gC_ 21 ?_); refine gM_ (some 10) Tryd.func21 #[.agg #[.int .i64 a0_0, .int .i64 a0_1, .int .i64 a0_2, .int .i64 a0_3, .int .i64 a0_4, .bool a0_5]] ?_; (with_reducible refine (impl_Shape_bends.calls a0_0 a0_1 a0_2 a0_3 a0_4 a0_5 t520 _ A3.out).mono ?_); rintro e w6 ⟨v521, rfl, ho0, hb⟩; refine ⟨_, rfl, ?_⟩; have HO522 := aM_ (Kd.R_lower ho0 (below_size hB_)); replace BK518 := aM_ (blk_below (g := gb518) (kR_ BK518) hb); replace HB := aM_ (below_step hB_ hb); (try clear hb); (try clear ho0); obtain ⟨Ao7, co7, eo7⟩ := Kd.R_slice HO522.out; subst eo7))
 try simp only [Act.put, List.setIfInBounds_toArray, List.set_cons_zero, List.set_cons_succ]
 go_loopg [3, 12] k (fun kq v3 v12 w' => ∃ (x3_1 : ByteArray) (x12_1 : Int), v3 = .string x3_1 ∧ v12 = .int .i64 x12_1 ∧ Aside0 (impl_Shape_text.l0 kq x3_1 t520 (t520.length : Int) x12_1 a0_0 a0_1 a0_2 a0_3 a0_4 a0_5 = some r) ∧ Aside0 (kq ≤ k) ∧ Aside0 (Kd.R (Kd.int .i64) 3 w' w.heap.size (fun _ => True) (.slice Ao7 t520.length co7) t520) ∧ Aside0 (w'.heap[gb518]? = some (.cells #[.int .i64 a0_0, .int .i64 a0_1, .int .i64 a0_2, .int .i64 a0_3, .int .i64 a0_4, .bool a0_5] 25 (0, 0))) ∧ Aside0 (Below w.heap.size w w'))
 case atStart => exact ⟨(t519), (0), z12_0_, z12_0_, H', ⟨Nat.le_refl _⟩, ⟨rR_ HO522⟩, ⟨kP_⟩, ⟨hB_⟩⟩
 case round =>
  clear H'
  (try clear hcz5_0);(try clear hcz5_1);(try clear hcz5_2);(try clear hcz5_3);(try clear hcz5_4);(try clear hcz5_5);(try clear hfz5_0);(try clear hfz5_1);(try clear hfz5_2);(try clear hfz5_3);(try clear hfz5_4);(try clear hfz5_5)
  obtain ⟨x3_1, x12_1, rfl, rfl, HA, HK1, HO_10, BK518, HB⟩ := hrel
  cases gk with
  | zero => exact absurd HA.out (by simp [impl_Shape_text.l0])
  | succ k1 =>
   have H := HA.out
   clear HA
   simp only [impl_Shape_text.l0] at H
   replace H := iF_ H; obtain ⟨c8b0, H⟩ | ⟨c8b0, H⟩ := H
   ·by_cases c13 : a0_5 = true
    rotate_left
    ·replace c13 := Bool.eq_false_iff.mpr c13
     subst c13
     replace H := in_ H (show ¬ (false = true) by decide)
     obtain rfl := Option.some.inj H
     have hz16 := cf6_ BK518.out
     go_wp2
     go_ret
     exact ⟨rT_, hB_⟩
    subst c13
    replace H := ip_ H rfl
    by_cases c14 : x3_1.size + 1 ≤ 9223372036854775807
    rotate_left
    ·rw [if_neg c14] at H
     exact absurd H (by simp)
    rw [if_pos c14] at H
    have c14b0 := eq_true c14
    have c14b1 : decide (x3_1.size + 1 ≤ 9223372036854775807) = true := decide_eq_true c14
    try have c14b2 : (9223372036854775807 < x3_1.size + 1) = False := eq_false (Nat.not_lt.2 c14)
    obtain rfl := Option.some.inj H
    have hz15 := cf6_ BK518.out
    go_wp2
    go_ret
    exact ⟨rT_, hB_⟩
   replace H := ig_ H; obtain ⟨c9b0, H⟩ := H
   replace H := ig_ H; obtain ⟨c10b0, H⟩ := H
   replace H := ob_ H; obtain ⟨t524, A11, H⟩ := H; try dsimp only at H
   by_cases c12 : x3_1.size + t524.size ≤ 9223372036854775807
   rotate_left
   ·rw [if_neg c12] at H
    exact absurd H (by simp)
   rw [if_pos c12] at H
   have c12b0 := eq_true c12
   have c12b1 : decide (x3_1.size + t524.size ≤ 9223372036854775807) = true := decide_eq_true c12
   try have c12b2 : (9223372036854775807 < x3_1.size + t524.size) = False := eq_false (Nat.not_lt.2 c12)
   have H' := Aside0.mk H
   clear H
   obtain ⟨⟨ad523, e523, hx523_0⟩, p523, q523⟩ := at2_ (Kd.at_int (Kd.R_reads' HO_10.out).2.2 x12_1); cases e523
   go_wp2_with (first | ((with_reducible refine gC_ 51 ?_); refine gM_ (some 18) Tryd.func51 #[.int .i64 (rd t520 x12_1)] ?_; (with_reducible refine (strconv_Itoa.calls (rd t520 x12_1) t524 _ A11.out).mono ?_); rintro e w' ⟨rfl, ⟨nd, rfl⟩⟩; refine ⟨_, rfl, ?_⟩))
   go_roundg k1
   case measure => have := HK1.out; omega
   case rel => exact ⟨(x3_1 ++ t524), (wrap64 (x12_1 + 1)), z12_0_, z12_0_, H', ⟨by have := HK1.out; omega⟩, ⟨rR_ HO_10⟩, ⟨kP_⟩, ⟨hB_⟩⟩

/-! ### impl_ShapeText: function 15 -/
theorem impl_ShapeText.calls (k : Nat) (a0_0 : Int) (a0_1 : Int) (a0_2 : Int) (a0_3 : Int) (a0_4 : Int) (a0_5 : Bool) (r1 : ByteArray) (r2 : Bool) (w : World) (h : impl_ShapeText.f k a0_0 a0_1 a0_2 a0_3 a0_4 a0_5 = some (r1, r2)) :
 Calls Tryd.prog 15 #[.agg #[.int .i64 a0_0, .int .i64 a0_1, .int .i64 a0_2, .int .i64 a0_3, .int .i64 a0_4, .bool a0_5]] w fun e w' => e = .returned (.tuple #[.string r1, .bool r2]) ∧ Below w.heap.size w w' := by
 have hu25 := Tryd.underlying25
 have HB := Aside0.mk (Below.refl w.heap.size w)
 have H : ((impl_IsShape.f k a0_0 a0_1 a0_2 a0_3 a0_4 a0_5).bind fun t526 => (if t526 = true then ((impl_Shape_text.f k a0_0 a0_1 a0_2 a0_3 a0_4 a0_5).bind fun t527 => (some (t527, true))) else (some ((⟨#[]⟩ : ByteArray), false)))) = some (r1, r2) := h
 clear h
 replace H := ob_ H; obtain ⟨t526, A2, H⟩ := H; try dsimp only at H
 have HC3 := Aside0.mk H
 clear H
 go_enter Tryd.func15, Tryd.ntmps15
 go_upto_if 6 with (first | ((with_reducible refine gate_dst (N := 1) rfl ?_); refine bx_ 1 #[.int .i64 a0_0, .int .i64 a0_1, .int .i64 a0_2, .int .i64 a0_3, .int .i64 a0_4, .bool a0_5] 25 fun gb525 hg w4 hbox hb => ?_; have BK525 := aM_ (hbox); have GW525 := aM_ (gw_ w hg); have GE525 := aM_ (gw_ w hg); replace HB := aM_ (below_step hB_ hb); clear hb hbox hg; have hz5 := cf6_ BK525.out) | ((with_reducible refine gC_ 13 ?_); refine gM_ (some 5) Tryd.func13 #[.agg #[.int .i64 a0_0, .int .i64 a0_1, .int .i64 a0_2, .int .i64 a0_3, .int .i64 a0_4, .bool a0_5]] ?_; (with_reducible refine (impl_IsShape.calls k a0_0 a0_1 a0_2 a0_3 a0_4 a0_5 t526 _ A2.out).mono ?_); rintro e w6 ⟨rfl, hb⟩; refine ⟨_, rfl, ?_⟩; replace BK525 := aM_ (blk_below (g := gb525) (kR_ BK525) hb); replace HB := aM_ (below_step hB_ hb); (try clear hb)))
 (try simp only [Act.put, List.setIfInBounds_toArray, List.set_cons_zero, List.set_cons_succ])
 have H := HC3.out
 clear HC3
 by_cases c7 : t526 = true
 rotate_left
 ·replace c7 := Bool.eq_false_iff.mpr c7
  subst c7
  replace H := in_ H (show ¬ (false = true) by decide)
  simp only [Option.some.injEq, Prod.mk.injEq] at H
  obtain ⟨rfl, rfl⟩ := H
  go_wp2
  go_ret2
  exact ⟨rT_, hB_⟩
 subst c7
 replace H := ip_ H rfl
 replace H := ob_ H; obtain ⟨t527, A8, H⟩ := H; try dsimp only at H
 simp only [Option.some.injEq, Prod.mk.injEq] at H
 obtain ⟨rfl, rfl⟩ := H
 have hz9 := cf6_ BK525.out
 clear BK525
 go_wp2_with (first | ((with_reducible refine gC_ 34 ?_); refine gM_ (some 8) Tryd.func34 #[.agg #[.int .i64 a0_0, .int .i64 a0_1, .int .i64 a0_2, .int .i64 a0_3, .int .i64 a0_4, .bool a0_5]] ?_; (with_reducible refine (impl_Shape_text.calls k a0_0 a0_1 a0_2 a0_3 a0_4 a0_5 t527 _ A8.out).mono ?_); rintro e w10 ⟨rfl, hb⟩; refine ⟨_, rfl, ?_⟩; replace HB := aM_ (below_step hB_ hb); (try clear hb)))
 go_ret2
 exact ⟨rT_, hB_⟩

end Go.Proofs.YtbfkpgmdbafmhaaDoor.PFnShapes
