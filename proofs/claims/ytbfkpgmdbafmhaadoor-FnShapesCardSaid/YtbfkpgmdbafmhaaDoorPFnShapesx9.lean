/- Printed for this claim: functions of the program as Lean functions, and that the calls answer so. -/
import Derived.Test.YtbfkpgmdbafmhaaDoorPFnShapesx16
import Derived.Test.YtbfkpgmdbafmhaaDoorPFnShapesx0
import Derived.Test.YtbfkpgmdbafmhaaDoorPFnShapesx1
import Derived.Test.YtbfkpgmdbafmhaaDoorPFnShapesx2
import Derived.Test.YtbfkpgmdbafmhaaDoorPFnShapesx3
import Derived.Test.YtbfkpgmdbafmhaaDoorPFnShapesx8
import Derived.Test.YtbfkpgmdbafmhaaDoorPFnShapesxD0
import Derived.Test.YtbfkpgmdbafmhaaDoorPFnShapesxD1
namespace Go.Proofs.YtbfkpgmdbafmhaaDoor.PFnShapes
open Go.RowKit Go.Proofs.YtbfkpgmdbafmhaaDoorW.PrintWords Go.Proofs.YtbfkpgmdbafmhaaDoorW.PrintLast Go.Proofs.YtbfkpgmdbafmhaaDoorW.PrintMore
attribute [local go_sem] max2_int min2_int max_two min_two max_three min_three max_four min_four isSome_setCell   -- for this text's walks alone
set_option linter.unusedVariables false
set_option linter.unusedSimpArgs false

attribute [local go_sem high] eqA25
theorem z9_0_ {p : Prop} (h : p := by first | rfl | (simp; done) | (simp [*]; done)) : p := h
theorem z9_1_ {p : Prop} (h : p := by (with_reducible repeat (first | apply kN_ | apply kD_ | apply kA_)); refine blk_far ?_ NB372_379.out _; (with_reducible repeat (first | apply kN_ | apply kD_ | apply kA_)); refine blk_far ?_ NB372_379.out _; (with_reducible repeat (first | apply kN_ | apply kD_ | apply kA_)); refine blk_far ?_ NB372_379.out _; (with_reducible repeat (first | apply kN_ | apply kD_ | apply kA_)); refine blk_far ?_ NB372_379.out _; (with_reducible repeat (first | apply kN_ | apply kD_ | apply kA_)); refine blk_far ?_ NB372_379.out _; (with_reducible repeat (first | apply kN_ | apply kD_ | apply kA_)); refine blk_far ?_ NB372_379.out _; (with_reducible repeat (first | apply kN_ | apply kD_ | apply kA_)); exact BK372.out) : p := h
theorem z9_2_ {p : Prop} (h : p := by (with_reducible repeat (first | apply kN_ | apply kD_ | apply kA_)); refine blk_far ?_ NB373_379.out _; (with_reducible repeat (first | apply kN_ | apply kD_ | apply kA_)); refine blk_far ?_ NB373_379.out _; (with_reducible repeat (first | apply kN_ | apply kD_ | apply kA_)); refine blk_far ?_ NB373_379.out _; (with_reducible repeat (first | apply kN_ | apply kD_ | apply kA_)); refine blk_far ?_ NB373_379.out _; (with_reducible repeat (first | apply kN_ | apply kD_ | apply kA_)); refine blk_far ?_ NB373_379.out _; (with_reducible repeat (first | apply kN_ | apply kD_ | apply kA_)); refine blk_far ?_ NB373_379.out _; (with_reducible repeat (first | apply kN_ | apply kD_ | apply kA_)); exact BK373.out) : p := h
theorem z9_3_ {p : Prop} (h : p := by (with_reducible repeat (first | apply kN_ | apply kD_ | apply kA_)); refine blk_put (cs := #[.int .i64 a0_0, .int .i64 a0_1, .int .i64 a0_2, .int .i64 a0_3, .int .i64 a0_4, .bool false]) ?_ 5 _ rfl; (with_reducible repeat (first | apply kN_ | apply kD_ | apply kA_)); refine blk_put (cs := #[.int .i64 a0_0, .int .i64 a0_1, .int .i64 a0_2, .int .i64 a0_3, .int .i64 0, .bool false]) ?_ 4 _ rfl; (with_reducible repeat (first | apply kN_ | apply kD_ | apply kA_)); refine blk_put (cs := #[.int .i64 a0_0, .int .i64 a0_1, .int .i64 a0_2, .int .i64 0, .int .i64 0, .bool false]) ?_ 3 _ rfl; (with_reducible repeat (first | apply kN_ | apply kD_ | apply kA_)); refine blk_put (cs := #[.int .i64 a0_0, .int .i64 a0_1, .int .i64 0, .int .i64 0, .int .i64 0, .bool false]) ?_ 2 _ rfl; (with_reducible repeat (first | apply kN_ | apply kD_ | apply kA_)); refine blk_put (cs := #[.int .i64 a0_0, .int .i64 0, .int .i64 0, .int .i64 0, .int .i64 0, .bool false]) ?_ 1 _ rfl; (with_reducible repeat (first | apply kN_ | apply kD_ | apply kA_)); refine blk_put (cs := #[.int .i64 0, .int .i64 0, .int .i64 0, .int .i64 0, .int .i64 0, .bool false]) ?_ 0 _ rfl; (with_reducible repeat (first | apply kN_ | apply kD_ | apply kA_)); exact BK379.out) : p := h
theorem z9_4_ {p : Prop} (h : p := by first | (go_simp; done) | (go_simp; rfl)) : p := h
theorem z9_5_ {p : Prop} (h : p := by (with_reducible repeat (first | apply kN_ | apply kD_ | apply kA_)); refine blk_put (cs := #[.int .i64 a0_0, .int .i64 a0_1, .int .i64 a0_2, .int .i64 a0_3, .int .i64 a0_4, .bool a0_5]) ?_ 5 _ rfl; (with_reducible repeat (first | apply kN_ | apply kD_ | apply kA_)); exact BK379.out) : p := h
theorem z9_6_ {p : Prop} (h : p := by (with_reducible repeat (first | apply kN_ | apply kD_ | apply kA_)); refine blk_put (cs := #[.int .i64 t412, .int .i64 t413, .int .i64 t414, .int .i64 t415, .int .i64 t416, .bool x380005_4]) ?_ 5 _ rfl; (with_reducible repeat (first | apply kN_ | apply kD_ | apply kA_)); refine blk_put (cs := #[.int .i64 t412, .int .i64 t413, .int .i64 t414, .int .i64 t415, .int .i64 x380004_4, .bool x380005_4]) ?_ 4 _ rfl; (with_reducible repeat (first | apply kN_ | apply kD_ | apply kA_)); refine blk_put (cs := #[.int .i64 t412, .int .i64 t413, .int .i64 t414, .int .i64 x380003_4, .int .i64 x380004_4, .bool x380005_4]) ?_ 3 _ rfl; (with_reducible repeat (first | apply kN_ | apply kD_ | apply kA_)); refine blk_put (cs := #[.int .i64 t412, .int .i64 t413, .int .i64 x380002_4, .int .i64 x380003_4, .int .i64 x380004_4, .bool x380005_4]) ?_ 2 _ rfl; (with_reducible repeat (first | apply kN_ | apply kD_ | apply kA_)); refine blk_put (cs := #[.int .i64 t412, .int .i64 x380001_4, .int .i64 x380002_4, .int .i64 x380003_4, .int .i64 x380004_4, .bool x380005_4]) ?_ 1 _ rfl; (with_reducible repeat (first | apply kN_ | apply kD_ | apply kA_)); refine blk_put (cs := #[.int .i64 x380000_4, .int .i64 x380001_4, .int .i64 x380002_4, .int .i64 x380003_4, .int .i64 x380004_4, .bool x380005_4]) ?_ 0 _ rfl; (with_reducible repeat (first | apply kN_ | apply kD_ | apply kA_)); exact BK379.out) : p := h
theorem z9_7_ {p : Prop} (h : p := by have := HJ2.out; have := HJ17.out; have := HJ36.out; have := HK4.out; have := HK5.out; omega) : p := h
theorem z9_8_ {p : Prop} (h : p := by (with_reducible repeat (first | apply kN_ | apply kD_ | apply kA_)); refine blk_put (cs := #[.int .i64 t400, .int .i64 t401, .int .i64 t402, .int .i64 t403, .int .i64 t404, .bool x380005_5]) ?_ 5 _ rfl; (with_reducible repeat (first | apply kN_ | apply kD_ | apply kA_)); refine blk_put (cs := #[.int .i64 t400, .int .i64 t401, .int .i64 t402, .int .i64 t403, .int .i64 x380004_5, .bool x380005_5]) ?_ 4 _ rfl; (with_reducible repeat (first | apply kN_ | apply kD_ | apply kA_)); refine blk_put (cs := #[.int .i64 t400, .int .i64 t401, .int .i64 t402, .int .i64 x380003_5, .int .i64 x380004_5, .bool x380005_5]) ?_ 3 _ rfl; (with_reducible repeat (first | apply kN_ | apply kD_ | apply kA_)); refine blk_put (cs := #[.int .i64 t400, .int .i64 t401, .int .i64 x380002_5, .int .i64 x380003_5, .int .i64 x380004_5, .bool x380005_5]) ?_ 2 _ rfl; (with_reducible repeat (first | apply kN_ | apply kD_ | apply kA_)); refine blk_put (cs := #[.int .i64 t400, .int .i64 x380001_5, .int .i64 x380002_5, .int .i64 x380003_5, .int .i64 x380004_5, .bool x380005_5]) ?_ 1 _ rfl; (with_reducible repeat (first | apply kN_ | apply kD_ | apply kA_)); refine blk_put (cs := #[.int .i64 x380000_5, .int .i64 x380001_5, .int .i64 x380002_5, .int .i64 x380003_5, .int .i64 x380004_5, .bool x380005_5]) ?_ 0 _ rfl; (with_reducible repeat (first | apply kN_ | apply kD_ | apply kA_)); exact BK379.out) : p := h
theorem z9_9_ {p : Prop} (h : p := by (with_reducible repeat (first | apply rA_ | apply rN_ | apply rD_)); exact (Kd.R_mono (Kd.R_far (p := ⟨gb379, 5, none⟩) (Kd.R_far (p := ⟨gb379, 4, none⟩) (Kd.R_far (p := ⟨gb379, 3, none⟩) (Kd.R_far (p := ⟨gb379, 2, none⟩) (Kd.R_far (p := ⟨gb379, 1, none⟩) (Kd.R_far (p := ⟨gb379, 0, none⟩) (Kd.R_mono HO_6.out (fun k_ hk => (⟨hk, hk.2.2⟩ : _ ∧ k_ ≠ gb379))) (fun _ hk => hk.2) (.int .i64 t400)) (fun _ hk => hk.2) (.int .i64 t401)) (fun _ hk => hk.2) (.int .i64 t402)) (fun _ hk => hk.2) (.int .i64 t403)) (fun _ hk => hk.2) (.int .i64 t404)) (fun _ hk => hk.2) (.bool t405)) (fun _ h_ => h_.1))) : p := h
/-! ### spec_ShapeWay: function 7 -/
def spec_ShapeWay.T12 : Bool × List (List Nat × List Nat) := (true, [([], []), ([], []), ([1], [1]), ([], []), ([3], [3]), ([], []), ([4, 5], [4, 5]), ([6], [6]), ([], []), ([], []), ([9, 4], [9]), ([], []), ([10, 11], [10, 11]), ([12], [12]), ([8, 13], [8, 13]), ([14, 10], [14]), ([7, 15], [7, 15]), ([0, 2, 16, 15], [0, 2, 16]), ([17, 17, 0, 1, 2, 3, 4, 5, 6, 7, 8, 9, 10, 11, 12, 13, 14, 15, 16, 17], [17])])
def spec_ShapeWay.B12 : List Nat := [0, 0, 2, 0, 8, 0, 56, 120, 0, 0, 536, 0, 3608, 7704, 16152, 32536, 65528, 131071, 262143]
theorem spec_ShapeWay.tab12 : rtab .any (opsOf Tryd.f7 12) = spec_ShapeWay.T12 := by kernel_rfl
theorem spec_ShapeWay.bits12 : waitsOk spec_ShapeWay.T12.2 spec_ShapeWay.B12 = true := by kernel_rfl
set_option maxHeartbeats 8000000 in
set_option maxRecDepth 100000 in
theorem spec_ShapeWay.calls (k : Nat) (a0_0 : Int) (a0_1 : Int) (a0_2 : Int) (a0_3 : Int) (a0_4 : Int) (a0_5 : Bool) (a1_0 : Int) (a1_1 : Int) (a1_2 : Int) (a1_3 : Int) (a1_4 : Int) (a1_5 : Bool) (r1 : List (S25)) (r2 : Bool) (w : World) (h : spec_ShapeWay.f k a0_0 a0_1 a0_2 a0_3 a0_4 a0_5 a1_0 a1_1 a1_2 a1_3 a1_4 a1_5 = some (r1, r2)) :
 Calls Tryd.prog 7 #[.agg #[.int .i64 a0_0, .int .i64 a0_1, .int .i64 a0_2, .int .i64 a0_3, .int .i64 a0_4, .bool a0_5], .agg #[.int .i64 a1_0, .int .i64 a1_1, .int .i64 a1_2, .int .i64 a1_3, .int .i64 a1_4, .bool a1_5]] w fun e w' => ∃ v0_ : Value, e = .returned (.tuple #[v0_, .bool r2]) ∧ Kd.R k25 25 w' w.heap.size (fun _ => True) v0_ r1 ∧ Below w.heap.size w w' := by
 have hu25 := Tryd.underlying25
 have HB := Aside0.mk (Below.refl w.heap.size w)
 have H : ((spec_shGood.f k a0_0 a0_1 a0_2 a0_3 a0_4 a0_5).bind fun t374 => (if t374 = true then ((spec_shGood.f k a1_0 a1_1 a1_2 a1_3 a1_4 a1_5).bind fun t375 => (spec_ShapeWay.j0 k (!t375) a0_0 a0_1 a0_2 a0_3 a0_4 a0_5 a1_0 a1_1 a1_2 a1_3 a1_4 a1_5)) else (spec_ShapeWay.j0 k true a0_0 a0_1 a0_2 a0_3 a0_4 a0_5 a1_0 a1_1 a1_2 a1_3 a1_4 a1_5))) = some (r1, r2) := h
 clear h
 have HC3 := Aside0.mk H
 clear H
 go_enter Tryd.func7, Tryd.ntmps7
 go_upto_region 1 with (first | ((with_reducible refine gate_dst (N := 2) rfl ?_); refine bx_ 2 #[.int .i64 a0_0, .int .i64 a0_1, .int .i64 a0_2, .int .i64 a0_3, .int .i64 a0_4, .bool a0_5] 25 fun gb372 hg w4 hbox hb => ?_; have BK372 := aM_ (hbox); have GW372 := aM_ (gw_ w hg); have GE372 := aM_ (gw_ w hg); replace HB := aM_ (below_step hB_ hb); clear hb hbox hg) | ((with_reducible refine gate_dst (N := 3) rfl ?_); refine bx_ 3 #[.int .i64 a1_0, .int .i64 a1_1, .int .i64 a1_2, .int .i64 a1_3, .int .i64 a1_4, .bool a1_5] 25 fun gb373 hg w5 hbox hb => ?_; have BK373 := aM_ (hbox); have GW373 := aM_ (gw_ w hg); have GE373 := aM_ (gw_ w hg); have NB372_373 := aM_ (nR_ BK372 hg); have NB373_372 := aM_ (mR_ BK372 hg); replace BK372 := aM_ (blk_below (g := gb372) (kR_ BK372) hb); replace HB := aM_ (below_step hB_ hb); clear hb hbox hg))
 (try simp only [Act.put, List.setIfInBounds_toArray, List.set_cons_zero, List.set_cons_succ])
 go_cut [17] (fun v17 wc => ∃ (kq : Nat) (x17_2 : Bool), v17 = .bool x17_2 ∧ Aside0 (spec_ShapeWay.j0 kq x17_2 a0_0 a0_1 a0_2 a0_3 a0_4 a0_5 a1_0 a1_1 a1_2 a1_3 a1_4 a1_5 = some (r1, r2)) ∧ Aside0 (kq ≤ k) ∧ Aside0 (wc.heap[gb372]? = some (.cells #[.int .i64 a0_0, .int .i64 a0_1, .int .i64 a0_2, .int .i64 a0_3, .int .i64 a0_4, .bool a0_5] 25 (0, 0))) ∧ Aside0 (wc.heap[gb373]? = some (.cells #[.int .i64 a1_0, .int .i64 a1_1, .int .i64 a1_2, .int .i64 a1_3, .int .i64 a1_4, .bool a1_5] 25 (0, 0))) ∧ Aside0 (Below w.heap.size w wc))
 case first =>
  have H := HC3.out
  clear HC3
  replace H := ob_ H; obtain ⟨t374, A6, H⟩ := H; try dsimp only at H
  by_cases c7 : t374 = true
  rotate_left
  ·replace c7 := Bool.eq_false_iff.mpr c7
   subst c7
   replace H := in_ H (show ¬ (false = true) by decide)
   have H' := Aside0.mk H
   clear H
   have hnb14 := NB372_373.out
   have hnc14 := NB373_372.out
   have hz15 := cf6_ BK372.out
   go_wp2_with (first | ((with_reducible refine gC_ 24 ?_); refine gM_ (some 11) Tryd.func24 #[.agg #[.int .i64 a0_0, .int .i64 a0_1, .int .i64 a0_2, .int .i64 a0_3, .int .i64 a0_4, .bool a0_5]] ?_; (with_reducible refine (spec_shGood.calls k a0_0 a0_1 a0_2 a0_3 a0_4 a0_5 false _ A6.out).mono ?_); rintro e w16 ⟨rfl, hb⟩; refine ⟨_, rfl, ?_⟩; replace BK372 := aM_ (blk_below (g := gb372) (kR_ BK372) hb); replace BK373 := aM_ (blk_below (g := gb373) (kR_ BK373) hb); replace HB := aM_ (below_step hB_ hb); (try clear hb)))
   go_meet
   case rel => exact ⟨_, (true), z9_0_, H', ⟨oR_⟩, ⟨kP_⟩, ⟨kP_⟩, ⟨hB_⟩⟩
  subst c7
  replace H := ip_ H rfl
  replace H := ob_ H; obtain ⟨t375, A8, H⟩ := H; try dsimp only at H
  have H' := Aside0.mk H
  clear H
  have hnb9 := NB372_373.out
  have hnc9 := NB373_372.out
  have hz10 := cf6_ BK372.out
  go_wp2_with (first | ((with_reducible refine gC_ 24 ?_); refine gM_ (some 11) Tryd.func24 #[.agg #[.int .i64 a0_0, .int .i64 a0_1, .int .i64 a0_2, .int .i64 a0_3, .int .i64 a0_4, .bool a0_5]] ?_; (with_reducible refine (spec_shGood.calls k a0_0 a0_1 a0_2 a0_3 a0_4 a0_5 true _ A6.out).mono ?_); rintro e w11 ⟨rfl, hb⟩; refine ⟨_, rfl, ?_⟩; replace BK372 := aM_ (blk_below (g := gb372) (kR_ BK372) hb); replace BK373 := aM_ (blk_below (g := gb373) (kR_ BK373) hb); replace HB := aM_ (below_step hB_ hb); (try clear hb); have hz12 := cf6_ BK373.out) | (go_at_call 24; (with_reducible refine (spec_shGood.calls k a1_0 a1_1 a1_2 a1_3 a1_4 a1_5 t375 _ A8.out).mono ?_); rintro e w13 ⟨rfl, hb⟩; replace BK372 := aM_ (blk_below (g := gb372) (kR_ BK372) hb); replace BK373 := aM_ (blk_below (g := gb373) (kR_ BK373) hb); replace HB := aM_ (below_step hB_ hb); (try clear hb)))
  go_meet
  case rel => exact ⟨_, (!t375), z9_0_, H', ⟨oR_⟩, ⟨kP_⟩, ⟨kP_⟩, ⟨hB_⟩⟩
 case rest =>
  clear HC3
  obtain ⟨kq, x17_2, rfl, HA, HJ2, BK372, BK373, HB⟩ := hcut
  cases kq with
  | zero => exact absurd HA.out (by simp [spec_ShapeWay.j0])
  | succ kj2 =>
   have H := HA.out
   clear HA
   simp only [spec_ShapeWay.j0] at H
   by_cases c17 : x17_2 = true
   ·subst c17
    replace H := ip_ H rfl
    simp only [Option.some.injEq, Prod.mk.injEq] at H
    obtain ⟨rfl, rfl⟩ := H
    go_wp2
    go_ret2
    exact ⟨_, rT_, by first | exact Kd.R_nil _ _ _ _ _ | exact Kd.N_nil _ _ _ _ _ | exact Kd.V_nil _ _ _ _ _ | exact Kd.Q_nil _ _ _ _ _ | exact Kd.S_nil _ _ _ _ _, hB_⟩
   replace c17 := Bool.eq_false_iff.mpr c17
   subst c17
   replace H := in_ H (show ¬ (false = true) by decide)
   replace H := bs_ H; obtain ⟨y376, Ny376, H⟩ := H; try dsimp only at H
   have HC18 := Aside0.mk H
   clear H
   have hnb19 := NB372_373.out
   have hnc19 := NB373_372.out
   have hz20 := cf6_ BK372.out
   go_upto_region 5 with (first | ((with_reducible refine gate_dst (N := 19) rfl ?_); refine rl_ k25 25 19 ([(⟨a0_0, a0_1, a0_2, a0_3, a0_4, a0_5⟩ : S25)] : List (S25)) [.int .i64 a0_0, .int .i64 a0_1, .int .i64 a0_2, .int .i64 a0_3, .int .i64 a0_4, .bool a0_5] (Reps.c6 (show Kd.M k25 _ _ _ (⟨a0_0, a0_1, a0_2, a0_3, a0_4, a0_5⟩ : S25) [.int .i64 a0_0, .int .i64 a0_1, .int .i64 a0_2, .int .i64 a0_3, .int .i64 a0_4, .bool a0_5] from (k25_mkM _ _ _ (⟨a0_0, a0_1, a0_2, a0_3, a0_4, a0_5⟩ : S25) )) (Reps.none _ _)) ?_; intro v377 w21 ho22 hb hg_ hnew_; clear hg_ hnew_; (first | rw [← Ny376.out] at ho22 | (simp only [Int.reduceToNat] at ho22; rw [← Ny376.out] at ho22)); have HO378 := aM_ (Kd.R_lower (Kd.R_newB (Kd.R_newB ho22 (g := gb372) kP_) (g := gb373) kP_) (below_size hB_)); replace BK372 := aM_ (blk_below (g := gb372) (kR_ BK372) hb); replace BK373 := aM_ (blk_below (g := gb373) (kR_ BK373) hb); replace HB := aM_ (below_step hB_ hb); clear hb ho22; have hz23 := cf6_ BK372.out) | ((with_reducible refine gate_dst (N := 7) rfl ?_); refine bx_ 7 #[.int .i64 0, .int .i64 0, .int .i64 0, .int .i64 0, .int .i64 0, .bool false] 25 fun gb379 hg w24 hbox hb => ?_; have BK379 := aM_ (hbox); have GW379 := aM_ (gw_ w hg); have GE379 := aM_ (gw_ w hg); have NB372_379 := aM_ (nR_ BK372 hg); have NB379_372 := aM_ (mR_ BK372 hg); have NB373_379 := aM_ (nR_ BK373 hg); have NB379_373 := aM_ (mR_ BK373 hg); replace HO378 := aM_ (Kd.R_below (Kd.R_elderB (rR_ HO378) gb379 (Nat.le_of_eq hg.symm)) hb); replace BK372 := aM_ (blk_below (g := gb372) (kR_ BK372) hb); replace BK373 := aM_ (blk_below (g := gb373) (kR_ BK373) hb); replace HB := aM_ (below_step hB_ hb); clear hb hbox hg; have hnb25 := NB379_372.out; have hnc25 := NB372_379.out; have hnb26 := NB379_373.out; have hnc26 := NB373_379.out; have hz27 := cf6_ BK379.out))
   (try simp only [Act.put, List.setIfInBounds_toArray, List.set_cons_zero, List.set_cons_succ])
   go_cut [27] (fun v27 wc => ∃ (kq : Nat) (x27_17 : Bool), v27 = .bool x27_17 ∧ Aside0 (spec_ShapeWay.j1 kq y376 x27_17 a1_0 a1_1 a1_2 a1_3 a1_4 a1_5 a0_0 a0_1 a0_2 a0_3 a0_4 a0_5 = some (r1, r2)) ∧ Aside0 (kq ≤ kj2) ∧ Aside0 (Kd.R k25 25 wc w.heap.size (fun k_ => k_ ≠ gb372 ∧ k_ ≠ gb373 ∧ k_ ≠ gb379) v377 y376) ∧ Aside0 (wc.heap[gb372]? = some (.cells #[.int .i64 a0_0, .int .i64 a0_1, .int .i64 a0_2, .int .i64 a0_3, .int .i64 a0_4, .bool a0_5] 25 (0, 0))) ∧ Aside0 (wc.heap[gb373]? = some (.cells #[.int .i64 a1_0, .int .i64 a1_1, .int .i64 a1_2, .int .i64 a1_3, .int .i64 a1_4, .bool a1_5] 25 (0, 0))) ∧ Aside0 (wc.heap[gb379]? = some (.cells #[.int .i64 a0_0, .int .i64 a0_1, .int .i64 a0_2, .int .i64 a0_3, .int .i64 a0_4, .bool a0_5] 25 (0, 0))) ∧ Aside0 (Below w.heap.size w wc))
   case first =>
    have H := HC18.out
    clear HC18
    by_cases c28 : a0_5 = true
    rotate_left
    ·replace c28 := Bool.eq_false_iff.mpr c28
     subst c28
     replace H := in_ H (show ¬ (false = true) by decide)
     have H' := Aside0.mk H
     clear H
     have hnb34 := NB379_372.out
     have hnc34 := NB372_379.out
     have hnb35 := NB379_373.out
     have hnc35 := NB373_379.out
     have hz36 := cf6_ BK379.out
     go_wp2
     go_meet
     case rel => exact ⟨_, (false), z9_0_, H', ⟨by have := HJ2.out; first | omega | exact Nat.le_refl _⟩, ⟨by (with_reducible repeat (first | apply rA_ | apply rN_ | apply rD_)); exact Kd.R_mono (Kd.R_far (p := ⟨gb379, 5, none⟩) (Kd.R_far (p := ⟨gb379, 4, none⟩) (Kd.R_far (p := ⟨gb379, 3, none⟩) (Kd.R_far (p := ⟨gb379, 2, none⟩) (Kd.R_far (p := ⟨gb379, 1, none⟩) (Kd.R_far (p := ⟨gb379, 0, none⟩) (Kd.R_mono HO378.out (fun k_ hk => (⟨hk, hk.2⟩ : _ ∧ k_ ≠ gb379))) (fun _ hk => hk.2) (.int .i64 a0_0)) (fun _ hk => hk.2) (.int .i64 a0_1)) (fun _ hk => hk.2) (.int .i64 a0_2)) (fun _ hk => hk.2) (.int .i64 a0_3)) (fun _ hk => hk.2) (.int .i64 a0_4)) (fun _ hk => hk.2) (.bool false)) (fun _ hk => ⟨hk.1.1.1.2, ⟨hk.1.1.2, hk.1.2⟩⟩)⟩, ⟨z9_1_⟩, ⟨z9_2_⟩, ⟨z9_3_⟩, ⟨hB_⟩⟩
    subst c28
    replace H := ip_ H rfl
    have H' := Aside0.mk H
    clear H
    have hnb29 := NB379_372.out
    have hnc29 := NB372_379.out
    have hnb30 := NB379_373.out
    have hnc30 := NB373_379.out
    have hz31 := cf6_ BK379.out
    have hnb32 := NB373_372.out
    have hnc32 := NB372_373.out
    have hz33 := cf6_ BK373.out
    go_wp2
    go_meet
    case rel => exact ⟨_, (!a1_5), z9_0_, H', ⟨by have := HJ2.out; first | omega | exact Nat.le_refl _⟩, ⟨by (with_reducible repeat (first | apply rA_ | apply rN_ | apply rD_)); exact Kd.R_mono (Kd.R_far (p := ⟨gb379, 5, none⟩) (Kd.R_far (p := ⟨gb379, 4, none⟩) (Kd.R_far (p := ⟨gb379, 3, none⟩) (Kd.R_far (p := ⟨gb379, 2, none⟩) (Kd.R_far (p := ⟨gb379, 1, none⟩) (Kd.R_far (p := ⟨gb379, 0, none⟩) (Kd.R_mono HO378.out (fun k_ hk => (⟨hk, hk.2⟩ : _ ∧ k_ ≠ gb379))) (fun _ hk => hk.2) (.int .i64 a0_0)) (fun _ hk => hk.2) (.int .i64 a0_1)) (fun _ hk => hk.2) (.int .i64 a0_2)) (fun _ hk => hk.2) (.int .i64 a0_3)) (fun _ hk => hk.2) (.int .i64 a0_4)) (fun _ hk => hk.2) (.bool true)) (fun _ hk => ⟨hk.1.1.1.2, ⟨hk.1.1.2, hk.1.2⟩⟩)⟩, ⟨z9_1_⟩, ⟨z9_2_⟩, ⟨z9_3_⟩, ⟨hB_⟩⟩
   case rest =>
    clear HC18
    (try clear c6);(try clear c17);(try clear hcz20_0);(try clear hcz20_1);(try clear hcz20_2);(try clear hcz20_3);(try clear hcz20_4);(try clear hcz20_5);(try clear hcz23_0);(try clear hcz23_1);(try clear hcz23_2);(try clear hcz23_3);(try clear hcz23_4);(try clear hcz23_5);(try clear hcz27_0);(try clear hcz27_1);(try clear hcz27_2);(try clear hcz27_3);(try clear hcz27_4);(try clear hcz27_5);(try clear hfz20_0);(try clear hfz20_1);(try clear hfz20_2);(try clear hfz20_3);(try clear hfz20_4);(try clear hfz20_5);(try clear hfz23_0);(try clear hfz23_1);(try clear hfz23_2);(try clear hfz23_3);(try clear hfz23_4);(try clear hfz23_5);(try clear hfz27_0);(try clear hfz27_1);(try clear hfz27_2);(try clear hfz27_3);(try clear hfz27_4);(try clear hfz27_5)
    obtain ⟨kq, x27_17, rfl, HA, HJ17, HO_6, BK372, BK373, BK379, HB⟩ := hcut
    cases kq with
    | zero => exact absurd HA.out (by simp [spec_ShapeWay.j1])
    | succ kj17 =>
     have H := HA.out
     clear HA
     simp only [spec_ShapeWay.j1] at H
     have HC37 := Aside0.mk H
     clear H
     go_upto_if 27 with (fail)
     go_cut [6] (fun v6 wc => ∃ (kq : Nat) (x6_36 : List (S25)) (x380005_36 : Bool), Aside0 (spec_ShapeWay.j2 kq x6_36 a1_0 a1_1 a1_2 a1_3 a1_4 a1_5 a0_0 a0_1 a0_2 a0_3 a0_4 x380005_36 = some (r1, r2)) ∧ Aside0 (kq ≤ kj17) ∧ Aside0 (Kd.R k25 25 wc w.heap.size (fun k_ => k_ ≠ gb372 ∧ k_ ≠ gb373 ∧ k_ ≠ gb379) v6 x6_36) ∧ Aside0 (wc.heap[gb372]? = some (.cells #[.int .i64 a0_0, .int .i64 a0_1, .int .i64 a0_2, .int .i64 a0_3, .int .i64 a0_4, .bool a0_5] 25 (0, 0))) ∧ Aside0 (wc.heap[gb373]? = some (.cells #[.int .i64 a1_0, .int .i64 a1_1, .int .i64 a1_2, .int .i64 a1_3, .int .i64 a1_4, .bool a1_5] 25 (0, 0))) ∧ Aside0 (wc.heap[gb379]? = some (.cells #[.int .i64 a0_0, .int .i64 a0_1, .int .i64 a0_2, .int .i64 a0_3, .int .i64 a0_4, .bool x380005_36] 25 (0, 0))) ∧ Aside0 (Below w.heap.size w wc))
     case first =>
      have H := HC37.out
      clear HC37
      by_cases c38 : x27_17 = true
      rotate_left
      ·replace c38 := Bool.eq_false_iff.mpr c38
       subst c38
       replace H := in_ H (show ¬ (false = true) by decide)
       have H' := Aside0.mk H
       clear H
       go_wp2
       go_meet
       case rel => exact ⟨_, (y376), (a0_5), H', ⟨by have := HJ2.out; have := HJ17.out; first | omega | exact Nat.le_refl _⟩, ⟨(rR_ HO_6)⟩, ⟨kP_⟩, ⟨kP_⟩, ⟨kP_⟩, ⟨hB_⟩⟩
      subst c38
      replace H := ip_ H rfl
      replace H := il_ H; obtain ⟨LMc39, H⟩ := H
      obtain ⟨y380, hy380⟩ : ∃ y_ : List (S25), y_ = (y376 ++ [(⟨a0_0, a0_1, a0_2, a0_3, a0_4, false⟩ : S25)]) := ⟨_, rfl⟩
      rw [← hy380] at H
      have Ny380 := Aside0.mk hy380; clear hy380
      have H' := Aside0.mk H
      clear H
      have hnb40 := NB379_372.out
      have hnc40 := NB372_379.out
      have hnb41 := NB379_373.out
      have hnc41 := NB373_379.out
      have hz42 := cf6_ BK379.out
      go_wp2_with (first | ((with_reducible refine gate_builtin (b := .append) (xs := #[.tmp 29, .tmp 31]) rfl ?_); at_builtin; refine Kd.R_append k25 (w0 := w) w.heap.size rfl (.tmp 29) (.tmp 31) 28 25 (.agg #[(.int .i64 0), (.int .i64 0), (.int .i64 0), (.int .i64 0), (.int .i64 0), (.bool false)]) 48 rfl Tryd.underlying28 info25 rfl (by decide) (by omega) v377 y376 (⟨a0_0, a0_1, a0_2, a0_3, a0_4, false⟩ : S25) [.int .i64 a0_0, .int .i64 a0_1, .int .i64 a0_2, .int .i64 a0_3, .int .i64 a0_4, .bool false] (fun k_ => k_ ≠ gb372 ∧ k_ ≠ gb373 ∧ k_ ≠ gb379) (fun _ => False) rfl z9_4_ ?aP (fun _ hk => hk.elim) ?aF ?aO ?aB ?aS ?aL ?_; (case aP => exact k25_mkM _ _ _ (⟨a0_0, a0_1, a0_2, a0_3, a0_4, false⟩ : S25)); (case aB => exact hB_); (case aF => exact (fun k_ hk => ⟨Kd.freshB (g := gb372) (kR_ BK372) k_ hk, Kd.freshB (g := gb373) (kR_ BK373) k_ hk, Kd.freshB (g := gb379) (o := .cells #[.int .i64 a0_0, .int .i64 a0_1, .int .i64 a0_2, .int .i64 a0_3, .int .i64 a0_4, .bool false] 25 (0, 0)) z9_5_ k_ hk⟩)); (case aO => exact (by (with_reducible repeat (first | apply rA_ | apply rN_ | apply rD_)); exact Kd.R_mono (Kd.R_far (p := ⟨gb379, 5, none⟩) (Kd.R_mono HO_6.out (fun k_ hk => (⟨hk, hk.2.2⟩ : _ ∧ k_ ≠ gb379))) (fun _ hk => hk.2) (.bool false)) (fun _ hk => ⟨hk.1.1, ⟨hk.1.2.1, hk.1.2.2⟩⟩))); (case aS => exact (below_size hB_)); (case aL => have := LMc39.out; omega); intro v381 w43 ho hb hg hat; rw [← Ny380.out] at ho; have HO382 := aM_ (ho); replace BK372 := aM_ (blk_grown (g := gb372) (kR_ BK372) hg (Kd.R_away HO_6.out (fun _ hk => hk.1))); replace BK373 := aM_ (blk_grown (g := gb373) (kR_ BK373) hg (Kd.R_away HO_6.out (fun _ hk => hk.2.1))); replace BK379 := aM_ (blk_grown (g := gb379) (o := .cells #[.int .i64 a0_0, .int .i64 a0_1, .int .i64 a0_2, .int .i64 a0_3, .int .i64 a0_4, .bool false] 25 (0, 0)) z9_5_ hg (Kd.R_away HO_6.out (fun _ hk => hk.2.2))); replace HB := aM_ (hb); clear HO_6; clear ho hb hg hat))
      go_meet
      case rel => exact ⟨_, (y380), (false), H', ⟨by have := HJ2.out; have := HJ17.out; first | omega | exact Nat.le_refl _⟩, ⟨rR_ HO382⟩, ⟨kP_⟩, ⟨kP_⟩, ⟨kP_⟩, ⟨hB_⟩⟩
     case rest =>
      clear HC37
      (try clear c6);(try clear c17);(try clear hcz20_0);(try clear hcz20_1);(try clear hcz20_2);(try clear hcz20_3);(try clear hcz20_4);(try clear hcz20_5);(try clear hcz23_0);(try clear hcz23_1);(try clear hcz23_2);(try clear hcz23_3);(try clear hcz23_4);(try clear hcz23_5);(try clear hcz27_0);(try clear hcz27_1);(try clear hcz27_2);(try clear hcz27_3);(try clear hcz27_4);(try clear hcz27_5);(try clear hfz20_0);(try clear hfz20_1);(try clear hfz20_2);(try clear hfz20_3);(try clear hfz20_4);(try clear hfz20_5);(try clear hfz23_0);(try clear hfz23_1);(try clear hfz23_2);(try clear hfz23_3);(try clear hfz23_4);(try clear hfz23_5);(try clear hfz27_0);(try clear hfz27_1);(try clear hfz27_2);(try clear hfz27_3);(try clear hfz27_4);(try clear hfz27_5)
      obtain ⟨kq, x6_36, x380005_36, HA, HJ36, HO_6, BK372, BK373, BK379, HB⟩ := hcut
      cases kq with
      | zero => exact absurd HA.out (by simp [spec_ShapeWay.j2])
      | succ kj36 =>
       have H := HA.out
       clear HA
       simp only [spec_ShapeWay.j2] at H
       replace H := ob_ H; obtain ⟨t383, A44, H⟩ := H; try dsimp only at H
       have H' := Aside0.mk H
       clear H
       have hnb45 := NB373_372.out
       have hnc45 := NB372_373.out
       have hnb46 := NB373_379.out
       have hnc46 := NB379_373.out
       have hz47 := cf6_ BK373.out
       go_wp2_with (first | ((with_reducible refine gC_ 25 ?_); refine gM_ (some 34) Tryd.func25 #[.agg #[.int .i64 a1_0, .int .i64 a1_1, .int .i64 a1_2, .int .i64 a1_3, .int .i64 a1_4, .bool a1_5]] ?_; (with_reducible refine (spec_shFingers.calls a1_0 a1_1 a1_2 a1_3 a1_4 a1_5 t383 _ A44.out).mono ?_); rintro e w48 ⟨v384, rfl, ho0, hb⟩; refine ⟨_, rfl, ?_⟩; have HO385 := aM_ (Kd.R_lower ho0 (below_size hB_)); replace HO_6 := aM_ (Kd.R_below (rR_ HO_6) hb); replace BK372 := aM_ (blk_below (g := gb372) (kR_ BK372) hb); replace BK373 := aM_ (blk_below (g := gb373) (kR_ BK373) hb); replace BK379 := aM_ (blk_below (g := gb379) (kR_ BK379) hb); replace HB := aM_ (below_step hB_ hb); (try clear hb); (try clear ho0); obtain ⟨Ao49, co49, eo49⟩ := Kd.R_slice HO385.out; subst eo49))
       go_loopg [6, 36] kj36 (fun kq v6 v36 w' => ∃ (x6_4 : List (S25)) (x36_4 : Int) (x380000_4 : Int) (x380001_4 : Int) (x380002_4 : Int) (x380003_4 : Int) (x380004_4 : Int) (x380005_4 : Bool), v36 = .int .i64 x36_4 ∧ Aside0 (spec_ShapeWay.l0 kq x6_4 t383 (t383.length : Int) x36_4 a1_0 a1_1 a1_2 a1_3 a1_4 a1_5 x380000_4 x380001_4 x380002_4 x380003_4 x380004_4 x380005_4 = some (r1, r2)) ∧ Aside0 (kq ≤ kj36) ∧ Aside0 (Kd.R k25 25 w' w.heap.size (fun k_ => k_ ≠ gb372 ∧ k_ ≠ gb373 ∧ k_ ≠ gb379) v6 x6_4) ∧ Aside0 (Kd.R (Kd.int .i64) 3 w' w.heap.size (fun _ => True) (.slice Ao49 t383.length co49) t383) ∧ Aside0 (w'.heap[gb372]? = some (.cells #[.int .i64 a0_0, .int .i64 a0_1, .int .i64 a0_2, .int .i64 a0_3, .int .i64 a0_4, .bool a0_5] 25 (0, 0))) ∧ Aside0 (w'.heap[gb373]? = some (.cells #[.int .i64 a1_0, .int .i64 a1_1, .int .i64 a1_2, .int .i64 a1_3, .int .i64 a1_4, .bool a1_5] 25 (0, 0))) ∧ Aside0 (w'.heap[gb379]? = some (.cells #[.int .i64 x380000_4, .int .i64 x380001_4, .int .i64 x380002_4, .int .i64 x380003_4, .int .i64 x380004_4, .bool x380005_4] 25 (0, 0))) ∧ Aside0 (Below w.heap.size w w'))
       case atStart => exact ⟨(x6_36), (0), (a0_0), (a0_1), (a0_2), (a0_3), (a0_4), (x380005_36), z9_0_, H', ⟨Nat.le_refl _⟩, ⟨(rR_ HO_6)⟩, ⟨rR_ HO385⟩, ⟨kP_⟩, ⟨kP_⟩, ⟨kP_⟩, ⟨hB_⟩⟩
       case round =>
        clear H'
        (try clear c6);(try clear c17);(try clear hcz20_0);(try clear hcz20_1);(try clear hcz20_2);(try clear hcz20_3);(try clear hcz20_4);(try clear hcz20_5);(try clear hcz23_0);(try clear hcz23_1);(try clear hcz23_2);(try clear hcz23_3);(try clear hcz23_4);(try clear hcz23_5);(try clear hcz27_0);(try clear hcz27_1);(try clear hcz27_2);(try clear hcz27_3);(try clear hcz27_4);(try clear hcz27_5);(try clear hcz47_0);(try clear hcz47_1);(try clear hcz47_2);(try clear hcz47_3);(try clear hcz47_4);(try clear hcz47_5);(try clear hfz20_0);(try clear hfz20_1);(try clear hfz20_2);(try clear hfz20_3);(try clear hfz20_4);(try clear hfz20_5);(try clear hfz23_0);(try clear hfz23_1);(try clear hfz23_2);(try clear hfz23_3);(try clear hfz23_4);(try clear hfz23_5);(try clear hfz27_0);(try clear hfz27_1);(try clear hfz27_2);(try clear hfz27_3);(try clear hfz27_4);(try clear hfz27_5);(try clear hfz47_0);(try clear hfz47_1);(try clear hfz47_2);(try clear hfz47_3);(try clear hfz47_4);(try clear hfz47_5)
        obtain ⟨x6_4, x36_4, x380000_4, x380001_4, x380002_4, x380003_4, x380004_4, x380005_4, rfl, HA, HK4, HO_6, HO_34, BK372, BK373, BK379, HB⟩ := hrel
        cases gk with
        | zero => exact absurd HA.out (by simp [spec_ShapeWay.l0])
        | succ k4 =>
         have H := HA.out
         clear HA
         simp only [spec_ShapeWay.l0] at H
         replace H := iF_ H; obtain ⟨c50b0, H⟩ | ⟨c50b0, H⟩ := H
         ·by_cases c86 : x380000_4 = a1_0
          ·rw [if_pos c86] at H
           have c86b0 : (x380000_4 == a1_0) = true := beq_iff_eq.mpr c86
           have c86b1 : (x380000_4 != a1_0) = false := bne_eq_false_iff_eq.mpr c86
           clear c86
           by_cases c87 : (!(x380000_4 == a1_0) || (!(x380001_4 == a1_1) || (!(x380002_4 == a1_2) || (!(x380003_4 == a1_3) || (!(x380004_4 == a1_4) || (!(x380005_4 == a1_5))))))) = true
           rotate_left
           ·rw [if_neg c87] at H
            have c87b0 : (!(x380000_4 == a1_0) || (!(x380001_4 == a1_1) || (!(x380002_4 == a1_2) || (!(x380003_4 == a1_3) || (!(x380004_4 == a1_4) || (!(x380005_4 == a1_5))))))) = false := by simpa using c87
            simp only [c86b0, Bool.not_true, Bool.false_or] at c87b0
            clear c87
            simp only [Option.some.injEq, Prod.mk.injEq] at H
            obtain ⟨rfl, rfl⟩ := H
            have hnb95 := NB379_372.out
            have hnc95 := NB372_379.out
            have hnb96 := NB379_373.out
            have hnc96 := NB373_379.out
            have hz97 := cf6_ BK379.out
            have hnb98 := NB373_372.out
            have hnc98 := NB372_373.out
            have hz99 := cf6_ BK373.out
            go_wp2
            go_ret2
            exact ⟨_, rT_, by (with_reducible repeat (first | apply rA_ | apply rN_ | apply rD_)); exact Kd.R_mono HO_6.out (fun _ hk => trivial), hB_⟩
           rw [if_pos c87] at H
           have c87b0 : (!(x380000_4 == a1_0) || (!(x380001_4 == a1_1) || (!(x380002_4 == a1_2) || (!(x380003_4 == a1_3) || (!(x380004_4 == a1_4) || (!(x380005_4 == a1_5))))))) = true := c87
           simp only [c86b0, Bool.not_true, Bool.false_or] at c87b0
           clear c87
           replace H := il_ H; obtain ⟨LMc88, H⟩ := H
           obtain ⟨y409, hy409⟩ : ∃ y_ : List (S25), y_ = (x6_4 ++ [(⟨a1_0, a1_1, a1_2, a1_3, a1_4, a1_5⟩ : S25)]) := ⟨_, rfl⟩
           rw [← hy409] at H
           have Ny409 := Aside0.mk hy409; clear hy409
           simp only [Option.some.injEq, Prod.mk.injEq] at H
           obtain ⟨rfl, rfl⟩ := H
           have hnb89 := NB379_372.out
           have hnc89 := NB372_379.out
           have hnb90 := NB379_373.out
           have hnc90 := NB373_379.out
           have hz91 := cf6_ BK379.out
           have hnb92 := NB373_372.out
           have hnc92 := NB372_373.out
           have hz93 := cf6_ BK373.out
           go_wp2_with (first | ((with_reducible refine gate_builtin (b := .append) (xs := #[.tmp 87, .tmp 89]) rfl ?_); at_builtin; refine Kd.R_append k25 (w0 := w) w.heap.size rfl (.tmp 87) (.tmp 89) 28 25 (.agg #[(.int .i64 0), (.int .i64 0), (.int .i64 0), (.int .i64 0), (.int .i64 0), (.bool false)]) 48 rfl Tryd.underlying28 info25 rfl (by decide) (by omega) u6 x6_4 (⟨a1_0, a1_1, a1_2, a1_3, a1_4, a1_5⟩ : S25) [.int .i64 a1_0, .int .i64 a1_1, .int .i64 a1_2, .int .i64 a1_3, .int .i64 a1_4, .bool a1_5] (fun k_ => k_ ≠ gb372 ∧ k_ ≠ gb373 ∧ k_ ≠ gb379) (fun _ => False) rfl rfl ?aP (fun _ hk => hk.elim) ?aF ?aO ?aB ?aS ?aL ?_; (case aP => exact k25_mkM _ _ _ (⟨a1_0, a1_1, a1_2, a1_3, a1_4, a1_5⟩ : S25)); (case aB => exact hB_); (case aF => exact (fun k_ hk => ⟨Kd.freshB (g := gb372) (kR_ BK372) k_ hk, Kd.freshB (g := gb373) (kR_ BK373) k_ hk, Kd.freshB (g := gb379) (kR_ BK379) k_ hk⟩)); (case aO => exact (rR_ HO_6)); (case aS => exact (below_size hB_)); (case aL => have := LMc88.out; omega); intro v410 w94 ho hb hg hat; rw [← Ny409.out] at ho; have HO411 := aM_ (ho); replace HO_34 := aM_ (Kd.R_over' (rR_ HO_34) (Kd.R_typed (rR_ HO_6)) (by decide) hg); replace BK372 := aM_ (blk_grown (g := gb372) (kR_ BK372) hg (Kd.R_away HO_6.out (fun _ hk => hk.1))); replace BK373 := aM_ (blk_grown (g := gb373) (kR_ BK373) hg (Kd.R_away HO_6.out (fun _ hk => hk.2.1))); replace BK379 := aM_ (blk_grown (g := gb379) (kR_ BK379) hg (Kd.R_away HO_6.out (fun _ hk => hk.2.2))); replace HB := aM_ (hb); clear HO_6; clear ho hb hg hat))
           go_ret2
           exact ⟨_, rT_, by (with_reducible repeat (first | apply rA_ | apply rN_ | apply rD_)); exact Kd.R_mono HO411.out (fun _ hk => trivial), hB_⟩
          rw [if_neg c86] at H
          have c86b0 : (x380000_4 == a1_0) = false := beq_eq_false_iff_ne.mpr c86
          have c86b1 : (x380000_4 != a1_0) = true := bne_iff_ne.mpr c86
          replace H := ob_ H; obtain ⟨⟨t412, t413, t414, t415, t416, t417⟩, A100, H⟩ := H; try dsimp only at H
          replace H := il_ H; obtain ⟨LMc101, H⟩ := H
          replace H := bs_ H; obtain ⟨y418, Ny418, H⟩ := H; try dsimp only at H
          have HC102 := Aside0.mk H
          clear H
          have hnb103 := NB379_372.out
          have hnc103 := NB372_379.out
          have hnb104 := NB379_373.out
          have hnc104 := NB373_379.out
          have hz105 := cf6_ BK379.out
          have hnb106 := NB373_372.out
          have hnc106 := NB372_373.out
          have hz107 := cf6_ BK373.out
          go_upto_if 86 with (first | ((with_reducible refine gC_ 26 ?_); refine gM_ (some 79) Tryd.func26 #[.agg #[.int .i64 x380000_4, .int .i64 x380001_4, .int .i64 x380002_4, .int .i64 x380003_4, .int .i64 x380004_4, .bool x380005_4], .int .i64 0, .int .i64 a1_0] ?_; (with_reducible refine (spec_shSet.calls k4 x380000_4 x380001_4 x380002_4 x380003_4 x380004_4 x380005_4 0 a1_0 t412 t413 t414 t415 t416 t417 _ A100.out).mono ?_); rintro e w108 ⟨rfl, hb⟩; refine ⟨_, rfl, ?_⟩; replace HO_6 := aM_ (Kd.R_below (rR_ HO_6) hb); replace HO_34 := aM_ (Kd.R_below (rR_ HO_34) hb); replace BK372 := aM_ (blk_below (g := gb372) (kR_ BK372) hb); replace BK373 := aM_ (blk_below (g := gb373) (kR_ BK373) hb); replace BK379 := aM_ (blk_below (g := gb379) (kR_ BK379) hb); replace HB := aM_ (below_step hB_ hb); (try clear hb); (try clear hk); have hz109 := cf6_ BK379.out) | ((with_reducible refine gate_builtin (b := .append) (xs := #[.tmp 80, .tmp 82]) rfl ?_); at_builtin; refine Kd.R_append k25 (w0 := w) w.heap.size rfl (.tmp 80) (.tmp 82) 28 25 (.agg #[(.int .i64 0), (.int .i64 0), (.int .i64 0), (.int .i64 0), (.int .i64 0), (.bool false)]) 48 rfl Tryd.underlying28 info25 rfl (by decide) (by omega) u6 x6_4 (⟨t412, t413, t414, t415, t416, t417⟩ : S25) [.int .i64 t412, .int .i64 t413, .int .i64 t414, .int .i64 t415, .int .i64 t416, .bool t417] (fun k_ => k_ ≠ gb372 ∧ k_ ≠ gb373 ∧ k_ ≠ gb379) (fun _ => False) rfl z9_4_ ?aP (fun _ hk => hk.elim) ?aF ?aO ?aB ?aS ?aL ?_; (case aP => exact k25_mkM _ _ _ (⟨t412, t413, t414, t415, t416, t417⟩ : S25)); (case aB => exact hB_); (case aF => exact (fun k_ hk => ⟨Kd.freshB (g := gb372) (kR_ BK372) k_ hk, Kd.freshB (g := gb373) (kR_ BK373) k_ hk, Kd.freshB (g := gb379) (o := .cells #[.int .i64 t412, .int .i64 t413, .int .i64 t414, .int .i64 t415, .int .i64 t416, .bool t417] 25 (0, 0)) z9_6_ k_ hk⟩)); (case aO => exact (by (with_reducible repeat (first | apply rA_ | apply rN_ | apply rD_)); exact Kd.R_mono (Kd.R_far (p := ⟨gb379, 5, none⟩) (Kd.R_far (p := ⟨gb379, 4, none⟩) (Kd.R_far (p := ⟨gb379, 3, none⟩) (Kd.R_far (p := ⟨gb379, 2, none⟩) (Kd.R_far (p := ⟨gb379, 1, none⟩) (Kd.R_far (p := ⟨gb379, 0, none⟩) (Kd.R_mono HO_6.out (fun k_ hk => (⟨hk, hk.2.2⟩ : _ ∧ k_ ≠ gb379))) (fun _ hk => hk.2) (.int .i64 t412)) (fun _ hk => hk.2) (.int .i64 t413)) (fun _ hk => hk.2) (.int .i64 t414)) (fun _ hk => hk.2) (.int .i64 t415)) (fun _ hk => hk.2) (.int .i64 t416)) (fun _ hk => hk.2) (.bool t417)) (fun _ hk => ⟨hk.1.1, ⟨hk.1.2.1, hk.1.2.2⟩⟩))); (case aS => exact (below_size hB_)); (case aL => have := LMc101.out; omega); intro v419 w110 ho hb hg hat; rw [← Ny418.out] at ho; have HO420 := aM_ (ho); replace HO_34 := aM_ (Kd.R_over' (by (with_reducible repeat (first | apply rA_ | apply rN_ | apply rD_)); exact (Kd.R_mono (Kd.R_far (p := ⟨gb379, 5, none⟩) (Kd.R_far (p := ⟨gb379, 4, none⟩) (Kd.R_far (p := ⟨gb379, 3, none⟩) (Kd.R_far (p := ⟨gb379, 2, none⟩) (Kd.R_far (p := ⟨gb379, 1, none⟩) (Kd.R_far (p := ⟨gb379, 0, none⟩) (Kd.R_types HO_34.out BK379.out (by decide)) (fun _ hk => hk.2) (.int .i64 t412)) (fun _ hk => hk.2) (.int .i64 t413)) (fun _ hk => hk.2) (.int .i64 t414)) (fun _ hk => hk.2) (.int .i64 t415)) (fun _ hk => hk.2) (.int .i64 t416)) (fun _ hk => hk.2) (.bool t417)) (fun _ h_ => h_.1))) (Kd.R_typed (by (with_reducible repeat (first | apply rA_ | apply rN_ | apply rD_)); exact (Kd.R_mono (Kd.R_far (p := ⟨gb379, 5, none⟩) (Kd.R_far (p := ⟨gb379, 4, none⟩) (Kd.R_far (p := ⟨gb379, 3, none⟩) (Kd.R_far (p := ⟨gb379, 2, none⟩) (Kd.R_far (p := ⟨gb379, 1, none⟩) (Kd.R_far (p := ⟨gb379, 0, none⟩) (Kd.R_mono HO_6.out (fun k_ hk => (⟨hk, hk.2.2⟩ : _ ∧ k_ ≠ gb379))) (fun _ hk => hk.2) (.int .i64 t412)) (fun _ hk => hk.2) (.int .i64 t413)) (fun _ hk => hk.2) (.int .i64 t414)) (fun _ hk => hk.2) (.int .i64 t415)) (fun _ hk => hk.2) (.int .i64 t416)) (fun _ hk => hk.2) (.bool t417)) (fun _ h_ => h_.1)))) (by decide) hg); replace BK372 := aM_ (blk_grown (g := gb372) (kR_ BK372) hg (Kd.R_away HO_6.out (fun _ hk => hk.1))); replace BK373 := aM_ (blk_grown (g := gb373) (kR_ BK373) hg (Kd.R_away HO_6.out (fun _ hk => hk.2.1))); replace BK379 := aM_ (blk_grown (g := gb379) (o := .cells #[.int .i64 t412, .int .i64 t413, .int .i64 t414, .int .i64 t415, .int .i64 t416, .bool t417] 25 (0, 0)) z9_6_ hg (Kd.R_away HO_6.out (fun _ hk => hk.2.2))); replace HB := aM_ (hb); clear HO_6; clear ho hb hg hat; have hz111 := cf6_ BK379.out; have hz112 := cf6_ BK373.out))
          (try simp only [Act.put, List.setIfInBounds_toArray, List.set_cons_zero, List.set_cons_succ])
          have H := HC102.out
          clear HC102
          by_cases c113 : (!(t412 == a1_0) || (!(t413 == a1_1) || (!(t414 == a1_2) || (!(t415 == a1_3) || (!(t416 == a1_4) || (!(t417 == a1_5))))))) = true
          rotate_left
          ·rw [if_neg c113] at H
           have c113b0 : (!(t412 == a1_0) || (!(t413 == a1_1) || (!(t414 == a1_2) || (!(t415 == a1_3) || (!(t416 == a1_4) || (!(t417 == a1_5))))))) = false := by simpa using c113
           clear c113
           (first | rw [c113b0] | (simp only [i64_w, i32_w]; rw [c113b0]) | skip)
           simp only [Option.some.injEq, Prod.mk.injEq] at H
           obtain ⟨rfl, rfl⟩ := H
           go_wp2
           go_ret2
           exact ⟨_, rT_, by (with_reducible repeat (first | apply rA_ | apply rN_ | apply rD_)); exact Kd.R_mono HO420.out (fun _ hk => trivial), hB_⟩
          rw [if_pos c113] at H
          have c113b0 : (!(t412 == a1_0) || (!(t413 == a1_1) || (!(t414 == a1_2) || (!(t415 == a1_3) || (!(t416 == a1_4) || (!(t417 == a1_5))))))) = true := c113
          clear c113
          (first | rw [c113b0] | (simp only [i64_w, i32_w]; rw [c113b0]) | skip)
          replace H := il_ H; obtain ⟨LMc114, H⟩ := H
          obtain ⟨y421, hy421⟩ : ∃ y_ : List (S25), y_ = (y418 ++ [(⟨a1_0, a1_1, a1_2, a1_3, a1_4, a1_5⟩ : S25)]) := ⟨_, rfl⟩
          rw [← hy421] at H
          have Ny421 := Aside0.mk hy421; clear hy421
          simp only [Option.some.injEq, Prod.mk.injEq] at H
          obtain ⟨rfl, rfl⟩ := H
          have hnb115 := NB373_372.out
          have hnc115 := NB372_373.out
          have hnb116 := NB373_379.out
          have hnc116 := NB379_373.out
          have hz117 := cf6_ BK373.out
          go_wp2_with (first | ((with_reducible refine gate_builtin (b := .append) (xs := #[.tmp 87, .tmp 89]) rfl ?_); at_builtin; refine Kd.R_append k25 (w0 := w) w.heap.size rfl (.tmp 87) (.tmp 89) 28 25 (.agg #[(.int .i64 0), (.int .i64 0), (.int .i64 0), (.int .i64 0), (.int .i64 0), (.bool false)]) 48 rfl Tryd.underlying28 info25 rfl (by decide) (by omega) v419 y418 (⟨a1_0, a1_1, a1_2, a1_3, a1_4, a1_5⟩ : S25) [.int .i64 a1_0, .int .i64 a1_1, .int .i64 a1_2, .int .i64 a1_3, .int .i64 a1_4, .bool a1_5] (fun k_ => k_ ≠ gb372 ∧ k_ ≠ gb373 ∧ k_ ≠ gb379) (fun _ => False) rfl rfl ?aP (fun _ hk => hk.elim) ?aF ?aO ?aB ?aS ?aL ?_; (case aP => exact k25_mkM _ _ _ (⟨a1_0, a1_1, a1_2, a1_3, a1_4, a1_5⟩ : S25)); (case aB => exact hB_); (case aF => exact (fun k_ hk => ⟨Kd.freshB (g := gb372) (kR_ BK372) k_ hk, Kd.freshB (g := gb373) (kR_ BK373) k_ hk, Kd.freshB (g := gb379) (kR_ BK379) k_ hk⟩)); (case aO => exact (rR_ HO420)); (case aS => exact (below_size hB_)); (case aL => have := LMc114.out; omega); intro v422 w118 ho hb hg hat; rw [← Ny421.out] at ho; have HO423 := aM_ (ho); replace HO_34 := aM_ (Kd.R_over' (rR_ HO_34) (Kd.R_typed (rR_ HO420)) (by decide) hg); replace BK372 := aM_ (blk_grown (g := gb372) (kR_ BK372) hg (Kd.R_away HO420.out (fun _ hk => hk.1))); replace BK373 := aM_ (blk_grown (g := gb373) (kR_ BK373) hg (Kd.R_away HO420.out (fun _ hk => hk.2.1))); replace BK379 := aM_ (blk_grown (g := gb379) (kR_ BK379) hg (Kd.R_away HO420.out (fun _ hk => hk.2.2))); replace HB := aM_ (hb); clear HO420; clear ho hb hg hat))
          go_ret2
          exact ⟨_, rT_, by (with_reducible repeat (first | apply rA_ | apply rN_ | apply rD_)); exact Kd.R_mono HO423.out (fun _ hk => trivial), hB_⟩
         replace H := ig_ H; obtain ⟨c51b0, H⟩ := H
         replace H := ig_ H; obtain ⟨c52b0, H⟩ := H
         have H' := Aside0.mk H
         clear H
         obtain ⟨⟨ad386, e386, hx386_0⟩, p386, q386⟩ := at2_ (Kd.at_int (Kd.R_reads' HO_34.out).2.2 x36_4); cases e386
         go_wp2
         go_loopg [6] k4 (fun kq v6 w' => ∃ (x6_5 : List (S25)) (x380000_5 : Int) (x380001_5 : Int) (x380002_5 : Int) (x380003_5 : Int) (x380004_5 : Int) (x380005_5 : Bool), Aside0 (spec_ShapeWay.l1 kq x6_5 x36_4 (rd t383 x36_4) t383 (t383.length : Int) x36_4 a1_0 a1_1 a1_2 a1_3 a1_4 a1_5 x380000_5 x380001_5 x380002_5 x380003_5 x380004_5 x380005_5 = some (r1, r2)) ∧ Aside0 (kq ≤ k4) ∧ Aside0 (Kd.R k25 25 w' w.heap.size (fun k_ => k_ ≠ gb372 ∧ k_ ≠ gb373 ∧ k_ ≠ gb379) v6 x6_5) ∧ Aside0 (Kd.R (Kd.int .i64) 3 w' w.heap.size (fun _ => True) (.slice (some ad386) t383.length co49) t383) ∧ Aside0 (w'.heap[gb372]? = some (.cells #[.int .i64 a0_0, .int .i64 a0_1, .int .i64 a0_2, .int .i64 a0_3, .int .i64 a0_4, .bool a0_5] 25 (0, 0))) ∧ Aside0 (w'.heap[gb373]? = some (.cells #[.int .i64 a1_0, .int .i64 a1_1, .int .i64 a1_2, .int .i64 a1_3, .int .i64 a1_4, .bool a1_5] 25 (0, 0))) ∧ Aside0 (w'.heap[gb379]? = some (.cells #[.int .i64 x380000_5, .int .i64 x380001_5, .int .i64 x380002_5, .int .i64 x380003_5, .int .i64 x380004_5, .bool x380005_5] 25 (0, 0))) ∧ Aside0 (Below w.heap.size w w'))
         case atStart => exact ⟨(x6_4), (x380000_4), (x380001_4), (x380002_4), (x380003_4), (x380004_4), (x380005_4), H', ⟨Nat.le_refl _⟩, ⟨(rR_ HO_6)⟩, ⟨(rR_ HO_34)⟩, ⟨kP_⟩, ⟨kP_⟩, ⟨kP_⟩, ⟨hB_⟩⟩
         case round =>
          clear H'
          (try clear c6);(try clear c17);(try clear c50);(try clear c50b0);(try clear c51);(try clear c51b0);(try clear c52);(try clear c52b0);(try clear hcz20_0);(try clear hcz20_1);(try clear hcz20_2);(try clear hcz20_3);(try clear hcz20_4);(try clear hcz20_5);(try clear hcz23_0);(try clear hcz23_1);(try clear hcz23_2);(try clear hcz23_3);(try clear hcz23_4);(try clear hcz23_5);(try clear hcz27_0);(try clear hcz27_1);(try clear hcz27_2);(try clear hcz27_3);(try clear hcz27_4);(try clear hcz27_5);(try clear hcz47_0);(try clear hcz47_1);(try clear hcz47_2);(try clear hcz47_3);(try clear hcz47_4);(try clear hcz47_5);(try clear hfz20_0);(try clear hfz20_1);(try clear hfz20_2);(try clear hfz20_3);(try clear hfz20_4);(try clear hfz20_5);(try clear hfz23_0);(try clear hfz23_1);(try clear hfz23_2);(try clear hfz23_3);(try clear hfz23_4);(try clear hfz23_5);(try clear hfz27_0);(try clear hfz27_1);(try clear hfz27_2);(try clear hfz27_3);(try clear hfz27_4);(try clear hfz27_5);(try clear hfz47_0);(try clear hfz47_1);(try clear hfz47_2);(try clear hfz47_3);(try clear hfz47_4);(try clear hfz47_5);(try clear hx386_0);(try clear p386);(try clear q386)
          obtain ⟨x6_5, x380000_5, x380001_5, x380002_5, x380003_5, x380004_5, x380005_5, HA, HK5, HO_6, HO_34, BK372, BK373, BK379, HB⟩ := hrel
          cases gk with
          | zero => exact absurd HA.out (by simp [spec_ShapeWay.l1])
          | succ k5 =>
           have H := HA.out
           clear HA
           simp only [spec_ShapeWay.l1] at H
           replace H := ob_ H; obtain ⟨t387, A53, H⟩ := H; try dsimp only at H
           replace H := ig_ H; obtain ⟨c54b0, H⟩ := H
           replace H := ig_ H; obtain ⟨c55b0, H⟩ := H
           have HC56 := Aside0.mk H
           clear H
           have hnb57 := NB379_372.out
           have hnc57 := NB372_379.out
           have hnb58 := NB379_373.out
           have hnc58 := NB373_379.out
           have hz59 := cf6_ BK379.out
           go_upto_if 47 with (first | ((with_reducible refine gC_ 25 ?_); refine gM_ (some 42) Tryd.func25 #[.agg #[.int .i64 x380000_5, .int .i64 x380001_5, .int .i64 x380002_5, .int .i64 x380003_5, .int .i64 x380004_5, .bool x380005_5]] ?_; (with_reducible refine (spec_shFingers.calls x380000_5 x380001_5 x380002_5 x380003_5 x380004_5 x380005_5 t387 _ A53.out).mono ?_); rintro e w60 ⟨v388, rfl, ho0, hb⟩; refine ⟨_, rfl, ?_⟩; have HO389 := aM_ (Kd.R_lower (Kd.R_new' ho0 (Kd.R_lt (rR_ HO_34))) (below_size hB_)); replace HO_6 := aM_ (Kd.R_below (rR_ HO_6) hb); replace HO_34 := aM_ (Kd.R_elder' (rR_ HO_34) (Kd.R_base ho0) hb); replace BK372 := aM_ (blk_below (g := gb372) (kR_ BK372) hb); replace BK373 := aM_ (blk_below (g := gb373) (kR_ BK373) hb); replace BK379 := aM_ (blk_below (g := gb379) (kR_ BK379) hb); replace HB := aM_ (below_step hB_ hb); (try clear hb); (try clear ho0); obtain ⟨Ao61, co61, eo61⟩ := Kd.R_slice HO389.out; subst eo61; have p390 : 0 ≤ (x36_4 : Int) := ode_; have q390 : x36_4 < (t387.length : Int) := ode_; obtain ⟨ad390, e390, hx390_0⟩ := Kd.at_int (Kd.R_reads' HO389.out).2.2 x36_4 p390 q390; cases e390; replace p390 := eq_true p390; replace q390 := eq_true q390))
           (try simp only [Act.put, List.setIfInBounds_toArray, List.set_cons_zero, List.set_cons_succ])
           have H := HC56.out
           clear HC56
           by_cases c62 : (rd t387 x36_4) = (rd t383 x36_4)
           ·rw [if_pos c62] at H
            have c62b0 : ((rd t387 x36_4) == (rd t383 x36_4)) = true := beq_iff_eq.mpr c62
            have c62b1 : ((rd t387 x36_4) != (rd t383 x36_4)) = false := bne_eq_false_iff_eq.mpr c62
            clear c62
            (first | rw [c62b0] | (simp only [i64_w, i32_w]; rw [c62b0]) | skip)
            have H' := Aside0.mk H
            clear H
            go_wp2
            go_roundg k5
            case measure => have := HJ2.out; have := HJ17.out; have := HJ36.out; have := HK4.out; have := HK5.out; omega
            case rel => exact ⟨(x6_5), (wrap64 (x36_4 + 1)), (x380000_5), (x380001_5), (x380002_5), (x380003_5), (x380004_5), (x380005_5), z9_0_, H', ⟨z9_7_⟩, ⟨(rR_ HO_6)⟩, ⟨(rT1_ HO_34)⟩, ⟨kP_⟩, ⟨kP_⟩, ⟨kP_⟩, ⟨hB_⟩⟩
           rw [if_neg c62] at H
           have c62b0 : ((rd t387 x36_4) == (rd t383 x36_4)) = false := beq_eq_false_iff_ne.mpr c62
           have c62b1 : ((rd t387 x36_4) != (rd t383 x36_4)) = true := bne_iff_ne.mpr c62
           (first | rw [c62b0] | (simp only [i64_w, i32_w]; rw [c62b0]) | skip)
           replace H := ob_ H; obtain ⟨t391, A63, H⟩ := H; try dsimp only at H
           replace H := ig_ H; obtain ⟨c64b0, H⟩ := H
           replace H := ob_ H; obtain ⟨t395, A65, H⟩ := H; try dsimp only at H
           replace H := ig_ H; obtain ⟨c66b0, H⟩ := H
           replace H := ob_ H; obtain ⟨t399, A67, H⟩ := H; try dsimp only at H
           replace H := ob_ H; obtain ⟨⟨t400, t401, t402, t403, t404, t405⟩, A68, H⟩ := H; try dsimp only at H
           replace H := il_ H; obtain ⟨LMc69, H⟩ := H
           obtain ⟨y406, hy406⟩ : ∃ y_ : List (S25), y_ = (x6_5 ++ [(⟨t400, t401, t402, t403, t404, t405⟩ : S25)]) := ⟨_, rfl⟩
           rw [← hy406] at H
           have Ny406 := Aside0.mk hy406; clear hy406
           have H' := Aside0.mk H
           clear H
           try go_wp2
           replace HO_6 := aM_ (Kd.R_drew HO_6.out)
           replace HO_34 := aM_ (Kd.R_drew HO_34.out)
           replace HO389 := aM_ (Kd.R_drew HO389.out)
           replace BK372 := aM_ (blk_drew BK372.out)
           replace BK373 := aM_ (blk_drew BK373.out)
           replace BK379 := aM_ (blk_drew BK379.out)
           replace HB := aM_ (below_drew1 HB.out)
           refine st_ 19 (fun w' => w'.cell? ⟨gb379, 0, none⟩ = some (.int .i64 x380000_5) ∧ w'.cell? ⟨gb379, 1, none⟩ = some (.int .i64 x380001_5) ∧ w'.cell? ⟨gb379, 2, none⟩ = some (.int .i64 x380002_5) ∧ w'.cell? ⟨gb379, 3, none⟩ = some (.int .i64 x380003_5) ∧ w'.cell? ⟨gb379, 4, none⟩ = some (.int .i64 x380004_5) ∧ w'.cell? ⟨gb379, 5, none⟩ = some (.bool x380005_5)) [18] spec_ShapeWay.tab12 spec_ShapeWay.bits12 ⟨(blk_cell BK379.out 0).trans rfl, (blk_cell BK379.out 1).trans rfl, (blk_cell BK379.out 2).trans rfl, (blk_cell BK379.out 3).trans rfl, (blk_cell BK379.out 4).trans rfl, (blk_cell BK379.out 5).trans rfl⟩ fun hHeld HT_ HW_ => ?_
           generalize w60.drew = w70 at HO_6 HO_34 HO389 BK372 BK373 BK379 HB hHeld ⊢
           refine pu_ 1 49 ?_
           refine pu_ 2 50 ?_
           refine pu_ 5 53 ?_
           refine pu_ 8 56 ?_
           refine pu_ 11 59 ?_
           refine tk_ 0 48 ?_
           refine tk_ 3 51 ?_
           refine tk_ 9 57 ?_
           refine on_ 4 52 fun K hK => ?_
           refine gS_ Tryd.func25 #[.agg #[.int .i64 x380000_5, .int .i64 x380001_5, .int .i64 x380002_5, .int .i64 x380003_5, .int .i64 x380004_5, .bool x380005_5]] ?_
           with_reducible refine (spec_shFingers.calls x380000_5 x380001_5 x380002_5 x380003_5 x380004_5 x380005_5 t391 _ A63.out).mono ?_
           rintro e w71 ⟨v392, rfl, ho0, hb⟩
           refine ⟨_, rfl, ?_⟩
           have HO393 := aM_ (Kd.R_lower (Kd.R_new' (Kd.R_new' ho0 (Kd.R_lt (rR_ HO_34))) (Kd.R_lt (rR_ HO389))) (below_size hB_))
           replace HO_6 := aM_ (Kd.R_below (rR_ HO_6) hb)
           replace HO_34 := aM_ (Kd.R_elder' (rR_ HO_34) (Kd.R_base ho0) hb)
           replace HO389 := aM_ (Kd.R_elder' (rR_ HO389) (Kd.R_base ho0) hb)
           replace BK372 := aM_ (blk_below (g := gb372) (kR_ BK372) hb)
           replace BK373 := aM_ (blk_below (g := gb373) (kR_ BK373) hb)
           replace BK379 := aM_ (blk_below (g := gb379) (kR_ BK379) hb)
           replace HB := aM_ (below_step hB_ hb)
           (try clear hb)
           (try clear hb2)
           (try clear hk)
           (try clear hi)
           (try clear ho0)
           obtain ⟨Ao72, co72, eo72⟩ := Kd.R_slice HO393.out
           (first | subst eo72 | (injection eo72 with f1_ f2_ f3_; have f4_ := f1_.symm; have f5_ := f3_.symm; clear f1_ f2_ f3_; subst f4_; subst f5_))
           obtain ⟨⟨ad394, e394, hx394_0⟩, p394, q394⟩ := at2_ (Kd.at_int (Kd.R_reads' HO393.out).2.2 x36_4); cases e394
           refine hK.out _ _ ⟨(blk_cell BK379.out 0).trans rfl, (blk_cell BK379.out 1).trans rfl, (blk_cell BK379.out 2).trans rfl, (blk_cell BK379.out 3).trans rfl, (blk_cell BK379.out 4).trans rfl, (blk_cell BK379.out 5).trans rfl⟩ (fun hHeld => ?_)
           clear hK K
           refine nm_ 52 ?_
           refine more_ (fun w' => w'.cell? (ad394.add (x36_4).toNat) = some (.int .i64 (rd t391 x36_4))) HT_ hHeld hx394_0 ?_
           have hHeld := And.intro hx394_0 hHeld
           refine pu_ 6 54 ?_
           refine tk_ 7 55 ?_
           refine on_ 10 58 fun K hK => ?_
           refine gS_ Tryd.func25 #[.agg #[.int .i64 x380000_5, .int .i64 x380001_5, .int .i64 x380002_5, .int .i64 x380003_5, .int .i64 x380004_5, .bool x380005_5]] ?_
           with_reducible refine (spec_shFingers.calls x380000_5 x380001_5 x380002_5 x380003_5 x380004_5 x380005_5 t395 _ A65.out).mono ?_
           rintro e w73 ⟨v396, rfl, ho0, hb⟩
           have HS6_ := (hb.cell (World.block_lt_of_cell? _ _ (hHeld.1))).trans (hHeld.1)
           refine ⟨_, rfl, ?_⟩
           have HO397 := aM_ (Kd.R_lower (Kd.R_new' (Kd.R_new' (Kd.R_new' ho0 (Kd.R_lt (rR_ HO_34))) (Kd.R_lt (rR_ HO389))) (Kd.R_lt (rR_ HO393))) (below_size hB_))
           replace HO_6 := aM_ (Kd.R_below (rR_ HO_6) hb)
           replace HO_34 := aM_ (Kd.R_elder' (rR_ HO_34) (Kd.R_base ho0) hb)
           replace HO389 := aM_ (Kd.R_elder' (rR_ HO389) (Kd.R_base ho0) hb)
           replace HO393 := aM_ (Kd.R_elder' (rR_ HO393) (Kd.R_base ho0) hb)
           replace BK372 := aM_ (blk_below (g := gb372) (kR_ BK372) hb)
           replace BK373 := aM_ (blk_below (g := gb373) (kR_ BK373) hb)
           replace BK379 := aM_ (blk_below (g := gb379) (kR_ BK379) hb)
           replace HB := aM_ (below_step hB_ hb)
           (try clear hb)
           (try clear hb2)
           (try clear hk)
           (try clear hi)
           (try clear ho0)
           obtain ⟨Ao74, co74, eo74⟩ := Kd.R_slice HO397.out
           (first | subst eo74 | (injection eo74 with f1_ f2_ f3_; have f4_ := f1_.symm; have f5_ := f3_.symm; clear f1_ f2_ f3_; subst f4_; subst f5_))
           obtain ⟨⟨ad398, e398, hx398_0⟩, p398, q398⟩ := at2_ (Kd.at_int (Kd.R_reads' HO397.out).2.2 x36_4); cases e398
           refine hK.out _ _ ⟨HS6_, (blk_cell BK379.out 0).trans rfl, (blk_cell BK379.out 1).trans rfl, (blk_cell BK379.out 2).trans rfl, (blk_cell BK379.out 3).trans rfl, (blk_cell BK379.out 4).trans rfl, (blk_cell BK379.out 5).trans rfl⟩ (fun hHeld => ?_)
           clear hK K
           refine nm_ 58 ?_
           refine more_ (fun w' => w'.cell? (ad398.add (x36_4).toNat) = some (.int .i64 (rd t395 x36_4))) HT_ hHeld hx398_0 ?_
           have hHeld := And.intro hx398_0 hHeld
           refine pu_ 12 60 ?_
           refine tk_ 13 61 ?_
           refine pu_ 14 62 ?_
           refine on_ 15 63 fun K hK => ?_
           refine gS_ Tryd.func27 #[.int .i64 (wrap64 ((rd t383 x36_4) - (rd t395 x36_4)))] ?_
           with_reducible refine (spec_l1Sign.calls (wrap64 ((rd t383 x36_4) - (rd t395 x36_4))) t399 _ A67.out).mono ?_
           rintro e w' ⟨rfl, ⟨nd, rfl⟩⟩
           refine ⟨_, rfl, ?_⟩
           refine hK.out _ _ ⟨hHeld.1, hHeld.2.1, (blk_cell BK379.out 0).trans rfl, (blk_cell BK379.out 1).trans rfl, (blk_cell BK379.out 2).trans rfl, (blk_cell BK379.out 3).trans rfl, (blk_cell BK379.out 4).trans rfl, (blk_cell BK379.out 5).trans rfl⟩ (fun hHeld => ?_)
           clear hK K
           refine nm_ 63 ?_
           refine pu_ 16 64 ?_
           refine on_ 17 65 fun K hK => ?_
           refine gS_ Tryd.func26 #[.agg #[.int .i64 x380000_5, .int .i64 x380001_5, .int .i64 x380002_5, .int .i64 x380003_5, .int .i64 x380004_5, .bool x380005_5], .int .i64 (wrap64 (x36_4 + 1)), .int .i64 (wrap64 ((rd t391 x36_4) + t399))] ?_
           with_reducible refine (spec_shSet.calls k5 x380000_5 x380001_5 x380002_5 x380003_5 x380004_5 x380005_5 (wrap64 (x36_4 + 1)) (wrap64 ((rd t391 x36_4) + t399)) t400 t401 t402 t403 t404 t405 _ A68.out).mono ?_
           rintro e w75 ⟨rfl, hb⟩
           have HS6_ := (hb.cell (World.block_lt_of_cell? _ _ (hHeld.2.1))).trans (hHeld.2.1)
           have HS7_ := (hb.cell (World.block_lt_of_cell? _ _ (hHeld.1))).trans (hHeld.1)
           refine ⟨_, rfl, ?_⟩
           replace HO_6 := aM_ (Kd.R_below (rR_ HO_6) hb)
           replace HO_34 := aM_ (Kd.R_below (rR_ HO_34) hb)
           replace HO389 := aM_ (Kd.R_below (rR_ HO389) hb)
           replace HO393 := aM_ (Kd.R_below (rR_ HO393) hb)
           replace HO397 := aM_ (Kd.R_below (rR_ HO397) hb)
           replace BK372 := aM_ (blk_below (g := gb372) (kR_ BK372) hb)
           replace BK373 := aM_ (blk_below (g := gb373) (kR_ BK373) hb)
           replace BK379 := aM_ (blk_below (g := gb379) (kR_ BK379) hb)
           replace HB := aM_ (below_step hB_ hb)
           (try clear hb)
           (try clear hb2)
           (try clear hk)
           (try clear hi)
           refine hK.out _ _ ⟨HS7_, HS6_, (blk_cell BK379.out 0).trans rfl, (blk_cell BK379.out 1).trans rfl, (blk_cell BK379.out 2).trans rfl, (blk_cell BK379.out 3).trans rfl, (blk_cell BK379.out 4).trans rfl, (blk_cell BK379.out 5).trans rfl⟩ (fun hHeld => ?_)
           clear hK K
           refine nm_ 65 ?_
           refine last_ (i := 18) (N := none) (bz_ 19 0x7ffff) rfl rfl (one_of HT_.out (by kernel_rfl)) (by decide) (fun K hK => ?_)
           have hs76 : w75.cell? ⟨gb379, 0, none⟩ = some (.int .i64 x380000_5) := (blk_cell BK379.out 0).trans rfl
           have hfs76 := blk_frozen BK379.out 0
           have hns76_0 := NB372_379.out
           have hns76_1 := NB373_379.out
           have hms76_0 := NB379_372.out
           have hms76_1 := NB379_373.out
           have hs77 : w75.cell? ⟨gb379, 1, none⟩ = some (.int .i64 x380001_5) := (blk_cell BK379.out 1).trans rfl
           have hfs77 := blk_frozen BK379.out 1
           have hns77_0 := NB372_379.out
           have hns77_1 := NB373_379.out
           have hms77_0 := NB379_372.out
           have hms77_1 := NB379_373.out
           have hs78 : w75.cell? ⟨gb379, 2, none⟩ = some (.int .i64 x380002_5) := (blk_cell BK379.out 2).trans rfl
           have hfs78 := blk_frozen BK379.out 2
           have hns78_0 := NB372_379.out
           have hns78_1 := NB373_379.out
           have hms78_0 := NB379_372.out
           have hms78_1 := NB379_373.out
           have hs79 : w75.cell? ⟨gb379, 3, none⟩ = some (.int .i64 x380003_5) := (blk_cell BK379.out 3).trans rfl
           have hfs79 := blk_frozen BK379.out 3
           have hns79_0 := NB372_379.out
           have hns79_1 := NB373_379.out
           have hms79_0 := NB379_372.out
           have hms79_1 := NB379_373.out
           have hs80 : w75.cell? ⟨gb379, 4, none⟩ = some (.int .i64 x380004_5) := (blk_cell BK379.out 4).trans rfl
           have hfs80 := blk_frozen BK379.out 4
           have hns80_0 := NB372_379.out
           have hns80_1 := NB373_379.out
           have hms80_0 := NB379_372.out
           have hms80_1 := NB379_373.out
           have hs81 : w75.cell? ⟨gb379, 5, none⟩ = some (.bool x380005_5) := (blk_cell BK379.out 5).trans rfl
           have hfs81 := blk_frozen BK379.out 5
           have hns81_0 := NB372_379.out
           have hns81_1 := NB373_379.out
           have hms81_0 := NB379_372.out
           have hms81_1 := NB379_373.out
           refine skip_ (w1 := ?_) (by rfl) rfl ?_ ?_
           rotate_left
           ·go_simp
            rfl
           refine hK.out _ _ ?_
           clear hK K
           refine dn_ ?_
           have hnb82 := NB379_372.out
           have hnc82 := NB372_379.out
           have hnb83 := NB379_373.out
           have hnc83 := NB373_379.out
           have hz84 := cf6_ BK379.out
           try go_wp2_with (first | ((with_reducible refine gate_builtin (b := .append) (xs := #[.tmp 66, .tmp 68]) rfl ?_); at_builtin; refine Kd.R_append k25 (w0 := w) w.heap.size rfl (.tmp 66) (.tmp 68) 28 25 (.agg #[(.int .i64 0), (.int .i64 0), (.int .i64 0), (.int .i64 0), (.int .i64 0), (.bool false)]) 48 rfl Tryd.underlying28 info25 rfl (by decide) (by omega) u6 x6_5 (⟨t400, t401, t402, t403, t404, t405⟩ : S25) [.int .i64 t400, .int .i64 t401, .int .i64 t402, .int .i64 t403, .int .i64 t404, .bool t405] (fun k_ => k_ ≠ gb372 ∧ k_ ≠ gb373 ∧ k_ ≠ gb379) (fun _ => False) rfl z9_4_ ?aP (fun _ hk => hk.elim) ?aF ?aO ?aB ?aS ?aL ?_; (case aP => exact k25_mkM _ _ _ (⟨t400, t401, t402, t403, t404, t405⟩ : S25)); (case aB => exact hB_); (case aF => exact (fun k_ hk => ⟨Kd.freshB (g := gb372) (kR_ BK372) k_ hk, Kd.freshB (g := gb373) (kR_ BK373) k_ hk, Kd.freshB (g := gb379) (o := .cells #[.int .i64 t400, .int .i64 t401, .int .i64 t402, .int .i64 t403, .int .i64 t404, .bool t405] 25 (0, 0)) z9_8_ k_ hk⟩)); (case aO => exact (by (with_reducible repeat (first | apply rA_ | apply rN_ | apply rD_)); exact Kd.R_mono (Kd.R_far (p := ⟨gb379, 5, none⟩) (Kd.R_far (p := ⟨gb379, 4, none⟩) (Kd.R_far (p := ⟨gb379, 3, none⟩) (Kd.R_far (p := ⟨gb379, 2, none⟩) (Kd.R_far (p := ⟨gb379, 1, none⟩) (Kd.R_far (p := ⟨gb379, 0, none⟩) (Kd.R_mono HO_6.out (fun k_ hk => (⟨hk, hk.2.2⟩ : _ ∧ k_ ≠ gb379))) (fun _ hk => hk.2) (.int .i64 t400)) (fun _ hk => hk.2) (.int .i64 t401)) (fun _ hk => hk.2) (.int .i64 t402)) (fun _ hk => hk.2) (.int .i64 t403)) (fun _ hk => hk.2) (.int .i64 t404)) (fun _ hk => hk.2) (.bool t405)) (fun _ hk => ⟨hk.1.1, ⟨hk.1.2.1, hk.1.2.2⟩⟩))); (case aS => exact (below_size hB_)); (case aL => have := LMc69.out; omega); intro v407 w85 ho hb hg hat; rw [← Ny406.out] at ho; have HO408 := aM_ (ho); replace HO_34 := aM_ (Kd.R_over' (by (with_reducible repeat (first | apply rA_ | apply rN_ | apply rD_)); exact (Kd.R_mono (Kd.R_far (p := ⟨gb379, 5, none⟩) (Kd.R_far (p := ⟨gb379, 4, none⟩) (Kd.R_far (p := ⟨gb379, 3, none⟩) (Kd.R_far (p := ⟨gb379, 2, none⟩) (Kd.R_far (p := ⟨gb379, 1, none⟩) (Kd.R_far (p := ⟨gb379, 0, none⟩) (Kd.R_types HO_34.out BK379.out (by decide)) (fun _ hk => hk.2) (.int .i64 t400)) (fun _ hk => hk.2) (.int .i64 t401)) (fun _ hk => hk.2) (.int .i64 t402)) (fun _ hk => hk.2) (.int .i64 t403)) (fun _ hk => hk.2) (.int .i64 t404)) (fun _ hk => hk.2) (.bool t405)) (fun _ h_ => h_.1))) (Kd.R_typed z9_9_) (by decide) hg); replace BK372 := aM_ (blk_grown (g := gb372) (kR_ BK372) hg (Kd.R_away HO_6.out (fun _ hk => hk.1))); replace BK373 := aM_ (blk_grown (g := gb373) (kR_ BK373) hg (Kd.R_away HO_6.out (fun _ hk => hk.2.1))); replace HO389 := aM_ (Kd.R_over' (by (with_reducible repeat (first | apply rA_ | apply rN_ | apply rD_)); exact (Kd.R_mono (Kd.R_far (p := ⟨gb379, 5, none⟩) (Kd.R_far (p := ⟨gb379, 4, none⟩) (Kd.R_far (p := ⟨gb379, 3, none⟩) (Kd.R_far (p := ⟨gb379, 2, none⟩) (Kd.R_far (p := ⟨gb379, 1, none⟩) (Kd.R_far (p := ⟨gb379, 0, none⟩) (Kd.R_types HO389.out BK379.out (by decide)) (fun _ hk => hk.2) (.int .i64 t400)) (fun _ hk => hk.2) (.int .i64 t401)) (fun _ hk => hk.2) (.int .i64 t402)) (fun _ hk => hk.2) (.int .i64 t403)) (fun _ hk => hk.2) (.int .i64 t404)) (fun _ hk => hk.2) (.bool t405)) (fun _ h_ => h_.1))) (Kd.R_typed z9_9_) (by decide) hg); replace HO393 := aM_ (Kd.R_over' (by (with_reducible repeat (first | apply rA_ | apply rN_ | apply rD_)); exact (Kd.R_mono (Kd.R_far (p := ⟨gb379, 5, none⟩) (Kd.R_far (p := ⟨gb379, 4, none⟩) (Kd.R_far (p := ⟨gb379, 3, none⟩) (Kd.R_far (p := ⟨gb379, 2, none⟩) (Kd.R_far (p := ⟨gb379, 1, none⟩) (Kd.R_far (p := ⟨gb379, 0, none⟩) (Kd.R_types HO393.out BK379.out (by decide)) (fun _ hk => hk.2) (.int .i64 t400)) (fun _ hk => hk.2) (.int .i64 t401)) (fun _ hk => hk.2) (.int .i64 t402)) (fun _ hk => hk.2) (.int .i64 t403)) (fun _ hk => hk.2) (.int .i64 t404)) (fun _ hk => hk.2) (.bool t405)) (fun _ h_ => h_.1))) (Kd.R_typed z9_9_) (by decide) hg); replace HO397 := aM_ (Kd.R_over' (by (with_reducible repeat (first | apply rA_ | apply rN_ | apply rD_)); exact (Kd.R_mono (Kd.R_far (p := ⟨gb379, 5, none⟩) (Kd.R_far (p := ⟨gb379, 4, none⟩) (Kd.R_far (p := ⟨gb379, 3, none⟩) (Kd.R_far (p := ⟨gb379, 2, none⟩) (Kd.R_far (p := ⟨gb379, 1, none⟩) (Kd.R_far (p := ⟨gb379, 0, none⟩) (Kd.R_types HO397.out BK379.out (by decide)) (fun _ hk => hk.2) (.int .i64 t400)) (fun _ hk => hk.2) (.int .i64 t401)) (fun _ hk => hk.2) (.int .i64 t402)) (fun _ hk => hk.2) (.int .i64 t403)) (fun _ hk => hk.2) (.int .i64 t404)) (fun _ hk => hk.2) (.bool t405)) (fun _ h_ => h_.1))) (Kd.R_typed z9_9_) (by decide) hg); replace BK379 := aM_ (blk_grown (g := gb379) (o := .cells #[.int .i64 t400, .int .i64 t401, .int .i64 t402, .int .i64 t403, .int .i64 t404, .bool t405] 25 (0, 0)) z9_8_ hg (Kd.R_away HO_6.out (fun _ hk => hk.2.2))); replace HB := aM_ (hb); clear HO_6; clear ho hb hg hat))
           go_roundg k5
           case measure => have := HJ2.out; have := HJ17.out; have := HJ36.out; have := HK4.out; have := HK5.out; omega
           case rel => exact ⟨(y406), (t400), (t401), (t402), (t403), (t404), (t405), H', ⟨z9_7_⟩, ⟨rR_ HO408⟩, ⟨(rT1_ HO_34)⟩, ⟨kP_⟩, ⟨kP_⟩, ⟨kP_⟩, ⟨hB_⟩⟩

end Go.Proofs.YtbfkpgmdbafmhaaDoor.PFnShapes
