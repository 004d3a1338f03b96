/- Printed for this claim: functions of the program as Lean functions, and that the calls answer so. -/
import Derived.Test.YtbfkpgmdbafmhaaDoorPFnShapesx16
import Derived.Test.YtbfkpgmdbafmhaaDoorPFnShapesx0
import Derived.Test.YtbfkpgmdbafmhaaDoorPFnShapesx1
import Derived.Test.YtbfkpgmdbafmhaaDoorPFnShapesx5
import Derived.Test.YtbfkpgmdbafmhaaDoorPFnShapesx6
import Derived.Test.YtbfkpgmdbafmhaaDoorPFnShapesxD0
import Derived.Test.YtbfkpgmdbafmhaaDoorPFnShapesxD1
namespace Go.Proofs.YtbfkpgmdbafmhaaDoor.PFnShapes
open Go.RowKit Go.Proofs.YtbfkpgmdbafmhaaDoorW.PrintWords Go.Proofs.YtbfkpgmdbafmhaaDoorW.PrintLast Go.Proofs.YtbfkpgmdbafmhaaDoorW.PrintMore
attribute [local go_sem] max2_int min2_int max_two min_two max_three min_three max_four min_four isSome_setCell   -- for this text's walks alone
set_option linter.unusedVariables false
set_option linter.unusedSimpArgs false

attribute [local go_sem high] eqA25
theorem z7_0_ {p : Prop} (h : p := by first | rfl | (simp; done) | (simp [*]; done)) : p := h
theorem z7_1_ {p : Prop} (h : p := by (with_reducible repeat (first | apply kN_ | apply kD_ | apply kA_)); refine blk_far ?_ NB305_312.out _; (with_reducible repeat (first | apply kN_ | apply kD_ | apply kA_)); refine blk_far ?_ NB305_312.out _; (with_reducible repeat (first | apply kN_ | apply kD_ | apply kA_)); refine blk_far ?_ NB305_312.out _; (with_reducible repeat (first | apply kN_ | apply kD_ | apply kA_)); refine blk_far ?_ NB305_312.out _; (with_reducible repeat (first | apply kN_ | apply kD_ | apply kA_)); refine blk_far ?_ NB305_312.out _; (with_reducible repeat (first | apply kN_ | apply kD_ | apply kA_)); refine blk_far ?_ NB305_312.out _; (with_reducible repeat (first | apply kN_ | apply kD_ | apply kA_)); exact BK305.out) : p := h
theorem z7_2_ {p : Prop} (h : p := by (with_reducible repeat (first | apply kN_ | apply kD_ | apply kA_)); refine blk_far ?_ NB306_312.out _; (with_reducible repeat (first | apply kN_ | apply kD_ | apply kA_)); refine blk_far ?_ NB306_312.out _; (with_reducible repeat (first | apply kN_ | apply kD_ | apply kA_)); refine blk_far ?_ NB306_312.out _; (with_reducible repeat (first | apply kN_ | apply kD_ | apply kA_)); refine blk_far ?_ NB306_312.out _; (with_reducible repeat (first | apply kN_ | apply kD_ | apply kA_)); refine blk_far ?_ NB306_312.out _; (with_reducible repeat (first | apply kN_ | apply kD_ | apply kA_)); refine blk_far ?_ NB306_312.out _; (with_reducible repeat (first | apply kN_ | apply kD_ | apply kA_)); exact BK306.out) : p := h
theorem z7_3_ {p : Prop} (h : p := by (with_reducible repeat (first | apply kN_ | apply kD_ | apply kA_)); refine blk_put (cs := #[.int .i64 a0_0, .int .i64 a0_1, .int .i64 a0_2, .int .i64 a0_3, .int .i64 a0_4, .bool false]) ?_ 5 _ rfl; (with_reducible repeat (first | apply kN_ | apply kD_ | apply kA_)); refine blk_put (cs := #[.int .i64 a0_0, .int .i64 a0_1, .int .i64 a0_2, .int .i64 a0_3, .int .i64 0, .bool false]) ?_ 4 _ rfl; (with_reducible repeat (first | apply kN_ | apply kD_ | apply kA_)); refine blk_put (cs := #[.int .i64 a0_0, .int .i64 a0_1, .int .i64 a0_2, .int .i64 0, .int .i64 0, .bool false]) ?_ 3 _ rfl; (with_reducible repeat (first | apply kN_ | apply kD_ | apply kA_)); refine blk_put (cs := #[.int .i64 a0_0, .int .i64 a0_1, .int .i64 0, .int .i64 0, .int .i64 0, .bool false]) ?_ 2 _ rfl; (with_reducible repeat (first | apply kN_ | apply kD_ | apply kA_)); refine blk_put (cs := #[.int .i64 a0_0, .int .i64 0, .int .i64 0, .int .i64 0, .int .i64 0, .bool false]) ?_ 1 _ rfl; (with_reducible repeat (first | apply kN_ | apply kD_ | apply kA_)); refine blk_put (cs := #[.int .i64 0, .int .i64 0, .int .i64 0, .int .i64 0, .int .i64 0, .bool false]) ?_ 0 _ rfl; (with_reducible repeat (first | apply kN_ | apply kD_ | apply kA_)); exact BK312.out) : p := h
theorem z7_4_ {p : Prop} (h : p := by first | (go_simp; done) | (go_simp; rfl)) : p := h
theorem z7_5_ {p : Prop} (h : p := by (with_reducible repeat (first | apply kN_ | apply kD_ | apply kA_)); refine blk_put (cs := #[.int .i64 a0_0, .int .i64 a0_1, .int .i64 a0_2, .int .i64 a0_3, .int .i64 a0_4, .bool a0_5]) ?_ 5 _ rfl; (with_reducible repeat (first | apply kN_ | apply kD_ | apply kA_)); exact BK312.out) : p := h
theorem z7_6_ {p : Prop} (h : p := by (with_reducible repeat (first | apply kN_ | apply kD_ | apply kA_)); refine blk_put (cs := #[.int .i64 x313000_4, .int .i64 x313001_4, .int .i64 x313002_4, .int .i64 x313003_4, .int .i64 x313004_4, .bool x313005_4]) ?_ 0 _ rfl; (with_reducible repeat (first | apply kN_ | apply kD_ | apply kA_)); exact BK312.out) : p := h
theorem z7_7_ {p : Prop} (h : p := by have := HJ2.out; have := HJ17.out; have := HJ36.out; have := HK4.out; have := HK5.out; omega) : p := h
theorem z7_8_ {p : Prop} (h : p := by (with_reducible repeat (first | apply kN_ | apply kD_ | apply kA_)); refine blk_put (cs := #[.int .i64 t333, .int .i64 t334, .int .i64 t335, .int .i64 t336, .int .i64 t337, .bool x313005_5]) ?_ 5 _ rfl; (with_reducible repeat (first | apply kN_ | apply kD_ | apply kA_)); refine blk_put (cs := #[.int .i64 t333, .int .i64 t334, .int .i64 t335, .int .i64 t336, .int .i64 x313004_5, .bool x313005_5]) ?_ 4 _ rfl; (with_reducible repeat (first | apply kN_ | apply kD_ | apply kA_)); refine blk_put (cs := #[.int .i64 t333, .int .i64 t334, .int .i64 t335, .int .i64 x313003_5, .int .i64 x313004_5, .bool x313005_5]) ?_ 3 _ rfl; (with_reducible repeat (first | apply kN_ | apply kD_ | apply kA_)); refine blk_put (cs := #[.int .i64 t333, .int .i64 t334, .int .i64 x313002_5, .int .i64 x313003_5, .int .i64 x313004_5, .bool x313005_5]) ?_ 2 _ rfl; (with_reducible repeat (first | apply kN_ | apply kD_ | apply kA_)); refine blk_put (cs := #[.int .i64 t333, .int .i64 x313001_5, .int .i64 x313002_5, .int .i64 x313003_5, .int .i64 x313004_5, .bool x313005_5]) ?_ 1 _ rfl; (with_reducible repeat (first | apply kN_ | apply kD_ | apply kA_)); refine blk_put (cs := #[.int .i64 x313000_5, .int .i64 x313001_5, .int .i64 x313002_5, .int .i64 x313003_5, .int .i64 x313004_5, .bool x313005_5]) ?_ 0 _ rfl; (with_reducible repeat (first | apply kN_ | apply kD_ | apply kA_)); exact BK312.out) : p := h
theorem z7_9_ {p : Prop} (h : p := by (with_reducible repeat (first | apply rA_ | apply rN_ | apply rD_)); exact (Kd.R_mono (Kd.R_far (p := ⟨gb312, 5, none⟩) (Kd.R_far (p := ⟨gb312, 4, none⟩) (Kd.R_far (p := ⟨gb312, 3, none⟩) (Kd.R_far (p := ⟨gb312, 2, none⟩) (Kd.R_far (p := ⟨gb312, 1, none⟩) (Kd.R_far (p := ⟨gb312, 0, none⟩) (Kd.R_mono HO_6.out (fun k_ hk => (⟨hk, hk.2.2⟩ : _ ∧ k_ ≠ gb312))) (fun _ hk => hk.2) (.int .i64 t333)) (fun _ hk => hk.2) (.int .i64 t334)) (fun _ hk => hk.2) (.int .i64 t335)) (fun _ hk => hk.2) (.int .i64 t336)) (fun _ hk => hk.2) (.int .i64 t337)) (fun _ hk => hk.2) (.bool t338)) (fun _ h_ => h_.1))) : p := h
/-! ### impl_ShapeWay: function 6 -/
def impl_ShapeWay.T12 : Bool × List (List Nat × List Nat) := (true, [([], []), ([], []), ([1], [1]), ([], []), ([3], [3]), ([], []), ([4, 5], [4, 5]), ([6], [6]), ([], []), ([], []), ([9, 4], [9]), ([], []), ([10, 11], [10, 11]), ([12], [12]), ([8, 13, 10], [8, 13]), ([7, 14], [7, 14]), ([0, 2, 15, 14], [0, 2, 15]), ([16, 16, 0, 1, 2, 3, 4, 5, 6, 7, 8, 9, 10, 11, 12, 13, 14, 15, 16], [16])])
def impl_ShapeWay.B12 : List Nat := [0, 0, 2, 0, 8, 0, 56, 120, 0, 0, 536, 0, 3608, 7704, 16152, 32760, 65535, 131071]
theorem impl_ShapeWay.tab12 : rtab .any (opsOf Tryd.f6 12) = impl_ShapeWay.T12 := by kernel_rfl
theorem impl_ShapeWay.bits12 : waitsOk impl_ShapeWay.T12.2 impl_ShapeWay.B12 = true := by kernel_rfl
set_option maxHeartbeats 8000000 in
set_option maxRecDepth 100000 in
theorem impl_ShapeWay.calls (k : Nat) (a0_0 : Int) (a0_1 : Int) (a0_2 : Int) (a0_3 : Int) (a0_4 : Int) (a0_5 : Bool) (a1_0 : Int) (a1_1 : Int) (a1_2 : Int) (a1_3 : Int) (a1_4 : Int) (a1_5 : Bool) (r1 : List (S25)) (r2 : Bool) (w : World) (h : impl_ShapeWay.f k a0_0 a0_1 a0_2 a0_3 a0_4 a0_5 a1_0 a1_1 a1_2 a1_3 a1_4 a1_5 = some (r1, r2)) :
 Calls Tryd.prog 6 #[.agg #[.int .i64 a0_0, .int .i64 a0_1, .int .i64 a0_2, .int .i64 a0_3, .int .i64 a0_4, .bool a0_5], .agg #[.int .i64 a1_0, .int .i64 a1_1, .int .i64 a1_2, .int .i64 a1_3, .int .i64 a1_4, .bool a1_5]] w fun e w' => ∃ v0_ : Value, e = .returned (.tuple #[v0_, .bool r2]) ∧ Kd.R k25 25 w' w.heap.size (fun _ => True) v0_ r1 ∧ Below w.heap.size w w' := by
 have hu25 := Tryd.underlying25
 have HB := Aside0.mk (Below.refl w.heap.size w)
 have H : ((impl_IsShape.f k a0_0 a0_1 a0_2 a0_3 a0_4 a0_5).bind fun t307 => (if t307 = true then ((impl_IsShape.f k a1_0 a1_1 a1_2 a1_3 a1_4 a1_5).bind fun t308 => (impl_ShapeWay.j0 k (!t308) a0_0 a0_1 a0_2 a0_3 a0_4 a0_5 a1_0 a1_1 a1_2 a1_3 a1_4 a1_5)) else (impl_ShapeWay.j0 k true a0_0 a0_1 a0_2 a0_3 a0_4 a0_5 a1_0 a1_1 a1_2 a1_3 a1_4 a1_5))) = some (r1, r2) := h
 clear h
 have HC3 := Aside0.mk H
 clear H
 go_enter Tryd.func6, Tryd.ntmps6
 go_upto_region 1 with (first | ((with_reducible refine gate_dst (N := 2) rfl ?_); refine bx_ 2 #[.int .i64 a0_0, .int .i64 a0_1, .int .i64 a0_2, .int .i64 a0_3, .int .i64 a0_4, .bool a0_5] 25 fun gb305 hg w4 hbox hb => ?_; have BK305 := aM_ (hbox); have GW305 := aM_ (gw_ w hg); have GE305 := aM_ (gw_ w hg); replace HB := aM_ (below_step hB_ hb); clear hb hbox hg) | ((with_reducible refine gate_dst (N := 3) rfl ?_); refine bx_ 3 #[.int .i64 a1_0, .int .i64 a1_1, .int .i64 a1_2, .int .i64 a1_3, .int .i64 a1_4, .bool a1_5] 25 fun gb306 hg w5 hbox hb => ?_; have BK306 := aM_ (hbox); have GW306 := aM_ (gw_ w hg); have GE306 := aM_ (gw_ w hg); have NB305_306 := aM_ (nR_ BK305 hg); have NB306_305 := aM_ (mR_ BK305 hg); replace BK305 := aM_ (blk_below (g := gb305) (kR_ BK305) hb); replace HB := aM_ (below_step hB_ hb); clear hb hbox hg))
 (try simp only [Act.put, List.setIfInBounds_toArray, List.set_cons_zero, List.set_cons_succ])
 go_cut [17] (fun v17 wc => ∃ (kq : Nat) (x17_2 : Bool), v17 = .bool x17_2 ∧ Aside0 (impl_ShapeWay.j0 kq x17_2 a0_0 a0_1 a0_2 a0_3 a0_4 a0_5 a1_0 a1_1 a1_2 a1_3 a1_4 a1_5 = some (r1, r2)) ∧ Aside0 (kq ≤ k) ∧ Aside0 (wc.heap[gb305]? = some (.cells #[.int .i64 a0_0, .int .i64 a0_1, .int .i64 a0_2, .int .i64 a0_3, .int .i64 a0_4, .bool a0_5] 25 (0, 0))) ∧ Aside0 (wc.heap[gb306]? = some (.cells #[.int .i64 a1_0, .int .i64 a1_1, .int .i64 a1_2, .int .i64 a1_3, .int .i64 a1_4, .bool a1_5] 25 (0, 0))) ∧ Aside0 (Below w.heap.size w wc))
 case first =>
  have H := HC3.out
  clear HC3
  replace H := ob_ H; obtain ⟨t307, A6, H⟩ := H; try dsimp only at H
  by_cases c7 : t307 = true
  rotate_left
  ·replace c7 := Bool.eq_false_iff.mpr c7
   subst c7
   replace H := in_ H (show ¬ (false = true) by decide)
   have H' := Aside0.mk H
   clear H
   have hnb14 := NB305_306.out
   have hnc14 := NB306_305.out
   have hz15 := cf6_ BK305.out
   go_wp2_with (first | ((with_reducible refine gC_ 13 ?_); refine gM_ (some 11) Tryd.func13 #[.agg #[.int .i64 a0_0, .int .i64 a0_1, .int .i64 a0_2, .int .i64 a0_3, .int .i64 a0_4, .bool a0_5]] ?_; (with_reducible refine (impl_IsShape.calls k a0_0 a0_1 a0_2 a0_3 a0_4 a0_5 false _ A6.out).mono ?_); rintro e w16 ⟨rfl, hb⟩; refine ⟨_, rfl, ?_⟩; replace BK305 := aM_ (blk_below (g := gb305) (kR_ BK305) hb); replace BK306 := aM_ (blk_below (g := gb306) (kR_ BK306) hb); replace HB := aM_ (below_step hB_ hb); (try clear hb)))
   go_meet
   case rel => exact ⟨_, (true), z7_0_, H', ⟨oR_⟩, ⟨kP_⟩, ⟨kP_⟩, ⟨hB_⟩⟩
  subst c7
  replace H := ip_ H rfl
  replace H := ob_ H; obtain ⟨t308, A8, H⟩ := H; try dsimp only at H
  have H' := Aside0.mk H
  clear H
  have hnb9 := NB305_306.out
  have hnc9 := NB306_305.out
  have hz10 := cf6_ BK305.out
  go_wp2_with (first | ((with_reducible refine gC_ 13 ?_); refine gM_ (some 11) Tryd.func13 #[.agg #[.int .i64 a0_0, .int .i64 a0_1, .int .i64 a0_2, .int .i64 a0_3, .int .i64 a0_4, .bool a0_5]] ?_; (with_reducible refine (impl_IsShape.calls k a0_0 a0_1 a0_2 a0_3 a0_4 a0_5 true _ A6.out).mono ?_); rintro e w11 ⟨rfl, hb⟩; refine ⟨_, rfl, ?_⟩; replace BK305 := aM_ (blk_below (g := gb305) (kR_ BK305) hb); replace BK306 := aM_ (blk_below (g := gb306) (kR_ BK306) hb); replace HB := aM_ (below_step hB_ hb); (try clear hb); have hz12 := cf6_ BK306.out) | (go_at_call 13; (with_reducible refine (impl_IsShape.calls k a1_0 a1_1 a1_2 a1_3 a1_4 a1_5 t308 _ A8.out).mono ?_); rintro e w13 ⟨rfl, hb⟩; replace BK305 := aM_ (blk_below (g := gb305) (kR_ BK305) hb); replace BK306 := aM_ (blk_below (g := gb306) (kR_ BK306) hb); replace HB := aM_ (below_step hB_ hb); (try clear hb)))
  go_meet
  case rel => exact ⟨_, (!t308), z7_0_, H', ⟨oR_⟩, ⟨kP_⟩, ⟨kP_⟩, ⟨hB_⟩⟩
 case rest =>
  clear HC3
  obtain ⟨kq, x17_2, rfl, HA, HJ2, BK305, BK306, HB⟩ := hcut
  cases kq with
  | zero => exact absurd HA.out (by simp [impl_ShapeWay.j0])
  | succ kj2 =>
   have H := HA.out
   clear HA
   simp only [impl_ShapeWay.j0] at H
   by_cases c17 : x17_2 = true
   ·subst c17
    replace H := ip_ H rfl
    simp only [Option.some.injEq, Prod.mk.injEq] at H
    obtain ⟨rfl, rfl⟩ := H
    go_wp2
    go_ret2
    exact ⟨_, rT_, by first | exact Kd.R_nil _ _ _ _ _ | exact Kd.N_nil _ _ _ _ _ | exact Kd.V_nil _ _ _ _ _ | exact Kd.Q_nil _ _ _ _ _ | exact Kd.S_nil _ _ _ _ _, hB_⟩
   replace c17 := Bool.eq_false_iff.mpr c17
   subst c17
   replace H := in_ H (show ¬ (false = true) by decide)
   replace H := bs_ H; obtain ⟨y309, Ny309, H⟩ := H; try dsimp only at H
   have HC18 := Aside0.mk H
   clear H
   have hnb19 := NB305_306.out
   have hnc19 := NB306_305.out
   have hz20 := cf6_ BK305.out
   go_upto_region 5 with (first | ((with_reducible refine gate_dst (N := 19) rfl ?_); refine rl_ k25 25 19 ([(⟨a0_0, a0_1, a0_2, a0_3, a0_4, a0_5⟩ : S25)] : List (S25)) [.int .i64 a0_0, .int .i64 a0_1, .int .i64 a0_2, .int .i64 a0_3, .int .i64 a0_4, .bool a0_5] (Reps.c6 (show Kd.M k25 _ _ _ (⟨a0_0, a0_1, a0_2, a0_3, a0_4, a0_5⟩ : S25) [.int .i64 a0_0, .int .i64 a0_1, .int .i64 a0_2, .int .i64 a0_3, .int .i64 a0_4, .bool a0_5] from (k25_mkM _ _ _ (⟨a0_0, a0_1, a0_2, a0_3, a0_4, a0_5⟩ : S25) )) (Reps.none _ _)) ?_; intro v310 w21 ho22 hb hg_ hnew_; clear hg_ hnew_; (first | rw [← Ny309.out] at ho22 | (simp only [Int.reduceToNat] at ho22; rw [← Ny309.out] at ho22)); have HO311 := aM_ (Kd.R_lower (Kd.R_newB (Kd.R_newB ho22 (g := gb305) kP_) (g := gb306) kP_) (below_size hB_)); replace BK305 := aM_ (blk_below (g := gb305) (kR_ BK305) hb); replace BK306 := aM_ (blk_below (g := gb306) (kR_ BK306) hb); replace HB := aM_ (below_step hB_ hb); clear hb ho22; have hz23 := cf6_ BK305.out) | ((with_reducible refine gate_dst (N := 7) rfl ?_); refine bx_ 7 #[.int .i64 0, .int .i64 0, .int .i64 0, .int .i64 0, .int .i64 0, .bool false] 25 fun gb312 hg w24 hbox hb => ?_; have BK312 := aM_ (hbox); have GW312 := aM_ (gw_ w hg); have GE312 := aM_ (gw_ w hg); have NB305_312 := aM_ (nR_ BK305 hg); have NB312_305 := aM_ (mR_ BK305 hg); have NB306_312 := aM_ (nR_ BK306 hg); have NB312_306 := aM_ (mR_ BK306 hg); replace HO311 := aM_ (Kd.R_below (Kd.R_elderB (rR_ HO311) gb312 (Nat.le_of_eq hg.symm)) hb); replace BK305 := aM_ (blk_below (g := gb305) (kR_ BK305) hb); replace BK306 := aM_ (blk_below (g := gb306) (kR_ BK306) hb); replace HB := aM_ (below_step hB_ hb); clear hb hbox hg; have hnb25 := NB312_305.out; have hnc25 := NB305_312.out; have hnb26 := NB312_306.out; have hnc26 := NB306_312.out; have hz27 := cf6_ BK312.out))
   (try simp only [Act.put, List.setIfInBounds_toArray, List.set_cons_zero, List.set_cons_succ])
   go_cut [27] (fun v27 wc => ∃ (kq : Nat) (x27_17 : Bool), v27 = .bool x27_17 ∧ Aside0 (impl_ShapeWay.j1 kq y309 x27_17 a1_0 a1_1 a1_2 a1_3 a1_4 a1_5 a0_0 a0_1 a0_2 a0_3 a0_4 a0_5 = some (r1, r2)) ∧ Aside0 (kq ≤ kj2) ∧ Aside0 (Kd.R k25 25 wc w.heap.size (fun k_ => k_ ≠ gb305 ∧ k_ ≠ gb306 ∧ k_ ≠ gb312) v310 y309) ∧ Aside0 (wc.heap[gb305]? = some (.cells #[.int .i64 a0_0, .int .i64 a0_1, .int .i64 a0_2, .int .i64 a0_3, .int .i64 a0_4, .bool a0_5] 25 (0, 0))) ∧ Aside0 (wc.heap[gb306]? = some (.cells #[.int .i64 a1_0, .int .i64 a1_1, .int .i64 a1_2, .int .i64 a1_3, .int .i64 a1_4, .bool a1_5] 25 (0, 0))) ∧ Aside0 (wc.heap[gb312]? = some (.cells #[.int .i64 a0_0, .int .i64 a0_1, .int .i64 a0_2, .int .i64 a0_3, .int .i64 a0_4, .bool a0_5] 25 (0, 0))) ∧ Aside0 (Below w.heap.size w wc))
   case first =>
    have H := HC18.out
    clear HC18
    by_cases c28 : a0_5 = true
    rotate_left
    ·replace c28 := Bool.eq_false_iff.mpr c28
     subst c28
     replace H := in_ H (show ¬ (false = true) by decide)
     have H' := Aside0.mk H
     clear H
     have hnb34 := NB305_306.out
     have hnc34 := NB306_305.out
     have hnb35 := NB305_312.out
     have hnc35 := NB312_305.out
     have hz36 := cf6_ BK305.out
     go_wp2
     go_meet
     case rel => exact ⟨_, (false), z7_0_, H', ⟨by have := HJ2.out; first | omega | exact Nat.le_refl _⟩, ⟨by (with_reducible repeat (first | apply rA_ | apply rN_ | apply rD_)); exact Kd.R_mono (Kd.R_far (p := ⟨gb312, 5, none⟩) (Kd.R_far (p := ⟨gb312, 4, none⟩) (Kd.R_far (p := ⟨gb312, 3, none⟩) (Kd.R_far (p := ⟨gb312, 2, none⟩) (Kd.R_far (p := ⟨gb312, 1, none⟩) (Kd.R_far (p := ⟨gb312, 0, none⟩) (Kd.R_mono HO311.out (fun k_ hk => (⟨hk, hk.2⟩ : _ ∧ k_ ≠ gb312))) (fun _ hk => hk.2) (.int .i64 a0_0)) (fun _ hk => hk.2) (.int .i64 a0_1)) (fun _ hk => hk.2) (.int .i64 a0_2)) (fun _ hk => hk.2) (.int .i64 a0_3)) (fun _ hk => hk.2) (.int .i64 a0_4)) (fun _ hk => hk.2) (.bool false)) (fun _ hk => ⟨hk.1.1.1.2, ⟨hk.1.1.2, hk.1.2⟩⟩)⟩, ⟨z7_1_⟩, ⟨z7_2_⟩, ⟨z7_3_⟩, ⟨hB_⟩⟩
    subst c28
    replace H := ip_ H rfl
    have H' := Aside0.mk H
    clear H
    have hnb29 := NB305_306.out
    have hnc29 := NB306_305.out
    have hnb30 := NB305_312.out
    have hnc30 := NB312_305.out
    have hz31 := cf6_ BK305.out
    have hnb32 := NB306_312.out
    have hnc32 := NB312_306.out
    have hz33 := cf6_ BK306.out
    go_wp2
    go_meet
    case rel => exact ⟨_, (!a1_5), z7_0_, H', ⟨by have := HJ2.out; first | omega | exact Nat.le_refl _⟩, ⟨by (with_reducible repeat (first | apply rA_ | apply rN_ | apply rD_)); exact Kd.R_mono (Kd.R_far (p := ⟨gb312, 5, none⟩) (Kd.R_far (p := ⟨gb312, 4, none⟩) (Kd.R_far (p := ⟨gb312, 3, none⟩) (Kd.R_far (p := ⟨gb312, 2, none⟩) (Kd.R_far (p := ⟨gb312, 1, none⟩) (Kd.R_far (p := ⟨gb312, 0, none⟩) (Kd.R_mono HO311.out (fun k_ hk => (⟨hk, hk.2⟩ : _ ∧ k_ ≠ gb312))) (fun _ hk => hk.2) (.int .i64 a0_0)) (fun _ hk => hk.2) (.int .i64 a0_1)) (fun _ hk => hk.2) (.int .i64 a0_2)) (fun _ hk => hk.2) (.int .i64 a0_3)) (fun _ hk => hk.2) (.int .i64 a0_4)) (fun _ hk => hk.2) (.bool true)) (fun _ hk => ⟨hk.1.1.1.2, ⟨hk.1.1.2, hk.1.2⟩⟩)⟩, ⟨z7_1_⟩, ⟨z7_2_⟩, ⟨z7_3_⟩, ⟨hB_⟩⟩
   case rest =>
    clear HC18
    (try clear c6);(try clear c17);(try clear hcz20_0);(try clear hcz20_1);(try clear hcz20_2);(try clear hcz20_3);(try clear hcz20_4);(try clear hcz20_5);(try clear hcz23_0);(try clear hcz23_1);(try clear hcz23_2);(try clear hcz23_3);(try clear hcz23_4);(try clear hcz23_5);(try clear hcz27_0);(try clear hcz27_1);(try clear hcz27_2);(try clear hcz27_3);(try clear hcz27_4);(try clear hcz27_5);(try clear hfz20_0);(try clear hfz20_1);(try clear hfz20_2);(try clear hfz20_3);(try clear hfz20_4);(try clear hfz20_5);(try clear hfz23_0);(try clear hfz23_1);(try clear hfz23_2);(try clear hfz23_3);(try clear hfz23_4);(try clear hfz23_5);(try clear hfz27_0);(try clear hfz27_1);(try clear hfz27_2);(try clear hfz27_3);(try clear hfz27_4);(try clear hfz27_5)
    obtain ⟨kq, x27_17, rfl, HA, HJ17, HO_6, BK305, BK306, BK312, HB⟩ := hcut
    cases kq with
    | zero => exact absurd HA.out (by simp [impl_ShapeWay.j1])
    | succ kj17 =>
     have H := HA.out
     clear HA
     simp only [impl_ShapeWay.j1] at H
     have HC37 := Aside0.mk H
     clear H
     go_upto_if 27 with (fail)
     go_cut [6] (fun v6 wc => ∃ (kq : Nat) (x6_36 : List (S25)) (x313005_36 : Bool), Aside0 (impl_ShapeWay.j2 kq x6_36 a1_0 a1_1 a1_2 a1_3 a1_4 a1_5 a0_0 a0_1 a0_2 a0_3 a0_4 x313005_36 = some (r1, r2)) ∧ Aside0 (kq ≤ kj17) ∧ Aside0 (Kd.R k25 25 wc w.heap.size (fun k_ => k_ ≠ gb305 ∧ k_ ≠ gb306 ∧ k_ ≠ gb312) v6 x6_36) ∧ Aside0 (wc.heap[gb305]? = some (.cells #[.int .i64 a0_0, .int .i64 a0_1, .int .i64 a0_2, .int .i64 a0_3, .int .i64 a0_4, .bool a0_5] 25 (0, 0))) ∧ Aside0 (wc.heap[gb306]? = some (.cells #[.int .i64 a1_0, .int .i64 a1_1, .int .i64 a1_2, .int .i64 a1_3, .int .i64 a1_4, .bool a1_5] 25 (0, 0))) ∧ Aside0 (wc.heap[gb312]? = some (.cells #[.int .i64 a0_0, .int .i64 a0_1, .int .i64 a0_2, .int .i64 a0_3, .int .i64 a0_4, .bool x313005_36] 25 (0, 0))) ∧ Aside0 (Below w.heap.size w wc))
     case first =>
      have H := HC37.out
      clear HC37
      by_cases c38 : x27_17 = true
      rotate_left
      ·replace c38 := Bool.eq_false_iff.mpr c38
       subst c38
       replace H := in_ H (show ¬ (false = true) by decide)
       have H' := Aside0.mk H
       clear H
       go_wp2
       go_meet
       case rel => exact ⟨_, (y309), (a0_5), H', ⟨by have := HJ2.out; have := HJ17.out; first | omega | exact Nat.le_refl _⟩, ⟨(rR_ HO_6)⟩, ⟨kP_⟩, ⟨kP_⟩, ⟨kP_⟩, ⟨hB_⟩⟩
      subst c38
      replace H := ip_ H rfl
      replace H := il_ H; obtain ⟨LMc39, H⟩ := H
      obtain ⟨y313, hy313⟩ : ∃ y_ : List (S25), y_ = (y309 ++ [(⟨a0_0, a0_1, a0_2, a0_3, a0_4, false⟩ : S25)]) := ⟨_, rfl⟩
      rw [← hy313] at H
      have Ny313 := Aside0.mk hy313; clear hy313
      have H' := Aside0.mk H
      clear H
      have hnb40 := NB312_305.out
      have hnc40 := NB305_312.out
      have hnb41 := NB312_306.out
      have hnc41 := NB306_312.out
      have hz42 := cf6_ BK312.out
      go_wp2_with (first | ((with_reducible refine gate_builtin (b := .append) (xs := #[.tmp 29, .tmp 31]) rfl ?_); at_builtin; refine Kd.R_append k25 (w0 := w) w.heap.size rfl (.tmp 29) (.tmp 31) 28 25 (.agg #[(.int .i64 0), (.int .i64 0), (.int .i64 0), (.int .i64 0), (.int .i64 0), (.bool false)]) 48 rfl Tryd.underlying28 info25 rfl (by decide) (by omega) v310 y309 (⟨a0_0, a0_1, a0_2, a0_3, a0_4, false⟩ : S25) [.int .i64 a0_0, .int .i64 a0_1, .int .i64 a0_2, .int .i64 a0_3, .int .i64 a0_4, .bool false] (fun k_ => k_ ≠ gb305 ∧ k_ ≠ gb306 ∧ k_ ≠ gb312) (fun _ => False) rfl z7_4_ ?aP (fun _ hk => hk.elim) ?aF ?aO ?aB ?aS ?aL ?_; (case aP => exact k25_mkM _ _ _ (⟨a0_0, a0_1, a0_2, a0_3, a0_4, false⟩ : S25)); (case aB => exact hB_); (case aF => exact (fun k_ hk => ⟨Kd.freshB (g := gb305) (kR_ BK305) k_ hk, Kd.freshB (g := gb306) (kR_ BK306) k_ hk, Kd.freshB (g := gb312) (o := .cells #[.int .i64 a0_0, .int .i64 a0_1, .int .i64 a0_2, .int .i64 a0_3, .int .i64 a0_4, .bool false] 25 (0, 0)) z7_5_ k_ hk⟩)); (case aO => exact (by (with_reducible repeat (first | apply rA_ | apply rN_ | apply rD_)); exact Kd.R_mono (Kd.R_far (p := ⟨gb312, 5, none⟩) (Kd.R_mono HO_6.out (fun k_ hk => (⟨hk, hk.2.2⟩ : _ ∧ k_ ≠ gb312))) (fun _ hk => hk.2) (.bool false)) (fun _ hk => ⟨hk.1.1, ⟨hk.1.2.1, hk.1.2.2⟩⟩))); (case aS => exact (below_size hB_)); (case aL => have := LMc39.out; omega); intro v314 w43 ho hb hg hat; rw [← Ny313.out] at ho; have HO315 := aM_ (ho); replace BK305 := aM_ (blk_grown (g := gb305) (kR_ BK305) hg (Kd.R_away HO_6.out (fun _ hk => hk.1))); replace BK306 := aM_ (blk_grown (g := gb306) (kR_ BK306) hg (Kd.R_away HO_6.out (fun _ hk => hk.2.1))); replace BK312 := aM_ (blk_grown (g := gb312) (o := .cells #[.int .i64 a0_0, .int .i64 a0_1, .int .i64 a0_2, .int .i64 a0_3, .int .i64 a0_4, .bool false] 25 (0, 0)) z7_5_ hg (Kd.R_away HO_6.out (fun _ hk => hk.2.2))); replace HB := aM_ (hb); clear HO_6; clear ho hb hg hat))
      go_meet
      case rel => exact ⟨_, (y313), (false), H', ⟨by have := HJ2.out; have := HJ17.out; first | omega | exact Nat.le_refl _⟩, ⟨rR_ HO315⟩, ⟨kP_⟩, ⟨kP_⟩, ⟨kP_⟩, ⟨hB_⟩⟩
     case rest =>
      clear HC37
      (try clear c6);(try clear c17);(try clear hcz20_0);(try clear hcz20_1);(try clear hcz20_2);(try clear hcz20_3);(try clear hcz20_4);(try clear hcz20_5);(try clear hcz23_0);(try clear hcz23_1);(try clear hcz23_2);(try clear hcz23_3);(try clear hcz23_4);(try clear hcz23_5);(try clear hcz27_0);(try clear hcz27_1);(try clear hcz27_2);(try clear hcz27_3);(try clear hcz27_4);(try clear hcz27_5);(try clear hfz20_0);(try clear hfz20_1);(try clear hfz20_2);(try clear hfz20_3);(try clear hfz20_4);(try clear hfz20_5);(try clear hfz23_0);(try clear hfz23_1);(try clear hfz23_2);(try clear hfz23_3);(try clear hfz23_4);(try clear hfz23_5);(try clear hfz27_0);(try clear hfz27_1);(try clear hfz27_2);(try clear hfz27_3);(try clear hfz27_4);(try clear hfz27_5)
      obtain ⟨kq, x6_36, x313005_36, HA, HJ36, HO_6, BK305, BK306, BK312, HB⟩ := hcut
      cases kq with
      | zero => exact absurd HA.out (by simp [impl_ShapeWay.j2])
      | succ kj36 =>
       have H := HA.out
       clear HA
       simp only [impl_ShapeWay.j2] at H
       replace H := ob_ H; obtain ⟨t316, A44, H⟩ := H; try dsimp only at H
       have H' := Aside0.mk H
       clear H
       have hnb45 := NB306_305.out
       have hnc45 := NB305_306.out
       have hnb46 := NB306_312.out
       have hnc46 := NB312_306.out
       have hz47 := cf6_ BK306.out
       go_wp2_with (first | ((with_reducible refine gC_ 21 ?_); refine gM_ (some 34) Tryd.func21 #[.agg #[.int .i64 a1_0, .int .i64 a1_1, .int .i64 a1_2, .int .i64 a1_3, .int .i64 a1_4, .bool a1_5]] ?_; (with_reducible refine (impl_Shape_bends.calls a1_0 a1_1 a1_2 a1_3 a1_4 a1_5 t316 _ A44.out).mono ?_); rintro e w48 ⟨v317, rfl, ho0, hb⟩; refine ⟨_, rfl, ?_⟩; have HO318 := aM_ (Kd.R_lower ho0 (below_size hB_)); replace HO_6 := aM_ (Kd.R_below (rR_ HO_6) hb); replace BK305 := aM_ (blk_below (g := gb305) (kR_ BK305) hb); replace BK306 := aM_ (blk_below (g := gb306) (kR_ BK306) hb); replace BK312 := aM_ (blk_below (g := gb312) (kR_ BK312) hb); replace HB := aM_ (below_step hB_ hb); (try clear hb); (try clear ho0); obtain ⟨Ao49, co49, eo49⟩ := Kd.R_slice HO318.out; subst eo49))
       go_loopg [6, 36] kj36 (fun kq v6 v36 w' => ∃ (x6_4 : List (S25)) (x36_4 : Int) (x313000_4 : Int) (x313001_4 : Int) (x313002_4 : Int) (x313003_4 : Int) (x313004_4 : Int) (x313005_4 : Bool), v36 = .int .i64 x36_4 ∧ Aside0 (impl_ShapeWay.l0 kq x6_4 t316 (t316.length : Int) x36_4 a1_0 a1_1 a1_2 a1_3 a1_4 a1_5 x313000_4 x313001_4 x313002_4 x313003_4 x313004_4 x313005_4 = some (r1, r2)) ∧ Aside0 (kq ≤ kj36) ∧ Aside0 (Kd.R k25 25 w' w.heap.size (fun k_ => k_ ≠ gb305 ∧ k_ ≠ gb306 ∧ k_ ≠ gb312) v6 x6_4) ∧ Aside0 (Kd.R (Kd.int .i64) 3 w' w.heap.size (fun _ => True) (.slice Ao49 t316.length co49) t316) ∧ Aside0 (w'.heap[gb305]? = some (.cells #[.int .i64 a0_0, .int .i64 a0_1, .int .i64 a0_2, .int .i64 a0_3, .int .i64 a0_4, .bool a0_5] 25 (0, 0))) ∧ Aside0 (w'.heap[gb306]? = some (.cells #[.int .i64 a1_0, .int .i64 a1_1, .int .i64 a1_2, .int .i64 a1_3, .int .i64 a1_4, .bool a1_5] 25 (0, 0))) ∧ Aside0 (w'.heap[gb312]? = some (.cells #[.int .i64 x313000_4, .int .i64 x313001_4, .int .i64 x313002_4, .int .i64 x313003_4, .int .i64 x313004_4, .bool x313005_4] 25 (0, 0))) ∧ Aside0 (Below w.heap.size w w'))
       case atStart => exact ⟨(x6_36), (0), (a0_0), (a0_1), (a0_2), (a0_3), (a0_4), (x313005_36), z7_0_, H', ⟨Nat.le_refl _⟩, ⟨(rR_ HO_6)⟩, ⟨rR_ HO318⟩, ⟨kP_⟩, ⟨kP_⟩, ⟨kP_⟩, ⟨hB_⟩⟩
       case round =>
        clear H'
        (try clear c6);(try clear c17);(try clear hcz20_0);(try clear hcz20_1);(try clear hcz20_2);(try clear hcz20_3);(try clear hcz20_4);(try clear hcz20_5);(try clear hcz23_0);(try clear hcz23_1);(try clear hcz23_2);(try clear hcz23_3);(try clear hcz23_4);(try clear hcz23_5);(try clear hcz27_0);(try clear hcz27_1);(try clear hcz27_2);(try clear hcz27_3);(try clear hcz27_4);(try clear hcz27_5);(try clear hcz47_0);(try clear hcz47_1);(try clear hcz47_2);(try clear hcz47_3);(try clear hcz47_4);(try clear hcz47_5);(try clear hfz20_0);(try clear hfz20_1);(try clear hfz20_2);(try clear hfz20_3);(try clear hfz20_4);(try clear hfz20_5);(try clear hfz23_0);(try clear hfz23_1);(try clear hfz23_2);(try clear hfz23_3);(try clear hfz23_4);(try clear hfz23_5);(try clear hfz27_0);(try clear hfz27_1);(try clear hfz27_2);(try clear hfz27_3);(try clear hfz27_4);(try clear hfz27_5);(try clear hfz47_0);(try clear hfz47_1);(try clear hfz47_2);(try clear hfz47_3);(try clear hfz47_4);(try clear hfz47_5)
        obtain ⟨x6_4, x36_4, x313000_4, x313001_4, x313002_4, x313003_4, x313004_4, x313005_4, rfl, HA, HK4, HO_6, HO_34, BK305, BK306, BK312, HB⟩ := hrel
        cases gk with
        | zero => exact absurd HA.out (by simp [impl_ShapeWay.l0])
        | succ k4 =>
         have H := HA.out
         clear HA
         simp only [impl_ShapeWay.l0] at H
         replace H := iF_ H; obtain ⟨c50b0, H⟩ | ⟨c50b0, H⟩ := H
         ·by_cases c86 : x313000_4 = a1_0
          ·rw [if_pos c86] at H
           have c86b0 : (x313000_4 == a1_0) = true := beq_iff_eq.mpr c86
           have c86b1 : (x313000_4 != a1_0) = false := bne_eq_false_iff_eq.mpr c86
           clear c86
           by_cases c87 : (!(x313000_4 == a1_0) || (!(x313001_4 == a1_1) || (!(x313002_4 == a1_2) || (!(x313003_4 == a1_3) || (!(x313004_4 == a1_4) || (!(x313005_4 == a1_5))))))) = true
           rotate_left
           ·rw [if_neg c87] at H
            have c87b0 : (!(x313000_4 == a1_0) || (!(x313001_4 == a1_1) || (!(x313002_4 == a1_2) || (!(x313003_4 == a1_3) || (!(x313004_4 == a1_4) || (!(x313005_4 == a1_5))))))) = false := by simpa using c87
            simp only [c86b0, Bool.not_true, Bool.false_or] at c87b0
            clear c87
            simp only [Option.some.injEq, Prod.mk.injEq] at H
            obtain ⟨rfl, rfl⟩ := H
            have hnb95 := NB312_305.out
            have hnc95 := NB305_312.out
            have hnb96 := NB312_306.out
            have hnc96 := NB306_312.out
            have hz97 := cf6_ BK312.out
            have hnb98 := NB306_305.out
            have hnc98 := NB305_306.out
            have hz99 := cf6_ BK306.out
            go_wp2
            go_ret2
            exact ⟨_, rT_, by (with_reducible repeat (first | apply rA_ | apply rN_ | apply rD_)); exact Kd.R_mono HO_6.out (fun _ hk => trivial), hB_⟩
           rw [if_pos c87] at H
           have c87b0 : (!(x313000_4 == a1_0) || (!(x313001_4 == a1_1) || (!(x313002_4 == a1_2) || (!(x313003_4 == a1_3) || (!(x313004_4 == a1_4) || (!(x313005_4 == a1_5))))))) = true := c87
           simp only [c86b0, Bool.not_true, Bool.false_or] at c87b0
           clear c87
           replace H := il_ H; obtain ⟨LMc88, H⟩ := H
           obtain ⟨y342, hy342⟩ : ∃ y_ : List (S25), y_ = (x6_4 ++ [(⟨a1_0, a1_1, a1_2, a1_3, a1_4, a1_5⟩ : S25)]) := ⟨_, rfl⟩
           rw [← hy342] at H
           have Ny342 := Aside0.mk hy342; clear hy342
           simp only [Option.some.injEq, Prod.mk.injEq] at H
           obtain ⟨rfl, rfl⟩ := H
           have hnb89 := NB312_305.out
           have hnc89 := NB305_312.out
           have hnb90 := NB312_306.out
           have hnc90 := NB306_312.out
           have hz91 := cf6_ BK312.out
           have hnb92 := NB306_305.out
           have hnc92 := NB305_306.out
           have hz93 := cf6_ BK306.out
           go_wp2_with (first | ((with_reducible refine gate_builtin (b := .append) (xs := #[.tmp 85, .tmp 87]) rfl ?_); at_builtin; refine Kd.R_append k25 (w0 := w) w.heap.size rfl (.tmp 85) (.tmp 87) 28 25 (.agg #[(.int .i64 0), (.int .i64 0), (.int .i64 0), (.int .i64 0), (.int .i64 0), (.bool false)]) 48 rfl Tryd.underlying28 info25 rfl (by decide) (by omega) u6 x6_4 (⟨a1_0, a1_1, a1_2, a1_3, a1_4, a1_5⟩ : S25) [.int .i64 a1_0, .int .i64 a1_1, .int .i64 a1_2, .int .i64 a1_3, .int .i64 a1_4, .bool a1_5] (fun k_ => k_ ≠ gb305 ∧ k_ ≠ gb306 ∧ k_ ≠ gb312) (fun _ => False) rfl rfl ?aP (fun _ hk => hk.elim) ?aF ?aO ?aB ?aS ?aL ?_; (case aP => exact k25_mkM _ _ _ (⟨a1_0, a1_1, a1_2, a1_3, a1_4, a1_5⟩ : S25)); (case aB => exact hB_); (case aF => exact (fun k_ hk => ⟨Kd.freshB (g := gb305) (kR_ BK305) k_ hk, Kd.freshB (g := gb306) (kR_ BK306) k_ hk, Kd.freshB (g := gb312) (kR_ BK312) k_ hk⟩)); (case aO => exact (rR_ HO_6)); (case aS => exact (below_size hB_)); (case aL => have := LMc88.out; omega); intro v343 w94 ho hb hg hat; rw [← Ny342.out] at ho; have HO344 := aM_ (ho); replace HO_34 := aM_ (Kd.R_over' (rR_ HO_34) (Kd.R_typed (rR_ HO_6)) (by decide) hg); replace BK305 := aM_ (blk_grown (g := gb305) (kR_ BK305) hg (Kd.R_away HO_6.out (fun _ hk => hk.1))); replace BK306 := aM_ (blk_grown (g := gb306) (kR_ BK306) hg (Kd.R_away HO_6.out (fun _ hk => hk.2.1))); replace BK312 := aM_ (blk_grown (g := gb312) (kR_ BK312) hg (Kd.R_away HO_6.out (fun _ hk => hk.2.2))); replace HB := aM_ (hb); clear HO_6; clear ho hb hg hat))
           go_ret2
           exact ⟨_, rT_, by (with_reducible repeat (first | apply rA_ | apply rN_ | apply rD_)); exact Kd.R_mono HO344.out (fun _ hk => trivial), hB_⟩
          rw [if_neg c86] at H
          have c86b0 : (x313000_4 == a1_0) = false := beq_eq_false_iff_ne.mpr c86
          have c86b1 : (x313000_4 != a1_0) = true := bne_iff_ne.mpr c86
          replace H := il_ H; obtain ⟨LMc100, H⟩ := H
          replace H := bs_ H; obtain ⟨y345, Ny345, H⟩ := H; try dsimp only at H
          have HC101 := Aside0.mk H
          clear H
          have hnb102 := NB312_305.out
          have hnc102 := NB305_312.out
          have hnb103 := NB312_306.out
          have hnc103 := NB306_312.out
          have hz104 := cf6_ BK312.out
          have hnb105 := NB306_305.out
          have hnc105 := NB305_306.out
          have hz106 := cf6_ BK306.out
          go_upto_if 84 with (first | ((with_reducible refine gate_builtin (b := .append) (xs := #[.tmp 78, .tmp 80]) rfl ?_); at_builtin; refine Kd.R_append k25 (w0 := w) w.heap.size rfl (.tmp 78) (.tmp 80) 28 25 (.agg #[(.int .i64 0), (.int .i64 0), (.int .i64 0), (.int .i64 0), (.int .i64 0), (.bool false)]) 48 rfl Tryd.underlying28 info25 rfl (by decide) (by omega) u6 x6_4 (⟨a1_0, x313001_4, x313002_4, x313003_4, x313004_4, x313005_4⟩ : S25) [.int .i64 a1_0, .int .i64 x313001_4, .int .i64 x313002_4, .int .i64 x313003_4, .int .i64 x313004_4, .bool x313005_4] (fun k_ => k_ ≠ gb305 ∧ k_ ≠ gb306 ∧ k_ ≠ gb312) (fun _ => False) rfl z7_4_ ?aP (fun _ hk => hk.elim) ?aF ?aO ?aB ?aS ?aL ?_; (case aP => exact k25_mkM _ _ _ (⟨a1_0, x313001_4, x313002_4, x313003_4, x313004_4, x313005_4⟩ : S25)); (case aB => exact hB_); (case aF => exact (fun k_ hk => ⟨Kd.freshB (g := gb305) (kR_ BK305) k_ hk, Kd.freshB (g := gb306) (kR_ BK306) k_ hk, Kd.freshB (g := gb312) (o := .cells #[.int .i64 a1_0, .int .i64 x313001_4, .int .i64 x313002_4, .int .i64 x313003_4, .int .i64 x313004_4, .bool x313005_4] 25 (0, 0)) z7_6_ k_ hk⟩)); (case aO => exact (by (with_reducible repeat (first | apply rA_ | apply rN_ | apply rD_)); exact Kd.R_mono (Kd.R_far (p := ⟨gb312, 0, none⟩) (Kd.R_mono HO_6.out (fun k_ hk => (⟨hk, hk.2.2⟩ : _ ∧ k_ ≠ gb312))) (fun _ hk => hk.2) (.int .i64 a1_0)) (fun _ hk => ⟨hk.1.1, ⟨hk.1.2.1, hk.1.2.2⟩⟩))); (case aS => exact (below_size hB_)); (case aL => have := LMc100.out; omega); intro v346 w107 ho hb hg hat; rw [← Ny345.out] at ho; have HO347 := aM_ (ho); replace HO_34 := aM_ (Kd.R_over' (by (with_reducible repeat (first | apply rA_ | apply rN_ | apply rD_)); exact (Kd.R_mono (Kd.R_far (p := ⟨gb312, 0, none⟩) (Kd.R_types HO_34.out BK312.out (by decide)) (fun _ hk => hk.2) (.int .i64 a1_0)) (fun _ h_ => h_.1))) (Kd.R_typed (by (with_reducible repeat (first | apply rA_ | apply rN_ | apply rD_)); exact (Kd.R_mono (Kd.R_far (p := ⟨gb312, 0, none⟩) (Kd.R_mono HO_6.out (fun k_ hk => (⟨hk, hk.2.2⟩ : _ ∧ k_ ≠ gb312))) (fun _ hk => hk.2) (.int .i64 a1_0)) (fun _ h_ => h_.1)))) (by decide) hg); replace BK305 := aM_ (blk_grown (g := gb305) (kR_ BK305) hg (Kd.R_away HO_6.out (fun _ hk => hk.1))); replace BK306 := aM_ (blk_grown (g := gb306) (kR_ BK306) hg (Kd.R_away HO_6.out (fun _ hk => hk.2.1))); replace BK312 := aM_ (blk_grown (g := gb312) (o := .cells #[.int .i64 a1_0, .int .i64 x313001_4, .int .i64 x313002_4, .int .i64 x313003_4, .int .i64 x313004_4, .bool x313005_4] 25 (0, 0)) z7_6_ hg (Kd.R_away HO_6.out (fun _ hk => hk.2.2))); replace HB := aM_ (hb); clear HO_6; clear ho hb hg hat; have hz108 := cf6_ BK312.out; have hz109 := cf6_ BK306.out))
          (try simp only [Act.put, List.setIfInBounds_toArray, List.set_cons_zero, List.set_cons_succ])
          have H := HC101.out
          clear HC101
          by_cases c110 : (!(x313001_4 == a1_1) || (!(x313002_4 == a1_2) || (!(x313003_4 == a1_3) || (!(x313004_4 == a1_4) || (!(x313005_4 == a1_5)))))) = true
          rotate_left
          ·rw [if_neg c110] at H
           have c110b0 : (!(x313001_4 == a1_1) || (!(x313002_4 == a1_2) || (!(x313003_4 == a1_3) || (!(x313004_4 == a1_4) || (!(x313005_4 == a1_5)))))) = false := by simpa using c110
           clear c110
           (first | rw [c110b0] | (simp only [i64_w, i32_w]; rw [c110b0]) | skip)
           simp only [Option.some.injEq, Prod.mk.injEq] at H
           obtain ⟨rfl, rfl⟩ := H
           go_wp2
           go_ret2
           exact ⟨_, rT_, by (with_reducible repeat (first | apply rA_ | apply rN_ | apply rD_)); exact Kd.R_mono HO347.out (fun _ hk => trivial), hB_⟩
          rw [if_pos c110] at H
          have c110b0 : (!(x313001_4 == a1_1) || (!(x313002_4 == a1_2) || (!(x313003_4 == a1_3) || (!(x313004_4 == a1_4) || (!(x313005_4 == a1_5)))))) = true := c110
          clear c110
          (first | rw [c110b0] | (simp only [i64_w, i32_w]; rw [c110b0]) | skip)
          replace H := il_ H; obtain ⟨LMc111, H⟩ := H
          obtain ⟨y348, hy348⟩ : ∃ y_ : List (S25), y_ = (y345 ++ [(⟨a1_0, a1_1, a1_2, a1_3, a1_4, a1_5⟩ : S25)]) := ⟨_, rfl⟩
          rw [← hy348] at H
          have Ny348 := Aside0.mk hy348; clear hy348
          simp only [Option.some.injEq, Prod.mk.injEq] at H
          obtain ⟨rfl, rfl⟩ := H
          have hnb112 := NB306_305.out
          have hnc112 := NB305_306.out
          have hnb113 := NB306_312.out
          have hnc113 := NB312_306.out
          have hz114 := cf6_ BK306.out
          go_wp2_with (first | ((with_reducible refine gate_builtin (b := .append) (xs := #[.tmp 85, .tmp 87]) rfl ?_); at_builtin; refine Kd.R_append k25 (w0 := w) w.heap.size rfl (.tmp 85) (.tmp 87) 28 25 (.agg #[(.int .i64 0), (.int .i64 0), (.int .i64 0), (.int .i64 0), (.int .i64 0), (.bool false)]) 48 rfl Tryd.underlying28 info25 rfl (by decide) (by omega) v346 y345 (⟨a1_0, a1_1, a1_2, a1_3, a1_4, a1_5⟩ : S25) [.int .i64 a1_0, .int .i64 a1_1, .int .i64 a1_2, .int .i64 a1_3, .int .i64 a1_4, .bool a1_5] (fun k_ => k_ ≠ gb305 ∧ k_ ≠ gb306 ∧ k_ ≠ gb312) (fun _ => False) rfl rfl ?aP (fun _ hk => hk.elim) ?aF ?aO ?aB ?aS ?aL ?_; (case aP => exact k25_mkM _ _ _ (⟨a1_0, a1_1, a1_2, a1_3, a1_4, a1_5⟩ : S25)); (case aB => exact hB_); (case aF => exact (fun k_ hk => ⟨Kd.freshB (g := gb305) (kR_ BK305) k_ hk, Kd.freshB (g := gb306) (kR_ BK306) k_ hk, Kd.freshB (g := gb312) (kR_ BK312) k_ hk⟩)); (case aO => exact (rR_ HO347)); (case aS => exact (below_size hB_)); (case aL => have := LMc111.out; omega); intro v349 w115 ho hb hg hat; rw [← Ny348.out] at ho; have HO350 := aM_ (ho); replace HO_34 := aM_ (Kd.R_over' (rR_ HO_34) (Kd.R_typed (rR_ HO347)) (by decide) hg); replace BK305 := aM_ (blk_grown (g := gb305) (kR_ BK305) hg (Kd.R_away HO347.out (fun _ hk => hk.1))); replace BK306 := aM_ (blk_grown (g := gb306) (kR_ BK306) hg (Kd.R_away HO347.out (fun _ hk => hk.2.1))); replace BK312 := aM_ (blk_grown (g := gb312) (kR_ BK312) hg (Kd.R_away HO347.out (fun _ hk => hk.2.2))); replace HB := aM_ (hb); clear HO347; clear ho hb hg hat))
          go_ret2
          exact ⟨_, rT_, by (with_reducible repeat (first | apply rA_ | apply rN_ | apply rD_)); exact Kd.R_mono HO350.out (fun _ hk => trivial), hB_⟩
         replace H := ig_ H; obtain ⟨c51b0, H⟩ := H
         replace H := ig_ H; obtain ⟨c52b0, H⟩ := H
         have H' := Aside0.mk H
         clear H
         obtain ⟨⟨ad319, e319, hx319_0⟩, p319, q319⟩ := at2_ (Kd.at_int (Kd.R_reads' HO_34.out).2.2 x36_4); cases e319
         go_wp2
         go_loopg [6] k4 (fun kq v6 w' => ∃ (x6_5 : List (S25)) (x313000_5 : Int) (x313001_5 : Int) (x313002_5 : Int) (x313003_5 : Int) (x313004_5 : Int) (x313005_5 : Bool), Aside0 (impl_ShapeWay.l1 kq x6_5 x36_4 (rd t316 x36_4) t316 (t316.length : Int) x36_4 a1_0 a1_1 a1_2 a1_3 a1_4 a1_5 x313000_5 x313001_5 x313002_5 x313003_5 x313004_5 x313005_5 = some (r1, r2)) ∧ Aside0 (kq ≤ k4) ∧ Aside0 (Kd.R k25 25 w' w.heap.size (fun k_ => k_ ≠ gb305 ∧ k_ ≠ gb306 ∧ k_ ≠ gb312) v6 x6_5) ∧ Aside0 (Kd.R (Kd.int .i64) 3 w' w.heap.size (fun _ => True) (.slice (some ad319) t316.length co49) t316) ∧ Aside0 (w'.heap[gb305]? = some (.cells #[.int .i64 a0_0, .int .i64 a0_1, .int .i64 a0_2, .int .i64 a0_3, .int .i64 a0_4, .bool a0_5] 25 (0, 0))) ∧ Aside0 (w'.heap[gb306]? = some (.cells #[.int .i64 a1_0, .int .i64 a1_1, .int .i64 a1_2, .int .i64 a1_3, .int .i64 a1_4, .bool a1_5] 25 (0, 0))) ∧ Aside0 (w'.heap[gb312]? = some (.cells #[.int .i64 x313000_5, .int .i64 x313001_5, .int .i64 x313002_5, .int .i64 x313003_5, .int .i64 x313004_5, .bool x313005_5] 25 (0, 0))) ∧ Aside0 (Below w.heap.size w w'))
         case atStart => exact ⟨(x6_4), (x313000_4), (x313001_4), (x313002_4), (x313003_4), (x313004_4), (x313005_4), H', ⟨Nat.le_refl _⟩, ⟨(rR_ HO_6)⟩, ⟨(rR_ HO_34)⟩, ⟨kP_⟩, ⟨kP_⟩, ⟨kP_⟩, ⟨hB_⟩⟩
         case round =>
          clear H'
          (try clear c6);(try clear c17);(try clear c50);(try clear c50b0);(try clear c51);(try clear c51b0);(try clear c52);(try clear c52b0);(try clear hcz20_0);(try clear hcz20_1);(try clear hcz20_2);(try clear hcz20_3);(try clear hcz20_4);(try clear hcz20_5);(try clear hcz23_0);(try clear hcz23_1);(try clear hcz23_2);(try clear hcz23_3);(try clear hcz23_4);(try clear hcz23_5);(try clear hcz27_0);(try clear hcz27_1);(try clear hcz27_2);(try clear hcz27_3);(try clear hcz27_4);(try clear hcz27_5);(try clear hcz47_0);(try clear hcz47_1);(try clear hcz47_2);(try clear hcz47_3);(try clear hcz47_4);(try clear hcz47_5);(try clear hfz20_0);(try clear hfz20_1);(try clear hfz20_2);(try clear hfz20_3);(try clear hfz20_4);(try clear hfz20_5);(try clear hfz23_0);(try clear hfz23_1);(try clear hfz23_2);(try clear hfz23_3);(try clear hfz23_4);(try clear hfz23_5);(try clear hfz27_0);(try clear hfz27_1);(try clear hfz27_2);(try clear hfz27_3);(try clear hfz27_4);(try clear hfz27_5);(try clear hfz47_0);(try clear hfz47_1);(try clear hfz47_2);(try clear hfz47_3);(try clear hfz47_4);(try clear hfz47_5);(try clear hx319_0);(try clear p319);(try clear q319)
          obtain ⟨x6_5, x313000_5, x313001_5, x313002_5, x313003_5, x313004_5, x313005_5, HA, HK5, HO_6, HO_34, BK305, BK306, BK312, HB⟩ := hrel
          cases gk with
          | zero => exact absurd HA.out (by simp [impl_ShapeWay.l1])
          | succ k5 =>
           have H := HA.out
           clear HA
           simp only [impl_ShapeWay.l1] at H
           replace H := ob_ H; obtain ⟨t320, A53, H⟩ := H; try dsimp only at H
           replace H := ig_ H; obtain ⟨c54b0, H⟩ := H
           replace H := ig_ H; obtain ⟨c55b0, H⟩ := H
           have HC56 := Aside0.mk H
           clear H
           have hnb57 := NB312_305.out
           have hnc57 := NB305_312.out
           have hnb58 := NB312_306.out
           have hnc58 := NB306_312.out
           have hz59 := cf6_ BK312.out
           go_upto_if 47 with (first | ((with_reducible refine gC_ 21 ?_); refine gM_ (some 42) Tryd.func21 #[.agg #[.int .i64 x313000_5, .int .i64 x313001_5, .int .i64 x313002_5, .int .i64 x313003_5, .int .i64 x313004_5, .bool x313005_5]] ?_; (with_reducible refine (impl_Shape_bends.calls x313000_5 x313001_5 x313002_5 x313003_5 x313004_5 x313005_5 t320 _ A53.out).mono ?_); rintro e w60 ⟨v321, rfl, ho0, hb⟩; refine ⟨_, rfl, ?_⟩; have HO322 := aM_ (Kd.R_lower (Kd.R_new' ho0 (Kd.R_lt (rR_ HO_34))) (below_size hB_)); replace HO_6 := aM_ (Kd.R_below (rR_ HO_6) hb); replace HO_34 := aM_ (Kd.R_elder' (rR_ HO_34) (Kd.R_base ho0) hb); replace BK305 := aM_ (blk_below (g := gb305) (kR_ BK305) hb); replace BK306 := aM_ (blk_below (g := gb306) (kR_ BK306) hb); replace BK312 := aM_ (blk_below (g := gb312) (kR_ BK312) hb); replace HB := aM_ (below_step hB_ hb); (try clear hb); (try clear ho0); obtain ⟨Ao61, co61, eo61⟩ := Kd.R_slice HO322.out; subst eo61; have p323 : 0 ≤ (x36_4 : Int) := ode_; have q323 : x36_4 < (t320.length : Int) := ode_; obtain ⟨ad323, e323, hx323_0⟩ := Kd.at_int (Kd.R_reads' HO322.out).2.2 x36_4 p323 q323; cases e323; replace p323 := eq_true p323; replace q323 := eq_true q323))
           (try simp only [Act.put, List.setIfInBounds_toArray, List.set_cons_zero, List.set_cons_succ])
           have H := HC56.out
           clear HC56
           by_cases c62 : (rd t320 x36_4) = (rd t316 x36_4)
           ·rw [if_pos c62] at H
            have c62b0 : ((rd t320 x36_4) == (rd t316 x36_4)) = true := beq_iff_eq.mpr c62
            have c62b1 : ((rd t320 x36_4) != (rd t316 x36_4)) = false := bne_eq_false_iff_eq.mpr c62
            clear c62
            (first | rw [c62b0] | (simp only [i64_w, i32_w]; rw [c62b0]) | skip)
            have H' := Aside0.mk H
            clear H
            go_wp2
            go_roundg k5
            case measure => have := HJ2.out; have := HJ17.out; have := HJ36.out; have := HK4.out; have := HK5.out; omega
            case rel => exact ⟨(x6_5), (wrap64 (x36_4 + 1)), (x313000_5), (x313001_5), (x313002_5), (x313003_5), (x313004_5), (x313005_5), z7_0_, H', ⟨z7_7_⟩, ⟨(rR_ HO_6)⟩, ⟨(rT1_ HO_34)⟩, ⟨kP_⟩, ⟨kP_⟩, ⟨kP_⟩, ⟨hB_⟩⟩
           rw [if_neg c62] at H
           have c62b0 : ((rd t320 x36_4) == (rd t316 x36_4)) = false := beq_eq_false_iff_ne.mpr c62
           have c62b1 : ((rd t320 x36_4) != (rd t316 x36_4)) = true := bne_iff_ne.mpr c62
           (first | rw [c62b0] | (simp only [i64_w, i32_w]; rw [c62b0]) | skip)
           replace H := ob_ H; obtain ⟨t324, A63, H⟩ := H; try dsimp only at H
           replace H := ig_ H; obtain ⟨c64b0, H⟩ := H
           replace H := ob_ H; obtain ⟨t328, A65, H⟩ := H; try dsimp only at H
           replace H := ig_ H; obtain ⟨c66b0, H⟩ := H
           replace H := ob_ H; obtain ⟨t332, A67, H⟩ := H; try dsimp only at H
           replace H := ob_ H; obtain ⟨⟨t333, t334, t335, t336, t337, t338⟩, A68, H⟩ := H; try dsimp only at H
           replace H := il_ H; obtain ⟨LMc69, H⟩ := H
           obtain ⟨y339, hy339⟩ : ∃ y_ : List (S25), y_ = (x6_5 ++ [(⟨t333, t334, t335, t336, t337, t338⟩ : S25)]) := ⟨_, rfl⟩
           rw [← hy339] at H
           have Ny339 := Aside0.mk hy339; clear hy339
           have H' := Aside0.mk H
           clear H
           try go_wp2
           replace HO_6 := aM_ (Kd.R_drew HO_6.out)
           replace HO_34 := aM_ (Kd.R_drew HO_34.out)
           replace HO322 := aM_ (Kd.R_drew HO322.out)
           replace BK305 := aM_ (blk_drew BK305.out)
           replace BK306 := aM_ (blk_drew BK306.out)
           replace BK312 := aM_ (blk_drew BK312.out)
           replace HB := aM_ (below_drew1 HB.out)
           refine st_ 18 (fun w' => w'.cell? ⟨gb312, 0, none⟩ = some (.int .i64 x313000_5) ∧ w'.cell? ⟨gb312, 1, none⟩ = some (.int .i64 x313001_5) ∧ w'.cell? ⟨gb312, 2, none⟩ = some (.int .i64 x313002_5) ∧ w'.cell? ⟨gb312, 3, none⟩ = some (.int .i64 x313003_5) ∧ w'.cell? ⟨gb312, 4, none⟩ = some (.int .i64 x313004_5) ∧ w'.cell? ⟨gb312, 5, none⟩ = some (.bool x313005_5)) [17] impl_ShapeWay.tab12 impl_ShapeWay.bits12 ⟨(blk_cell BK312.out 0).trans rfl, (blk_cell BK312.out 1).trans rfl, (blk_cell BK312.out 2).trans rfl, (blk_cell BK312.out 3).trans rfl, (blk_cell BK312.out 4).trans rfl, (blk_cell BK312.out 5).trans rfl⟩ fun hHeld HT_ HW_ => ?_
           generalize w60.drew = w70 at HO_6 HO_34 HO322 BK305 BK306 BK312 HB hHeld ⊢
           refine pu_ 1 49 ?_
           refine pu_ 2 50 ?_
           refine pu_ 5 53 ?_
           refine pu_ 8 56 ?_
           refine pu_ 11 59 ?_
           refine tk_ 0 48 ?_
           refine tk_ 3 51 ?_
           refine tk_ 9 57 ?_
           refine on_ 4 52 fun K hK => ?_
           refine gS_ Tryd.func21 #[.agg #[.int .i64 x313000_5, .int .i64 x313001_5, .int .i64 x313002_5, .int .i64 x313003_5, .int .i64 x313004_5, .bool x313005_5]] ?_
           with_reducible refine (impl_Shape_bends.calls x313000_5 x313001_5 x313002_5 x313003_5 x313004_5 x313005_5 t324 _ A63.out).mono ?_
           rintro e w71 ⟨v325, rfl, ho0, hb⟩
           refine ⟨_, rfl, ?_⟩
           have HO326 := aM_ (Kd.R_lower (Kd.R_new' (Kd.R_new' ho0 (Kd.R_lt (rR_ HO_34))) (Kd.R_lt (rR_ HO322))) (below_size hB_))
           replace HO_6 := aM_ (Kd.R_below (rR_ HO_6) hb)
           replace HO_34 := aM_ (Kd.R_elder' (rR_ HO_34) (Kd.R_base ho0) hb)
           replace HO322 := aM_ (Kd.R_elder' (rR_ HO322) (Kd.R_base ho0) hb)
           replace BK305 := aM_ (blk_below (g := gb305) (kR_ BK305) hb)
           replace BK306 := aM_ (blk_below (g := gb306) (kR_ BK306) hb)
           replace BK312 := aM_ (blk_below (g := gb312) (kR_ BK312) hb)
           replace HB := aM_ (below_step hB_ hb)
           (try clear hb)
           (try clear hb2)
           (try clear hk)
           (try clear hi)
           (try clear ho0)
           obtain ⟨Ao72, co72, eo72⟩ := Kd.R_slice HO326.out
           (first | subst eo72 | (injection eo72 with f1_ f2_ f3_; have f4_ := f1_.symm; have f5_ := f3_.symm; clear f1_ f2_ f3_; subst f4_; subst f5_))
           obtain ⟨⟨ad327, e327, hx327_0⟩, p327, q327⟩ := at2_ (Kd.at_int (Kd.R_reads' HO326.out).2.2 x36_4); cases e327
           refine hK.out _ _ ⟨(blk_cell BK312.out 0).trans rfl, (blk_cell BK312.out 1).trans rfl, (blk_cell BK312.out 2).trans rfl, (blk_cell BK312.out 3).trans rfl, (blk_cell BK312.out 4).trans rfl, (blk_cell BK312.out 5).trans rfl⟩ (fun hHeld => ?_)
           clear hK K
           refine nm_ 52 ?_
           refine more_ (fun w' => w'.cell? (ad327.add (x36_4).toNat) = some (.int .i64 (rd t324 x36_4))) HT_ hHeld hx327_0 ?_
           have hHeld := And.intro hx327_0 hHeld
           refine pu_ 6 54 ?_
           refine tk_ 7 55 ?_
           refine on_ 10 58 fun K hK => ?_
           refine gS_ Tryd.func21 #[.agg #[.int .i64 x313000_5, .int .i64 x313001_5, .int .i64 x313002_5, .int .i64 x313003_5, .int .i64 x313004_5, .bool x313005_5]] ?_
           with_reducible refine (impl_Shape_bends.calls x313000_5 x313001_5 x313002_5 x313003_5 x313004_5 x313005_5 t328 _ A65.out).mono ?_
           rintro e w73 ⟨v329, rfl, ho0, hb⟩
           have HS6_ := (hb.cell (World.block_lt_of_cell? _ _ (hHeld.1))).trans (hHeld.1)
           refine ⟨_, rfl, ?_⟩
           have HO330 := aM_ (Kd.R_lower (Kd.R_new' (Kd.R_new' (Kd.R_new' ho0 (Kd.R_lt (rR_ HO_34))) (Kd.R_lt (rR_ HO322))) (Kd.R_lt (rR_ HO326))) (below_size hB_))
           replace HO_6 := aM_ (Kd.R_below (rR_ HO_6) hb)
           replace HO_34 := aM_ (Kd.R_elder' (rR_ HO_34) (Kd.R_base ho0) hb)
           replace HO322 := aM_ (Kd.R_elder' (rR_ HO322) (Kd.R_base ho0) hb)
           replace HO326 := aM_ (Kd.R_elder' (rR_ HO326) (Kd.R_base ho0) hb)
           replace BK305 := aM_ (blk_below (g := gb305) (kR_ BK305) hb)
           replace BK306 := aM_ (blk_below (g := gb306) (kR_ BK306) hb)
           replace BK312 := aM_ (blk_below (g := gb312) (kR_ BK312) hb)
           replace HB := aM_ (below_step hB_ hb)
           (try clear hb)
           (try clear hb2)
           (try clear hk)
           (try clear hi)
           (try clear ho0)
           obtain ⟨Ao74, co74, eo74⟩ := Kd.R_slice HO330.out
           (first | subst eo74 | (injection eo74 with f1_ f2_ f3_; have f4_ := f1_.symm; have f5_ := f3_.symm; clear f1_ f2_ f3_; subst f4_; subst f5_))
           obtain ⟨⟨ad331, e331, hx331_0⟩, p331, q331⟩ := at2_ (Kd.at_int (Kd.R_reads' HO330.out).2.2 x36_4); cases e331
           refine hK.out _ _ ⟨HS6_, (blk_cell BK312.out 0).trans rfl, (blk_cell BK312.out 1).trans rfl, (blk_cell BK312.out 2).trans rfl, (blk_cell BK312.out 3).trans rfl, (blk_cell BK312.out 4).trans rfl, (blk_cell BK312.out 5).trans rfl⟩ (fun hHeld => ?_)
           clear hK K
           refine nm_ 58 ?_
           refine more_ (fun w' => w'.cell? (ad331.add (x36_4).toNat) = some (.int .i64 (rd t328 x36_4))) HT_ hHeld hx331_0 ?_
           have hHeld := And.intro hx331_0 hHeld
           refine pu_ 12 60 ?_
           refine tk_ 13 61 ?_
           refine on_ 14 62 fun K hK => ?_
           refine gS_ Tryd.func23 #[.int .i64 (rd t316 x36_4), .int .i64 (rd t328 x36_4)] ?_
           with_reducible refine (cmp_Compare_int.calls (rd t316 x36_4) (rd t328 x36_4) t332 _ A67.out).mono ?_
           rintro e w' ⟨rfl, ⟨nd, rfl⟩⟩
           refine ⟨_, rfl, ?_⟩
           refine hK.out _ _ ⟨hHeld.1, hHeld.2.1, (blk_cell BK312.out 0).trans rfl, (blk_cell BK312.out 1).trans rfl, (blk_cell BK312.out 2).trans rfl, (blk_cell BK312.out 3).trans rfl, (blk_cell BK312.out 4).trans rfl, (blk_cell BK312.out 5).trans rfl⟩ (fun hHeld => ?_)
           clear hK K
           refine nm_ 62 ?_
           refine pu_ 15 63 ?_
           refine on_ 16 64 fun K hK => ?_
           refine gS_ Tryd.func22 #[.agg #[.int .i64 x313000_5, .int .i64 x313001_5, .int .i64 x313002_5, .int .i64 x313003_5, .int .i64 x313004_5, .bool x313005_5], .int .i64 (wrap64 (x36_4 + 1)), .int .i64 (wrap64 ((rd t324 x36_4) + t332))] ?_
           with_reducible refine (impl_Shape_with.calls x313000_5 x313001_5 x313002_5 x313003_5 x313004_5 x313005_5 (wrap64 (x36_4 + 1)) (wrap64 ((rd t324 x36_4) + t332)) t333 t334 t335 t336 t337 t338 _ A68.out).mono ?_
           rintro e w75 ⟨rfl, hb⟩
           have HS6_ := (hb.cell (World.block_lt_of_cell? _ _ (hHeld.2.1))).trans (hHeld.2.1)
           have HS7_ := (hb.cell (World.block_lt_of_cell? _ _ (hHeld.1))).trans (hHeld.1)
           refine ⟨_, rfl, ?_⟩
           replace HO_6 := aM_ (Kd.R_below (rR_ HO_6) hb)
           replace HO_34 := aM_ (Kd.R_below (rR_ HO_34) hb)
           replace HO322 := aM_ (Kd.R_below (rR_ HO322) hb)
           replace HO326 := aM_ (Kd.R_below (rR_ HO326) hb)
           replace HO330 := aM_ (Kd.R_below (rR_ HO330) hb)
           replace BK305 := aM_ (blk_below (g := gb305) (kR_ BK305) hb)
           replace BK306 := aM_ (blk_below (g := gb306) (kR_ BK306) hb)
           replace BK312 := aM_ (blk_below (g := gb312) (kR_ BK312) hb)
           replace HB := aM_ (below_step hB_ hb)
           (try clear hb)
           (try clear hb2)
           (try clear hk)
           (try clear hi)
           refine hK.out _ _ ⟨HS7_, HS6_, (blk_cell BK312.out 0).trans rfl, (blk_cell BK312.out 1).trans rfl, (blk_cell BK312.out 2).trans rfl, (blk_cell BK312.out 3).trans rfl, (blk_cell BK312.out 4).trans rfl, (blk_cell BK312.out 5).trans rfl⟩ (fun hHeld => ?_)
           clear hK K
           refine nm_ 64 ?_
           refine last_ (i := 17) (N := none) (bz_ 18 0x3ffff) rfl rfl (one_of HT_.out (by kernel_rfl)) (by decide) (fun K hK => ?_)
           have hs76 : w75.cell? ⟨gb312, 0, none⟩ = some (.int .i64 x313000_5) := (blk_cell BK312.out 0).trans rfl
           have hfs76 := blk_frozen BK312.out 0
           have hns76_0 := NB305_312.out
           have hns76_1 := NB306_312.out
           have hms76_0 := NB312_305.out
           have hms76_1 := NB312_306.out
           have hs77 : w75.cell? ⟨gb312, 1, none⟩ = some (.int .i64 x313001_5) := (blk_cell BK312.out 1).trans rfl
           have hfs77 := blk_frozen BK312.out 1
           have hns77_0 := NB305_312.out
           have hns77_1 := NB306_312.out
           have hms77_0 := NB312_305.out
           have hms77_1 := NB312_306.out
           have hs78 : w75.cell? ⟨gb312, 2, none⟩ = some (.int .i64 x313002_5) := (blk_cell BK312.out 2).trans rfl
           have hfs78 := blk_frozen BK312.out 2
           have hns78_0 := NB305_312.out
           have hns78_1 := NB306_312.out
           have hms78_0 := NB312_305.out
           have hms78_1 := NB312_306.out
           have hs79 : w75.cell? ⟨gb312, 3, none⟩ = some (.int .i64 x313003_5) := (blk_cell BK312.out 3).trans rfl
           have hfs79 := blk_frozen BK312.out 3
           have hns79_0 := NB305_312.out
           have hns79_1 := NB306_312.out
           have hms79_0 := NB312_305.out
           have hms79_1 := NB312_306.out
           have hs80 : w75.cell? ⟨gb312, 4, none⟩ = some (.int .i64 x313004_5) := (blk_cell BK312.out 4).trans rfl
           have hfs80 := blk_frozen BK312.out 4
           have hns80_0 := NB305_312.out
           have hns80_1 := NB306_312.out
           have hms80_0 := NB312_305.out
           have hms80_1 := NB312_306.out
           have hs81 : w75.cell? ⟨gb312, 5, none⟩ = some (.bool x313005_5) := (blk_cell BK312.out 5).trans rfl
           have hfs81 := blk_frozen BK312.out 5
           have hns81_0 := NB305_312.out
           have hns81_1 := NB306_312.out
           have hms81_0 := NB312_305.out
           have hms81_1 := NB312_306.out
           refine skip_ (w1 := ?_) (by rfl) rfl ?_ ?_
           rotate_left
           ·go_simp
            rfl
           refine hK.out _ _ ?_
           clear hK K
           refine dn_ ?_
           have hnb82 := NB312_305.out
           have hnc82 := NB305_312.out
           have hnb83 := NB312_306.out
           have hnc83 := NB306_312.out
           have hz84 := cf6_ BK312.out
           try go_wp2_with (first | ((with_reducible refine gate_builtin (b := .append) (xs := #[.tmp 65, .tmp 67]) rfl ?_); at_builtin; refine Kd.R_append k25 (w0 := w) w.heap.size rfl (.tmp 65) (.tmp 67) 28 25 (.agg #[(.int .i64 0), (.int .i64 0), (.int .i64 0), (.int .i64 0), (.int .i64 0), (.bool false)]) 48 rfl Tryd.underlying28 info25 rfl (by decide) (by omega) u6 x6_5 (⟨t333, t334, t335, t336, t337, t338⟩ : S25) [.int .i64 t333, .int .i64 t334, .int .i64 t335, .int .i64 t336, .int .i64 t337, .bool t338] (fun k_ => k_ ≠ gb305 ∧ k_ ≠ gb306 ∧ k_ ≠ gb312) (fun _ => False) rfl z7_4_ ?aP (fun _ hk => hk.elim) ?aF ?aO ?aB ?aS ?aL ?_; (case aP => exact k25_mkM _ _ _ (⟨t333, t334, t335, t336, t337, t338⟩ : S25)); (case aB => exact hB_); (case aF => exact (fun k_ hk => ⟨Kd.freshB (g := gb305) (kR_ BK305) k_ hk, Kd.freshB (g := gb306) (kR_ BK306) k_ hk, Kd.freshB (g := gb312) (o := .cells #[.int .i64 t333, .int .i64 t334, .int .i64 t335, .int .i64 t336, .int .i64 t337, .bool t338] 25 (0, 0)) z7_8_ k_ hk⟩)); (case aO => exact (by (with_reducible repeat (first | apply rA_ | apply rN_ | apply rD_)); exact Kd.R_mono (Kd.R_far (p := ⟨gb312, 5, none⟩) (Kd.R_far (p := ⟨gb312, 4, none⟩) (Kd.R_far (p := ⟨gb312, 3, none⟩) (Kd.R_far (p := ⟨gb312, 2, none⟩) (Kd.R_far (p := ⟨gb312, 1, none⟩) (Kd.R_far (p := ⟨gb312, 0, none⟩) (Kd.R_mono HO_6.out (fun k_ hk => (⟨hk, hk.2.2⟩ : _ ∧ k_ ≠ gb312))) (fun _ hk => hk.2) (.int .i64 t333)) (fun _ hk => hk.2) (.int .i64 t334)) (fun _ hk => hk.2) (.int .i64 t335)) (fun _ hk => hk.2) (.int .i64 t336)) (fun _ hk => hk.2) (.int .i64 t337)) (fun _ hk => hk.2) (.bool t338)) (fun _ hk => ⟨hk.1.1, ⟨hk.1.2.1, hk.1.2.2⟩⟩))); (case aS => exact (below_size hB_)); (case aL => have := LMc69.out; omega); intro v340 w85 ho hb hg hat; rw [← Ny339.out] at ho; have HO341 := aM_ (ho); replace HO_34 := aM_ (Kd.R_over' (by (with_reducible repeat (first | apply rA_ | apply rN_ | apply rD_)); exact (Kd.R_mono (Kd.R_far (p := ⟨gb312, 5, none⟩) (Kd.R_far (p := ⟨gb312, 4, none⟩) (Kd.R_far (p := ⟨gb312, 3, none⟩) (Kd.R_far (p := ⟨gb312, 2, none⟩) (Kd.R_far (p := ⟨gb312, 1, none⟩) (Kd.R_far (p := ⟨gb312, 0, none⟩) (Kd.R_types HO_34.out BK312.out (by decide)) (fun _ hk => hk.2) (.int .i64 t333)) (fun _ hk => hk.2) (.int .i64 t334)) (fun _ hk => hk.2) (.int .i64 t335)) (fun _ hk => hk.2) (.int .i64 t336)) (fun _ hk => hk.2) (.int .i64 t337)) (fun _ hk => hk.2) (.bool t338)) (fun _ h_ => h_.1))) (Kd.R_typed z7_9_) (by decide) hg); replace BK305 := aM_ (blk_grown (g := gb305) (kR_ BK305) hg (Kd.R_away HO_6.out (fun _ hk => hk.1))); replace BK306 := aM_ (blk_grown (g := gb306) (kR_ BK306) hg (Kd.R_away HO_6.out (fun _ hk => hk.2.1))); replace HO322 := aM_ (Kd.R_over' (by (with_reducible repeat (first | apply rA_ | apply rN_ | apply rD_)); exact (Kd.R_mono (Kd.R_far (p := ⟨gb312, 5, none⟩) (Kd.R_far (p := ⟨gb312, 4, none⟩) (Kd.R_far (p := ⟨gb312, 3, none⟩) (Kd.R_far (p := ⟨gb312, 2, none⟩) (Kd.R_far (p := ⟨gb312, 1, none⟩) (Kd.R_far (p := ⟨gb312, 0, none⟩) (Kd.R_types HO322.out BK312.out (by decide)) (fun _ hk => hk.2) (.int .i64 t333)) (fun _ hk => hk.2) (.int .i64 t334)) (fun _ hk => hk.2) (.int .i64 t335)) (fun _ hk => hk.2) (.int .i64 t336)) (fun _ hk => hk.2) (.int .i64 t337)) (fun _ hk => hk.2) (.bool t338)) (fun _ h_ => h_.1))) (Kd.R_typed z7_9_) (by decide) hg); replace HO326 := aM_ (Kd.R_over' (by (with_reducible repeat (first | apply rA_ | apply rN_ | apply rD_)); exact (Kd.R_mono (Kd.R_far (p := ⟨gb312, 5, none⟩) (Kd.R_far (p := ⟨gb312, 4, none⟩) (Kd.R_far (p := ⟨gb312, 3, none⟩) (Kd.R_far (p := ⟨gb312, 2, none⟩) (Kd.R_far (p := ⟨gb312, 1, none⟩) (Kd.R_far (p := ⟨gb312, 0, none⟩) (Kd.R_types HO326.out BK312.out (by decide)) (fun _ hk => hk.2) (.int .i64 t333)) (fun _ hk => hk.2) (.int .i64 t334)) (fun _ hk => hk.2) (.int .i64 t335)) (fun _ hk => hk.2) (.int .i64 t336)) (fun _ hk => hk.2) (.int .i64 t337)) (fun _ hk => hk.2) (.bool t338)) (fun _ h_ => h_.1))) (Kd.R_typed z7_9_) (by decide) hg); replace HO330 := aM_ (Kd.R_over' (by (with_reducible repeat (first | apply rA_ | apply rN_ | apply rD_)); exact (Kd.R_mono (Kd.R_far (p := ⟨gb312, 5, none⟩) (Kd.R_far (p := ⟨gb312, 4, none⟩) (Kd.R_far (p := ⟨gb312, 3, none⟩) (Kd.R_far (p := ⟨gb312, 2, none⟩) (Kd.R_far (p := ⟨gb312, 1, none⟩) (Kd.R_far (p := ⟨gb312, 0, none⟩) (Kd.R_types HO330.out BK312.out (by decide)) (fun _ hk => hk.2) (.int .i64 t333)) (fun _ hk => hk.2) (.int .i64 t334)) (fun _ hk => hk.2) (.int .i64 t335)) (fun _ hk => hk.2) (.int .i64 t336)) (fun _ hk => hk.2) (.int .i64 t337)) (fun _ hk => hk.2) (.bool t338)) (fun _ h_ => h_.1))) (Kd.R_typed z7_9_) (by decide) hg); replace BK312 := aM_ (blk_grown (g := gb312) (o := .cells #[.int .i64 t333, .int .i64 t334, .int .i64 t335, .int .i64 t336, .int .i64 t337, .bool t338] 25 (0, 0)) z7_8_ hg (Kd.R_away HO_6.out (fun _ hk => hk.2.2))); replace HB := aM_ (hb); clear HO_6; clear ho hb hg hat))
           go_roundg k5
           case measure => have := HJ2.out; have := HJ17.out; have := HJ36.out; have := HK4.out; have := HK5.out; omega
           case rel => exact ⟨(y339), (t333), (t334), (t335), (t336), (t337), (t338), H', ⟨z7_7_⟩, ⟨rR_ HO341⟩, ⟨(rT1_ HO_34)⟩, ⟨kP_⟩, ⟨kP_⟩, ⟨kP_⟩, ⟨hB_⟩⟩

end Go.Proofs.YtbfkpgmdbafmhaaDoor.PFnShapes
