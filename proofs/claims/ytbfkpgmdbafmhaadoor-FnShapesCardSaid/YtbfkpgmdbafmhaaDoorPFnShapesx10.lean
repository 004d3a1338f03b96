/- Printed for this claim: functions of the program as Lean functions, and that the calls answer so. -/
import Derived.Test.YtbfkpgmdbafmhaaDoorPFnShapesx0
import Derived.Test.YtbfkpgmdbafmhaaDoorPFnShapesx2
import Derived.Test.YtbfkpgmdbafmhaaDoorPFnShapesx5
import Derived.Test.YtbfkpgmdbafmhaaDoorPFnShapesxD0
import Derived.Test.YtbfkpgmdbafmhaaDoorPFnShapesxD1
namespace Go.Proofs.YtbfkpgmdbafmhaaDoor.PFnShapes
open Go.RowKit Go.Proofs.YtbfkpgmdbafmhaaDoorW.PrintWords Go.Proofs.YtbfkpgmdbafmhaaDoorW.PrintLast Go.Proofs.YtbfkpgmdbafmhaaDoorW.PrintMore
theorem z10_0_ {p : Prop} (h : p := by first | rfl | (simp; done) | (simp [*]; done)) : p := h
theorem z10_1_ {p : Prop} (h : p := by repeat (first | exact Drawn0.refl _ | apply Drawn0.step)) : p := h
set_option maxHeartbeats 8000000
set_option maxRecDepth 100000
attribute [local go_sem] max2_int min2_int max_two min_two max_three min_three max_four min_four isSome_setCell   -- for this text's walks alone
set_option linter.unusedVariables false
set_option linter.unusedSimpArgs false

/-! ### impl_distance: function 47 -/
theorem impl_distance.calls (a0 : Int) (a1 : Int) (r : Int) (w : World) (h : impl_distance.f a0 a1 = some r) :
 Calls Tryd.prog 47 #[.int .i64 a0, .int .i64 a1] w fun e w' => e = .returned (.int .i64 r) ∧ Below w.heap.size w w' := by
 have HB := Aside0.mk (Below.refl w.heap.size w)
 have H : (some (mx (wrap64 (a0 - a1)) (wrap64 (a1 - a0)))) = some r := h
 clear h
 obtain ⟨ji3, hji3⟩ : ∃ j_ : Int, (mx (wrap64 (a0 - a1)) (wrap64 (a1 - a0))) = j_ := ⟨_, rfl⟩
 replace H : (some ji3) = some r := by first | (rw [hji3] at H; exact H) | (simp only [hji3] at H ⊢; exact H)
 have hji3_ : (if (wrap64 (a0 - a1)) < (wrap64 (a1 - a0)) then (wrap64 (a1 - a0)) else (wrap64 (a0 - a1))) = ji3 := hji3
 obtain rfl := Option.some.inj H
 go_enter Tryd.func47, Tryd.ntmps47
 go_wp2
 go_ret
 exact ⟨by first | rfl | (simp [errW_none, errW_some] <;> rfl) | (simp only [← hji3]; first | rfl | (simp [errW_none, errW_some] <;> rfl)) | (simp [*, errW_none, errW_some] <;> rfl), hB_⟩

/-! ### impl_Shape_distance: function 28 -/
theorem impl_Shape_distance.calls (k : Nat) (a0_0 : Int) (a0_1 : Int) (a0_2 : Int) (a0_3 : Int) (a0_4 : Int) (a0_5 : Bool) (a1_0 : Int) (a1_1 : Int) (a1_2 : Int) (a1_3 : Int) (a1_4 : Int) (a1_5 : Bool) (r : Int) (w : World) (h : impl_Shape_distance.f k a0_0 a0_1 a0_2 a0_3 a0_4 a0_5 a1_0 a1_1 a1_2 a1_3 a1_4 a1_5 = some r) :
 Calls Tryd.prog 28 #[.agg #[.int .i64 a0_0, .int .i64 a0_1, .int .i64 a0_2, .int .i64 a0_3, .int .i64 a0_4, .bool a0_5], .agg #[.int .i64 a1_0, .int .i64 a1_1, .int .i64 a1_2, .int .i64 a1_3, .int .i64 a1_4, .bool a1_5]] w fun e w' => e = .returned (.int .i64 r) ∧ Below w.heap.size w w' := by
 have hu25 := Tryd.underlying25
 have HB := Aside0.mk (Below.refl w.heap.size w)
 have H : ((impl_Shape_bends.f a0_0 a0_1 a0_2 a0_3 a0_4 a0_5).bind fun t426 => (impl_Shape_distance.l0 k 0 t426 (t426.length : Int) 0 a0_0 a0_1 a0_2 a0_3 a0_4 a0_5 a1_0 a1_1 a1_2 a1_3 a1_4 a1_5)) = some r := h
 clear h
 replace H := ob_ H; obtain ⟨t426, A3, H⟩ := H; try dsimp only at H
 have H' := Aside0.mk H
 clear H
 go_enter Tryd.func28, Tryd.ntmps28
 go_wp2_with (first | ((with_reducible refine gate_dst (N := 2) rfl ?_); refine bx_ 2 #[.int .i64 a0_0, .int .i64 a0_1, .int .i64 a0_2, .int .i64 a0_3, .int .i64 a0_4, .bool a0_5] 25 fun gb424 hg w4 hbox hb => ?_; have BK424 := aM_ (hbox); have GW424 := aM_ (gw_ w hg); have GE424 := aM_ (gw_ w hg); replace HB := aM_ (below_step hB_ hb); clear hb hbox hg) | ((with_reducible refine gate_dst (N := 3) rfl ?_); refine bx_ 3 #[.int .i64 a1_0, .int .i64 a1_1, .int .i64 a1_2, .int .i64 a1_3, .int .i64 a1_4, .bool a1_5] 25 fun gb425 hg w5 hbox hb => ?_; have BK425 := aM_ (hbox); have GW425 := aM_ (gw_ w hg); have GE425 := aM_ (gw_ w hg); have NB424_425 := aM_ (nR_ BK424 hg); have NB425_424 := aM_ (mR_ BK424 hg); replace BK424 := aM_ (blk_below (g := gb424) (kR_ BK424) hb); replace HB := aM_ (below_step hB_ hb); clear hb hbox hg; have hnb6 := NB424_425.out; have hnc6 := NB425_424.out; have hz7 := cf6_ BK424.out) | ((with_reducible refine gC_ 21 ?_); refine gM_ (some 9) Tryd.func21 #[.agg #[.int .i64 a0_0, .int .i64 a0_1, .int .i64 a0_2, .int .i64 a0_3, .int .i64 a0_4, .bool a0_5]] ?_; (with_reducible refine (impl_Shape_bends.calls a0_0 a0_1 a0_2 a0_3 a0_4 a0_5 t426 _ A3.out).mono ?_); rintro e w8 ⟨v427, rfl, ho0, hb⟩; refine ⟨_, rfl, ?_⟩; have HO428 := aM_ (Kd.R_lower ho0 (below_size hB_)); replace BK424 := aM_ (blk_below (g := gb424) (kR_ BK424) hb); replace BK425 := aM_ (blk_below (g := gb425) (kR_ BK425) hb); replace HB := aM_ (below_step hB_ hb); (try clear hb); (try clear ho0); obtain ⟨Ao9, co9, eo9⟩ := Kd.R_slice HO428.out; subst eo9))
 try simp only [Act.put, List.setIfInBounds_toArray, List.set_cons_zero, List.set_cons_succ]
 go_loopg [5, 11] k (fun kq v5 v11 w' => ∃ (x5_1 : Int) (x11_1 : Int), v5 = .int .i64 x5_1 ∧ v11 = .int .i64 x11_1 ∧ Aside0 (impl_Shape_distance.l0 kq x5_1 t426 (t426.length : Int) x11_1 a0_0 a0_1 a0_2 a0_3 a0_4 a0_5 a1_0 a1_1 a1_2 a1_3 a1_4 a1_5 = some r) ∧ Aside0 (kq ≤ k) ∧ Aside0 (Kd.R (Kd.int .i64) 3 w' w.heap.size (fun _ => True) (.slice Ao9 t426.length co9) t426) ∧ Aside0 (w'.heap[gb424]? = some (.cells #[.int .i64 a0_0, .int .i64 a0_1, .int .i64 a0_2, .int .i64 a0_3, .int .i64 a0_4, .bool a0_5] 25 (0, 0))) ∧ Aside0 (w'.heap[gb425]? = some (.cells #[.int .i64 a1_0, .int .i64 a1_1, .int .i64 a1_2, .int .i64 a1_3, .int .i64 a1_4, .bool a1_5] 25 (0, 0))) ∧ Aside0 (Below w.heap.size w w'))
 case atStart => exact ⟨(0), (0), z10_0_, z10_0_, H', ⟨Nat.le_refl _⟩, ⟨rR_ HO428⟩, ⟨kP_⟩, ⟨kP_⟩, ⟨hB_⟩⟩
 case round =>
  clear H'
  (try clear hcz7_0);(try clear hcz7_1);(try clear hcz7_2);(try clear hcz7_3);(try clear hcz7_4);(try clear hcz7_5);(try clear hfz7_0);(try clear hfz7_1);(try clear hfz7_2);(try clear hfz7_3);(try clear hfz7_4);(try clear hfz7_5)
  obtain ⟨x5_1, x11_1, rfl, rfl, HA, HK1, HO_9, BK424, BK425, HB⟩ := hrel
  cases gk with
  | zero => exact absurd HA.out (by simp [impl_Shape_distance.l0])
  | succ k1 =>
   have H := HA.out
   clear HA
   simp only [impl_Shape_distance.l0] at H
   replace H := iF_ H; obtain ⟨c10b0, H⟩ | ⟨c10b0, H⟩ := H
   ·by_cases c21 : a0_0 = a1_0
    rotate_left
    ·rw [if_neg c21] at H
     have c21b0 : (a0_0 == a1_0) = false := beq_eq_false_iff_ne.mpr c21
     have c21b1 : (a0_0 != a1_0) = true := bne_iff_ne.mpr c21
     by_cases c29 : (a0_5 != a1_5) = true
     rotate_left
     ·rw [if_neg c29] at H
      have c29b0 : (a0_5 != a1_5) = false := by simpa using c29
      (try (have c29b1 : decide (a0_5 = a1_5) = true := by simpa using c29))
      (try (have c29b2 : (a0_5 == a1_5) = true := by simpa using c29))
      clear c29
      obtain rfl := Option.some.inj H
      have hnb33 := NB424_425.out
      have hnc33 := NB425_424.out
      have hz34 := cf6_ BK424.out
      have hz35 := cf6_ BK425.out
      clear BK424
      go_wp2
      go_ret
      exact ⟨rT_, hB_⟩
     rw [if_pos c29] at H
     have c29b0 : (a0_5 != a1_5) = true := c29
     (try (have c29b1 : decide (a0_5 = a1_5) = false := by simpa using c29))
     (try (have c29b2 : (a0_5 == a1_5) = false := by simpa using c29))
     (try (have c29b3 : ¬ (a0_5 = a1_5) := by simpa using c29))
     clear c29
     obtain rfl := Option.some.inj H
     have hnb30 := NB424_425.out
     have hnc30 := NB425_424.out
     have hz31 := cf6_ BK424.out
     have hz32 := cf6_ BK425.out
     clear BK424
     go_wp2
     go_ret
     exact ⟨rT_, hB_⟩
    rw [if_pos c21] at H
    have c21b0 : (a0_0 == a1_0) = true := beq_iff_eq.mpr c21
    have c21b1 : (a0_0 != a1_0) = false := bne_eq_false_iff_eq.mpr c21
    clear c21
    by_cases c22 : (a0_5 != a1_5) = true
    rotate_left
    ·rw [if_neg c22] at H
     have c22b0 : (a0_5 != a1_5) = false := by simpa using c22
     (try (have c22b1 : decide (a0_5 = a1_5) = true := by simpa using c22))
     (try (have c22b2 : (a0_5 == a1_5) = true := by simpa using c22))
     clear c22
     obtain rfl := Option.some.inj H
     have hnb26 := NB424_425.out
     have hnc26 := NB425_424.out
     have hz27 := cf6_ BK424.out
     have hz28 := cf6_ BK425.out
     clear BK424
     go_wp2
     go_ret
     exact ⟨rT_, hB_⟩
    rw [if_pos c22] at H
    have c22b0 : (a0_5 != a1_5) = true := c22
    (try (have c22b1 : decide (a0_5 = a1_5) = false := by simpa using c22))
    (try (have c22b2 : (a0_5 == a1_5) = false := by simpa using c22))
    (try (have c22b3 : ¬ (a0_5 = a1_5) := by simpa using c22))
    clear c22
    obtain rfl := Option.some.inj H
    have hnb23 := NB424_425.out
    have hnc23 := NB425_424.out
    have hz24 := cf6_ BK424.out
    have hz25 := cf6_ BK425.out
    clear BK424
    go_wp2
    go_ret
    exact ⟨rT_, hB_⟩
   replace H := ig_ H; obtain ⟨c11b0, H⟩ := H
   replace H := ig_ H; obtain ⟨c12b0, H⟩ := H
   replace H := ob_ H; obtain ⟨t430, A13, H⟩ := H; try dsimp only at H
   replace H := ig_ H; obtain ⟨c14b0, H⟩ := H
   replace H := ob_ H; obtain ⟨t434, A15, H⟩ := H; try dsimp only at H
   have H' := Aside0.mk H
   clear H
   obtain ⟨⟨ad429, e429, hx429_0⟩, p429, q429⟩ := at2_ (Kd.at_int (Kd.R_reads' HO_9.out).2.2 x11_1); cases e429
   have hnb16 := NB425_424.out
   have hnc16 := NB424_425.out
   have hz17 := cf6_ BK425.out
   go_wp2_with (first | ((with_reducible refine gC_ 21 ?_); refine gM_ (some 19) Tryd.func21 #[.agg #[.int .i64 a1_0, .int .i64 a1_1, .int .i64 a1_2, .int .i64 a1_3, .int .i64 a1_4, .bool a1_5]] ?_; (with_reducible refine (impl_Shape_bends.calls a1_0 a1_1 a1_2 a1_3 a1_4 a1_5 t430 _ A13.out).mono ?_); rintro e w18 ⟨v431, rfl, ho0, hb⟩; refine ⟨_, rfl, ?_⟩; have HO432 := aM_ (Kd.R_lower (Kd.R_new' ho0 (Kd.R_lt (rR_ HO_9))) (below_size hB_)); replace HO_9 := aM_ (Kd.R_elder' (rR_ HO_9) (Kd.R_base ho0) hb); replace BK424 := aM_ (blk_below (g := gb424) (kR_ BK424) hb); replace BK425 := aM_ (blk_below (g := gb425) (kR_ BK425) hb); replace HB := aM_ (below_step hB_ hb); (try clear hb); (try clear ho0); obtain ⟨Ao19, co19, eo19⟩ := Kd.R_slice HO432.out; subst eo19; have p433 : 0 ≤ (x11_1 : Int) := ode_; have q433 : x11_1 < (t430.length : Int) := ode_; obtain ⟨ad433, e433, hx433_0⟩ := Kd.at_int (Kd.R_reads' HO432.out).2.2 x11_1 p433 q433; cases e433; replace p433 := eq_true p433; replace q433 := eq_true q433) | ((with_reducible refine gC_ 47 ?_); refine gM_ (some 23) Tryd.func47 #[.int .i64 (rd t426 x11_1), .int .i64 (rd t430 x11_1)] ?_; (with_reducible refine (impl_distance.calls (rd t426 x11_1) (rd t430 x11_1) t434 _ A15.out).mono ?_); rintro e w20 ⟨rfl, hb⟩; refine ⟨_, rfl, ?_⟩; replace HO_9 := aM_ (Kd.R_below (rR_ HO_9) hb); replace HO432 := aM_ (Kd.R_below (rR_ HO432) hb); replace BK424 := aM_ (blk_below (g := gb424) (kR_ BK424) hb); replace BK425 := aM_ (blk_below (g := gb425) (kR_ BK425) hb); replace HB := aM_ (below_step hB_ hb); (try clear hb)))
   go_roundg k1
   case measure => have := HK1.out; omega
   case rel => exact ⟨(wrap64 (x5_1 + t434)), (wrap64 (x11_1 + 1)), z10_0_, z10_0_, H', ⟨by have := HK1.out; omega⟩, ⟨rT1_ HO_9⟩, ⟨kP_⟩, ⟨kP_⟩, ⟨hB_⟩⟩

/-! ### impl_ShapeDistance: function 8 -/
theorem impl_ShapeDistance.calls (k : Nat) (a0_0 : Int) (a0_1 : Int) (a0_2 : Int) (a0_3 : Int) (a0_4 : Int) (a0_5 : Bool) (a1_0 : Int) (a1_1 : Int) (a1_2 : Int) (a1_3 : Int) (a1_4 : Int) (a1_5 : Bool) (r1 : Int) (r2 : Bool) (w : World) (h : impl_ShapeDistance.f k a0_0 a0_1 a0_2 a0_3 a0_4 a0_5 a1_0 a1_1 a1_2 a1_3 a1_4 a1_5 = some (r1, r2)) :
 Calls Tryd.prog 8 #[.agg #[.int .i64 a0_0, .int .i64 a0_1, .int .i64 a0_2, .int .i64 a0_3, .int .i64 a0_4, .bool a0_5], .agg #[.int .i64 a1_0, .int .i64 a1_1, .int .i64 a1_2, .int .i64 a1_3, .int .i64 a1_4, .bool a1_5]] w fun e w' => e = .returned (.tuple #[.int .i64 r1, .bool r2]) ∧ Below w.heap.size w w' := by
 have hu25 := Tryd.underlying25
 have HB := Aside0.mk (Below.refl w.heap.size w)
 have H : ((impl_IsShape.f k a0_0 a0_1 a0_2 a0_3 a0_4 a0_5).bind fun t437 => (if t437 = true then ((impl_IsShape.f k a1_0 a1_1 a1_2 a1_3 a1_4 a1_5).bind fun t438 => (if t438 = true then ((impl_Shape_distance.f k a0_0 a0_1 a0_2 a0_3 a0_4 a0_5 a1_0 a1_1 a1_2 a1_3 a1_4 a1_5).bind fun t439 => (some (t439, true))) else (some (0, false)))) else (some (0, false)))) = some (r1, r2) := h
 clear h
 replace H := ob_ H; obtain ⟨t437, A3, H⟩ := H; try dsimp only at H
 by_cases c4 : t437 = true
 rotate_left
 ·replace c4 := Bool.eq_false_iff.mpr c4
  subst c4
  replace H := in_ H (show ¬ (false = true) by decide)
  simp only [Option.some.injEq, Prod.mk.injEq] at H
  obtain ⟨rfl, rfl⟩ := H
  go_enter Tryd.func8, Tryd.ntmps8
  go_wp2_with (first | ((with_reducible refine gate_dst (N := 2) rfl ?_); refine bx_ 2 #[.int .i64 a0_0, .int .i64 a0_1, .int .i64 a0_2, .int .i64 a0_3, .int .i64 a0_4, .bool a0_5] 25 fun gb435 hg w20 hbox hb => ?_; have BK435 := aM_ (hbox); have GW435 := aM_ (gw_ w hg); have GE435 := aM_ (gw_ w hg); replace HB := aM_ (below_step hB_ hb); clear hb hbox hg) | ((with_reducible refine gate_dst (N := 3) rfl ?_); refine bx_ 3 #[.int .i64 a1_0, .int .i64 a1_1, .int .i64 a1_2, .int .i64 a1_3, .int .i64 a1_4, .bool a1_5] 25 fun gb436 hg w21 hbox hb => ?_; have BK436 := aM_ (hbox); have GW436 := aM_ (gw_ w hg); have GE436 := aM_ (gw_ w hg); have NB435_436 := aM_ (nR_ BK435 hg); have NB436_435 := aM_ (mR_ BK435 hg); replace BK435 := aM_ (blk_below (g := gb435) (kR_ BK435) hb); replace HB := aM_ (below_step hB_ hb); clear hb hbox hg; clear BK436; have hz22 := cf6_ BK435.out; clear BK435) | ((with_reducible refine gC_ 13 ?_); refine gM_ (some 7) Tryd.func13 #[.agg #[.int .i64 a0_0, .int .i64 a0_1, .int .i64 a0_2, .int .i64 a0_3, .int .i64 a0_4, .bool a0_5]] ?_; (with_reducible refine (impl_IsShape.calls k a0_0 a0_1 a0_2 a0_3 a0_4 a0_5 false _ A3.out).mono ?_); rintro e w23 ⟨rfl, hb⟩; refine ⟨_, rfl, ?_⟩; replace HB := aM_ (below_step hB_ hb); (try clear hb)))
  go_ret2
  exact ⟨rT_, hB_⟩
 subst c4
 replace H := ip_ H rfl
 replace H := ob_ H; obtain ⟨t438, A5, H⟩ := H; try dsimp only at H
 have HC6 := Aside0.mk H
 clear H
 go_enter Tryd.func8, Tryd.ntmps8
 go_upto_if 13 with (first | ((with_reducible refine gate_dst (N := 2) rfl ?_); refine bx_ 2 #[.int .i64 a0_0, .int .i64 a0_1, .int .i64 a0_2, .int .i64 a0_3, .int .i64 a0_4, .bool a0_5] 25 fun gb435 hg w7 hbox hb => ?_; have BK435 := aM_ (hbox); have GW435 := aM_ (gw_ w hg); have GE435 := aM_ (gw_ w hg); replace HB := aM_ (below_step hB_ hb); clear hb hbox hg) | ((with_reducible refine gate_dst (N := 3) rfl ?_); refine bx_ 3 #[.int .i64 a1_0, .int .i64 a1_1, .int .i64 a1_2, .int .i64 a1_3, .int .i64 a1_4, .bool a1_5] 25 fun gb436 hg w8 hbox hb => ?_; have BK436 := aM_ (hbox); have GW436 := aM_ (gw_ w hg); have GE436 := aM_ (gw_ w hg); have NB435_436 := aM_ (nR_ BK435 hg); have NB436_435 := aM_ (mR_ BK435 hg); replace BK435 := aM_ (blk_below (g := gb435) (kR_ BK435) hb); replace HB := aM_ (below_step hB_ hb); clear hb hbox hg; have hnb9 := NB435_436.out; have hnc9 := NB436_435.out; have hz10 := cf6_ BK435.out) | ((with_reducible refine gC_ 13 ?_); refine gM_ (some 7) Tryd.func13 #[.agg #[.int .i64 a0_0, .int .i64 a0_1, .int .i64 a0_2, .int .i64 a0_3, .int .i64 a0_4, .bool a0_5]] ?_; (with_reducible refine (impl_IsShape.calls k a0_0 a0_1 a0_2 a0_3 a0_4 a0_5 true _ A3.out).mono ?_); rintro e w11 ⟨rfl, hb⟩; refine ⟨_, rfl, ?_⟩; replace BK435 := aM_ (blk_below (g := gb435) (kR_ BK435) hb); replace BK436 := aM_ (blk_below (g := gb436) (kR_ BK436) hb); replace HB := aM_ (below_step hB_ hb); (try clear hb); have hz12 := cf6_ BK436.out) | (go_at_call 13; (with_reducible refine (impl_IsShape.calls k a1_0 a1_1 a1_2 a1_3 a1_4 a1_5 t438 _ A5.out).mono ?_); rintro e w13 ⟨rfl, hb⟩; replace BK435 := aM_ (blk_below (g := gb435) (kR_ BK435) hb); replace BK436 := aM_ (blk_below (g := gb436) (kR_ BK436) hb); replace HB := aM_ (below_step hB_ hb); (try clear hb)))
 (try simp only [Act.put, List.setIfInBounds_toArray, List.set_cons_zero, List.set_cons_succ])
 have H := HC6.out
 clear HC6
 by_cases c14 : t438 = true
 rotate_left
 ·replace c14 := Bool.eq_false_iff.mpr c14
  subst c14
  replace H := in_ H (show ¬ (false = true) by decide)
  simp only [Option.some.injEq, Prod.mk.injEq] at H
  obtain ⟨rfl, rfl⟩ := H
  go_wp2
  go_ret2
  exact ⟨rT_, hB_⟩
 subst c14
 replace H := ip_ H rfl
 replace H := ob_ H; obtain ⟨t439, A15, H⟩ := H; try dsimp only at H
 simp only [Option.some.injEq, Prod.mk.injEq] at H
 obtain ⟨rfl, rfl⟩ := H
 have hnb16 := NB435_436.out
 have hnc16 := NB436_435.out
 have hz17 := cf6_ BK435.out
 clear BK435
 have hz18 := cf6_ BK436.out
 clear BK436
 go_wp2_with (first | ((with_reducible refine gC_ 28 ?_); refine gM_ (some 16) Tryd.func28 #[.agg #[.int .i64 a0_0, .int .i64 a0_1, .int .i64 a0_2, .int .i64 a0_3, .int .i64 a0_4, .bool a0_5], .agg #[.int .i64 a1_0, .int .i64 a1_1, .int .i64 a1_2, .int .i64 a1_3, .int .i64 a1_4, .bool a1_5]] ?_; (with_reducible refine (impl_Shape_distance.calls k a0_0 a0_1 a0_2 a0_3 a0_4 a0_5 a1_0 a1_1 a1_2 a1_3 a1_4 a1_5 t439 _ A15.out).mono ?_); rintro e w19 ⟨rfl, hb⟩; refine ⟨_, rfl, ?_⟩; replace HB := aM_ (below_step hB_ hb); (try clear hb)))
 go_ret2
 exact ⟨rT_, hB_⟩

/-! ### spec_l1Most: function 56 -/
theorem spec_l1Most.calls (a0 : Int) (a1 : Int) (r : Int) (w : World) (h : spec_l1Most.f a0 a1 = some r) :
 Calls Tryd.prog 56 #[.int .i64 a0, .int .i64 a1] w fun e w' => e = .returned (.int .i64 r) ∧ Drawn0 w w' := by
 have H : (if a0 > a1 then (some a0) else (some a1)) = some r := h
 clear h
 by_cases c3 : a0 > a1
 ·rw [if_pos c3] at H
  have c3b0 : decide (a1 < a0) = true := decide_eq_true c3
  clear c3
  obtain rfl := Option.some.inj H
  go_enter Tryd.func56, Tryd.ntmps56
  go_wp2
  go_ret
  exact ⟨z10_0_, z10_1_⟩
 rw [if_neg c3] at H
 have c3b0 : decide (a1 < a0) = false := decide_eq_false c3
 clear c3
 obtain rfl := Option.some.inj H
 go_enter Tryd.func56, Tryd.ntmps56
 go_wp2
 go_ret
 exact ⟨z10_0_, z10_1_⟩

/-! ### spec_l1Abs: function 48 -/
theorem spec_l1Abs.calls (a0 : Int) (r : Int) (w : World) (h : spec_l1Abs.f a0 = some r) :
 Calls Tryd.prog 48 #[.int .i64 a0] w fun e w' => e = .returned (.int .i64 r) ∧ Drawn0 w w' := by
 have H : ((spec_l1Most.f a0 (wrap64 (-a0))).bind fun t440 => (some t440)) = some r := h
 clear h
 replace H := ob_ H; obtain ⟨t440, A2, H⟩ := H; try dsimp only at H
 obtain rfl := Option.some.inj H
 go_enter Tryd.func48, Tryd.ntmps48
 go_wp2_with (first | ((with_reducible refine gC_ 56 ?_); refine gM_ (some 6) Tryd.func56 #[.int .i64 a0, .int .i64 (wrap64 (-a0))] ?_; (with_reducible refine (spec_l1Most.calls a0 (wrap64 (-a0)) t440 _ A2.out).mono ?_); rintro e w' ⟨rfl, ⟨nd, rfl⟩⟩; refine ⟨_, rfl, ?_⟩))
 go_ret
 exact ⟨z10_0_, z10_1_⟩

/-! ### spec_shFar: function 29 -/
def spec_shFar.T6 : Bool × List (List Nat × List Nat) := (true, [([], []), ([], []), ([], []), ([1, 2], [1, 2]), ([3], [3]), ([], []), ([], []), ([5, 6], [5, 6]), ([7], [7]), ([4, 8], [4, 8]), ([9], [9]), ([0, 10], [0, 10]), ([11, 10, 0, 1, 2, 3, 4, 5, 6, 7, 8, 9, 10, 11], [0, 11])])
def spec_shFar.B6 : List Nat := [0, 0, 0, 6, 14, 0, 0, 96, 224, 510, 1022, 2047, 4095]
theorem spec_shFar.tab6 : rtab .any (opsOf Tryd.f29 6) = spec_shFar.T6 := by kernel_rfl
theorem spec_shFar.bits6 : waitsOk spec_shFar.T6.2 spec_shFar.B6 = true := by kernel_rfl
theorem spec_shFar.calls (k : Nat) (a0_0 : Int) (a0_1 : Int) (a0_2 : Int) (a0_3 : Int) (a0_4 : Int) (a0_5 : Bool) (a1_0 : Int) (a1_1 : Int) (a1_2 : Int) (a1_3 : Int) (a1_4 : Int) (a1_5 : Bool) (r : Int) (w : World) (h : spec_shFar.f k a0_0 a0_1 a0_2 a0_3 a0_4 a0_5 a1_0 a1_1 a1_2 a1_3 a1_4 a1_5 = some r) :
 Calls Tryd.prog 29 #[.agg #[.int .i64 a0_0, .int .i64 a0_1, .int .i64 a0_2, .int .i64 a0_3, .int .i64 a0_4, .bool a0_5], .agg #[.int .i64 a1_0, .int .i64 a1_1, .int .i64 a1_2, .int .i64 a1_3, .int .i64 a1_4, .bool a1_5]] w fun e w' => e = .returned (.int .i64 r) ∧ Below w.heap.size w w' := by
 have hu25 := Tryd.underlying25
 have HB := Aside0.mk (Below.refl w.heap.size w)
 have H : ((spec_shFingers.f a0_0 a0_1 a0_2 a0_3 a0_4 a0_5).bind fun t443 => ((spec_shFingers.f a1_0 a1_1 a1_2 a1_3 a1_4 a1_5).bind fun t446 => (spec_shFar.l0 k t443 t446 0 (t443.length : Int) 0 a0_0 a0_1 a0_2 a0_3 a0_4 a0_5 a1_0 a1_1 a1_2 a1_3 a1_4 a1_5))) = some r := h
 clear h
 replace H := ob_ H; obtain ⟨t443, A3, H⟩ := H; try dsimp only at H
 replace H := ob_ H; obtain ⟨t446, A4, H⟩ := H; try dsimp only at H
 have H' := Aside0.mk H
 clear H
 go_enter Tryd.func29, Tryd.ntmps29
 try go_wp2_with (first | ((with_reducible refine gate_dst (N := 2) rfl ?_); refine bx_ 2 #[.int .i64 a0_0, .int .i64 a0_1, .int .i64 a0_2, .int .i64 a0_3, .int .i64 a0_4, .bool a0_5] 25 fun gb441 hg w5 hbox hb => ?_; have BK441 := aM_ (hbox); have GW441 := aM_ (gw_ w hg); have GE441 := aM_ (gw_ w hg); replace HB := aM_ (below_step hB_ hb); clear hb hbox hg) | ((with_reducible refine gate_dst (N := 3) rfl ?_); refine bx_ 3 #[.int .i64 a1_0, .int .i64 a1_1, .int .i64 a1_2, .int .i64 a1_3, .int .i64 a1_4, .bool a1_5] 25 fun gb442 hg w6 hbox hb => ?_; have BK442 := aM_ (hbox); have GW442 := aM_ (gw_ w hg); have GE442 := aM_ (gw_ w hg); have NB441_442 := aM_ (nR_ BK441 hg); have NB442_441 := aM_ (mR_ BK441 hg); replace BK441 := aM_ (blk_below (g := gb441) (kR_ BK441) hb); replace HB := aM_ (below_step hB_ hb); clear hb hbox hg))
 replace BK441 := aM_ (blk_drew BK441.out)
 replace BK442 := aM_ (blk_drew BK442.out)
 replace HB := aM_ (below_drew1 HB.out)
 refine start_ (n := 6) (S := fun w' => w'.cell? ⟨gb441, 0, none⟩ = some (.int .i64 a0_0) ∧ w'.cell? ⟨gb441, 1, none⟩ = some (.int .i64 a0_1) ∧ w'.cell? ⟨gb441, 2, none⟩ = some (.int .i64 a0_2) ∧ w'.cell? ⟨gb441, 3, none⟩ = some (.int .i64 a0_3) ∧ w'.cell? ⟨gb441, 4, none⟩ = some (.int .i64 a0_4) ∧ w'.cell? ⟨gb441, 5, none⟩ = some (.bool a0_5) ∧ w'.cell? ⟨gb442, 0, none⟩ = some (.int .i64 a1_0) ∧ w'.cell? ⟨gb442, 1, none⟩ = some (.int .i64 a1_1) ∧ w'.cell? ⟨gb442, 2, none⟩ = some (.int .i64 a1_2) ∧ w'.cell? ⟨gb442, 3, none⟩ = some (.int .i64 a1_3) ∧ w'.cell? ⟨gb442, 4, none⟩ = some (.int .i64 a1_4) ∧ w'.cell? ⟨gb442, 5, none⟩ = some (.bool a1_5)) (ds := []) #[false, false, false, false, false, false] (by kernel_rfl) rfl rfl ⟨(blk_cell BK441.out 0).trans rfl, (blk_cell BK441.out 1).trans rfl, (blk_cell BK441.out 2).trans rfl, (blk_cell BK441.out 3).trans rfl, (blk_cell BK441.out 4).trans rfl, (blk_cell BK441.out 5).trans rfl, (blk_cell BK442.out 0).trans rfl, (blk_cell BK442.out 1).trans rfl, (blk_cell BK442.out 2).trans rfl, (blk_cell BK442.out 3).trans rfl, (blk_cell BK442.out 4).trans rfl, (blk_cell BK442.out 5).trans rfl⟩ (fun hHeld => ?_)
 generalize w6.drew = w7 at BK441 BK442 HB hHeld ⊢
 refine take_ (i := 0) (N := some 9) (v := ?_) (a' := ?_) #[true, false, false, false, false, false] rfl rfl (by kernel_rfl) (fun _ _ _ h => h) (Or.inl ⟨by rfl, ?_⟩) hHeld ?_ ?_; rotate_left; (focus rintro w' ⟨s0, s1, s2, s3, s4, s5, s6, s7, s8, s9, s10, s11⟩; go_simp; with_reducible rfl); rotate_left; (focus simp only [aP_, aQ_, aS_, aZ_, aU_, i64_w, i32_w]; try rfl)
 refine take_ (i := 2) (N := some 11) (v := ?_) (a' := ?_) #[true, false, true, false, false, false] rfl rfl (by kernel_rfl) (fun _ _ _ h => h) (Or.inl ⟨by rfl, ?_⟩) hHeld ?_ ?_; rotate_left; (focus rintro w' ⟨s0, s1, s2, s3, s4, s5, s6, s7, s8, s9, s10, s11⟩; go_simp; with_reducible rfl); rotate_left; (focus simp only [aP_, aQ_, aS_, aZ_, aU_, i64_w, i32_w]; try rfl)
 refine one_ (i := 1) (N := some 10) #[true, true, true, false, false, false] rfl rfl (by kernel_rfl) (by decide) (fun K hK => ?_)
 refine gS_ Tryd.func25 #[.agg #[.int .i64 a0_0, .int .i64 a0_1, .int .i64 a0_2, .int .i64 a0_3, .int .i64 a0_4, .bool a0_5]] ?_
 with_reducible refine (spec_shFingers.calls a0_0 a0_1 a0_2 a0_3 a0_4 a0_5 t443 _ A3.out).mono ?_
 rintro e w8 ⟨v444, rfl, ho0, hb⟩
 refine ⟨_, rfl, ?_⟩
 have HO445 := aM_ (Kd.R_lower ho0 (below_size hB_))
 replace BK441 := aM_ (blk_below (g := gb441) (kR_ BK441) hb)
 replace BK442 := aM_ (blk_below (g := gb442) (kR_ BK442) hb)
 replace HB := aM_ (below_step hB_ hb)
 (try clear hb)
 (try clear hb2)
 (try clear hk)
 (try clear hi)
 (try clear ho0)
 refine hK.out _ _ ⟨(blk_cell BK441.out 0).trans rfl, (blk_cell BK441.out 1).trans rfl, (blk_cell BK441.out 2).trans rfl, (blk_cell BK441.out 3).trans rfl, (blk_cell BK441.out 4).trans rfl, (blk_cell BK441.out 5).trans rfl, (blk_cell BK442.out 0).trans rfl, (blk_cell BK442.out 1).trans rfl, (blk_cell BK442.out 2).trans rfl, (blk_cell BK442.out 3).trans rfl, (blk_cell BK442.out 4).trans rfl, (blk_cell BK442.out 5).trans rfl⟩ (fun hHeld => ?_)
 clear hK K
 refine nm_ 10 ?_
 refine one_ (i := 3) (N := some 12) #[true, true, true, true, false, false] rfl rfl (by kernel_rfl) (by decide) (fun K hK => ?_)
 refine gS_ Tryd.func25 #[.agg #[.int .i64 a1_0, .int .i64 a1_1, .int .i64 a1_2, .int .i64 a1_3, .int .i64 a1_4, .bool a1_5]] ?_
 with_reducible refine (spec_shFingers.calls a1_0 a1_1 a1_2 a1_3 a1_4 a1_5 t446 _ A4.out).mono ?_
 rintro e w9 ⟨v447, rfl, ho0, hb⟩
 refine ⟨_, rfl, ?_⟩
 have HO448 := aM_ (Kd.R_lower (Kd.R_new' ho0 (Kd.R_lt (rR_ HO445))) (below_size hB_))
 replace HO445 := aM_ (Kd.R_elder' (rR_ HO445) (Kd.R_base ho0) hb)
 replace BK441 := aM_ (blk_below (g := gb441) (kR_ BK441) hb)
 replace BK442 := aM_ (blk_below (g := gb442) (kR_ BK442) hb)
 replace HB := aM_ (below_step hB_ hb)
 (try clear hb)
 (try clear hb2)
 (try clear hk)
 (try clear hi)
 (try clear ho0)
 refine hK.out _ _ ⟨(blk_cell BK441.out 0).trans rfl, (blk_cell BK441.out 1).trans rfl, (blk_cell BK441.out 2).trans rfl, (blk_cell BK441.out 3).trans rfl, (blk_cell BK441.out 4).trans rfl, (blk_cell BK441.out 5).trans rfl, (blk_cell BK442.out 0).trans rfl, (blk_cell BK442.out 1).trans rfl, (blk_cell BK442.out 2).trans rfl, (blk_cell BK442.out 3).trans rfl, (blk_cell BK442.out 4).trans rfl, (blk_cell BK442.out 5).trans rfl⟩ (fun hHeld => ?_)
 clear hK K
 refine nm_ 12 ?_
 refine pure_ (i := 4) (N := some 5) (v := ?_) (a' := ?_) #[true, true, true, true, true, false] rfl rfl (by kernel_rfl) (fun _ _ _ h => h) (Or.inl ⟨by rfl, ?_⟩) ?_ ?_; rotate_left; (focus intro w'; go_simp; with_reducible rfl); rotate_left; (focus simp only [aP_, aQ_, aS_, aZ_, aU_, i64_w, i32_w]; try rfl)
 refine pure_ (i := 5) (N := some 6) (v := ?_) (a' := ?_) #[true, true, true, true, true, true] rfl rfl (by kernel_rfl) (fun _ _ _ h => h) (Or.inl ⟨by rfl, ?_⟩) ?_ ?_; rotate_left; (focus intro w'; go_simp; with_reducible rfl); rotate_left; (focus simp only [aP_, aQ_, aS_, aZ_, aU_, i64_w, i32_w]; try rfl)
 refine done_ (by kernel_rfl) ?_
 obtain ⟨Ao10, co10, eo10⟩ := Kd.R_slice HO445.out
 subst eo10
 try go_wp2
 go_loopg [7, 15] k (fun kq v7 v15 w' => ∃ (x7_1 : Int) (x15_1 : Int), v7 = .int .i64 x7_1 ∧ v15 = .int .i64 x15_1 ∧ Aside0 (spec_shFar.l0 kq t443 t446 x7_1 (t443.length : Int) x15_1 a0_0 a0_1 a0_2 a0_3 a0_4 a0_5 a1_0 a1_1 a1_2 a1_3 a1_4 a1_5 = some r) ∧ Aside0 (kq ≤ k) ∧ Aside0 (Kd.R (Kd.int .i64) 3 w' w.heap.size (fun k_ => some k_ ≠ (v447 : Value).ownBlock) (.slice Ao10 t443.length co10) t443) ∧ Aside0 (Kd.R (Kd.int .i64) 3 w' w.heap.size (fun k_ => some k_ ≠ ((.slice Ao10 t443.length co10) : Value).ownBlock) v447 t446) ∧ Aside0 (w'.heap[gb441]? = some (.cells #[.int .i64 a0_0, .int .i64 a0_1, .int .i64 a0_2, .int .i64 a0_3, .int .i64 a0_4, .bool a0_5] 25 (0, 0))) ∧ Aside0 (w'.heap[gb442]? = some (.cells #[.int .i64 a1_0, .int .i64 a1_1, .int .i64 a1_2, .int .i64 a1_3, .int .i64 a1_4, .bool a1_5] 25 (0, 0))) ∧ Aside0 (Below w.heap.size w w'))
 case atStart => exact ⟨(0), (0), z10_0_, z10_0_, H', ⟨Nat.le_refl _⟩, ⟨rM_ HO445 (fun _ hk => hk.2)⟩, ⟨rM_ HO448 (fun _ hk => hk.2)⟩, ⟨kP_⟩, ⟨kP_⟩, ⟨hB_⟩⟩
 case round =>
  clear H'
  obtain ⟨x7_1, x15_1, rfl, rfl, HA, HK1, HO_5, HO_6, BK441, BK442, HB⟩ := hrel
  cases gk with
  | zero => exact absurd HA.out (by simp [spec_shFar.l0])
  | succ k1 =>
   have H := HA.out
   clear HA
   simp only [spec_shFar.l0] at H
   replace H := iF_ H; obtain ⟨c11b0, H⟩ | ⟨c11b0, H⟩ := H
   ·by_cases c18 : a0_0 = a1_0
    rotate_left
    ·rw [if_neg c18] at H
     have c18b0 : (a0_0 == a1_0) = false := beq_eq_false_iff_ne.mpr c18
     have c18b1 : (a0_0 != a1_0) = true := bne_iff_ne.mpr c18
     by_cases c26 : (a0_5 != a1_5) = true
     rotate_left
     ·rw [if_neg c26] at H
      have c26b0 : (a0_5 != a1_5) = false := by simpa using c26
      (try (have c26b1 : decide (a0_5 = a1_5) = true := by simpa using c26))
      (try (have c26b2 : (a0_5 == a1_5) = true := by simpa using c26))
      clear c26
      obtain rfl := Option.some.inj H
      have hnb30 := NB441_442.out
      have hnc30 := NB442_441.out
      have hz31 := cf6_ BK441.out
      have hz32 := cf6_ BK442.out
      clear BK441
      go_wp2
      go_ret
      exact ⟨rT_, hB_⟩
     rw [if_pos c26] at H
     have c26b0 : (a0_5 != a1_5) = true := c26
     (try (have c26b1 : decide (a0_5 = a1_5) = false := by simpa using c26))
     (try (have c26b2 : (a0_5 == a1_5) = false := by simpa using c26))
     (try (have c26b3 : ¬ (a0_5 = a1_5) := by simpa using c26))
     clear c26
     obtain rfl := Option.some.inj H
     have hnb27 := NB441_442.out
     have hnc27 := NB442_441.out
     have hz28 := cf6_ BK441.out
     have hz29 := cf6_ BK442.out
     clear BK441
     go_wp2
     go_ret
     exact ⟨rT_, hB_⟩
    rw [if_pos c18] at H
    have c18b0 : (a0_0 == a1_0) = true := beq_iff_eq.mpr c18
    have c18b1 : (a0_0 != a1_0) = false := bne_eq_false_iff_eq.mpr c18
    clear c18
    by_cases c19 : (a0_5 != a1_5) = true
    rotate_left
    ·rw [if_neg c19] at H
     have c19b0 : (a0_5 != a1_5) = false := by simpa using c19
     (try (have c19b1 : decide (a0_5 = a1_5) = true := by simpa using c19))
     (try (have c19b2 : (a0_5 == a1_5) = true := by simpa using c19))
     clear c19
     obtain rfl := Option.some.inj H
     have hnb23 := NB441_442.out
     have hnc23 := NB442_441.out
     have hz24 := cf6_ BK441.out
     have hz25 := cf6_ BK442.out
     clear BK441
     go_wp2
     go_ret
     exact ⟨rT_, hB_⟩
    rw [if_pos c19] at H
    have c19b0 : (a0_5 != a1_5) = true := c19
    (try (have c19b1 : decide (a0_5 = a1_5) = false := by simpa using c19))
    (try (have c19b2 : (a0_5 == a1_5) = false := by simpa using c19))
    (try (have c19b3 : ¬ (a0_5 = a1_5) := by simpa using c19))
    clear c19
    obtain rfl := Option.some.inj H
    have hnb20 := NB441_442.out
    have hnc20 := NB442_441.out
    have hz21 := cf6_ BK441.out
    have hz22 := cf6_ BK442.out
    clear BK441
    go_wp2
    go_ret
    exact ⟨rT_, hB_⟩
   replace H := ig_ H; obtain ⟨c12b0, H⟩ := H
   replace H := ig_ H; obtain ⟨c13b0, H⟩ := H
   replace H := ig_ H; obtain ⟨c14b0, H⟩ := H
   replace H := ob_ H; obtain ⟨t451, A15, H⟩ := H; try dsimp only at H
   have H' := Aside0.mk H
   clear H
   try go_wp2
   replace HO_5 := aM_ (Kd.R_drew HO_5.out)
   replace HO_6 := aM_ (Kd.R_drew HO_6.out)
   replace BK441 := aM_ (blk_drew BK441.out)
   replace BK442 := aM_ (blk_drew BK442.out)
   replace HB := aM_ (below_drew1 HB.out)
   obtain ⟨⟨ad449, e449, hx449_0⟩, p449, q449⟩ := at2_ (Kd.at_int (Kd.R_reads' HO_5.out).2.2 x15_1); cases e449
   obtain ⟨Ao17, co17, eo17⟩ := Kd.R_slice HO_6.out
   (first | subst eo17 | (injection eo17 with f1_ f2_ f3_; have f4_ := f1_.symm; have f5_ := f3_.symm; clear f1_ f2_ f3_; subst f4_; subst f5_))
   obtain ⟨⟨ad450, e450, hx450_0⟩, p450, q450⟩ := at2_ (Kd.at_int (Kd.R_reads' HO_6.out).2.2 x15_1); cases e450
   refine st_ 13 (fun w' => w'.cell? (ad449.add (x15_1).toNat) = some (.int .i64 (rd t443 x15_1)) ∧ w'.cell? (ad450.add (x15_1).toNat) = some (.int .i64 (rd t446 x15_1))) [] spec_shFar.tab6 spec_shFar.bits6 ⟨hx449_0, hx450_0⟩ fun hHeld HT_ HW_ => ?_
   generalize wr.drew = w16 at HO_5 HO_6 BK441 BK442 HB hx449_0 hx450_0 hHeld ⊢
   refine pu_ 0 18 ?_
   refine pu_ 1 19 ?_
   refine pu_ 2 20 ?_
   refine pu_ 3 21 ?_
   refine pu_ 5 23 ?_
   refine pu_ 6 24 ?_
   refine pu_ 7 25 ?_
   refine tk_ 4 22 ?_
   refine tk_ 8 26 ?_
   refine pu_ 9 27 ?_
   refine on_ 10 28 fun K hK => ?_
   refine gS_ Tryd.func48 #[.int .i64 (wrap64 ((rd t443 x15_1) - (rd t446 x15_1)))] ?_
   with_reducible refine (spec_l1Abs.calls (wrap64 ((rd t443 x15_1) - (rd t446 x15_1))) t451 _ A15.out).mono ?_
   rintro e w' ⟨rfl, ⟨nd, rfl⟩⟩
   refine ⟨_, rfl, ?_⟩
   refine hK.out _ _ ⟨hHeld.1, hHeld.2⟩ (fun hHeld => ?_)
   clear hK K
   refine nm_ 28 ?_
   refine pu_ 11 29 ?_
   refine pu_ 12 7 ?_
   refine dn_ ?_
   try go_wp2
   go_roundg k1
   case measure => have := HK1.out; omega
   case rel => exact ⟨(wrap64 (x7_1 + t451)), (wrap64 (x15_1 + 1)), z10_0_, z10_0_, H', ⟨by have := HK1.out; omega⟩, ⟨rR_ HO_5⟩, ⟨rR_ HO_6⟩, ⟨kP_⟩, ⟨kP_⟩, ⟨hB_⟩⟩

end Go.Proofs.YtbfkpgmdbafmhaaDoor.PFnShapes
