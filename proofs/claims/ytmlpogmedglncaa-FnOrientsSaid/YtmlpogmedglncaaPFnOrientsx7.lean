/- Printed for this claim: functions of the program as Lean functions, and that the calls answer so. -/
import Derived.Test.YtmlpogmedglncaaPFnOrientsx0
import Derived.Test.YtmlpogmedglncaaPFnOrientsx1
import Derived.Test.YtmlpogmedglncaaPFnOrientsx2
import Derived.Test.YtmlpogmedglncaaPFnOrientsx3
import Derived.Test.YtmlpogmedglncaaPFnOrientsx4
import Derived.Test.YtmlpogmedglncaaPFnOrientsx5
import Derived.Test.YtmlpogmedglncaaPFnOrientsx6
import Derived.Test.YtmlpogmedglncaaPFnOrientsxD0
namespace Go.Proofs.Ytmlpogmedglncaa.PFnOrients
open Go.RowKit Go.Proofs.YtmlpogmedglncaaW.PrintWords Go.Proofs.YtmlpogmedglncaaW.PrintLast Go.Proofs.YtmlpogmedglncaaW.PrintMore
attribute [local go_sem] max2_int min2_int max_two min_two max_three min_three max_four min_four isSome_setCell   -- for this text's walks alone
set_option linter.unusedVariables false
set_option linter.unusedSimpArgs false

attribute [local go_sem high] eqA39
/-! ### laws_FnOrients: function 4 -/
set_option maxHeartbeats 8000000 in
set_option maxRecDepth 100000 in
theorem laws_FnOrients.calls (k : Nat) (A0 : Option Addr) (c0 : Nat) (l0 : List Int) (A1 : Option Addr) (c1 : Nat) (l1 : List Int) (r : Bool) (w : World) (hr0 : Kd.C (Kd.int .u8) w A0 l0.length l0) (hc0 : l0.length ≤ c0) (hr1 : Kd.C (Kd.int .u8) w A1 l1.length l1) (hc1 : l1.length ≤ c1) (h : laws_FnOrients.f k l0 l1 = some r) :
 Calls Try.prog 4 #[.slice A0 l0.length c0, .slice A1 l1.length c1] w fun e w' => e = .returned (.bool r) ∧ Below w.heap.size w w' := by
 have hu39 := Try.underlying39
 have HR0 := Aside0.mk hr0
 have HC0 := Aside0.mk hc0
 clear hr0 hc0
 have HR1 := Aside0.mk hr1
 have HC1 := Aside0.mk hc1
 clear hr1 hc1
 have HB := Aside0.mk (Below.refl w.heap.size w)
 have H : ((laws_big.f l0 l1).bind fun t305 => (if t305 = true then (some true) else ((spec_DrawMirrorOrient.f k l0).bind fun bt306 => ((impl_MirrorOrient.f bt306.1 bt306.2).bind fun bt309 => ((spec_MirrorOrient.f bt306.1 bt306.2).bind fun bt313 => ((impl_SeenOrient.f bt306.1 bt306.2).bind fun bt317 => ((spec_SeenOrient.f bt306.1 bt306.2).bind fun bt321 => ((impl_AllOrients.f k).bind fun t325 => ((spec_AllOrients.f k).bind fun t328 => (if (bt309.2.2 != bt313.2.2) = true then (laws_FnOrients.j0 k l1 bt309.2.2 t328 true bt306.1 bt306.2 bt309.1 bt309.2.1 bt317.1 bt317.2.1) else (if (!(bt309.1 == bt313.1) || (!(bt309.2.1 == bt313.2.1))) = true then (laws_FnOrients.j0 k l1 bt309.2.2 t328 true bt306.1 bt306.2 bt309.1 bt309.2.1 bt317.1 bt317.2.1) else (if (bt317.2.2 != bt321.2.2) = true then (laws_FnOrients.j0 k l1 bt309.2.2 t328 true bt306.1 bt306.2 bt309.1 bt309.2.1 bt317.1 bt317.2.1) else (if (!(bt317.1 == bt321.1) || (!(bt317.2.1 == bt321.2.1))) = true then (laws_FnOrients.j0 k l1 bt309.2.2 t328 true bt306.1 bt306.2 bt309.1 bt309.2.1 bt317.1 bt317.2.1) else ((laws_pSameOrients.f k t325 t328).bind fun t331 => (if t331 = true then ((impl_IsOrient.f bt306.1 bt306.2).bind fun t332 => (if (bt309.2.2 != t332) = true then (laws_FnOrients.j0 k l1 bt309.2.2 t328 true bt306.1 bt306.2 bt309.1 bt309.2.1 bt317.1 bt317.2.1) else (if (bt317.2.2 != bt309.2.2) = true then (laws_FnOrients.j0 k l1 bt309.2.2 t328 true bt306.1 bt306.2 bt309.1 bt309.2.1 bt317.1 bt317.2.1) else (laws_FnOrients.j0 k l1 bt309.2.2 t328 ((t328.length : Int) != 24) bt306.1 bt306.2 bt309.1 bt309.2.1 bt317.1 bt317.2.1)))) else (laws_FnOrients.j0 k l1 bt309.2.2 t328 true bt306.1 bt306.2 bt309.1 bt309.2.1 bt317.1 bt317.2.1)))))))))))))))) = some r := h
 clear h
 replace H := Option.bind_eq_some_iff.mp H
 obtain ⟨t305, A30, H⟩ := H
 (try dsimp only at H)
 have A3 := Aside0.mk A30
 clear A30
 by_cases c4 : t305 = true
 ·subst c4
  have H1 : (some true) = some r := by rw [if_pos rfl] at H; exact H
  clear H
  have H := H1
  clear H1
  as_aux_lemma =>
   obtain rfl := Option.some.inj H
   go_enter Try.func4, Try.ntmps4
   go_wp2_with (first | ((with_reducible refine gate_callee (f := 23) rfl ?_); refine goesL_ (some 54) rfl rfl Try.func23 (by kernel_rfl) rfl #[.slice A0 l0.length c0, .slice A1 l1.length c1] rfl (by (try simp only [List.map_toArray, List.map_cons, List.map_nil]); first | done | rfl) ?_; (with_reducible refine (laws_big.calls _ _ l0 _ _ l1 true _ ?side1 ?side2 ?side3 ?side4 A3.out).mono ?_); (case side1 => repeat (first | exact HR0.out | (with_reducible first | apply cA_ | apply cN_ | apply cD_))); (case side2 => exact HC0.out); (case side3 => repeat (first | exact HR1.out | (with_reducible first | apply cA_ | apply cN_ | apply cD_))); (case side4 => exact HC1.out); rintro e w' ⟨rfl, ⟨nd, rfl⟩⟩; refine ⟨_, rfl, ?_⟩))
   go_ret
   exact ⟨by first | rfl | (simp [errW_none, errW_some] <;> rfl) | (simp [*, errW_none, errW_some] <;> rfl) | (simp [errW_none, errW_some, show ∀ l_ : List UInt8, (l_ != []) = !l_.isEmpty from fun l_ => by cases l_ <;> rfl]; done), by repeat (first | (with_reducible first | exact HB.out | apply lA_ | apply lN_ | apply lD_) | exact HB.out)⟩
 replace c4 := Bool.eq_false_iff.mpr c4
 subst c4
 have H1 : ((spec_DrawMirrorOrient.f k l0).bind fun bt306 => ((impl_MirrorOrient.f bt306.1 bt306.2).bind fun bt309 => ((spec_MirrorOrient.f bt306.1 bt306.2).bind fun bt313 => ((impl_SeenOrient.f bt306.1 bt306.2).bind fun bt317 => ((spec_SeenOrient.f bt306.1 bt306.2).bind fun bt321 => ((impl_AllOrients.f k).bind fun t325 => ((spec_AllOrients.f k).bind fun t328 => (if (bt309.2.2 != bt313.2.2) = true then (laws_FnOrients.j0 k l1 bt309.2.2 t328 true bt306.1 bt306.2 bt309.1 bt309.2.1 bt317.1 bt317.2.1) else (if (!(bt309.1 == bt313.1) || (!(bt309.2.1 == bt313.2.1))) = true then (laws_FnOrients.j0 k l1 bt309.2.2 t328 true bt306.1 bt306.2 bt309.1 bt309.2.1 bt317.1 bt317.2.1) else (if (bt317.2.2 != bt321.2.2) = true then (laws_FnOrients.j0 k l1 bt309.2.2 t328 true bt306.1 bt306.2 bt309.1 bt309.2.1 bt317.1 bt317.2.1) else (if (!(bt317.1 == bt321.1) || (!(bt317.2.1 == bt321.2.1))) = true then (laws_FnOrients.j0 k l1 bt309.2.2 t328 true bt306.1 bt306.2 bt309.1 bt309.2.1 bt317.1 bt317.2.1) else ((laws_pSameOrients.f k t325 t328).bind fun t331 => (if t331 = true then ((impl_IsOrient.f bt306.1 bt306.2).bind fun t332 => (if (bt309.2.2 != t332) = true then (laws_FnOrients.j0 k l1 bt309.2.2 t328 true bt306.1 bt306.2 bt309.1 bt309.2.1 bt317.1 bt317.2.1) else (if (bt317.2.2 != bt309.2.2) = true then (laws_FnOrients.j0 k l1 bt309.2.2 t328 true bt306.1 bt306.2 bt309.1 bt309.2.1 bt317.1 bt317.2.1) else (laws_FnOrients.j0 k l1 bt309.2.2 t328 ((t328.length : Int) != 24) bt306.1 bt306.2 bt309.1 bt309.2.1 bt317.1 bt317.2.1)))) else (laws_FnOrients.j0 k l1 bt309.2.2 t328 true bt306.1 bt306.2 bt309.1 bt309.2.1 bt317.1 bt317.2.1)))))))))))))) = some r := by rw [if_neg (show ¬ (false = true) by decide)] at H; exact H
 clear H
 have H := H1
 clear H1
 replace H := Option.bind_eq_some_iff.mp H
 obtain ⟨⟨t306, t307⟩, A50, H⟩ := H
 (try dsimp only at H)
 have A5 := Aside0.mk A50
 clear A50
 replace H := Option.bind_eq_some_iff.mp H
 obtain ⟨⟨t309, t310, t311⟩, A60, H⟩ := H
 (try dsimp only at H)
 have A6 := Aside0.mk A60
 clear A60
 replace H := Option.bind_eq_some_iff.mp H
 obtain ⟨⟨t313, t314, t315⟩, A70, H⟩ := H
 (try dsimp only at H)
 have A7 := Aside0.mk A70
 clear A70
 replace H := Option.bind_eq_some_iff.mp H
 obtain ⟨⟨t317, t318, t319⟩, A80, H⟩ := H
 (try dsimp only at H)
 have A8 := Aside0.mk A80
 clear A80
 replace H := Option.bind_eq_some_iff.mp H
 obtain ⟨⟨t321, t322, t323⟩, A90, H⟩ := H
 (try dsimp only at H)
 have A9 := Aside0.mk A90
 clear A90
 replace H := Option.bind_eq_some_iff.mp H
 obtain ⟨t325, A100, H⟩ := H
 (try dsimp only at H)
 have A10 := Aside0.mk A100
 clear A100
 replace H := Option.bind_eq_some_iff.mp H
 obtain ⟨t328, A110, H⟩ := H
 (try dsimp only at H)
 have A11 := Aside0.mk A110
 clear A110
 have HC12 := Aside0.mk H
 clear H
 go_enter Try.func4, Try.ntmps4
 go_upto_region 10 with (first | ((with_reducible refine gate_callee (f := 23) rfl ?_); refine goesL_ (some 54) rfl rfl Try.func23 (by kernel_rfl) rfl #[.slice A0 l0.length c0, .slice A1 l1.length c1] rfl (by (try simp only [List.map_toArray, List.map_cons, List.map_nil]); first | done | rfl) ?_; (with_reducible refine (laws_big.calls _ _ l0 _ _ l1 false _ ?side1 ?side2 ?side3 ?side4 A3.out).mono ?_); (case side1 => repeat (first | exact HR0.out | (with_reducible first | apply cA_ | apply cN_ | apply cD_))); (case side2 => exact HC0.out); (case side3 => repeat (first | exact HR1.out | (with_reducible first | apply cA_ | apply cN_ | apply cD_))); (case side4 => exact HC1.out); rintro e w' ⟨rfl, ⟨nd, rfl⟩⟩; refine ⟨_, rfl, ?_⟩) | ((with_reducible refine gate_callee (f := 24) rfl ?_); refine goesL_ (some 56) rfl rfl Try.func24 (by kernel_rfl) rfl #[.slice A0 l0.length c0] rfl (by (try simp only [List.map_toArray, List.map_cons, List.map_nil]); first | done | rfl) ?_; (with_reducible refine (spec_DrawMirrorOrient.calls k _ _ l0 t306 t307 _ ?side1 ?side2 A5.out).mono ?_); (case side1 => repeat (first | exact HR0.out | (with_reducible first | apply cA_ | apply cN_ | apply cD_))); (case side2 => exact HC0.out); rintro e w13 ⟨rfl, hb⟩; refine ⟨_, rfl, ?_⟩; have n0_ := Aside0.mk (below_step (by repeat (first | (with_reducible first | exact HB.out | apply lA_ | apply lN_ | apply lD_) | exact HB.out)) hb); clear HB; have HB := n0_; clear n0_; (try clear hb)) | ((with_reducible refine gate_dst (N := 5) rfl ?_); (try (refine gate_guard (by rfl) ?_; dsimp only)); refine box_event ?hg (N := 5) ?hd (cs := #[.int .i64 0, .int .i64 0]) (t := 39) ?hr ?_; (case hd => rfl); (case hg => rfl); (case hr => first | (go_simp; done) | (go_simp; rfl)); intro gb308 hg w14 hbox hb; have n0_ := Aside0.mk (below_step (by repeat (first | (with_reducible first | exact HB.out | apply lA_ | apply lN_ | apply lD_) | exact HB.out)) hb); have n1_ := Aside0.mk (hbox); have n2_ := Aside0.mk ((by rw [hg]; exact (below_size (by repeat (first | (with_reducible first | exact HB.out | apply lA_ | apply lN_ | apply lD_) | exact HB.out))) : w.heap.size ≤ gb308)); have n3_ := n2_; clear HB; have HB := n0_; have BK308 := n1_; have GW308 := n2_; have GE308 := n3_; clear n0_ n1_ n2_ n3_; clear hb hbox hg; have hcz15_0 : w14.cell? ⟨gb308, 0, none⟩ = some (.int .i64 0) := (blk_cell BK308.out 0).trans rfl; have hcz15_1 : w14.cell? ⟨gb308, 1, none⟩ = some (.int .i64 0) := (blk_cell BK308.out 1).trans rfl; have hfz15_0 := blk_frozen BK308.out 0; have hfz15_1 := blk_frozen BK308.out 1) | ((with_reducible refine gate_callee (f := 25) rfl ?_); refine goesL_ (some 59) rfl rfl Try.func25 (by kernel_rfl) rfl #[.agg #[.int .i64 t306, .int .i64 t307]] rfl (by (try simp only [List.map_toArray, List.map_cons, List.map_nil]); first | done | rfl) ?_; (with_reducible refine (impl_MirrorOrient.calls t306 t307 t309 t310 t311 _ A6.out).mono ?_); rintro e w16 ⟨rfl, hb⟩; refine ⟨_, rfl, ?_⟩; have n0_ := Aside0.mk (blk_below (g := gb308) (o := .cells #[.int .i64 t306, .int .i64 t307] 39 (0, 0)) (by (with_reducible repeat (first | apply kN_ | apply kD_ | apply kA_)); refine blk_put (cs := #[.int .i64 t306, .int .i64 0]) ?_ 1 _ rfl; (with_reducible repeat (first | apply kN_ | apply kD_ | apply kA_)); refine blk_put (cs := #[.int .i64 0, .int .i64 0]) ?_ 0 _ rfl; (with_reducible repeat (first | apply kN_ | apply kD_ | apply kA_)); exact BK308.out) hb); have n1_ := Aside0.mk (below_step (by repeat (first | (with_reducible first | exact HB.out | apply lA_ | apply lN_ | apply lD_ | refine below_set ?_ GE308.out) | exact HB.out)) hb); clear BK308; clear HB; have BK308 := n0_; have HB := n1_; clear n0_ n1_; (try clear hb)) | ((with_reducible refine gate_dst (N := 6) rfl ?_); (try (refine gate_guard (by rfl) ?_; dsimp only)); refine box_event ?hg (N := 6) ?hd (cs := #[.int .i64 0, .int .i64 0]) (t := 39) ?hr ?_; (case hd => rfl); (case hg => rfl); (case hr => first | (go_simp; done) | (go_simp; rfl)); intro gb312 hg w17 hbox hb; have n0_ := Aside0.mk (blk_below (g := gb308) (o := .cells #[.int .i64 t306, .int .i64 t307] 39 (0, 0)) (by (with_reducible repeat (first | apply kN_ | apply kD_ | apply kA_)); exact BK308.out) hb); have n1_ := Aside0.mk (below_step (by repeat (first | (with_reducible first | exact HB.out | apply lA_ | apply lN_ | apply lD_ | refine below_set ?_ GE308.out) | exact HB.out)) hb); have n2_ := Aside0.mk (hbox); have n3_ := Aside0.mk ((by rw [hg]; exact (below_size (by repeat (first | (with_reducible first | exact HB.out | apply lA_ | apply lN_ | apply lD_ | refine below_set ?_ GE308.out) | exact HB.out))) : w.heap.size ≤ gb312)); have n4_ := n3_; have n5_ := Aside0.mk ((by rw [hg]; exact Nat.ne_of_lt (blk_lt (g := gb308) (o := .cells #[.int .i64 t306, .int .i64 t307] 39 (0, 0)) (by (with_reducible repeat (first | apply kN_ | apply kD_ | apply kA_)); exact BK308.out)) : gb308 ≠ gb312)); have n6_ := Aside0.mk ((by rw [hg]; exact Nat.ne_of_gt (blk_lt (g := gb308) (o := .cells #[.int .i64 t306, .int .i64 t307] 39 (0, 0)) (by (with_reducible repeat (first | apply kN_ | apply kD_ | apply kA_)); exact BK308.out)) : gb312 ≠ gb308)); clear BK308; clear HB; have BK308 := n0_; have HB := n1_; have BK312 := n2_; have GW312 := n3_; have GE312 := n4_; have NB308_312 := n5_; have NB312_308 := n6_; clear n0_ n1_ n2_ n3_ n4_ n5_ n6_; clear hb hbox hg; have hnb18 := NB312_308.out; have hnc18 := NB308_312.out; have hcz19_0 : w17.cell? ⟨gb312, 0, none⟩ = some (.int .i64 0) := (blk_cell BK312.out 0).trans rfl; have hcz19_1 : w17.cell? ⟨gb312, 1, none⟩ = some (.int .i64 0) := (blk_cell BK312.out 1).trans rfl; have hfz19_0 := blk_frozen BK312.out 0; have hfz19_1 := blk_frozen BK312.out 1; have hcz20_0 : w17.cell? ⟨gb308, 0, none⟩ = some (.int .i64 t306) := (blk_cell BK308.out 0).trans rfl; have hcz20_1 : w17.cell? ⟨gb308, 1, none⟩ = some (.int .i64 t307) := (blk_cell BK308.out 1).trans rfl; have hfz20_0 := blk_frozen BK308.out 0; have hfz20_1 := blk_frozen BK308.out 1) | ((with_reducible refine gate_callee (f := 26) rfl ?_); refine goesL_ (some 64) rfl rfl Try.func26 (by kernel_rfl) rfl #[.agg #[.int .i64 t306, .int .i64 t307]] rfl (by (try simp only [List.map_toArray, List.map_cons, List.map_nil]); first | done | rfl) ?_; (with_reducible refine (spec_MirrorOrient.calls t306 t307 t313 t314 t315 _ A7.out).mono ?_); rintro e w21 ⟨rfl, hb⟩; refine ⟨_, rfl, ?_⟩; have n0_ := Aside0.mk (blk_below (g := gb308) (o := .cells #[.int .i64 t306, .int .i64 t307] 39 (0, 0)) (by (with_reducible repeat (first | apply kN_ | apply kD_ | apply kA_)); refine blk_far ?_ NB308_312.out _; (with_reducible repeat (first | apply kN_ | apply kD_ | apply kA_)); refine blk_far ?_ NB308_312.out _; (with_reducible repeat (first | apply kN_ | apply kD_ | apply kA_)); exact BK308.out) hb); have n1_ := Aside0.mk (blk_below (g := gb312) (o := .cells #[.int .i64 t309, .int .i64 t310] 39 (0, 0)) (by (with_reducible repeat (first | apply kN_ | apply kD_ | apply kA_)); refine blk_put (cs := #[.int .i64 t309, .int .i64 0]) ?_ 1 _ rfl; (with_reducible repeat (first | apply kN_ | apply kD_ | apply kA_)); refine blk_put (cs := #[.int .i64 0, .int .i64 0]) ?_ 0 _ rfl; (with_reducible repeat (first | apply kN_ | apply kD_ | apply kA_)); exact BK312.out) hb); have n2_ := Aside0.mk (below_step (by repeat (first | (with_reducible first | exact HB.out | apply lA_ | apply lN_ | apply lD_ | refine below_set ?_ GE308.out | refine below_set ?_ GE312.out) | exact HB.out)) hb); clear BK308; clear BK312; clear HB; have BK308 := n0_; have BK312 := n1_; have HB := n2_; clear n0_ n1_ n2_; (try clear hb)) | ((with_reducible refine gate_dst (N := 8) rfl ?_); (try (refine gate_guard (by rfl) ?_; dsimp only)); refine box_event ?hg (N := 8) ?hd (cs := #[.int .i64 0, .int .i64 0]) (t := 39) ?hr ?_; (case hd => rfl); (case hg => rfl); (case hr => first | (go_simp; done) | (go_simp; rfl)); intro gb316 hg w22 hbox hb; have n0_ := Aside0.mk (blk_below (g := gb308) (o := .cells #[.int .i64 t306, .int .i64 t307] 39 (0, 0)) (by (with_reducible repeat (first | apply kN_ | apply kD_ | apply kA_)); exact BK308.out) hb); have n1_ := Aside0.mk (blk_below (g := gb312) (o := .cells #[.int .i64 t309, .int .i64 t310] 39 (0, 0)) (by (with_reducible repeat (first | apply kN_ | apply kD_ | apply kA_)); exact BK312.out) hb); have n2_ := Aside0.mk (below_step (by repeat (first | (with_reducible first | exact HB.out | apply lA_ | apply lN_ | apply lD_ | refine below_set ?_ GE308.out | refine below_set ?_ GE312.out) | exact HB.out)) hb); have n3_ := Aside0.mk (hbox); have n4_ := Aside0.mk ((by rw [hg]; exact (below_size (by repeat (first | (with_reducible first | exact HB.out | apply lA_ | apply lN_ | apply lD_ | refine below_set ?_ GE308.out | refine below_set ?_ GE312.out) | exact HB.out))) : w.heap.size ≤ gb316)); have n5_ := n4_; have n6_ := Aside0.mk ((by rw [hg]; exact Nat.ne_of_lt (blk_lt (g := gb308) (o := .cells #[.int .i64 t306, .int .i64 t307] 39 (0, 0)) (by (with_reducible repeat (first | apply kN_ | apply kD_ | apply kA_)); exact BK308.out)) : gb308 ≠ gb316)); have n7_ := Aside0.mk ((by rw [hg]; exact Nat.ne_of_gt (blk_lt (g := gb308) (o := .cells #[.int .i64 t306, .int .i64 t307] 39 (0, 0)) (by (with_reducible repeat (first | apply kN_ | apply kD_ | apply kA_)); exact BK308.out)) : gb316 ≠ gb308)); have n8_ := Aside0.mk ((by rw [hg]; exact Nat.ne_of_lt (blk_lt (g := gb312) (o := .cells #[.int .i64 t309, .int .i64 t310] 39 (0, 0)) (by (with_reducible repeat (first | apply kN_ | apply kD_ | apply kA_)); exact BK312.out)) : gb312 ≠ gb316)); have n9_ := Aside0.mk ((by rw [hg]; exact Nat.ne_of_gt (blk_lt (g := gb312) (o := .cells #[.int .i64 t309, .int .i64 t310] 39 (0, 0)) (by (with_reducible repeat (first | apply kN_ | apply kD_ | apply kA_)); exact BK312.out)) : gb316 ≠ gb312)); clear BK308; clear BK312; clear HB; have BK308 := n0_; have BK312 := n1_; have HB := n2_; have BK316 := n3_; have GW316 := n4_; have GE316 := n5_; have NB308_316 := n6_; have NB316_308 := n7_; have NB312_316 := n8_; have NB316_312 := n9_; clear n0_ n1_ n2_ n3_ n4_ n5_ n6_ n7_ n8_ n9_; clear hb hbox hg; have hnb23 := NB316_308.out; have hnc23 := NB308_316.out; have hnb24 := NB316_312.out; have hnc24 := NB312_316.out; have hcz25_0 : w22.cell? ⟨gb316, 0, none⟩ = some (.int .i64 0) := (blk_cell BK316.out 0).trans rfl; have hcz25_1 : w22.cell? ⟨gb316, 1, none⟩ = some (.int .i64 0) := (blk_cell BK316.out 1).trans rfl; have hfz25_0 := blk_frozen BK316.out 0; have hfz25_1 := blk_frozen BK316.out 1; have hcz26_0 : w22.cell? ⟨gb308, 0, none⟩ = some (.int .i64 t306) := (blk_cell BK308.out 0).trans rfl; have hcz26_1 : w22.cell? ⟨gb308, 1, none⟩ = some (.int .i64 t307) := (blk_cell BK308.out 1).trans rfl; have hfz26_0 := blk_frozen BK308.out 0; have hfz26_1 := blk_frozen BK308.out 1) | ((with_reducible refine gate_callee (f := 27) rfl ?_); refine goesL_ (some 69) rfl rfl Try.func27 (by kernel_rfl) rfl #[.agg #[.int .i64 t306, .int .i64 t307]] rfl (by (try simp only [List.map_toArray, List.map_cons, List.map_nil]); first | done | rfl) ?_; (with_reducible refine (impl_SeenOrient.calls t306 t307 t317 t318 t319 _ A8.out).mono ?_); rintro e w27 ⟨rfl, hb⟩; refine ⟨_, rfl, ?_⟩; have n0_ := Aside0.mk (blk_below (g := gb308) (o := .cells #[.int .i64 t306, .int .i64 t307] 39 (0, 0)) (by (with_reducible repeat (first | apply kN_ | apply kD_ | apply kA_)); refine blk_far ?_ NB308_316.out _; (with_reducible repeat (first | apply kN_ | apply kD_ | apply kA_)); refine blk_far ?_ NB308_316.out _; (with_reducible repeat (first | apply kN_ | apply kD_ | apply kA_)); exact BK308.out) hb); have n1_ := Aside0.mk (blk_below (g := gb312) (o := .cells #[.int .i64 t309, .int .i64 t310] 39 (0, 0)) (by (with_reducible repeat (first | apply kN_ | apply kD_ | apply kA_)); refine blk_far ?_ NB312_316.out _; (with_reducible repeat (first | apply kN_ | apply kD_ | apply kA_)); refine blk_far ?_ NB312_316.out _; (with_reducible repeat (first | apply kN_ | apply kD_ | apply kA_)); exact BK312.out) hb); have n2_ := Aside0.mk (blk_below (g := gb316) (o := .cells #[.int .i64 t313, .int .i64 t314] 39 (0, 0)) (by (with_reducible repeat (first | apply kN_ | apply kD_ | apply kA_)); refine blk_put (cs := #[.int .i64 t313, .int .i64 0]) ?_ 1 _ rfl; (with_reducible repeat (first | apply kN_ | apply kD_ | apply kA_)); refine blk_put (cs := #[.int .i64 0, .int .i64 0]) ?_ 0 _ rfl; (with_reducible repeat (first | apply kN_ | apply kD_ | apply kA_)); exact BK316.out) hb); have n3_ := Aside0.mk (below_step (by repeat (first | (with_reducible first | exact HB.out | apply lA_ | apply lN_ | apply lD_ | refine below_set ?_ GE308.out | refine below_set ?_ GE312.out | refine below_set ?_ GE316.out) | exact HB.out)) hb); clear BK308; clear BK312; clear BK316; clear HB; have BK308 := n0_; have BK312 := n1_; have BK316 := n2_; have HB := n3_; clear n0_ n1_ n2_ n3_; (try clear hb)) | ((with_reducible refine gate_dst (N := 10) rfl ?_); (try (refine gate_guard (by rfl) ?_; dsimp only)); refine box_event ?hg (N := 10) ?hd (cs := #[.int .i64 0, .int .i64 0]) (t := 39) ?hr ?_; (case hd => rfl); (case hg => rfl); (case hr => first | (go_simp; done) | (go_simp; rfl)); intro gb320 hg w28 hbox hb; have n0_ := Aside0.mk (blk_below (g := gb308) (o := .cells #[.int .i64 t306, .int .i64 t307] 39 (0, 0)) (by (with_reducible repeat (first | apply kN_ | apply kD_ | apply kA_)); exact BK308.out) hb); have n1_ := Aside0.mk (blk_below (g := gb312) (o := .cells #[.int .i64 t309, .int .i64 t310] 39 (0, 0)) (by (with_reducible repeat (first | apply kN_ | apply kD_ | apply kA_)); exact BK312.out) hb); have n2_ := Aside0.mk (blk_below (g := gb316) (o := .cells #[.int .i64 t313, .int .i64 t314] 39 (0, 0)) (by (with_reducible repeat (first | apply kN_ | apply kD_ | apply kA_)); exact BK316.out) hb); have n3_ := Aside0.mk (below_step (by repeat (first | (with_reducible first | exact HB.out | apply lA_ | apply lN_ | apply lD_ | refine below_set ?_ GE308.out | refine below_set ?_ GE312.out | refine below_set ?_ GE316.out) | exact HB.out)) hb); have n4_ := Aside0.mk (hbox); have n5_ := Aside0.mk ((by rw [hg]; exact (below_size (by repeat (first | (with_reducible first | exact HB.out | apply lA_ | apply lN_ | apply lD_ | refine below_set ?_ GE308.out | refine below_set ?_ GE312.out | refine below_set ?_ GE316.out) | exact HB.out))) : w.heap.size ≤ gb320)); have n6_ := n5_; have n7_ := Aside0.mk ((by rw [hg]; exact Nat.ne_of_lt (blk_lt (g := gb308) (o := .cells #[.int .i64 t306, .int .i64 t307] 39 (0, 0)) (by (with_reducible repeat (first | apply kN_ | apply kD_ | apply kA_)); exact BK308.out)) : gb308 ≠ gb320)); have n8_ := Aside0.mk ((by rw [hg]; exact Nat.ne_of_gt (blk_lt (g := gb308) (o := .cells #[.int .i64 t306, .int .i64 t307] 39 (0, 0)) (by (with_reducible repeat (first | apply kN_ | apply kD_ | apply kA_)); exact BK308.out)) : gb320 ≠ gb308)); have n9_ := Aside0.mk ((by rw [hg]; exact Nat.ne_of_lt (blk_lt (g := gb312) (o := .cells #[.int .i64 t309, .int .i64 t310] 39 (0, 0)) (by (with_reducible repeat (first | apply kN_ | apply kD_ | apply kA_)); exact BK312.out)) : gb312 ≠ gb320)); have n10_ := Aside0.mk ((by rw [hg]; exact Nat.ne_of_gt (blk_lt (g := gb312) (o := .cells #[.int .i64 t309, .int .i64 t310] 39 (0, 0)) (by (with_reducible repeat (first | apply kN_ | apply kD_ | apply kA_)); exact BK312.out)) : gb320 ≠ gb312)); have n11_ := Aside0.mk ((by rw [hg]; exact Nat.ne_of_lt (blk_lt (g := gb316) (o := .cells #[.int .i64 t313, .int .i64 t314] 39 (0, 0)) (by (with_reducible repeat (first | apply kN_ | apply kD_ | apply kA_)); exact BK316.out)) : gb316 ≠ gb320)); have n12_ := Aside0.mk ((by rw [hg]; exact Nat.ne_of_gt (blk_lt (g := gb316) (o := .cells #[.int .i64 t313, .int .i64 t314] 39 (0, 0)) (by (with_reducible repeat (first | apply kN_ | apply kD_ | apply kA_)); exact BK316.out)) : gb320 ≠ gb316)); clear BK308; clear BK312; clear BK316; clear HB; have BK308 := n0_; have BK312 := n1_; have BK316 := n2_; have HB := n3_; have BK320 := n4_; have GW320 := n5_; have GE320 := n6_; have NB308_320 := n7_; have NB320_308 := n8_; have NB312_320 := n9_; have NB320_312 := n10_; have NB316_320 := n11_; have NB320_316 := n12_; clear n0_ n1_ n2_ n3_ n4_ n5_ n6_ n7_ n8_ n9_ n10_ n11_ n12_; clear hb hbox hg; have hnb29 := NB320_308.out; have hnc29 := NB308_320.out; have hnb30 := NB320_312.out; have hnc30 := NB312_320.out; have hnb31 := NB320_316.out; have hnc31 := NB316_320.out; have hcz32_0 : w28.cell? ⟨gb320, 0, none⟩ = some (.int .i64 0) := (blk_cell BK320.out 0).trans rfl; have hcz32_1 : w28.cell? ⟨gb320, 1, none⟩ = some (.int .i64 0) := (blk_cell BK320.out 1).trans rfl; have hfz32_0 := blk_frozen BK320.out 0; have hfz32_1 := blk_frozen BK320.out 1; have hcz33_0 : w28.cell? ⟨gb308, 0, none⟩ = some (.int .i64 t306) := (blk_cell BK308.out 0).trans rfl; have hcz33_1 : w28.cell? ⟨gb308, 1, none⟩ = some (.int .i64 t307) := (blk_cell BK308.out 1).trans rfl; have hfz33_0 := blk_frozen BK308.out 0; have hfz33_1 := blk_frozen BK308.out 1) | ((with_reducible refine gate_callee (f := 28) rfl ?_); refine goesL_ (some 74) rfl rfl Try.func28 (by kernel_rfl) rfl #[.agg #[.int .i64 t306, .int .i64 t307]] rfl (by (try simp only [List.map_toArray, List.map_cons, List.map_nil]); first | done | rfl) ?_; (with_reducible refine (spec_SeenOrient.calls t306 t307 t321 t322 t323 _ A9.out).mono ?_); rintro e w34 ⟨rfl, hb⟩; refine ⟨_, rfl, ?_⟩; have n0_ := Aside0.mk (blk_below (g := gb308) (o := .cells #[.int .i64 t306, .int .i64 t307] 39 (0, 0)) (by (with_reducible repeat (first | apply kN_ | apply kD_ | apply kA_)); refine blk_far ?_ NB308_320.out _; (with_reducible repeat (first | apply kN_ | apply kD_ | apply kA_)); refine blk_far ?_ NB308_320.out _; (with_reducible repeat (first | apply kN_ | apply kD_ | apply kA_)); exact BK308.out) hb); have n1_ := Aside0.mk (blk_below (g := gb312) (o := .cells #[.int .i64 t309, .int .i64 t310] 39 (0, 0)) (by (with_reducible repeat (first | apply kN_ | apply kD_ | apply kA_)); refine blk_far ?_ NB312_320.out _; (with_reducible repeat (first | apply kN_ | apply kD_ | apply kA_)); refine blk_far ?_ NB312_320.out _; (with_reducible repeat (first | apply kN_ | apply kD_ | apply kA_)); exact BK312.out) hb); have n2_ := Aside0.mk (blk_below (g := gb316) (o := .cells #[.int .i64 t313, .int .i64 t314] 39 (0, 0)) (by (with_reducible repeat (first | apply kN_ | apply kD_ | apply kA_)); refine blk_far ?_ NB316_320.out _; (with_reducible repeat (first | apply kN_ | apply kD_ | apply kA_)); refine blk_far ?_ NB316_320.out _; (with_reducible repeat (first | apply kN_ | apply kD_ | apply kA_)); exact BK316.out) hb); have n3_ := Aside0.mk (blk_below (g := gb320) (o := .cells #[.int .i64 t317, .int .i64 t318] 39 (0, 0)) (by (with_reducible repeat (first | apply kN_ | apply kD_ | apply kA_)); refine blk_put (cs := #[.int .i64 t317, .int .i64 0]) ?_ 1 _ rfl; (with_reducible repeat (first | apply kN_ | apply kD_ | apply kA_)); refine blk_put (cs := #[.int .i64 0, .int .i64 0]) ?_ 0 _ rfl; (with_reducible repeat (first | apply kN_ | apply kD_ | apply kA_)); exact BK320.out) hb); have n4_ := Aside0.mk (below_step (by repeat (first | (with_reducible first | exact HB.out | apply lA_ | apply lN_ | apply lD_ | refine below_set ?_ GE308.out | refine below_set ?_ GE312.out | refine below_set ?_ GE316.out | refine below_set ?_ GE320.out) | exact HB.out)) hb); clear BK308; clear BK312; clear BK316; clear BK320; clear HB; have BK308 := n0_; have BK312 := n1_; have BK316 := n2_; have BK320 := n3_; have HB := n4_; clear n0_ n1_ n2_ n3_ n4_; (try clear hb)) | ((with_reducible refine gate_dst (N := 12) rfl ?_); (try (refine gate_guard (by rfl) ?_; dsimp only)); refine box_event ?hg (N := 12) ?hd (cs := #[.int .i64 0, .int .i64 0]) (t := 39) ?hr ?_; (case hd => rfl); (case hg => rfl); (case hr => first | (go_simp; done) | (go_simp; rfl)); intro gb324 hg w35 hbox hb; have n0_ := Aside0.mk (blk_below (g := gb308) (o := .cells #[.int .i64 t306, .int .i64 t307] 39 (0, 0)) (by (with_reducible repeat (first | apply kN_ | apply kD_ | apply kA_)); exact BK308.out) hb); have n1_ := Aside0.mk (blk_below (g := gb312) (o := .cells #[.int .i64 t309, .int .i64 t310] 39 (0, 0)) (by (with_reducible repeat (first | apply kN_ | apply kD_ | apply kA_)); exact BK312.out) hb); have n2_ := Aside0.mk (blk_below (g := gb316) (o := .cells #[.int .i64 t313, .int .i64 t314] 39 (0, 0)) (by (with_reducible repeat (first | apply kN_ | apply kD_ | apply kA_)); exact BK316.out) hb); have n3_ := Aside0.mk (blk_below (g := gb320) (o := .cells #[.int .i64 t317, .int .i64 t318] 39 (0, 0)) (by (with_reducible repeat (first | apply kN_ | apply kD_ | apply kA_)); exact BK320.out) hb); have n4_ := Aside0.mk (below_step (by repeat (first | (with_reducible first | exact HB.out | apply lA_ | apply lN_ | apply lD_ | refine below_set ?_ GE308.out | refine below_set ?_ GE312.out | refine below_set ?_ GE316.out | refine below_set ?_ GE320.out) | exact HB.out)) hb); have n5_ := Aside0.mk (hbox); have n6_ := Aside0.mk ((by rw [hg]; exact (below_size (by repeat (first | (with_reducible first | exact HB.out | apply lA_ | apply lN_ | apply lD_ | refine below_set ?_ GE308.out | refine below_set ?_ GE312.out | refine below_set ?_ GE316.out | refine below_set ?_ GE320.out) | exact HB.out))) : w.heap.size ≤ gb324)); have n7_ := n6_; have n8_ := Aside0.mk ((by rw [hg]; exact Nat.ne_of_lt (blk_lt (g := gb308) (o := .cells #[.int .i64 t306, .int .i64 t307] 39 (0, 0)) (by (with_reducible repeat (first | apply kN_ | apply kD_ | apply kA_)); exact BK308.out)) : gb308 ≠ gb324)); have n9_ := Aside0.mk ((by rw [hg]; exact Nat.ne_of_gt (blk_lt (g := gb308) (o := .cells #[.int .i64 t306, .int .i64 t307] 39 (0, 0)) (by (with_reducible repeat (first | apply kN_ | apply kD_ | apply kA_)); exact BK308.out)) : gb324 ≠ gb308)); have n10_ := Aside0.mk ((by rw [hg]; exact Nat.ne_of_lt (blk_lt (g := gb312) (o := .cells #[.int .i64 t309, .int .i64 t310] 39 (0, 0)) (by (with_reducible repeat (first | apply kN_ | apply kD_ | apply kA_)); exact BK312.out)) : gb312 ≠ gb324)); have n11_ := Aside0.mk ((by rw [hg]; exact Nat.ne_of_gt (blk_lt (g := gb312) (o := .cells #[.int .i64 t309, .int .i64 t310] 39 (0, 0)) (by (with_reducible repeat (first | apply kN_ | apply kD_ | apply kA_)); exact BK312.out)) : gb324 ≠ gb312)); have n12_ := Aside0.mk ((by rw [hg]; exact Nat.ne_of_lt (blk_lt (g := gb316) (o := .cells #[.int .i64 t313, .int .i64 t314] 39 (0, 0)) (by (with_reducible repeat (first | apply kN_ | apply kD_ | apply kA_)); exact BK316.out)) : gb316 ≠ gb324)); have n13_ := Aside0.mk ((by rw [hg]; exact Nat.ne_of_gt (blk_lt (g := gb316) (o := .cells #[.int .i64 t313, .int .i64 t314] 39 (0, 0)) (by (with_reducible repeat (first | apply kN_ | apply kD_ | apply kA_)); exact BK316.out)) : gb324 ≠ gb316)); have n14_ := Aside0.mk ((by rw [hg]; exact Nat.ne_of_lt (blk_lt (g := gb320) (o := .cells #[.int .i64 t317, .int .i64 t318] 39 (0, 0)) (by (with_reducible repeat (first | apply kN_ | apply kD_ | apply kA_)); exact BK320.out)) : gb320 ≠ gb324)); have n15_ := Aside0.mk ((by rw [hg]; exact Nat.ne_of_gt (blk_lt (g := gb320) (o := .cells #[.int .i64 t317, .int .i64 t318] 39 (0, 0)) (by (with_reducible repeat (first | apply kN_ | apply kD_ | apply kA_)); exact BK320.out)) : gb324 ≠ gb320)); clear BK308; clear BK312; clear BK316; clear BK320; clear HB; have BK308 := n0_; have BK312 := n1_; have BK316 := n2_; have BK320 := n3_; have HB := n4_; have BK324 := n5_; have GW324 := n6_; have GE324 := n7_; have NB308_324 := n8_; have NB324_308 := n9_; have NB312_324 := n10_; have NB324_312 := n11_; have NB316_324 := n12_; have NB324_316 := n13_; have NB320_324 := n14_; have NB324_320 := n15_; clear n0_ n1_ n2_ n3_ n4_ n5_ n6_ n7_ n8_ n9_ n10_ n11_ n12_ n13_ n14_ n15_; clear hb hbox hg; have hnb36 := NB324_308.out; have hnc36 := NB308_324.out; have hnb37 := NB324_312.out; have hnc37 := NB312_324.out; have hnb38 := NB324_316.out; have hnc38 := NB316_324.out; have hnb39 := NB324_320.out; have hnc39 := NB320_324.out; have hcz40_0 : w35.cell? ⟨gb324, 0, none⟩ = some (.int .i64 0) := (blk_cell BK324.out 0).trans rfl; have hcz40_1 : w35.cell? ⟨gb324, 1, none⟩ = some (.int .i64 0) := (blk_cell BK324.out 1).trans rfl; have hfz40_0 := blk_frozen BK324.out 0; have hfz40_1 := blk_frozen BK324.out 1) | ((with_reducible refine gate_callee (f := 29) rfl ?_); refine goesL_ (some 77) rfl rfl Try.func29 (by kernel_rfl) rfl #[] rfl (by (try simp only [List.map_toArray, List.map_cons, List.map_nil]); first | done | rfl) ?_; (with_reducible refine (impl_AllOrients.calls k  t325 _ A10.out).mono ?_); rintro e w41 ⟨v326, rfl, ho0, hb⟩; refine ⟨_, rfl, ?_⟩; have n0_ := Aside0.mk (Kd.R_lower (Kd.R_newB (Kd.R_newB (Kd.R_newB (Kd.R_newB (Kd.R_newB ho0 (g := gb308) (o := .cells #[.int .i64 t306, .int .i64 t307] 39 (0, 0)) (by (with_reducible repeat (first | apply kN_ | apply kD_ | apply kA_)); refine blk_far ?_ NB308_324.out _; (with_reducible repeat (first | apply kN_ | apply kD_ | apply kA_)); refine blk_far ?_ NB308_324.out _; (with_reducible repeat (first | apply kN_ | apply kD_ | apply kA_)); exact BK308.out)) (g := gb312) (o := .cells #[.int .i64 t309, .int .i64 t310] 39 (0, 0)) (by (with_reducible repeat (first | apply kN_ | apply kD_ | apply kA_)); refine blk_far ?_ NB312_324.out _; (with_reducible repeat (first | apply kN_ | apply kD_ | apply kA_)); refine blk_far ?_ NB312_324.out _; (with_reducible repeat (first | apply kN_ | apply kD_ | apply kA_)); exact BK312.out)) (g := gb316) (o := .cells #[.int .i64 t313, .int .i64 t314] 39 (0, 0)) (by (with_reducible repeat (first | apply kN_ | apply kD_ | apply kA_)); refine blk_far ?_ NB316_324.out _; (with_reducible repeat (first | apply kN_ | apply kD_ | apply kA_)); refine blk_far ?_ NB316_324.out _; (with_reducible repeat (first | apply kN_ | apply kD_ | apply kA_)); exact BK316.out)) (g := gb320) (o := .cells #[.int .i64 t317, .int .i64 t318] 39 (0, 0)) (by (with_reducible repeat (first | apply kN_ | apply kD_ | apply kA_)); refine blk_far ?_ NB320_324.out _; (with_reducible repeat (first | apply kN_ | apply kD_ | apply kA_)); refine blk_far ?_ NB320_324.out _; (with_reducible repeat (first | apply kN_ | apply kD_ | apply kA_)); exact BK320.out)) (g := gb324) (o := .cells #[.int .i64 t321, .int .i64 t322] 39 (0, 0)) (by (with_reducible repeat (first | apply kN_ | apply kD_ | apply kA_)); refine blk_put (cs := #[.int .i64 t321, .int .i64 0]) ?_ 1 _ rfl; (with_reducible repeat (first | apply kN_ | apply kD_ | apply kA_)); refine blk_put (cs := #[.int .i64 0, .int .i64 0]) ?_ 0 _ rfl; (with_reducible repeat (first | apply kN_ | apply kD_ | apply kA_)); exact BK324.out)) (below_size (by repeat (first | (with_reducible first | exact HB.out | apply lA_ | apply lN_ | apply lD_ | refine below_set ?_ GE308.out | refine below_set ?_ GE312.out | refine below_set ?_ GE316.out | refine below_set ?_ GE320.out | refine below_set ?_ GE324.out) | exact HB.out)))); have n1_ := Aside0.mk (blk_below (g := gb308) (o := .cells #[.int .i64 t306, .int .i64 t307] 39 (0, 0)) (by (with_reducible repeat (first | apply kN_ | apply kD_ | apply kA_)); refine blk_far ?_ NB308_324.out _; (with_reducible repeat (first | apply kN_ | apply kD_ | apply kA_)); refine blk_far ?_ NB308_324.out _; (with_reducible repeat (first | apply kN_ | apply kD_ | apply kA_)); exact BK308.out) hb); have n2_ := Aside0.mk (blk_below (g := gb312) (o := .cells #[.int .i64 t309, .int .i64 t310] 39 (0, 0)) (by (with_reducible repeat (first | apply kN_ | apply kD_ | apply kA_)); refine blk_far ?_ NB312_324.out _; (with_reducible repeat (first | apply kN_ | apply kD_ | apply kA_)); refine blk_far ?_ NB312_324.out _; (with_reducible repeat (first | apply kN_ | apply kD_ | apply kA_)); exact BK312.out) hb); have n3_ := Aside0.mk (blk_below (g := gb316) (o := .cells #[.int .i64 t313, .int .i64 t314] 39 (0, 0)) (by (with_reducible repeat (first | apply kN_ | apply kD_ | apply kA_)); refine blk_far ?_ NB316_324.out _; (with_reducible repeat (first | apply kN_ | apply kD_ | apply kA_)); refine blk_far ?_ NB316_324.out _; (with_reducible repeat (first | apply kN_ | apply kD_ | apply kA_)); exact BK316.out) hb); have n4_ := Aside0.mk (blk_below (g := gb320) (o := .cells #[.int .i64 t317, .int .i64 t318] 39 (0, 0)) (by (with_reducible repeat (first | apply kN_ | apply kD_ | apply kA_)); refine blk_far ?_ NB320_324.out _; (with_reducible repeat (first | apply kN_ | apply kD_ | apply kA_)); refine blk_far ?_ NB320_324.out _; (with_reducible repeat (first | apply kN_ | apply kD_ | apply kA_)); exact BK320.out) hb); have n5_ := Aside0.mk (blk_below (g := gb324) (o := .cells #[.int .i64 t321, .int .i64 t322] 39 (0, 0)) (by (with_reducible repeat (first | apply kN_ | apply kD_ | apply kA_)); refine blk_put (cs := #[.int .i64 t321, .int .i64 0]) ?_ 1 _ rfl; (with_reducible repeat (first | apply kN_ | apply kD_ | apply kA_)); refine blk_put (cs := #[.int .i64 0, .int .i64 0]) ?_ 0 _ rfl; (with_reducible repeat (first | apply kN_ | apply kD_ | apply kA_)); exact BK324.out) hb); have n6_ := Aside0.mk (below_step (by repeat (first | (with_reducible first | exact HB.out | apply lA_ | apply lN_ | apply lD_ | refine below_set ?_ GE308.out | refine below_set ?_ GE312.out | refine below_set ?_ GE316.out | refine below_set ?_ GE320.out | refine below_set ?_ GE324.out) | exact HB.out)) hb); clear BK308; clear BK312; clear BK316; clear BK320; clear BK324; clear HB; have HO327 := n0_; have BK308 := n1_; have BK312 := n2_; have BK316 := n3_; have BK320 := n4_; have BK324 := n5_; have HB := n6_; clear n0_ n1_ n2_ n3_ n4_ n5_ n6_; (try clear hb); (try clear ho0)) | ((with_reducible refine gate_callee (f := 30) rfl ?_); refine goesL_ (some 78) rfl rfl Try.func30 (by kernel_rfl) rfl #[] rfl (by (try simp only [List.map_toArray, List.map_cons, List.map_nil]); first | done | rfl) ?_; (with_reducible refine (spec_AllOrients.calls k  t328 _ A11.out).mono ?_); rintro e w42 ⟨v329, rfl, ho0, hb⟩; refine ⟨_, rfl, ?_⟩; have n0_ := Aside0.mk (Kd.R_elder' (by (with_reducible repeat (first | apply rA_ | apply rN_ | apply rD_)); exact HO327.out) (Kd.R_base ho0) hb); have n1_ := Aside0.mk (Kd.R_lower (Kd.R_newB (Kd.R_newB (Kd.R_newB (Kd.R_newB (Kd.R_newB (Kd.R_new' ho0 (Kd.R_lt (by (with_reducible repeat (first | apply rA_ | apply rN_ | apply rD_)); exact HO327.out))) (g := gb308) (o := .cells #[.int .i64 t306, .int .i64 t307] 39 (0, 0)) (by (with_reducible repeat (first | apply kN_ | apply kD_ | apply kA_)); exact BK308.out)) (g := gb312) (o := .cells #[.int .i64 t309, .int .i64 t310] 39 (0, 0)) (by (with_reducible repeat (first | apply kN_ | apply kD_ | apply kA_)); exact BK312.out)) (g := gb316) (o := .cells #[.int .i64 t313, .int .i64 t314] 39 (0, 0)) (by (with_reducible repeat (first | apply kN_ | apply kD_ | apply kA_)); exact BK316.out)) (g := gb320) (o := .cells #[.int .i64 t317, .int .i64 t318] 39 (0, 0)) (by (with_reducible repeat (first | apply kN_ | apply kD_ | apply kA_)); exact BK320.out)) (g := gb324) (o := .cells #[.int .i64 t321, .int .i64 t322] 39 (0, 0)) (by (with_reducible repeat (first | apply kN_ | apply kD_ | apply kA_)); exact BK324.out)) (below_size (by repeat (first | (with_reducible first | exact HB.out | apply lA_ | apply lN_ | apply lD_ | refine below_set ?_ GE308.out | refine below_set ?_ GE312.out | refine below_set ?_ GE316.out | refine below_set ?_ GE320.out | refine below_set ?_ GE324.out) | exact HB.out)))); have n2_ := Aside0.mk (blk_below (g := gb308) (o := .cells #[.int .i64 t306, .int .i64 t307] 39 (0, 0)) (by (with_reducible repeat (first | apply kN_ | apply kD_ | apply kA_)); exact BK308.out) hb); have n3_ := Aside0.mk (blk_below (g := gb312) (o := .cells #[.int .i64 t309, .int .i64 t310] 39 (0, 0)) (by (with_reducible repeat (first | apply kN_ | apply kD_ | apply kA_)); exact BK312.out) hb); have n4_ := Aside0.mk (blk_below (g := gb316) (o := .cells #[.int .i64 t313, .int .i64 t314] 39 (0, 0)) (by (with_reducible repeat (first | apply kN_ | apply kD_ | apply kA_)); exact BK316.out) hb); have n5_ := Aside0.mk (blk_below (g := gb320) (o := .cells #[.int .i64 t317, .int .i64 t318] 39 (0, 0)) (by (with_reducible repeat (first | apply kN_ | apply kD_ | apply kA_)); exact BK320.out) hb); have n6_ := Aside0.mk (blk_below (g := gb324) (o := .cells #[.int .i64 t321, .int .i64 t322] 39 (0, 0)) (by (with_reducible repeat (first | apply kN_ | apply kD_ | apply kA_)); exact BK324.out) hb); have n7_ := Aside0.mk (below_step (by repeat (first | (with_reducible first | exact HB.out | apply lA_ | apply lN_ | apply lD_ | refine below_set ?_ GE308.out | refine below_set ?_ GE312.out | refine below_set ?_ GE316.out | refine below_set ?_ GE320.out | refine below_set ?_ GE324.out) | exact HB.out)) hb); clear HO327; clear BK308; clear BK312; clear BK316; clear BK320; clear BK324; clear HB; have HO327 := n0_; have HO330 := n1_; have BK308 := n2_; have BK312 := n3_; have BK316 := n4_; have BK320 := n5_; have BK324 := n6_; have HB := n7_; clear n0_ n1_ n2_ n3_ n4_ n5_ n6_ n7_; (try clear hb); (try clear ho0)))
 (try simp only [Act.put, List.setIfInBounds_toArray, List.set_cons_zero, List.set_cons_succ])
 go_cut [118] (fun v118 wc => ∃ (kq : Nat) (x118_11 : Bool), v118 = .bool x118_11 ∧ Aside0 (laws_FnOrients.j0 kq l1 t311 t328 x118_11 t306 t307 t309 t310 t317 t318 = some r) ∧ Aside0 (kq ≤ k) ∧ Aside0 (Kd.R k39 39 wc w.heap.size (fun k_ => k_ ≠ gb308 ∧ k_ ≠ gb312 ∧ k_ ≠ gb320) v329 t328) ∧ Aside0 (wc.heap[gb308]? = some (.cells #[.int .i64 t306, .int .i64 t307] 39 (0, 0))) ∧ Aside0 (wc.heap[gb312]? = some (.cells #[.int .i64 t309, .int .i64 t310] 39 (0, 0))) ∧ Aside0 (wc.heap[gb320]? = some (.cells #[.int .i64 t317, .int .i64 t318] 39 (0, 0))) ∧ Aside0 (Below w.heap.size w wc))
 case first =>
  as_aux_lemma =>
   have H := HC12.out
   clear HC12
   by_cases c43 : (t311 != t315) = true
   ·rw [if_pos c43] at H
    have c43b0 : (t311 != t315) = true := c43
    (try (have c43b1 : decide (t311 = t315) = false := by simpa using c43))
    (try (have c43b2 : (t311 == t315) = false := by simpa using c43))
    (try (have c43b3 : ¬ (t311 = t315) := by simpa using c43))
    clear c43
    (first | rw [c43b0] | (simp only [i64_w, i32_w]; rw [c43b0]) | skip)
    as_aux_lemma =>
     have H' := Aside0.mk H
     clear H
     go_wp2
     go_meet
     case rel => exact ⟨_, (true), (by first | rfl | (simp; done) | (simp [*]; done)), H', ⟨by first | omega | exact Nat.le_refl _⟩, ⟨by (with_reducible repeat (first | apply rA_ | apply rN_ | apply rD_)); exact Kd.R_mono HO330.out (fun _ hk => ⟨hk.1.1.1.1.2, ⟨hk.1.1.1.2, hk.1.2⟩⟩)⟩, ⟨by (with_reducible repeat (first | apply kN_ | apply kD_ | apply kA_)); exact BK308.out⟩, ⟨by (with_reducible repeat (first | apply kN_ | apply kD_ | apply kA_)); exact BK312.out⟩, ⟨by (with_reducible repeat (first | apply kN_ | apply kD_ | apply kA_)); exact BK320.out⟩, ⟨by repeat (first | (with_reducible first | exact HB.out | apply lA_ | apply lN_ | apply lD_ | refine below_set ?_ GE308.out | refine below_set ?_ GE312.out | refine below_set ?_ GE316.out | refine below_set ?_ GE320.out | refine below_set ?_ GE324.out) | exact HB.out)⟩⟩
   rw [if_neg c43] at H
   have c43b0 : (t311 != t315) = false := by simpa using c43
   (try (have c43b1 : decide (t311 = t315) = true := by simpa using c43))
   (try (have c43b2 : (t311 == t315) = true := by simpa using c43))
   clear c43
   (first | rw [c43b0] | (simp only [i64_w, i32_w]; rw [c43b0]) | skip)
   by_cases c44 : (!(t309 == t313) || (!(t310 == t314))) = true
   ·rw [if_pos c44] at H
    have c44b0 : (!(t309 == t313) || (!(t310 == t314))) = true := c44
    clear c44
    as_aux_lemma =>
     have H' := Aside0.mk H
     clear H
     have hnb45 := NB312_308.out
     have hnc45 := NB308_312.out
     have hnb46 := NB312_316.out
     have hnc46 := NB316_312.out
     have hnb47 := NB312_320.out
     have hnc47 := NB320_312.out
     have hnb48 := NB312_324.out
     have hnc48 := NB324_312.out
     have hcz49_0 : w42.cell? ⟨gb312, 0, none⟩ = some (.int .i64 t309) := (blk_cell BK312.out 0).trans rfl
     have hcz49_1 : w42.cell? ⟨gb312, 1, none⟩ = some (.int .i64 t310) := (blk_cell BK312.out 1).trans rfl
     have hfz49_0 := blk_frozen BK312.out 0
     have hfz49_1 := blk_frozen BK312.out 1
     have hnb50 := NB316_308.out
     have hnc50 := NB308_316.out
     have hnb51 := NB316_320.out
     have hnc51 := NB320_316.out
     have hnb52 := NB316_324.out
     have hnc52 := NB324_316.out
     have hcz53_0 : w42.cell? ⟨gb316, 0, none⟩ = some (.int .i64 t313) := (blk_cell BK316.out 0).trans rfl
     have hcz53_1 : w42.cell? ⟨gb316, 1, none⟩ = some (.int .i64 t314) := (blk_cell BK316.out 1).trans rfl
     have hfz53_0 := blk_frozen BK316.out 0
     have hfz53_1 := blk_frozen BK316.out 1
     go_wp2
     go_meet
     case rel => exact ⟨_, (true), (by first | rfl | (simp; done) | (simp [*]; done)), H', ⟨by first | omega | exact Nat.le_refl _⟩, ⟨by (with_reducible repeat (first | apply rA_ | apply rN_ | apply rD_)); exact Kd.R_mono HO330.out (fun _ hk => ⟨hk.1.1.1.1.2, ⟨hk.1.1.1.2, hk.1.2⟩⟩)⟩, ⟨by (with_reducible repeat (first | apply kN_ | apply kD_ | apply kA_)); exact BK308.out⟩, ⟨by (with_reducible repeat (first | apply kN_ | apply kD_ | apply kA_)); exact BK312.out⟩, ⟨by (with_reducible repeat (first | apply kN_ | apply kD_ | apply kA_)); exact BK320.out⟩, ⟨by repeat (first | (with_reducible first | exact HB.out | apply lA_ | apply lN_ | apply lD_ | refine below_set ?_ GE308.out | refine below_set ?_ GE312.out | refine below_set ?_ GE316.out | refine below_set ?_ GE320.out | refine below_set ?_ GE324.out) | exact HB.out)⟩⟩
   rw [if_neg c44] at H
   have c44b0 : (!(t309 == t313) || (!(t310 == t314))) = false := by simpa using c44
   clear c44
   by_cases c54 : (t319 != t323) = true
   ·rw [if_pos c54] at H
    have c54b0 : (t319 != t323) = true := c54
    (try (have c54b1 : decide (t319 = t323) = false := by simpa using c54))
    (try (have c54b2 : (t319 == t323) = false := by simpa using c54))
    (try (have c54b3 : ¬ (t319 = t323) := by simpa using c54))
    clear c54
    as_aux_lemma =>
     have H' := Aside0.mk H
     clear H
     have hnb55 := NB312_308.out
     have hnc55 := NB308_312.out
     have hnb56 := NB312_316.out
     have hnc56 := NB316_312.out
     have hnb57 := NB312_320.out
     have hnc57 := NB320_312.out
     have hnb58 := NB312_324.out
     have hnc58 := NB324_312.out
     have hcz59_0 : w42.cell? ⟨gb312, 0, none⟩ = some (.int .i64 t309) := (blk_cell BK312.out 0).trans rfl
     have hcz59_1 : w42.cell? ⟨gb312, 1, none⟩ = some (.int .i64 t310) := (blk_cell BK312.out 1).trans rfl
     have hfz59_0 := blk_frozen BK312.out 0
     have hfz59_1 := blk_frozen BK312.out 1
     have hnb60 := NB316_308.out
     have hnc60 := NB308_316.out
     have hnb61 := NB316_320.out
     have hnc61 := NB320_316.out
     have hnb62 := NB316_324.out
     have hnc62 := NB324_316.out
     have hcz63_0 : w42.cell? ⟨gb316, 0, none⟩ = some (.int .i64 t313) := (blk_cell BK316.out 0).trans rfl
     have hcz63_1 : w42.cell? ⟨gb316, 1, none⟩ = some (.int .i64 t314) := (blk_cell BK316.out 1).trans rfl
     have hfz63_0 := blk_frozen BK316.out 0
     have hfz63_1 := blk_frozen BK316.out 1
     go_wp2
     go_meet
     case rel => exact ⟨_, (true), (by first | rfl | (simp; done) | (simp [*]; done)), H', ⟨by first | omega | exact Nat.le_refl _⟩, ⟨by (with_reducible repeat (first | apply rA_ | apply rN_ | apply rD_)); exact Kd.R_mono HO330.out (fun _ hk => ⟨hk.1.1.1.1.2, ⟨hk.1.1.1.2, hk.1.2⟩⟩)⟩, ⟨by (with_reducible repeat (first | apply kN_ | apply kD_ | apply kA_)); exact BK308.out⟩, ⟨by (with_reducible repeat (first | apply kN_ | apply kD_ | apply kA_)); exact BK312.out⟩, ⟨by (with_reducible repeat (first | apply kN_ | apply kD_ | apply kA_)); exact BK320.out⟩, ⟨by repeat (first | (with_reducible first | exact HB.out | apply lA_ | apply lN_ | apply lD_ | refine below_set ?_ GE308.out | refine below_set ?_ GE312.out | refine below_set ?_ GE316.out | refine below_set ?_ GE320.out | refine below_set ?_ GE324.out) | exact HB.out)⟩⟩
   rw [if_neg c54] at H
   have c54b0 : (t319 != t323) = false := by simpa using c54
   (try (have c54b1 : decide (t319 = t323) = true := by simpa using c54))
   (try (have c54b2 : (t319 == t323) = true := by simpa using c54))
   clear c54
   by_cases c64 : (!(t317 == t321) || (!(t318 == t322))) = true
   ·rw [if_pos c64] at H
    have c64b0 : (!(t317 == t321) || (!(t318 == t322))) = true := c64
    clear c64
    as_aux_lemma =>
     have H' := Aside0.mk H
     clear H
     have hnb65 := NB312_308.out
     have hnc65 := NB308_312.out
     have hnb66 := NB312_316.out
     have hnc66 := NB316_312.out
     have hnb67 := NB312_320.out
     have hnc67 := NB320_312.out
     have hnb68 := NB312_324.out
     have hnc68 := NB324_312.out
     have hcz69_0 : w42.cell? ⟨gb312, 0, none⟩ = some (.int .i64 t309) := (blk_cell BK312.out 0).trans rfl
     have hcz69_1 : w42.cell? ⟨gb312, 1, none⟩ = some (.int .i64 t310) := (blk_cell BK312.out 1).trans rfl
     have hfz69_0 := blk_frozen BK312.out 0
     have hfz69_1 := blk_frozen BK312.out 1
     have hnb70 := NB316_308.out
     have hnc70 := NB308_316.out
     have hnb71 := NB316_320.out
     have hnc71 := NB320_316.out
     have hnb72 := NB316_324.out
     have hnc72 := NB324_316.out
     have hcz73_0 : w42.cell? ⟨gb316, 0, none⟩ = some (.int .i64 t313) := (blk_cell BK316.out 0).trans rfl
     have hcz73_1 : w42.cell? ⟨gb316, 1, none⟩ = some (.int .i64 t314) := (blk_cell BK316.out 1).trans rfl
     have hfz73_0 := blk_frozen BK316.out 0
     have hfz73_1 := blk_frozen BK316.out 1
     have hnb74 := NB320_308.out
     have hnc74 := NB308_320.out
     have hnb75 := NB320_324.out
     have hnc75 := NB324_320.out
     have hcz76_0 : w42.cell? ⟨gb320, 0, none⟩ = some (.int .i64 t317) := (blk_cell BK320.out 0).trans rfl
     have hcz76_1 : w42.cell? ⟨gb320, 1, none⟩ = some (.int .i64 t318) := (blk_cell BK320.out 1).trans rfl
     have hfz76_0 := blk_frozen BK320.out 0
     have hfz76_1 := blk_frozen BK320.out 1
     have hnb77 := NB324_308.out
     have hnc77 := NB308_324.out
     have hcz78_0 : w42.cell? ⟨gb324, 0, none⟩ = some (.int .i64 t321) := (blk_cell BK324.out 0).trans rfl
     have hcz78_1 : w42.cell? ⟨gb324, 1, none⟩ = some (.int .i64 t322) := (blk_cell BK324.out 1).trans rfl
     have hfz78_0 := blk_frozen BK324.out 0
     have hfz78_1 := blk_frozen BK324.out 1
     go_wp2
     go_meet
     case rel => exact ⟨_, (true), (by first | rfl | (simp; done) | (simp [*]; done)), H', ⟨by first | omega | exact Nat.le_refl _⟩, ⟨by (with_reducible repeat (first | apply rA_ | apply rN_ | apply rD_)); exact Kd.R_mono HO330.out (fun _ hk => ⟨hk.1.1.1.1.2, ⟨hk.1.1.1.2, hk.1.2⟩⟩)⟩, ⟨by (with_reducible repeat (first | apply kN_ | apply kD_ | apply kA_)); exact BK308.out⟩, ⟨by (with_reducible repeat (first | apply kN_ | apply kD_ | apply kA_)); exact BK312.out⟩, ⟨by (with_reducible repeat (first | apply kN_ | apply kD_ | apply kA_)); exact BK320.out⟩, ⟨by repeat (first | (with_reducible first | exact HB.out | apply lA_ | apply lN_ | apply lD_ | refine below_set ?_ GE308.out | refine below_set ?_ GE312.out | refine below_set ?_ GE316.out | refine below_set ?_ GE320.out | refine below_set ?_ GE324.out) | exact HB.out)⟩⟩
   rw [if_neg c64] at H
   have c64b0 : (!(t317 == t321) || (!(t318 == t322))) = false := by simpa using c64
   clear c64
   replace H := Option.bind_eq_some_iff.mp H
   obtain ⟨t331, A790, H⟩ := H
   (try dsimp only at H)
   have A79 := Aside0.mk A790
   clear A790
   as_aux_lemma =>
    by_cases c80 : t331 = true
    rotate_left
    ·replace c80 := Bool.eq_false_iff.mpr c80
     subst c80
     have H1 : (laws_FnOrients.j0 k l1 t311 t328 true t306 t307 t309 t310 t317 t318) = some r := by rw [if_neg (show ¬ (false = true) by decide)] at H; exact H
     clear H
     have H := H1
     clear H1
     as_aux_lemma =>
      have H' := Aside0.mk H
      clear H
      have hnb138 := NB312_308.out
      have hnc138 := NB308_312.out
      have hnb139 := NB312_316.out
      have hnc139 := NB316_312.out
      have hnb140 := NB312_320.out
      have hnc140 := NB320_312.out
      have hnb141 := NB312_324.out
      have hnc141 := NB324_312.out
      have hcz142_0 : w42.cell? ⟨gb312, 0, none⟩ = some (.int .i64 t309) := (blk_cell BK312.out 0).trans rfl
      have hcz142_1 : w42.cell? ⟨gb312, 1, none⟩ = some (.int .i64 t310) := (blk_cell BK312.out 1).trans rfl
      have hfz142_0 := blk_frozen BK312.out 0
      have hfz142_1 := blk_frozen BK312.out 1
      have hnb143 := NB316_308.out
      have hnc143 := NB308_316.out
      have hnb144 := NB316_320.out
      have hnc144 := NB320_316.out
      have hnb145 := NB316_324.out
      have hnc145 := NB324_316.out
      have hcz146_0 : w42.cell? ⟨gb316, 0, none⟩ = some (.int .i64 t313) := (blk_cell BK316.out 0).trans rfl
      have hcz146_1 : w42.cell? ⟨gb316, 1, none⟩ = some (.int .i64 t314) := (blk_cell BK316.out 1).trans rfl
      have hfz146_0 := blk_frozen BK316.out 0
      have hfz146_1 := blk_frozen BK316.out 1
      have hnb147 := NB320_308.out
      have hnc147 := NB308_320.out
      have hnb148 := NB320_324.out
      have hnc148 := NB324_320.out
      have hcz149_0 : w42.cell? ⟨gb320, 0, none⟩ = some (.int .i64 t317) := (blk_cell BK320.out 0).trans rfl
      have hcz149_1 : w42.cell? ⟨gb320, 1, none⟩ = some (.int .i64 t318) := (blk_cell BK320.out 1).trans rfl
      have hfz149_0 := blk_frozen BK320.out 0
      have hfz149_1 := blk_frozen BK320.out 1
      have hnb150 := NB324_308.out
      have hnc150 := NB308_324.out
      have hcz151_0 : w42.cell? ⟨gb324, 0, none⟩ = some (.int .i64 t321) := (blk_cell BK324.out 0).trans rfl
      have hcz151_1 : w42.cell? ⟨gb324, 1, none⟩ = some (.int .i64 t322) := (blk_cell BK324.out 1).trans rfl
      have hfz151_0 := blk_frozen BK324.out 0
      have hfz151_1 := blk_frozen BK324.out 1
      obtain ⟨Ao152, co152, eo152⟩ := Kd.R_slice HO327.out
      subst eo152
      obtain ⟨Ao153, co153, eo153⟩ := Kd.R_slice HO330.out
      subst eo153
      go_wp2_with (first | (go_at_call 31; (with_reducible refine (laws_pSameOrients.calls k _ _ t325 _ _ t328 false _ ?side1 ?side2 ?side3 ?side4 A79.out).mono ?_); (case side1 => repeat (first | exact (Kd.R_reads' HO327.out).2.2 | (with_reducible first | apply cA_ | apply cN_ | apply cD_))); (case side2 => exact (Kd.R_reads' HO327.out).2.1); (case side3 => repeat (first | exact (Kd.R_reads' HO330.out).2.2 | (with_reducible first | apply cA_ | apply cN_ | apply cD_))); (case side4 => exact (Kd.R_reads' HO330.out).2.1); rintro e w' ⟨rfl, ⟨nd, rfl⟩⟩))
      go_meet
      case rel => exact ⟨_, (true), (by first | rfl | (simp; done) | (simp [*]; done)), H', ⟨by first | omega | exact Nat.le_refl _⟩, ⟨by (with_reducible repeat (first | apply rA_ | apply rN_ | apply rD_)); exact Kd.R_mono HO330.out (fun _ hk => ⟨hk.1.1.1.1.2, ⟨hk.1.1.1.2, hk.1.2⟩⟩)⟩, ⟨by (with_reducible repeat (first | apply kN_ | apply kD_ | apply kA_)); exact BK308.out⟩, ⟨by (with_reducible repeat (first | apply kN_ | apply kD_ | apply kA_)); exact BK312.out⟩, ⟨by (with_reducible repeat (first | apply kN_ | apply kD_ | apply kA_)); exact BK320.out⟩, ⟨by repeat (first | (with_reducible first | exact HB.out | apply lA_ | apply lN_ | apply lD_ | refine below_set ?_ GE308.out | refine below_set ?_ GE312.out | refine below_set ?_ GE316.out | refine below_set ?_ GE320.out | refine below_set ?_ GE324.out) | exact HB.out)⟩⟩
    subst c80
    have H1 : ((impl_IsOrient.f t306 t307).bind fun t332 => (if (t311 != t332) = true then (laws_FnOrients.j0 k l1 t311 t328 true t306 t307 t309 t310 t317 t318) else (if (t319 != t311) = true then (laws_FnOrients.j0 k l1 t311 t328 true t306 t307 t309 t310 t317 t318) else (laws_FnOrients.j0 k l1 t311 t328 ((t328.length : Int) != 24) t306 t307 t309 t310 t317 t318)))) = some r := by rw [if_pos rfl] at H; exact H
    clear H
    have H := H1
    clear H1
    replace H := Option.bind_eq_some_iff.mp H
    obtain ⟨t332, A810, H⟩ := H
    (try dsimp only at H)
    have A81 := Aside0.mk A810
    clear A810
    as_aux_lemma =>
     by_cases c82 : (t311 != t332) = true
     ·rw [if_pos c82] at H
      have c82b0 : (t311 != t332) = true := c82
      (try (have c82b1 : decide (t311 = t332) = false := by simpa using c82))
      (try (have c82b2 : (t311 == t332) = false := by simpa using c82))
      (try (have c82b3 : ¬ (t311 = t332) := by simpa using c82))
      clear c82
      as_aux_lemma =>
       have H' := Aside0.mk H
       clear H
       have hnb83 := NB312_308.out
       have hnc83 := NB308_312.out
       have hnb84 := NB312_316.out
       have hnc84 := NB316_312.out
       have hnb85 := NB312_320.out
       have hnc85 := NB320_312.out
       have hnb86 := NB312_324.out
       have hnc86 := NB324_312.out
       have hcz87_0 : w42.cell? ⟨gb312, 0, none⟩ = some (.int .i64 t309) := (blk_cell BK312.out 0).trans rfl
       have hcz87_1 : w42.cell? ⟨gb312, 1, none⟩ = some (.int .i64 t310) := (blk_cell BK312.out 1).trans rfl
       have hfz87_0 := blk_frozen BK312.out 0
       have hfz87_1 := blk_frozen BK312.out 1
       have hnb88 := NB316_308.out
       have hnc88 := NB308_316.out
       have hnb89 := NB316_320.out
       have hnc89 := NB320_316.out
       have hnb90 := NB316_324.out
       have hnc90 := NB324_316.out
       have hcz91_0 : w42.cell? ⟨gb316, 0, none⟩ = some (.int .i64 t313) := (blk_cell BK316.out 0).trans rfl
       have hcz91_1 : w42.cell? ⟨gb316, 1, none⟩ = some (.int .i64 t314) := (blk_cell BK316.out 1).trans rfl
       have hfz91_0 := blk_frozen BK316.out 0
       have hfz91_1 := blk_frozen BK316.out 1
       have hnb92 := NB320_308.out
       have hnc92 := NB308_320.out
       have hnb93 := NB320_324.out
       have hnc93 := NB324_320.out
       have hcz94_0 : w42.cell? ⟨gb320, 0, none⟩ = some (.int .i64 t317) := (blk_cell BK320.out 0).trans rfl
       have hcz94_1 : w42.cell? ⟨gb320, 1, none⟩ = some (.int .i64 t318) := (blk_cell BK320.out 1).trans rfl
       have hfz94_0 := blk_frozen BK320.out 0
       have hfz94_1 := blk_frozen BK320.out 1
       have hnb95 := NB324_308.out
       have hnc95 := NB308_324.out
       have hcz96_0 : w42.cell? ⟨gb324, 0, none⟩ = some (.int .i64 t321) := (blk_cell BK324.out 0).trans rfl
       have hcz96_1 : w42.cell? ⟨gb324, 1, none⟩ = some (.int .i64 t322) := (blk_cell BK324.out 1).trans rfl
       have hfz96_0 := blk_frozen BK324.out 0
       have hfz96_1 := blk_frozen BK324.out 1
       obtain ⟨Ao97, co97, eo97⟩ := Kd.R_slice HO327.out
       subst eo97
       obtain ⟨Ao98, co98, eo98⟩ := Kd.R_slice HO330.out
       subst eo98
       go_wp2_with (first | (go_at_call 31; (with_reducible refine (laws_pSameOrients.calls k _ _ t325 _ _ t328 true _ ?side1 ?side2 ?side3 ?side4 A79.out).mono ?_); (case side1 => repeat (first | exact (Kd.R_reads' HO327.out).2.2 | (with_reducible first | apply cA_ | apply cN_ | apply cD_))); (case side2 => exact (Kd.R_reads' HO327.out).2.1); (case side3 => repeat (first | exact (Kd.R_reads' HO330.out).2.2 | (with_reducible first | apply cA_ | apply cN_ | apply cD_))); (case side4 => exact (Kd.R_reads' HO330.out).2.1); rintro e w' ⟨rfl, ⟨nd, rfl⟩⟩; have hcz99_0 : w42.cell? ⟨gb308, 0, none⟩ = some (.int .i64 t306) := (blk_cell BK308.out 0).trans rfl; have hcz99_1 : w42.cell? ⟨gb308, 1, none⟩ = some (.int .i64 t307) := (blk_cell BK308.out 1).trans rfl; have hfz99_0 := blk_frozen BK308.out 0; have hfz99_1 := blk_frozen BK308.out 1) | (go_at_call 32; (with_reducible refine (impl_IsOrient.calls t306 t307 t332 _ A81.out).mono ?_); rintro e w100 ⟨rfl, hb⟩; have n0_ := Aside0.mk (Kd.R_below (by (with_reducible repeat (first | apply rA_ | apply rN_ | apply rD_)); exact HO327.out) hb); have n1_ := Aside0.mk (Kd.R_below (by (with_reducible repeat (first | apply rA_ | apply rN_ | apply rD_)); exact HO330.out) hb); have n2_ := Aside0.mk (blk_below (g := gb308) (o := .cells #[.int .i64 t306, .int .i64 t307] 39 (0, 0)) (by (with_reducible repeat (first | apply kN_ | apply kD_ | apply kA_)); exact BK308.out) hb); have n3_ := Aside0.mk (blk_below (g := gb312) (o := .cells #[.int .i64 t309, .int .i64 t310] 39 (0, 0)) (by (with_reducible repeat (first | apply kN_ | apply kD_ | apply kA_)); exact BK312.out) hb); have n4_ := Aside0.mk (blk_below (g := gb316) (o := .cells #[.int .i64 t313, .int .i64 t314] 39 (0, 0)) (by (with_reducible repeat (first | apply kN_ | apply kD_ | apply kA_)); exact BK316.out) hb); have n5_ := Aside0.mk (blk_below (g := gb320) (o := .cells #[.int .i64 t317, .int .i64 t318] 39 (0, 0)) (by (with_reducible repeat (first | apply kN_ | apply kD_ | apply kA_)); exact BK320.out) hb); have n6_ := Aside0.mk (blk_below (g := gb324) (o := .cells #[.int .i64 t321, .int .i64 t322] 39 (0, 0)) (by (with_reducible repeat (first | apply kN_ | apply kD_ | apply kA_)); exact BK324.out) hb); have n7_ := Aside0.mk (below_step (by repeat (first | (with_reducible first | exact HB.out | apply lA_ | apply lN_ | apply lD_ | refine below_set ?_ GE308.out | refine below_set ?_ GE312.out | refine below_set ?_ GE316.out | refine below_set ?_ GE320.out | refine below_set ?_ GE324.out) | exact HB.out)) hb); clear HO327; clear HO330; clear BK308; clear BK312; clear BK316; clear BK320; clear BK324; clear HB; have HO327 := n0_; have HO330 := n1_; have BK308 := n2_; have BK312 := n3_; have BK316 := n4_; have BK320 := n5_; have BK324 := n6_; have HB := n7_; clear n0_ n1_ n2_ n3_ n4_ n5_ n6_ n7_; (try clear hb)))
       go_meet
       case rel => exact ⟨_, (true), (by first | rfl | (simp; done) | (simp [*]; done)), H', ⟨by first | omega | exact Nat.le_refl _⟩, ⟨by (with_reducible repeat (first | apply rA_ | apply rN_ | apply rD_)); exact Kd.R_mono HO330.out (fun _ hk => ⟨hk.1.1.1.1.2, ⟨hk.1.1.1.2, hk.1.2⟩⟩)⟩, ⟨by (with_reducible repeat (first | apply kN_ | apply kD_ | apply kA_)); exact BK308.out⟩, ⟨by (with_reducible repeat (first | apply kN_ | apply kD_ | apply kA_)); exact BK312.out⟩, ⟨by (with_reducible repeat (first | apply kN_ | apply kD_ | apply kA_)); exact BK320.out⟩, ⟨by repeat (first | (with_reducible first | exact HB.out | apply lA_ | apply lN_ | apply lD_ | refine below_set ?_ GE308.out | refine below_set ?_ GE312.out | refine below_set ?_ GE316.out | refine below_set ?_ GE320.out | refine below_set ?_ GE324.out) | exact HB.out)⟩⟩
     rw [if_neg c82] at H
     have c82b0 : (t311 != t332) = false := by simpa using c82
     (try (have c82b1 : decide (t311 = t332) = true := by simpa using c82))
     (try (have c82b2 : (t311 == t332) = true := by simpa using c82))
     clear c82
     as_aux_lemma =>
      by_cases c101 : (t319 != t311) = true
      rotate_left
      ·rw [if_neg c101] at H
       have c101b0 : (t319 != t311) = false := by simpa using c101
       (try (have c101b1 : decide (t319 = t311) = true := by simpa using c101))
       (try (have c101b2 : (t319 == t311) = true := by simpa using c101))
       clear c101
       as_aux_lemma =>
        have H' := Aside0.mk H
        clear H
        have hnb120 := NB312_308.out
        have hnc120 := NB308_312.out
        have hnb121 := NB312_316.out
        have hnc121 := NB316_312.out
        have hnb122 := NB312_320.out
        have hnc122 := NB320_312.out
        have hnb123 := NB312_324.out
        have hnc123 := NB324_312.out
        have hcz124_0 : w42.cell? ⟨gb312, 0, none⟩ = some (.int .i64 t309) := (blk_cell BK312.out 0).trans rfl
        have hcz124_1 : w42.cell? ⟨gb312, 1, none⟩ = some (.int .i64 t310) := (blk_cell BK312.out 1).trans rfl
        have hfz124_0 := blk_frozen BK312.out 0
        have hfz124_1 := blk_frozen BK312.out 1
        have hnb125 := NB316_308.out
        have hnc125 := NB308_316.out
        have hnb126 := NB316_320.out
        have hnc126 := NB320_316.out
        have hnb127 := NB316_324.out
        have hnc127 := NB324_316.out
        have hcz128_0 : w42.cell? ⟨gb316, 0, none⟩ = some (.int .i64 t313) := (blk_cell BK316.out 0).trans rfl
        have hcz128_1 : w42.cell? ⟨gb316, 1, none⟩ = some (.int .i64 t314) := (blk_cell BK316.out 1).trans rfl
        have hfz128_0 := blk_frozen BK316.out 0
        have hfz128_1 := blk_frozen BK316.out 1
        have hnb129 := NB320_308.out
        have hnc129 := NB308_320.out
        have hnb130 := NB320_324.out
        have hnc130 := NB324_320.out
        have hcz131_0 : w42.cell? ⟨gb320, 0, none⟩ = some (.int .i64 t317) := (blk_cell BK320.out 0).trans rfl
        have hcz131_1 : w42.cell? ⟨gb320, 1, none⟩ = some (.int .i64 t318) := (blk_cell BK320.out 1).trans rfl
        have hfz131_0 := blk_frozen BK320.out 0
        have hfz131_1 := blk_frozen BK320.out 1
        have hnb132 := NB324_308.out
        have hnc132 := NB308_324.out
        have hcz133_0 : w42.cell? ⟨gb324, 0, none⟩ = some (.int .i64 t321) := (blk_cell BK324.out 0).trans rfl
        have hcz133_1 : w42.cell? ⟨gb324, 1, none⟩ = some (.int .i64 t322) := (blk_cell BK324.out 1).trans rfl
        have hfz133_0 := blk_frozen BK324.out 0
        have hfz133_1 := blk_frozen BK324.out 1
        obtain ⟨Ao134, co134, eo134⟩ := Kd.R_slice HO327.out
        subst eo134
        obtain ⟨Ao135, co135, eo135⟩ := Kd.R_slice HO330.out
        subst eo135
        go_wp2_with (first | (go_at_call 31; (with_reducible refine (laws_pSameOrients.calls k _ _ t325 _ _ t328 true _ ?side1 ?side2 ?side3 ?side4 A79.out).mono ?_); (case side1 => repeat (first | exact (Kd.R_reads' HO327.out).2.2 | (with_reducible first | apply cA_ | apply cN_ | apply cD_))); (case side2 => exact (Kd.R_reads' HO327.out).2.1); (case side3 => repeat (first | exact (Kd.R_reads' HO330.out).2.2 | (with_reducible first | apply cA_ | apply cN_ | apply cD_))); (case side4 => exact (Kd.R_reads' HO330.out).2.1); rintro e w' ⟨rfl, ⟨nd, rfl⟩⟩; have hcz136_0 : w42.cell? ⟨gb308, 0, none⟩ = some (.int .i64 t306) := (blk_cell BK308.out 0).trans rfl; have hcz136_1 : w42.cell? ⟨gb308, 1, none⟩ = some (.int .i64 t307) := (blk_cell BK308.out 1).trans rfl; have hfz136_0 := blk_frozen BK308.out 0; have hfz136_1 := blk_frozen BK308.out 1) | (go_at_call 32; (with_reducible refine (impl_IsOrient.calls t306 t307 t332 _ A81.out).mono ?_); rintro e w137 ⟨rfl, hb⟩; have n0_ := Aside0.mk (Kd.R_below (by (with_reducible repeat (first | apply rA_ | apply rN_ | apply rD_)); exact HO327.out) hb); have n1_ := Aside0.mk (Kd.R_below (by (with_reducible repeat (first | apply rA_ | apply rN_ | apply rD_)); exact HO330.out) hb); have n2_ := Aside0.mk (blk_below (g := gb308) (o := .cells #[.int .i64 t306, .int .i64 t307] 39 (0, 0)) (by (with_reducible repeat (first | apply kN_ | apply kD_ | apply kA_)); exact BK308.out) hb); have n3_ := Aside0.mk (blk_below (g := gb312) (o := .cells #[.int .i64 t309, .int .i64 t310] 39 (0, 0)) (by (with_reducible repeat (first | apply kN_ | apply kD_ | apply kA_)); exact BK312.out) hb); have n4_ := Aside0.mk (blk_below (g := gb316) (o := .cells #[.int .i64 t313, .int .i64 t314] 39 (0, 0)) (by (with_reducible repeat (first | apply kN_ | apply kD_ | apply kA_)); exact BK316.out) hb); have n5_ := Aside0.mk (blk_below (g := gb320) (o := .cells #[.int .i64 t317, .int .i64 t318] 39 (0, 0)) (by (with_reducible repeat (first | apply kN_ | apply kD_ | apply kA_)); exact BK320.out) hb); have n6_ := Aside0.mk (blk_below (g := gb324) (o := .cells #[.int .i64 t321, .int .i64 t322] 39 (0, 0)) (by (with_reducible repeat (first | apply kN_ | apply kD_ | apply kA_)); exact BK324.out) hb); have n7_ := Aside0.mk (below_step (by repeat (first | (with_reducible first | exact HB.out | apply lA_ | apply lN_ | apply lD_ | refine below_set ?_ GE308.out | refine below_set ?_ GE312.out | refine below_set ?_ GE316.out | refine below_set ?_ GE320.out | refine below_set ?_ GE324.out) | exact HB.out)) hb); clear HO327; clear HO330; clear BK308; clear BK312; clear BK316; clear BK320; clear BK324; clear HB; have HO327 := n0_; have HO330 := n1_; have BK308 := n2_; have BK312 := n3_; have BK316 := n4_; have BK320 := n5_; have BK324 := n6_; have HB := n7_; clear n0_ n1_ n2_ n3_ n4_ n5_ n6_ n7_; (try clear hb)))
        go_meet
        case rel => exact ⟨_, (((t328.length : Int) != 24)), (by first | rfl | (simp; done) | (simp [*]; done)), H', ⟨by first | omega | exact Nat.le_refl _⟩, ⟨by (with_reducible repeat (first | apply rA_ | apply rN_ | apply rD_)); exact Kd.R_mono HO330.out (fun _ hk => ⟨hk.1.1.1.1.2, ⟨hk.1.1.1.2, hk.1.2⟩⟩)⟩, ⟨by (with_reducible repeat (first | apply kN_ | apply kD_ | apply kA_)); exact BK308.out⟩, ⟨by (with_reducible repeat (first | apply kN_ | apply kD_ | apply kA_)); exact BK312.out⟩, ⟨by (with_reducible repeat (first | apply kN_ | apply kD_ | apply kA_)); exact BK320.out⟩, ⟨by repeat (first | (with_reducible first | exact HB.out | apply lA_ | apply lN_ | apply lD_ | refine below_set ?_ GE308.out | refine below_set ?_ GE312.out | refine below_set ?_ GE316.out | refine below_set ?_ GE320.out | refine below_set ?_ GE324.out) | exact HB.out)⟩⟩
      rw [if_pos c101] at H
      have c101b0 : (t319 != t311) = true := c101
      (try (have c101b1 : decide (t319 = t311) = false := by simpa using c101))
      (try (have c101b2 : (t319 == t311) = false := by simpa using c101))
      (try (have c101b3 : ¬ (t319 = t311) := by simpa using c101))
      clear c101
      as_aux_lemma =>
       have H' := Aside0.mk H
       clear H
       have hnb102 := NB312_308.out
       have hnc102 := NB308_312.out
       have hnb103 := NB312_316.out
       have hnc103 := NB316_312.out
       have hnb104 := NB312_320.out
       have hnc104 := NB320_312.out
       have hnb105 := NB312_324.out
       have hnc105 := NB324_312.out
       have hcz106_0 : w42.cell? ⟨gb312, 0, none⟩ = some (.int .i64 t309) := (blk_cell BK312.out 0).trans rfl
       have hcz106_1 : w42.cell? ⟨gb312, 1, none⟩ = some (.int .i64 t310) := (blk_cell BK312.out 1).trans rfl
       have hfz106_0 := blk_frozen BK312.out 0
       have hfz106_1 := blk_frozen BK312.out 1
       have hnb107 := NB316_308.out
       have hnc107 := NB308_316.out
       have hnb108 := NB316_320.out
       have hnc108 := NB320_316.out
       have hnb109 := NB316_324.out
       have hnc109 := NB324_316.out
       have hcz110_0 : w42.cell? ⟨gb316, 0, none⟩ = some (.int .i64 t313) := (blk_cell BK316.out 0).trans rfl
       have hcz110_1 : w42.cell? ⟨gb316, 1, none⟩ = some (.int .i64 t314) := (blk_cell BK316.out 1).trans rfl
       have hfz110_0 := blk_frozen BK316.out 0
       have hfz110_1 := blk_frozen BK316.out 1
       have hnb111 := NB320_308.out
       have hnc111 := NB308_320.out
       have hnb112 := NB320_324.out
       have hnc112 := NB324_320.out
       have hcz113_0 : w42.cell? ⟨gb320, 0, none⟩ = some (.int .i64 t317) := (blk_cell BK320.out 0).trans rfl
       have hcz113_1 : w42.cell? ⟨gb320, 1, none⟩ = some (.int .i64 t318) := (blk_cell BK320.out 1).trans rfl
       have hfz113_0 := blk_frozen BK320.out 0
       have hfz113_1 := blk_frozen BK320.out 1
       have hnb114 := NB324_308.out
       have hnc114 := NB308_324.out
       have hcz115_0 : w42.cell? ⟨gb324, 0, none⟩ = some (.int .i64 t321) := (blk_cell BK324.out 0).trans rfl
       have hcz115_1 : w42.cell? ⟨gb324, 1, none⟩ = some (.int .i64 t322) := (blk_cell BK324.out 1).trans rfl
       have hfz115_0 := blk_frozen BK324.out 0
       have hfz115_1 := blk_frozen BK324.out 1
       obtain ⟨Ao116, co116, eo116⟩ := Kd.R_slice HO327.out
       subst eo116
       obtain ⟨Ao117, co117, eo117⟩ := Kd.R_slice HO330.out
       subst eo117
       go_wp2_with (first | (go_at_call 31; (with_reducible refine (laws_pSameOrients.calls k _ _ t325 _ _ t328 true _ ?side1 ?side2 ?side3 ?side4 A79.out).mono ?_); (case side1 => repeat (first | exact (Kd.R_reads' HO327.out).2.2 | (with_reducible first | apply cA_ | apply cN_ | apply cD_))); (case side2 => exact (Kd.R_reads' HO327.out).2.1); (case side3 => repeat (first | exact (Kd.R_reads' HO330.out).2.2 | (with_reducible first | apply cA_ | apply cN_ | apply cD_))); (case side4 => exact (Kd.R_reads' HO330.out).2.1); rintro e w' ⟨rfl, ⟨nd, rfl⟩⟩; have hcz118_0 : w42.cell? ⟨gb308, 0, none⟩ = some (.int .i64 t306) := (blk_cell BK308.out 0).trans rfl; have hcz118_1 : w42.cell? ⟨gb308, 1, none⟩ = some (.int .i64 t307) := (blk_cell BK308.out 1).trans rfl; have hfz118_0 := blk_frozen BK308.out 0; have hfz118_1 := blk_frozen BK308.out 1) | (go_at_call 32; (with_reducible refine (impl_IsOrient.calls t306 t307 t332 _ A81.out).mono ?_); rintro e w119 ⟨rfl, hb⟩; have n0_ := Aside0.mk (Kd.R_below (by (with_reducible repeat (first | apply rA_ | apply rN_ | apply rD_)); exact HO327.out) hb); have n1_ := Aside0.mk (Kd.R_below (by (with_reducible repeat (first | apply rA_ | apply rN_ | apply rD_)); exact HO330.out) hb); have n2_ := Aside0.mk (blk_below (g := gb308) (o := .cells #[.int .i64 t306, .int .i64 t307] 39 (0, 0)) (by (with_reducible repeat (first | apply kN_ | apply kD_ | apply kA_)); exact BK308.out) hb); have n3_ := Aside0.mk (blk_below (g := gb312) (o := .cells #[.int .i64 t309, .int .i64 t310] 39 (0, 0)) (by (with_reducible repeat (first | apply kN_ | apply kD_ | apply kA_)); exact BK312.out) hb); have n4_ := Aside0.mk (blk_below (g := gb316) (o := .cells #[.int .i64 t313, .int .i64 t314] 39 (0, 0)) (by (with_reducible repeat (first | apply kN_ | apply kD_ | apply kA_)); exact BK316.out) hb); have n5_ := Aside0.mk (blk_below (g := gb320) (o := .cells #[.int .i64 t317, .int .i64 t318] 39 (0, 0)) (by (with_reducible repeat (first | apply kN_ | apply kD_ | apply kA_)); exact BK320.out) hb); have n6_ := Aside0.mk (blk_below (g := gb324) (o := .cells #[.int .i64 t321, .int .i64 t322] 39 (0, 0)) (by (with_reducible repeat (first | apply kN_ | apply kD_ | apply kA_)); exact BK324.out) hb); have n7_ := Aside0.mk (below_step (by repeat (first | (with_reducible first | exact HB.out | apply lA_ | apply lN_ | apply lD_ | refine below_set ?_ GE308.out | refine below_set ?_ GE312.out | refine below_set ?_ GE316.out | refine below_set ?_ GE320.out | refine below_set ?_ GE324.out) | exact HB.out)) hb); clear HO327; clear HO330; clear BK308; clear BK312; clear BK316; clear BK320; clear BK324; clear HB; have HO327 := n0_; have HO330 := n1_; have BK308 := n2_; have BK312 := n3_; have BK316 := n4_; have BK320 := n5_; have BK324 := n6_; have HB := n7_; clear n0_ n1_ n2_ n3_ n4_ n5_ n6_ n7_; (try clear hb)))
       go_meet
       case rel => exact ⟨_, (true), (by first | rfl | (simp; done) | (simp [*]; done)), H', ⟨by first | omega | exact Nat.le_refl _⟩, ⟨by (with_reducible repeat (first | apply rA_ | apply rN_ | apply rD_)); exact Kd.R_mono HO330.out (fun _ hk => ⟨hk.1.1.1.1.2, ⟨hk.1.1.1.2, hk.1.2⟩⟩)⟩, ⟨by (with_reducible repeat (first | apply kN_ | apply kD_ | apply kA_)); exact BK308.out⟩, ⟨by (with_reducible repeat (first | apply kN_ | apply kD_ | apply kA_)); exact BK312.out⟩, ⟨by (with_reducible repeat (first | apply kN_ | apply kD_ | apply kA_)); exact BK320.out⟩, ⟨by repeat (first | (with_reducible first | exact HB.out | apply lA_ | apply lN_ | apply lD_ | refine below_set ?_ GE308.out | refine below_set ?_ GE312.out | refine below_set ?_ GE316.out | refine below_set ?_ GE320.out | refine below_set ?_ GE324.out) | exact HB.out)⟩⟩
 case rest =>
  as_aux_lemma =>
   clear HC12
   (try clear c1);(try clear c4);(try clear hcz15_0);(try clear hcz15_1);(try clear hcz19_0);(try clear hcz19_1);(try clear hcz20_0);(try clear hcz20_1);(try clear hcz25_0);(try clear hcz25_1);(try clear hcz26_0);(try clear hcz26_1);(try clear hcz32_0);(try clear hcz32_1);(try clear hcz33_0);(try clear hcz33_1);(try clear hcz40_0);(try clear hcz40_1);(try clear hfz15_0);(try clear hfz15_1);(try clear hfz19_0);(try clear hfz19_1);(try clear hfz20_0);(try clear hfz20_1);(try clear hfz25_0);(try clear hfz25_1);(try clear hfz26_0);(try clear hfz26_1);(try clear hfz32_0);(try clear hfz32_1);(try clear hfz33_0);(try clear hfz33_1);(try clear hfz40_0);(try clear hfz40_1)
   obtain ⟨kq, x118_11, rfl, HA, HJ11, HO_15, BK308, BK312, BK320, HB⟩ := hcut
   cases kq with
   | zero => exact absurd HA.out (by simp [laws_FnOrients.j0])
   | succ kj11 =>
    as_aux_lemma =>
     have H := HA.out
     clear HA
     simp only [laws_FnOrients.j0] at H
     by_cases c154 : x118_11 = true
     ·subst c154
      have H1 : (some false) = some r := by rw [if_pos rfl] at H; exact H
      clear H
      have H := H1
      clear H1
      as_aux_lemma =>
       obtain rfl := Option.some.inj H
       go_wp2
       go_ret
       exact ⟨by first | rfl | (simp [errW_none, errW_some] <;> rfl) | (simp [*, errW_none, errW_some] <;> rfl) | (simp [errW_none, errW_some, show ∀ l_ : List UInt8, (l_ != []) = !l_.isEmpty from fun l_ => by cases l_ <;> rfl]; done), by repeat (first | (with_reducible first | exact HB.out | apply lA_ | apply lN_ | apply lD_ | refine below_set ?_ GE308.out | refine below_set ?_ GE312.out | refine below_set ?_ GE320.out) | exact HB.out)⟩
     replace c154 := Bool.eq_false_iff.mpr c154
     subst c154
     have H1 : (if t311 = true then ((impl_MirrorOrient.f t309 t310).bind fun bt333 => ((impl_SeenOrient.f t317 t318).bind fun bt337 => (laws_FnOrients.l0 kj11 l1 bt333.2.2 bt337.2.2 false t328 (t328.length : Int) 0 t306 t307 t309 t310 t317 t318 bt333.1 bt333.2.1 bt337.1 bt337.2.1))) else (laws_FnOrients.j2 kj11 l1)) = some r := by rw [if_neg (show ¬ (false = true) by decide)] at H; exact H
     clear H
     have H := H1
     clear H1
     have HC155 := Aside0.mk H
     clear H
     go_upto_if 119 with (fail)
     go_cut [] (fun wc => ∃ (kq : Nat), Aside0 (laws_FnOrients.j2 kq l1 = some r) ∧ Aside0 (kq ≤ kj11) ∧ Aside0 (Below w.heap.size w wc))
     case first =>
      as_aux_lemma =>
       have H := HC155.out
       clear HC155
       by_cases c156 : t311 = true
       rotate_left
       ·replace c156 := Bool.eq_false_iff.mpr c156
        subst c156
        have H1 : (laws_FnOrients.j2 kj11 l1) = some r := by rw [if_neg (show ¬ (false = true) by decide)] at H; exact H
        clear H
        have H := H1
        clear H1
        as_aux_lemma =>
         have H' := Aside0.mk H
         clear H
         go_wp2
         go_meet
         case rel => exact ⟨_, H', ⟨by have := HJ11.out; first | omega | exact Nat.le_refl _⟩, ⟨by repeat (first | (with_reducible first | exact HB.out | apply lA_ | apply lN_ | apply lD_ | refine below_set ?_ GE308.out | refine below_set ?_ GE312.out | refine below_set ?_ GE320.out) | exact HB.out)⟩⟩
       subst c156
       have H1 : ((impl_MirrorOrient.f t309 t310).bind fun bt333 => ((impl_SeenOrient.f t317 t318).bind fun bt337 => (laws_FnOrients.l0 kj11 l1 bt333.2.2 bt337.2.2 false t328 (t328.length : Int) 0 t306 t307 t309 t310 t317 t318 bt333.1 bt333.2.1 bt337.1 bt337.2.1))) = some r := by rw [if_pos rfl] at H; exact H
       clear H
       have H := H1
       clear H1
       replace H := Option.bind_eq_some_iff.mp H
       obtain ⟨⟨t333, t334, t335⟩, A1570, H⟩ := H
       (try dsimp only at H)
       have A157 := Aside0.mk A1570
       clear A1570
       replace H := Option.bind_eq_some_iff.mp H
       obtain ⟨⟨t337, t338, t339⟩, A1580, H⟩ := H
       (try dsimp only at H)
       have A158 := Aside0.mk A1580
       clear A1580
       have H' := Aside0.mk H
       clear H
       have hnb159 := NB312_308.out
       have hnc159 := NB308_312.out
       have hnb160 := NB312_320.out
       have hnc160 := NB320_312.out
       have hcz161_0 : wc.cell? ⟨gb312, 0, none⟩ = some (.int .i64 t309) := (blk_cell BK312.out 0).trans rfl
       have hcz161_1 : wc.cell? ⟨gb312, 1, none⟩ = some (.int .i64 t310) := (blk_cell BK312.out 1).trans rfl
       have hfz161_0 := blk_frozen BK312.out 0
       have hfz161_1 := blk_frozen BK312.out 1
       go_wp2_with (first | ((with_reducible refine gate_callee (f := 25) rfl ?_); refine goesL_ (some 122) rfl rfl Try.func25 (by kernel_rfl) rfl #[.agg #[.int .i64 t309, .int .i64 t310]] rfl (by (try simp only [List.map_toArray, List.map_cons, List.map_nil]); first | done | rfl) ?_; (with_reducible refine (impl_MirrorOrient.calls t309 t310 t333 t334 t335 _ A157.out).mono ?_); rintro e w162 ⟨rfl, hb⟩; refine ⟨_, rfl, ?_⟩; have n0_ := Aside0.mk (Kd.R_below (by (with_reducible repeat (first | apply rA_ | apply rN_ | apply rD_)); exact HO_15.out) hb); have n1_ := Aside0.mk (blk_below (g := gb308) (o := .cells #[.int .i64 t306, .int .i64 t307] 39 (0, 0)) (by (with_reducible repeat (first | apply kN_ | apply kD_ | apply kA_)); exact BK308.out) hb); have n2_ := Aside0.mk (blk_below (g := gb312) (o := .cells #[.int .i64 t309, .int .i64 t310] 39 (0, 0)) (by (with_reducible repeat (first | apply kN_ | apply kD_ | apply kA_)); exact BK312.out) hb); have n3_ := Aside0.mk (blk_below (g := gb320) (o := .cells #[.int .i64 t317, .int .i64 t318] 39 (0, 0)) (by (with_reducible repeat (first | apply kN_ | apply kD_ | apply kA_)); exact BK320.out) hb); have n4_ := Aside0.mk (below_step (by repeat (first | (with_reducible first | exact HB.out | apply lA_ | apply lN_ | apply lD_ | refine below_set ?_ GE308.out | refine below_set ?_ GE312.out | refine below_set ?_ GE320.out) | exact HB.out)) hb); clear HO_15; clear BK308; clear BK312; clear BK320; clear HB; have HO_15 := n0_; have BK308 := n1_; have BK312 := n2_; have BK320 := n3_; have HB := n4_; clear n0_ n1_ n2_ n3_ n4_; (try clear hb); (try clear hk)) | ((with_reducible refine gate_dst (N := 16) rfl ?_); (try (refine gate_guard (by rfl) ?_; dsimp only)); refine box_event ?hg (N := 16) ?hd (cs := #[.int .i64 0, .int .i64 0]) (t := 39) ?hr ?_; (case hd => rfl); (case hg => rfl); (case hr => first | (go_simp; done) | (go_simp; rfl)); intro gb336 hg w163 hbox hb; have n0_ := Aside0.mk (Kd.R_below (Kd.R_elderB (by (with_reducible repeat (first | apply rA_ | apply rN_ | apply rD_)); exact HO_15.out) gb336 (Nat.le_of_eq hg.symm)) hb); have n1_ := Aside0.mk (blk_below (g := gb308) (o := .cells #[.int .i64 t306, .int .i64 t307] 39 (0, 0)) (by (with_reducible repeat (first | apply kN_ | apply kD_ | apply kA_)); exact BK308.out) hb); have n2_ := Aside0.mk (blk_below (g := gb312) (o := .cells #[.int .i64 t309, .int .i64 t310] 39 (0, 0)) (by (with_reducible repeat (first | apply kN_ | apply kD_ | apply kA_)); exact BK312.out) hb); have n3_ := Aside0.mk (blk_below (g := gb320) (o := .cells #[.int .i64 t317, .int .i64 t318] 39 (0, 0)) (by (with_reducible repeat (first | apply kN_ | apply kD_ | apply kA_)); exact BK320.out) hb); have n4_ := Aside0.mk (below_step (by repeat (first | (with_reducible first | exact HB.out | apply lA_ | apply lN_ | apply lD_ | refine below_set ?_ GE308.out | refine below_set ?_ GE312.out | refine below_set ?_ GE320.out) | exact HB.out)) hb); have n5_ := Aside0.mk (hbox); have n6_ := Aside0.mk ((by rw [hg]; exact (below_size (by repeat (first | (with_reducible first | exact HB.out | apply lA_ | apply lN_ | apply lD_ | refine below_set ?_ GE308.out | refine below_set ?_ GE312.out | refine below_set ?_ GE320.out) | exact HB.out))) : w.heap.size ≤ gb336)); have n7_ := n6_; have n8_ := Aside0.mk ((by rw [hg]; exact Nat.ne_of_lt (blk_lt (g := gb308) (o := .cells #[.int .i64 t306, .int .i64 t307] 39 (0, 0)) (by (with_reducible repeat (first | apply kN_ | apply kD_ | apply kA_)); exact BK308.out)) : gb308 ≠ gb336)); have n9_ := Aside0.mk ((by rw [hg]; exact Nat.ne_of_gt (blk_lt (g := gb308) (o := .cells #[.int .i64 t306, .int .i64 t307] 39 (0, 0)) (by (with_reducible repeat (first | apply kN_ | apply kD_ | apply kA_)); exact BK308.out)) : gb336 ≠ gb308)); have n10_ := Aside0.mk ((by rw [hg]; exact Nat.ne_of_lt (blk_lt (g := gb312) (o := .cells #[.int .i64 t309, .int .i64 t310] 39 (0, 0)) (by (with_reducible repeat (first | apply kN_ | apply kD_ | apply kA_)); exact BK312.out)) : gb312 ≠ gb336)); have n11_ := Aside0.mk ((by rw [hg]; exact Nat.ne_of_gt (blk_lt (g := gb312) (o := .cells #[.int .i64 t309, .int .i64 t310] 39 (0, 0)) (by (with_reducible repeat (first | apply kN_ | apply kD_ | apply kA_)); exact BK312.out)) : gb336 ≠ gb312)); have n12_ := Aside0.mk ((by rw [hg]; exact Nat.ne_of_lt (blk_lt (g := gb320) (o := .cells #[.int .i64 t317, .int .i64 t318] 39 (0, 0)) (by (with_reducible repeat (first | apply kN_ | apply kD_ | apply kA_)); exact BK320.out)) : gb320 ≠ gb336)); have n13_ := Aside0.mk ((by rw [hg]; exact Nat.ne_of_gt (blk_lt (g := gb320) (o := .cells #[.int .i64 t317, .int .i64 t318] 39 (0, 0)) (by (with_reducible repeat (first | apply kN_ | apply kD_ | apply kA_)); exact BK320.out)) : gb336 ≠ gb320)); clear HO_15; clear BK308; clear BK312; clear BK320; clear HB; have HO_15 := n0_; have BK308 := n1_; have BK312 := n2_; have BK320 := n3_; have HB := n4_; have BK336 := n5_; have GW336 := n6_; have GE336 := n7_; have NB308_336 := n8_; have NB336_308 := n9_; have NB312_336 := n10_; have NB336_312 := n11_; have NB320_336 := n12_; have NB336_320 := n13_; clear n0_ n1_ n2_ n3_ n4_ n5_ n6_ n7_ n8_ n9_ n10_ n11_ n12_ n13_; clear hb hbox hg; have hnb164 := NB336_308.out; have hnc164 := NB308_336.out; have hnb165 := NB336_312.out; have hnc165 := NB312_336.out; have hnb166 := NB336_320.out; have hnc166 := NB320_336.out; have hcz167_0 : w163.cell? ⟨gb336, 0, none⟩ = some (.int .i64 0) := (blk_cell BK336.out 0).trans rfl; have hcz167_1 : w163.cell? ⟨gb336, 1, none⟩ = some (.int .i64 0) := (blk_cell BK336.out 1).trans rfl; have hfz167_0 := blk_frozen BK336.out 0; have hfz167_1 := blk_frozen BK336.out 1; have hnb168 := NB320_308.out; have hnc168 := NB308_320.out; have hcz169_0 : w163.cell? ⟨gb320, 0, none⟩ = some (.int .i64 t317) := (blk_cell BK320.out 0).trans rfl; have hcz169_1 : w163.cell? ⟨gb320, 1, none⟩ = some (.int .i64 t318) := (blk_cell BK320.out 1).trans rfl; have hfz169_0 := blk_frozen BK320.out 0; have hfz169_1 := blk_frozen BK320.out 1) | ((with_reducible refine gate_callee (f := 27) rfl ?_); refine goesL_ (some 127) rfl rfl Try.func27 (by kernel_rfl) rfl #[.agg #[.int .i64 t317, .int .i64 t318]] rfl (by (try simp only [List.map_toArray, List.map_cons, List.map_nil]); first | done | rfl) ?_; (with_reducible refine (impl_SeenOrient.calls t317 t318 t337 t338 t339 _ A158.out).mono ?_); rintro e w170 ⟨rfl, hb⟩; refine ⟨_, rfl, ?_⟩; have n0_ := Aside0.mk (Kd.R_below (by (with_reducible repeat (first | apply rA_ | apply rN_ | apply rD_)); exact (Kd.R_mono (Kd.R_far (p := ⟨gb336, 1, none⟩) (Kd.R_far (p := ⟨gb336, 0, none⟩) (Kd.R_mono HO_15.out (fun k_ hk => (⟨hk, hk.2⟩ : _ ∧ k_ ≠ gb336))) (fun _ hk => hk.2) (.int .i64 t333)) (fun _ hk => hk.2) (.int .i64 t334)) (fun _ h_ => h_.1))) hb); have n1_ := Aside0.mk (blk_below (g := gb308) (o := .cells #[.int .i64 t306, .int .i64 t307] 39 (0, 0)) (by (with_reducible repeat (first | apply kN_ | apply kD_ | apply kA_)); refine blk_far ?_ NB308_336.out _; (with_reducible repeat (first | apply kN_ | apply kD_ | apply kA_)); refine blk_far ?_ NB308_336.out _; (with_reducible repeat (first | apply kN_ | apply kD_ | apply kA_)); exact BK308.out) hb); have n2_ := Aside0.mk (blk_below (g := gb312) (o := .cells #[.int .i64 t309, .int .i64 t310] 39 (0, 0)) (by (with_reducible repeat (first | apply kN_ | apply kD_ | apply kA_)); refine blk_far ?_ NB312_336.out _; (with_reducible repeat (first | apply kN_ | apply kD_ | apply kA_)); refine blk_far ?_ NB312_336.out _; (with_reducible repeat (first | apply kN_ | apply kD_ | apply kA_)); exact BK312.out) hb); have n3_ := Aside0.mk (blk_below (g := gb320) (o := .cells #[.int .i64 t317, .int .i64 t318] 39 (0, 0)) (by (with_reducible repeat (first | apply kN_ | apply kD_ | apply kA_)); refine blk_far ?_ NB320_336.out _; (with_reducible repeat (first | apply kN_ | apply kD_ | apply kA_)); refine blk_far ?_ NB320_336.out _; (with_reducible repeat (first | apply kN_ | apply kD_ | apply kA_)); exact BK320.out) hb); have n4_ := Aside0.mk (blk_below (g := gb336) (o := .cells #[.int .i64 t333, .int .i64 t334] 39 (0, 0)) (by (with_reducible repeat (first | apply kN_ | apply kD_ | apply kA_)); refine blk_put (cs := #[.int .i64 t333, .int .i64 0]) ?_ 1 _ rfl; (with_reducible repeat (first | apply kN_ | apply kD_ | apply kA_)); refine blk_put (cs := #[.int .i64 0, .int .i64 0]) ?_ 0 _ rfl; (with_reducible repeat (first | apply kN_ | apply kD_ | apply kA_)); exact BK336.out) hb); have n5_ := Aside0.mk (below_step (by repeat (first | (with_reducible first | exact HB.out | apply lA_ | apply lN_ | apply lD_ | refine below_set ?_ GE308.out | refine below_set ?_ GE312.out | refine below_set ?_ GE320.out | refine below_set ?_ GE336.out) | exact HB.out)) hb); clear HO_15; clear BK308; clear BK312; clear BK320; clear BK336; clear HB; have HO_15 := n0_; have BK308 := n1_; have BK312 := n2_; have BK320 := n3_; have BK336 := n4_; have HB := n5_; clear n0_ n1_ n2_ n3_ n4_ n5_; (try clear hb); (try clear hk)) | ((with_reducible refine gate_dst (N := 18) rfl ?_); (try (refine gate_guard (by rfl) ?_; dsimp only)); refine box_event ?hg (N := 18) ?hd (cs := #[.int .i64 0, .int .i64 0]) (t := 39) ?hr ?_; (case hd => rfl); (case hg => rfl); (case hr => first | (go_simp; done) | (go_simp; rfl)); intro gb340 hg w171 hbox hb; have n0_ := Aside0.mk (Kd.R_below (Kd.R_elderB (by (with_reducible repeat (first | apply rA_ | apply rN_ | apply rD_)); exact HO_15.out) gb340 (Nat.le_of_eq hg.symm)) hb); have n1_ := Aside0.mk (blk_below (g := gb308) (o := .cells #[.int .i64 t306, .int .i64 t307] 39 (0, 0)) (by (with_reducible repeat (first | apply kN_ | apply kD_ | apply kA_)); exact BK308.out) hb); have n2_ := Aside0.mk (blk_below (g := gb312) (o := .cells #[.int .i64 t309, .int .i64 t310] 39 (0, 0)) (by (with_reducible repeat (first | apply kN_ | apply kD_ | apply kA_)); exact BK312.out) hb); have n3_ := Aside0.mk (blk_below (g := gb320) (o := .cells #[.int .i64 t317, .int .i64 t318] 39 (0, 0)) (by (with_reducible repeat (first | apply kN_ | apply kD_ | apply kA_)); exact BK320.out) hb); have n4_ := Aside0.mk (blk_below (g := gb336) (o := .cells #[.int .i64 t333, .int .i64 t334] 39 (0, 0)) (by (with_reducible repeat (first | apply kN_ | apply kD_ | apply kA_)); exact BK336.out) hb); have n5_ := Aside0.mk (below_step (by repeat (first | (with_reducible first | exact HB.out | apply lA_ | apply lN_ | apply lD_ | refine below_set ?_ GE308.out | refine below_set ?_ GE312.out | refine below_set ?_ GE320.out | refine below_set ?_ GE336.out) | exact HB.out)) hb); have n6_ := Aside0.mk (hbox); have n7_ := Aside0.mk ((by rw [hg]; exact (below_size (by repeat (first | (with_reducible first | exact HB.out | apply lA_ | apply lN_ | apply lD_ | refine below_set ?_ GE308.out | refine below_set ?_ GE312.out | refine below_set ?_ GE320.out | refine below_set ?_ GE336.out) | exact HB.out))) : w.heap.size ≤ gb340)); have n8_ := n7_; have n9_ := Aside0.mk ((by rw [hg]; exact Nat.ne_of_lt (blk_lt (g := gb308) (o := .cells #[.int .i64 t306, .int .i64 t307] 39 (0, 0)) (by (with_reducible repeat (first | apply kN_ | apply kD_ | apply kA_)); exact BK308.out)) : gb308 ≠ gb340)); have n10_ := Aside0.mk ((by rw [hg]; exact Nat.ne_of_gt (blk_lt (g := gb308) (o := .cells #[.int .i64 t306, .int .i64 t307] 39 (0, 0)) (by (with_reducible repeat (first | apply kN_ | apply kD_ | apply kA_)); exact BK308.out)) : gb340 ≠ gb308)); have n11_ := Aside0.mk ((by rw [hg]; exact Nat.ne_of_lt (blk_lt (g := gb312) (o := .cells #[.int .i64 t309, .int .i64 t310] 39 (0, 0)) (by (with_reducible repeat (first | apply kN_ | apply kD_ | apply kA_)); exact BK312.out)) : gb312 ≠ gb340)); have n12_ := Aside0.mk ((by rw [hg]; exact Nat.ne_of_gt (blk_lt (g := gb312) (o := .cells #[.int .i64 t309, .int .i64 t310] 39 (0, 0)) (by (with_reducible repeat (first | apply kN_ | apply kD_ | apply kA_)); exact BK312.out)) : gb340 ≠ gb312)); have n13_ := Aside0.mk ((by rw [hg]; exact Nat.ne_of_lt (blk_lt (g := gb320) (o := .cells #[.int .i64 t317, .int .i64 t318] 39 (0, 0)) (by (with_reducible repeat (first | apply kN_ | apply kD_ | apply kA_)); exact BK320.out)) : gb320 ≠ gb340)); have n14_ := Aside0.mk ((by rw [hg]; exact Nat.ne_of_gt (blk_lt (g := gb320) (o := .cells #[.int .i64 t317, .int .i64 t318] 39 (0, 0)) (by (with_reducible repeat (first | apply kN_ | apply kD_ | apply kA_)); exact BK320.out)) : gb340 ≠ gb320)); have n15_ := Aside0.mk ((by rw [hg]; exact Nat.ne_of_lt (blk_lt (g := gb336) (o := .cells #[.int .i64 t333, .int .i64 t334] 39 (0, 0)) (by (with_reducible repeat (first | apply kN_ | apply kD_ | apply kA_)); exact BK336.out)) : gb336 ≠ gb340)); have n16_ := Aside0.mk ((by rw [hg]; exact Nat.ne_of_gt (blk_lt (g := gb336) (o := .cells #[.int .i64 t333, .int .i64 t334] 39 (0, 0)) (by (with_reducible repeat (first | apply kN_ | apply kD_ | apply kA_)); exact BK336.out)) : gb340 ≠ gb336)); clear HO_15; clear BK308; clear BK312; clear BK320; clear BK336; clear HB; have HO_15 := n0_; have BK308 := n1_; have BK312 := n2_; have BK320 := n3_; have BK336 := n4_; have HB := n5_; have BK340 := n6_; have GW340 := n7_; have GE340 := n8_; have NB308_340 := n9_; have NB340_308 := n10_; have NB312_340 := n11_; have NB340_312 := n12_; have NB320_340 := n13_; have NB340_320 := n14_; have NB336_340 := n15_; have NB340_336 := n16_; clear n0_ n1_ n2_ n3_ n4_ n5_ n6_ n7_ n8_ n9_ n10_ n11_ n12_ n13_ n14_ n15_ n16_; clear hb hbox hg; have hnb172 := NB340_308.out; have hnc172 := NB308_340.out; have hnb173 := NB340_312.out; have hnc173 := NB312_340.out; have hnb174 := NB340_320.out; have hnc174 := NB320_340.out; have hnb175 := NB340_336.out; have hnc175 := NB336_340.out; have hcz176_0 : w171.cell? ⟨gb340, 0, none⟩ = some (.int .i64 0) := (blk_cell BK340.out 0).trans rfl; have hcz176_1 : w171.cell? ⟨gb340, 1, none⟩ = some (.int .i64 0) := (blk_cell BK340.out 1).trans rfl; have hfz176_0 := blk_frozen BK340.out 0; have hfz176_1 := blk_frozen BK340.out 1; obtain ⟨Ao177, co177, eo177⟩ := Kd.R_slice HO_15.out; subst eo177))
       try simp only [Act.put, List.setIfInBounds_toArray, List.set_cons_zero, List.set_cons_succ]
       go_loopg [20, 132] kj11 (fun kq v20 v132 w' => ∃ (x20_2 : Bool) (x132_2 : Int), v20 = .bool x20_2 ∧ v132 = .int .i64 x132_2 ∧ Aside0 (laws_FnOrients.l0 kq l1 t335 t339 x20_2 t328 (t328.length : Int) x132_2 t306 t307 t309 t310 t317 t318 t333 t334 t337 t338 = some r) ∧ Aside0 (kq ≤ kj11) ∧ Aside0 (Kd.R k39 39 w' w.heap.size (fun k_ => k_ ≠ gb308 ∧ k_ ≠ gb312 ∧ k_ ≠ gb320 ∧ k_ ≠ gb336 ∧ k_ ≠ gb340) (.slice Ao177 t328.length co177) t328) ∧ Aside0 (w'.heap[gb308]? = some (.cells #[.int .i64 t306, .int .i64 t307] 39 (0, 0))) ∧ Aside0 (w'.heap[gb312]? = some (.cells #[.int .i64 t309, .int .i64 t310] 39 (0, 0))) ∧ Aside0 (w'.heap[gb320]? = some (.cells #[.int .i64 t317, .int .i64 t318] 39 (0, 0))) ∧ Aside0 (w'.heap[gb336]? = some (.cells #[.int .i64 t333, .int .i64 t334] 39 (0, 0))) ∧ Aside0 (w'.heap[gb340]? = some (.cells #[.int .i64 t337, .int .i64 t338] 39 (0, 0))) ∧ Aside0 (Below w.heap.size w w'))
       case atStart => exact ⟨(false), (0), (by first | rfl | (simp; done) | (simp [*]; done)), (by first | rfl | (simp; done) | (simp [*]; done)), H', ⟨Nat.le_refl _⟩, ⟨by (with_reducible repeat (first | apply rA_ | apply rN_ | apply rD_)); exact Kd.R_mono (Kd.R_far (p := ⟨gb340, 1, none⟩) (Kd.R_far (p := ⟨gb340, 0, none⟩) (Kd.R_mono HO_15.out (fun k_ hk => (⟨hk, hk.2⟩ : _ ∧ k_ ≠ gb340))) (fun _ hk => hk.2) (.int .i64 t337)) (fun _ hk => hk.2) (.int .i64 t338)) (fun _ hk => ⟨hk.1.1.1.1, ⟨hk.1.1.1.2.1, ⟨hk.1.1.1.2.2, ⟨hk.1.1.2, hk.1.2⟩⟩⟩⟩)⟩, ⟨by (with_reducible repeat (first | apply kN_ | apply kD_ | apply kA_)); refine blk_far ?_ NB308_340.out _; (with_reducible repeat (first | apply kN_ | apply kD_ | apply kA_)); refine blk_far ?_ NB308_340.out _; (with_reducible repeat (first | apply kN_ | apply kD_ | apply kA_)); exact BK308.out⟩, ⟨by (with_reducible repeat (first | apply kN_ | apply kD_ | apply kA_)); refine blk_far ?_ NB312_340.out _; (with_reducible repeat (first | apply kN_ | apply kD_ | apply kA_)); refine blk_far ?_ NB312_340.out _; (with_reducible repeat (first | apply kN_ | apply kD_ | apply kA_)); exact BK312.out⟩, ⟨by (with_reducible repeat (first | apply kN_ | apply kD_ | apply kA_)); refine blk_far ?_ NB320_340.out _; (with_reducible repeat (first | apply kN_ | apply kD_ | apply kA_)); refine blk_far ?_ NB320_340.out _; (with_reducible repeat (first | apply kN_ | apply kD_ | apply kA_)); exact BK320.out⟩, ⟨by (with_reducible repeat (first | apply kN_ | apply kD_ | apply kA_)); refine blk_far ?_ NB336_340.out _; (with_reducible repeat (first | apply kN_ | apply kD_ | apply kA_)); refine blk_far ?_ NB336_340.out _; (with_reducible repeat (first | apply kN_ | apply kD_ | apply kA_)); exact BK336.out⟩, ⟨by (with_reducible repeat (first | apply kN_ | apply kD_ | apply kA_)); refine blk_put (cs := #[.int .i64 t337, .int .i64 0]) ?_ 1 _ rfl; (with_reducible repeat (first | apply kN_ | apply kD_ | apply kA_)); refine blk_put (cs := #[.int .i64 0, .int .i64 0]) ?_ 0 _ rfl; (with_reducible repeat (first | apply kN_ | apply kD_ | apply kA_)); exact BK340.out⟩, ⟨by repeat (first | (with_reducible first | exact HB.out | apply lA_ | apply lN_ | apply lD_ | refine below_set ?_ GE308.out | refine below_set ?_ GE312.out | refine below_set ?_ GE320.out | refine below_set ?_ GE336.out | refine below_set ?_ GE340.out) | exact HB.out)⟩⟩
       case round =>
        as_aux_lemma =>
         clear H'
         (try clear c1);(try clear c4);(try clear c154);(try clear c156);(try clear hcz15_0);(try clear hcz15_1);(try clear hcz161_0);(try clear hcz161_1);(try clear hcz167_0);(try clear hcz167_1);(try clear hcz169_0);(try clear hcz169_1);(try clear hcz176_0);(try clear hcz176_1);(try clear hcz19_0);(try clear hcz19_1);(try clear hcz20_0);(try clear hcz20_1);(try clear hcz25_0);(try clear hcz25_1);(try clear hcz26_0);(try clear hcz26_1);(try clear hcz32_0);(try clear hcz32_1);(try clear hcz33_0);(try clear hcz33_1);(try clear hcz40_0);(try clear hcz40_1);(try clear hfz15_0);(try clear hfz15_1);(try clear hfz161_0);(try clear hfz161_1);(try clear hfz167_0);(try clear hfz167_1);(try clear hfz169_0);(try clear hfz169_1);(try clear hfz176_0);(try clear hfz176_1);(try clear hfz19_0);(try clear hfz19_1);(try clear hfz20_0);(try clear hfz20_1);(try clear hfz25_0);(try clear hfz25_1);(try clear hfz26_0);(try clear hfz26_1);(try clear hfz32_0);(try clear hfz32_1);(try clear hfz33_0);(try clear hfz33_1);(try clear hfz40_0);(try clear hfz40_1)
         obtain ⟨x20_2, x132_2, rfl, rfl, HA, HK2, HO_130, BK308, BK312, BK320, BK336, BK340, HB⟩ := hrel
         cases gk with
         | zero => exact absurd HA.out (by simp [laws_FnOrients.l0])
         | succ k2 =>
          as_aux_lemma =>
           have H := HA.out
           clear HA
           simp only [laws_FnOrients.l0] at H
           by_cases c178 : x132_2 < (t328.length : Int)
           ·rw [if_pos c178] at H
            have c178b0 : decide (x132_2 < (t328.length : Int)) = true := decide_eq_true c178
            clear c178
            (first | rw [c178b0] | (simp only [i64_w, i32_w]; rw [c178b0]) | skip)
            by_cases c179 : 0 ≤ x132_2
            rotate_left
            ·rw [if_neg c179] at H
             exact absurd H (by simp)
            rw [if_pos c179] at H
            have c179b0 : decide (0 ≤ x132_2) = true := decide_eq_true c179
            clear c179
            by_cases c180 : x132_2 < (t328.length : Int)
            rotate_left
            ·rw [if_neg c180] at H
             exact absurd H (by simp)
            rw [if_pos c180] at H
            have c180b0 : decide (x132_2 < (t328.length : Int)) = true := decide_eq_true c180
            clear c180
            by_cases c181 : x20_2 = true
            ·subst c181
             have H1 : (laws_FnOrients.l0 k2 l1 t335 t339 true t328 (t328.length : Int) (wrap64 (x132_2 + 1)) t306 t307 t309 t310 t317 t318 t333 t334 t337 t338) = some r := by rw [if_pos rfl] at H; exact H
             clear H
             have H := H1
             clear H1
             as_aux_lemma =>
              have H' := Aside0.mk H
              clear H
              have p341 : 0 ≤ (x132_2 : Int) := ode_
              have q341 : x132_2 < (t328.length : Int) := ode_
              obtain ⟨ad341, e341, hx341_0, hx341_1⟩ := at_T39 (Kd.R_reads' HO_130.out).2.2 x132_2 p341 q341
              cases e341
              replace p341 := eq_true p341
              replace q341 := eq_true q341
              go_wp2_with (first | ((with_reducible refine gate_dst (N := 22) rfl ?_); (try (refine gate_guard (by rfl) ?_; dsimp only)); refine box_event ?hg (N := 22) ?hd (cs := #[.int .i64 0, .int .i64 0]) (t := 39) ?hr ?_; (case hd => rfl); (case hg => rfl); (case hr => first | (go_simp; done) | (go_simp; rfl)); intro gb342 hg w182 hbox hb; have n0_ := Aside0.mk (Kd.R_below (Kd.R_elderB (by (with_reducible repeat (first | apply rA_ | apply rN_ | apply rD_)); exact HO_130.out) gb342 (Nat.le_of_eq hg.symm)) hb); have n1_ := Aside0.mk (blk_below (g := gb308) (o := .cells #[.int .i64 t306, .int .i64 t307] 39 (0, 0)) (by (with_reducible repeat (first | apply kN_ | apply kD_ | apply kA_)); exact BK308.out) hb); have n2_ := Aside0.mk (blk_below (g := gb312) (o := .cells #[.int .i64 t309, .int .i64 t310] 39 (0, 0)) (by (with_reducible repeat (first | apply kN_ | apply kD_ | apply kA_)); exact BK312.out) hb); have n3_ := Aside0.mk (blk_below (g := gb320) (o := .cells #[.int .i64 t317, .int .i64 t318] 39 (0, 0)) (by (with_reducible repeat (first | apply kN_ | apply kD_ | apply kA_)); exact BK320.out) hb); have n4_ := Aside0.mk (blk_below (g := gb336) (o := .cells #[.int .i64 t333, .int .i64 t334] 39 (0, 0)) (by (with_reducible repeat (first | apply kN_ | apply kD_ | apply kA_)); exact BK336.out) hb); have n5_ := Aside0.mk (blk_below (g := gb340) (o := .cells #[.int .i64 t337, .int .i64 t338] 39 (0, 0)) (by (with_reducible repeat (first | apply kN_ | apply kD_ | apply kA_)); exact BK340.out) hb); have n6_ := Aside0.mk (below_step (by repeat (first | (with_reducible first | exact HB.out | apply lA_ | apply lN_ | apply lD_ | refine below_set ?_ GE308.out | refine below_set ?_ GE312.out | refine below_set ?_ GE320.out | refine below_set ?_ GE336.out | refine below_set ?_ GE340.out) | exact HB.out)) hb); have n7_ := Aside0.mk (hbox); have n8_ := Aside0.mk ((by rw [hg]; exact (below_size (by repeat (first | (with_reducible first | exact HB.out | apply lA_ | apply lN_ | apply lD_ | refine below_set ?_ GE308.out | refine below_set ?_ GE312.out | refine below_set ?_ GE320.out | refine below_set ?_ GE336.out | refine below_set ?_ GE340.out) | exact HB.out))) : w.heap.size ≤ gb342)); have n9_ := n8_; have n10_ := Aside0.mk ((by rw [hg]; exact Nat.ne_of_lt (blk_lt (g := gb308) (o := .cells #[.int .i64 t306, .int .i64 t307] 39 (0, 0)) (by (with_reducible repeat (first | apply kN_ | apply kD_ | apply kA_)); exact BK308.out)) : gb308 ≠ gb342)); have n11_ := Aside0.mk ((by rw [hg]; exact Nat.ne_of_gt (blk_lt (g := gb308) (o := .cells #[.int .i64 t306, .int .i64 t307] 39 (0, 0)) (by (with_reducible repeat (first | apply kN_ | apply kD_ | apply kA_)); exact BK308.out)) : gb342 ≠ gb308)); have n12_ := Aside0.mk ((by rw [hg]; exact Nat.ne_of_lt (blk_lt (g := gb312) (o := .cells #[.int .i64 t309, .int .i64 t310] 39 (0, 0)) (by (with_reducible repeat (first | apply kN_ | apply kD_ | apply kA_)); exact BK312.out)) : gb312 ≠ gb342)); have n13_ := Aside0.mk ((by rw [hg]; exact Nat.ne_of_gt (blk_lt (g := gb312) (o := .cells #[.int .i64 t309, .int .i64 t310] 39 (0, 0)) (by (with_reducible repeat (first | apply kN_ | apply kD_ | apply kA_)); exact BK312.out)) : gb342 ≠ gb312)); have n14_ := Aside0.mk ((by rw [hg]; exact Nat.ne_of_lt (blk_lt (g := gb320) (o := .cells #[.int .i64 t317, .int .i64 t318] 39 (0, 0)) (by (with_reducible repeat (first | apply kN_ | apply kD_ | apply kA_)); exact BK320.out)) : gb320 ≠ gb342)); have n15_ := Aside0.mk ((by rw [hg]; exact Nat.ne_of_gt (blk_lt (g := gb320) (o := .cells #[.int .i64 t317, .int .i64 t318] 39 (0, 0)) (by (with_reducible repeat (first | apply kN_ | apply kD_ | apply kA_)); exact BK320.out)) : gb342 ≠ gb320)); have n16_ := Aside0.mk ((by rw [hg]; exact Nat.ne_of_lt (blk_lt (g := gb336) (o := .cells #[.int .i64 t333, .int .i64 t334] 39 (0, 0)) (by (with_reducible repeat (first | apply kN_ | apply kD_ | apply kA_)); exact BK336.out)) : gb336 ≠ gb342)); have n17_ := Aside0.mk ((by rw [hg]; exact Nat.ne_of_gt (blk_lt (g := gb336) (o := .cells #[.int .i64 t333, .int .i64 t334] 39 (0, 0)) (by (with_reducible repeat (first | apply kN_ | apply kD_ | apply kA_)); exact BK336.out)) : gb342 ≠ gb336)); have n18_ := Aside0.mk ((by rw [hg]; exact Nat.ne_of_lt (blk_lt (g := gb340) (o := .cells #[.int .i64 t337, .int .i64 t338] 39 (0, 0)) (by (with_reducible repeat (first | apply kN_ | apply kD_ | apply kA_)); exact BK340.out)) : gb340 ≠ gb342)); have n19_ := Aside0.mk ((by rw [hg]; exact Nat.ne_of_gt (blk_lt (g := gb340) (o := .cells #[.int .i64 t337, .int .i64 t338] 39 (0, 0)) (by (with_reducible repeat (first | apply kN_ | apply kD_ | apply kA_)); exact BK340.out)) : gb342 ≠ gb340)); clear HO_130; clear BK308; clear BK312; clear BK320; clear BK336; clear BK340; clear HB; have HO_130 := n0_; have BK308 := n1_; have BK312 := n2_; have BK320 := n3_; have BK336 := n4_; have BK340 := n5_; have HB := n6_; have BK342 := n7_; have GW342 := n8_; have GE342 := n9_; have NB308_342 := n10_; have NB342_308 := n11_; have NB312_342 := n12_; have NB342_312 := n13_; have NB320_342 := n14_; have NB342_320 := n15_; have NB336_342 := n16_; have NB342_336 := n17_; have NB340_342 := n18_; have NB342_340 := n19_; clear n0_ n1_ n2_ n3_ n4_ n5_ n6_ n7_ n8_ n9_ n10_ n11_ n12_ n13_ n14_ n15_ n16_ n17_ n18_ n19_; clear hb hbox hg; have hnb183 := NB342_308.out; have hnc183 := NB308_342.out; have hnb184 := NB342_312.out; have hnc184 := NB312_342.out; have hnb185 := NB342_320.out; have hnc185 := NB320_342.out; have hnb186 := NB342_336.out; have hnc186 := NB336_342.out; have hnb187 := NB342_340.out; have hnc187 := NB340_342.out; have hcz188_0 : w182.cell? ⟨gb342, 0, none⟩ = some (.int .i64 0) := (blk_cell BK342.out 0).trans rfl; have hcz188_1 : w182.cell? ⟨gb342, 1, none⟩ = some (.int .i64 0) := (blk_cell BK342.out 1).trans rfl; have hfz188_0 := blk_frozen BK342.out 0; have hfz188_1 := blk_frozen BK342.out 1))
              go_roundg k2
              case measure => have := HJ11.out; have := HK2.out; omega
              case rel => exact ⟨(true), (wrap64 (x132_2 + 1)), (by first | rfl | (simp; done) | (simp [*]; done)), (by first | rfl | (simp; done) | (simp [*]; done)), H', ⟨by have := HJ11.out; have := HK2.out; omega⟩, ⟨by (with_reducible repeat (first | apply rA_ | apply rN_ | apply rD_)); exact Kd.R_mono (Kd.R_far (p := ⟨gb342, 1, none⟩) (Kd.R_far (p := ⟨gb342, 0, none⟩) (Kd.R_mono HO_130.out (fun k_ hk => (⟨hk, hk.2⟩ : _ ∧ k_ ≠ gb342))) (fun _ hk => hk.2) (.int .i64 ((rd_T39 t328 x132_2).f0))) (fun _ hk => hk.2) (.int .i64 ((rd_T39 t328 x132_2).f1))) (fun _ hk => ⟨hk.1.1.1, ⟨hk.1.1.2.1, ⟨hk.1.1.2.2.1, ⟨hk.1.1.2.2.2.1, hk.1.1.2.2.2.2⟩⟩⟩⟩)⟩, ⟨by (with_reducible repeat (first | apply kN_ | apply kD_ | apply kA_)); refine blk_far ?_ NB308_342.out _; (with_reducible repeat (first | apply kN_ | apply kD_ | apply kA_)); refine blk_far ?_ NB308_342.out _; (with_reducible repeat (first | apply kN_ | apply kD_ | apply kA_)); exact BK308.out⟩, ⟨by (with_reducible repeat (first | apply kN_ | apply kD_ | apply kA_)); refine blk_far ?_ NB312_342.out _; (with_reducible repeat (first | apply kN_ | apply kD_ | apply kA_)); refine blk_far ?_ NB312_342.out _; (with_reducible repeat (first | apply kN_ | apply kD_ | apply kA_)); exact BK312.out⟩, ⟨by (with_reducible repeat (first | apply kN_ | apply kD_ | apply kA_)); refine blk_far ?_ NB320_342.out _; (with_reducible repeat (first | apply kN_ | apply kD_ | apply kA_)); refine blk_far ?_ NB320_342.out _; (with_reducible repeat (first | apply kN_ | apply kD_ | apply kA_)); exact BK320.out⟩, ⟨by (with_reducible repeat (first | apply kN_ | apply kD_ | apply kA_)); refine blk_far ?_ NB336_342.out _; (with_reducible repeat (first | apply kN_ | apply kD_ | apply kA_)); refine blk_far ?_ NB336_342.out _; (with_reducible repeat (first | apply kN_ | apply kD_ | apply kA_)); exact BK336.out⟩, ⟨by (with_reducible repeat (first | apply kN_ | apply kD_ | apply kA_)); refine blk_far ?_ NB340_342.out _; (with_reducible repeat (first | apply kN_ | apply kD_ | apply kA_)); refine blk_far ?_ NB340_342.out _; (with_reducible repeat (first | apply kN_ | apply kD_ | apply kA_)); exact BK340.out⟩, ⟨by repeat (first | (with_reducible first | exact HB.out | apply lA_ | apply lN_ | apply lD_ | refine below_set ?_ GE308.out | refine below_set ?_ GE312.out | refine below_set ?_ GE320.out | refine below_set ?_ GE336.out | refine below_set ?_ GE340.out | refine below_set ?_ GE342.out) | exact HB.out)⟩⟩
            replace c181 := Bool.eq_false_iff.mpr c181
            subst c181
            have H1 : (laws_FnOrients.l0 k2 l1 t335 t339 (((rd_T39 t328 x132_2).f0) == t306 && (((rd_T39 t328 x132_2).f1) == t307)) t328 (t328.length : Int) (wrap64 (x132_2 + 1)) t306 t307 t309 t310 t317 t318 t333 t334 t337 t338) = some r := by rw [if_neg (show ¬ (false = true) by decide)] at H; exact H
            clear H
            have H := H1
            clear H1
            as_aux_lemma =>
             have H' := Aside0.mk H
             clear H
             have p341 : 0 ≤ (x132_2 : Int) := ode_
             have q341 : x132_2 < (t328.length : Int) := ode_
             obtain ⟨ad341, e341, hx341_0, hx341_1⟩ := at_T39 (Kd.R_reads' HO_130.out).2.2 x132_2 p341 q341
             cases e341
             replace p341 := eq_true p341
             replace q341 := eq_true q341
             go_wp2_with (first | ((with_reducible refine gate_dst (N := 22) rfl ?_); (try (refine gate_guard (by rfl) ?_; dsimp only)); refine box_event ?hg (N := 22) ?hd (cs := #[.int .i64 0, .int .i64 0]) (t := 39) ?hr ?_; (case hd => rfl); (case hg => rfl); (case hr => first | (go_simp; done) | (go_simp; rfl)); intro gb342 hg w189 hbox hb; have n0_ := Aside0.mk (Kd.R_below (Kd.R_elderB (by (with_reducible repeat (first | apply rA_ | apply rN_ | apply rD_)); exact HO_130.out) gb342 (Nat.le_of_eq hg.symm)) hb); have n1_ := Aside0.mk (blk_below (g := gb308) (o := .cells #[.int .i64 t306, .int .i64 t307] 39 (0, 0)) (by (with_reducible repeat (first | apply kN_ | apply kD_ | apply kA_)); exact BK308.out) hb); have n2_ := Aside0.mk (blk_below (g := gb312) (o := .cells #[.int .i64 t309, .int .i64 t310] 39 (0, 0)) (by (with_reducible repeat (first | apply kN_ | apply kD_ | apply kA_)); exact BK312.out) hb); have n3_ := Aside0.mk (blk_below (g := gb320) (o := .cells #[.int .i64 t317, .int .i64 t318] 39 (0, 0)) (by (with_reducible repeat (first | apply kN_ | apply kD_ | apply kA_)); exact BK320.out) hb); have n4_ := Aside0.mk (blk_below (g := gb336) (o := .cells #[.int .i64 t333, .int .i64 t334] 39 (0, 0)) (by (with_reducible repeat (first | apply kN_ | apply kD_ | apply kA_)); exact BK336.out) hb); have n5_ := Aside0.mk (blk_below (g := gb340) (o := .cells #[.int .i64 t337, .int .i64 t338] 39 (0, 0)) (by (with_reducible repeat (first | apply kN_ | apply kD_ | apply kA_)); exact BK340.out) hb); have n6_ := Aside0.mk (below_step (by repeat (first | (with_reducible first | exact HB.out | apply lA_ | apply lN_ | apply lD_ | refine below_set ?_ GE308.out | refine below_set ?_ GE312.out | refine below_set ?_ GE320.out | refine below_set ?_ GE336.out | refine below_set ?_ GE340.out) | exact HB.out)) hb); have n7_ := Aside0.mk (hbox); have n8_ := Aside0.mk ((by rw [hg]; exact (below_size (by repeat (first | (with_reducible first | exact HB.out | apply lA_ | apply lN_ | apply lD_ | refine below_set ?_ GE308.out | refine below_set ?_ GE312.out | refine below_set ?_ GE320.out | refine below_set ?_ GE336.out | refine below_set ?_ GE340.out) | exact HB.out))) : w.heap.size ≤ gb342)); have n9_ := n8_; have n10_ := Aside0.mk ((by rw [hg]; exact Nat.ne_of_lt (blk_lt (g := gb308) (o := .cells #[.int .i64 t306, .int .i64 t307] 39 (0, 0)) (by (with_reducible repeat (first | apply kN_ | apply kD_ | apply kA_)); exact BK308.out)) : gb308 ≠ gb342)); have n11_ := Aside0.mk ((by rw [hg]; exact Nat.ne_of_gt (blk_lt (g := gb308) (o := .cells #[.int .i64 t306, .int .i64 t307] 39 (0, 0)) (by (with_reducible repeat (first | apply kN_ | apply kD_ | apply kA_)); exact BK308.out)) : gb342 ≠ gb308)); have n12_ := Aside0.mk ((by rw [hg]; exact Nat.ne_of_lt (blk_lt (g := gb312) (o := .cells #[.int .i64 t309, .int .i64 t310] 39 (0, 0)) (by (with_reducible repeat (first | apply kN_ | apply kD_ | apply kA_)); exact BK312.out)) : gb312 ≠ gb342)); have n13_ := Aside0.mk ((by rw [hg]; exact Nat.ne_of_gt (blk_lt (g := gb312) (o := .cells #[.int .i64 t309, .int .i64 t310] 39 (0, 0)) (by (with_reducible repeat (first | apply kN_ | apply kD_ | apply kA_)); exact BK312.out)) : gb342 ≠ gb312)); have n14_ := Aside0.mk ((by rw [hg]; exact Nat.ne_of_lt (blk_lt (g := gb320) (o := .cells #[.int .i64 t317, .int .i64 t318] 39 (0, 0)) (by (with_reducible repeat (first | apply kN_ | apply kD_ | apply kA_)); exact BK320.out)) : gb320 ≠ gb342)); have n15_ := Aside0.mk ((by rw [hg]; exact Nat.ne_of_gt (blk_lt (g := gb320) (o := .cells #[.int .i64 t317, .int .i64 t318] 39 (0, 0)) (by (with_reducible repeat (first | apply kN_ | apply kD_ | apply kA_)); exact BK320.out)) : gb342 ≠ gb320)); have n16_ := Aside0.mk ((by rw [hg]; exact Nat.ne_of_lt (blk_lt (g := gb336) (o := .cells #[.int .i64 t333, .int .i64 t334] 39 (0, 0)) (by (with_reducible repeat (first | apply kN_ | apply kD_ | apply kA_)); exact BK336.out)) : gb336 ≠ gb342)); have n17_ := Aside0.mk ((by rw [hg]; exact Nat.ne_of_gt (blk_lt (g := gb336) (o := .cells #[.int .i64 t333, .int .i64 t334] 39 (0, 0)) (by (with_reducible repeat (first | apply kN_ | apply kD_ | apply kA_)); exact BK336.out)) : gb342 ≠ gb336)); have n18_ := Aside0.mk ((by rw [hg]; exact Nat.ne_of_lt (blk_lt (g := gb340) (o := .cells #[.int .i64 t337, .int .i64 t338] 39 (0, 0)) (by (with_reducible repeat (first | apply kN_ | apply kD_ | apply kA_)); exact BK340.out)) : gb340 ≠ gb342)); have n19_ := Aside0.mk ((by rw [hg]; exact Nat.ne_of_gt (blk_lt (g := gb340) (o := .cells #[.int .i64 t337, .int .i64 t338] 39 (0, 0)) (by (with_reducible repeat (first | apply kN_ | apply kD_ | apply kA_)); exact BK340.out)) : gb342 ≠ gb340)); clear HO_130; clear BK308; clear BK312; clear BK320; clear BK336; clear BK340; clear HB; have HO_130 := n0_; have BK308 := n1_; have BK312 := n2_; have BK320 := n3_; have BK336 := n4_; have BK340 := n5_; have HB := n6_; have BK342 := n7_; have GW342 := n8_; have GE342 := n9_; have NB308_342 := n10_; have NB342_308 := n11_; have NB312_342 := n12_; have NB342_312 := n13_; have NB320_342 := n14_; have NB342_320 := n15_; have NB336_342 := n16_; have NB342_336 := n17_; have NB340_342 := n18_; have NB342_340 := n19_; clear n0_ n1_ n2_ n3_ n4_ n5_ n6_ n7_ n8_ n9_ n10_ n11_ n12_ n13_ n14_ n15_ n16_ n17_ n18_ n19_; clear hb hbox hg; have hnb190 := NB342_308.out; have hnc190 := NB308_342.out; have hnb191 := NB342_312.out; have hnc191 := NB312_342.out; have hnb192 := NB342_320.out; have hnc192 := NB320_342.out; have hnb193 := NB342_336.out; have hnc193 := NB336_342.out; have hnb194 := NB342_340.out; have hnc194 := NB340_342.out; have hcz195_0 : w189.cell? ⟨gb342, 0, none⟩ = some (.int .i64 0) := (blk_cell BK342.out 0).trans rfl; have hcz195_1 : w189.cell? ⟨gb342, 1, none⟩ = some (.int .i64 0) := (blk_cell BK342.out 1).trans rfl; have hfz195_0 := blk_frozen BK342.out 0; have hfz195_1 := blk_frozen BK342.out 1; have hnb196 := NB308_312.out; have hnc196 := NB312_308.out; have hnb197 := NB308_320.out; have hnc197 := NB320_308.out; have hnb198 := NB308_336.out; have hnc198 := NB336_308.out; have hnb199 := NB308_340.out; have hnc199 := NB340_308.out; have hcz200_0 : w189.cell? ⟨gb308, 0, none⟩ = some (.int .i64 t306) := (blk_cell BK308.out 0).trans rfl; have hcz200_1 : w189.cell? ⟨gb308, 1, none⟩ = some (.int .i64 t307) := (blk_cell BK308.out 1).trans rfl; have hfz200_0 := blk_frozen BK308.out 0; have hfz200_1 := blk_frozen BK308.out 1))
             go_roundg k2
             case measure => have := HJ11.out; have := HK2.out; omega
             case rel => exact ⟨((((rd_T39 t328 x132_2).f0) == t306 && (((rd_T39 t328 x132_2).f1) == t307))), (wrap64 (x132_2 + 1)), (by first | rfl | (simp; done) | (simp [*]; done)), (by first | rfl | (simp; done) | (simp [*]; done)), H', ⟨by have := HJ11.out; have := HK2.out; omega⟩, ⟨by (with_reducible repeat (first | apply rA_ | apply rN_ | apply rD_)); exact Kd.R_mono (Kd.R_far (p := ⟨gb342, 1, none⟩) (Kd.R_far (p := ⟨gb342, 0, none⟩) (Kd.R_mono HO_130.out (fun k_ hk => (⟨hk, hk.2⟩ : _ ∧ k_ ≠ gb342))) (fun _ hk => hk.2) (.int .i64 ((rd_T39 t328 x132_2).f0))) (fun _ hk => hk.2) (.int .i64 ((rd_T39 t328 x132_2).f1))) (fun _ hk => ⟨hk.1.1.1, ⟨hk.1.1.2.1, ⟨hk.1.1.2.2.1, ⟨hk.1.1.2.2.2.1, hk.1.1.2.2.2.2⟩⟩⟩⟩)⟩, ⟨by (with_reducible repeat (first | apply kN_ | apply kD_ | apply kA_)); refine blk_far ?_ NB308_342.out _; (with_reducible repeat (first | apply kN_ | apply kD_ | apply kA_)); refine blk_far ?_ NB308_342.out _; (with_reducible repeat (first | apply kN_ | apply kD_ | apply kA_)); exact BK308.out⟩, ⟨by (with_reducible repeat (first | apply kN_ | apply kD_ | apply kA_)); refine blk_far ?_ NB312_342.out _; (with_reducible repeat (first | apply kN_ | apply kD_ | apply kA_)); refine blk_far ?_ NB312_342.out _; (with_reducible repeat (first | apply kN_ | apply kD_ | apply kA_)); exact BK312.out⟩, ⟨by (with_reducible repeat (first | apply kN_ | apply kD_ | apply kA_)); refine blk_far ?_ NB320_342.out _; (with_reducible repeat (first | apply kN_ | apply kD_ | apply kA_)); refine blk_far ?_ NB320_342.out _; (with_reducible repeat (first | apply kN_ | apply kD_ | apply kA_)); exact BK320.out⟩, ⟨by (with_reducible repeat (first | apply kN_ | apply kD_ | apply kA_)); refine blk_far ?_ NB336_342.out _; (with_reducible repeat (first | apply kN_ | apply kD_ | apply kA_)); refine blk_far ?_ NB336_342.out _; (with_reducible repeat (first | apply kN_ | apply kD_ | apply kA_)); exact BK336.out⟩, ⟨by (with_reducible repeat (first | apply kN_ | apply kD_ | apply kA_)); refine blk_far ?_ NB340_342.out _; (with_reducible repeat (first | apply kN_ | apply kD_ | apply kA_)); refine blk_far ?_ NB340_342.out _; (with_reducible repeat (first | apply kN_ | apply kD_ | apply kA_)); exact BK340.out⟩, ⟨by repeat (first | (with_reducible first | exact HB.out | apply lA_ | apply lN_ | apply lD_ | refine below_set ?_ GE308.out | refine below_set ?_ GE312.out | refine below_set ?_ GE320.out | refine below_set ?_ GE336.out | refine below_set ?_ GE340.out | refine below_set ?_ GE342.out) | exact HB.out)⟩⟩
           rw [if_neg c178] at H
           have c178b0 : decide (x132_2 < (t328.length : Int)) = false := decide_eq_false c178
           clear c178
           (first | rw [c178b0] | (simp only [i64_w, i32_w]; rw [c178b0]) | skip)
           by_cases c201 : t335 = true
           rotate_left
           ·replace c201 := Bool.eq_false_iff.mpr c201
            subst c201
            have H1 : (some false) = some r := by rw [if_neg (show ¬ (false = true) by decide)] at H; exact H
            clear H
            have H := H1
            clear H1
            as_aux_lemma =>
             obtain rfl := Option.some.inj H
             go_wp2
             go_ret
             exact ⟨by first | rfl | (simp [errW_none, errW_some] <;> rfl) | (simp [*, errW_none, errW_some] <;> rfl) | (simp [errW_none, errW_some, show ∀ l_ : List UInt8, (l_ != []) = !l_.isEmpty from fun l_ => by cases l_ <;> rfl]; done), by repeat (first | (with_reducible first | exact HB.out | apply lA_ | apply lN_ | apply lD_ | refine below_set ?_ GE308.out | refine below_set ?_ GE312.out | refine below_set ?_ GE320.out | refine below_set ?_ GE336.out | refine below_set ?_ GE340.out) | exact HB.out)⟩
           subst c201
           have H1 : (if (!(t333 == t306) || (!(t334 == t307))) = true then (some false) else (if t339 = true then (if (!(t337 == t306) || (!(t338 == t307))) = true then (some false) else (if x20_2 = true then ((impl_IsOrient.f t309 t310).bind fun t343 => (if t343 = true then ((impl_IsOrient.f t317 t318).bind fun t344 => (if t344 = true then (laws_FnOrients.j2 k2 l1) else (some false))) else (some false))) else (some false))) else (some false))) = some r := by rw [if_pos rfl] at H; exact H
           clear H
           have H := H1
           clear H1
           by_cases c202 : (!(t333 == t306) || (!(t334 == t307))) = true
           ·rw [if_pos c202] at H
            have c202b0 : (!(t333 == t306) || (!(t334 == t307))) = true := c202
            clear c202
            as_aux_lemma =>
             obtain rfl := Option.some.inj H
             have hnb203 := NB336_308.out
             have hnc203 := NB308_336.out
             have hnb204 := NB336_312.out
             have hnc204 := NB312_336.out
             have hnb205 := NB336_320.out
             have hnc205 := NB320_336.out
             have hnb206 := NB336_340.out
             have hnc206 := NB340_336.out
             have hcz207_0 : wr.cell? ⟨gb336, 0, none⟩ = some (.int .i64 t333) := (blk_cell BK336.out 0).trans rfl
             have hcz207_1 : wr.cell? ⟨gb336, 1, none⟩ = some (.int .i64 t334) := (blk_cell BK336.out 1).trans rfl
             have hfz207_0 := blk_frozen BK336.out 0
             have hfz207_1 := blk_frozen BK336.out 1
             have hnb208 := NB308_312.out
             have hnc208 := NB312_308.out
             have hnb209 := NB308_320.out
             have hnc209 := NB320_308.out
             have hnb210 := NB308_340.out
             have hnc210 := NB340_308.out
             have hcz211_0 : wr.cell? ⟨gb308, 0, none⟩ = some (.int .i64 t306) := (blk_cell BK308.out 0).trans rfl
             have hcz211_1 : wr.cell? ⟨gb308, 1, none⟩ = some (.int .i64 t307) := (blk_cell BK308.out 1).trans rfl
             have hfz211_0 := blk_frozen BK308.out 0
             have hfz211_1 := blk_frozen BK308.out 1
             go_wp2
             go_ret
             exact ⟨by first | rfl | (simp [errW_none, errW_some] <;> rfl) | (simp [*, errW_none, errW_some] <;> rfl) | (simp [errW_none, errW_some, show ∀ l_ : List UInt8, (l_ != []) = !l_.isEmpty from fun l_ => by cases l_ <;> rfl]; done), by repeat (first | (with_reducible first | exact HB.out | apply lA_ | apply lN_ | apply lD_ | refine below_set ?_ GE308.out | refine below_set ?_ GE312.out | refine below_set ?_ GE320.out | refine below_set ?_ GE336.out | refine below_set ?_ GE340.out) | exact HB.out)⟩
           rw [if_neg c202] at H
           have c202b0 : (!(t333 == t306) || (!(t334 == t307))) = false := by simpa using c202
           clear c202
           by_cases c212 : t339 = true
           rotate_left
           ·replace c212 := Bool.eq_false_iff.mpr c212
            subst c212
            have H1 : (some false) = some r := by rw [if_neg (show ¬ (false = true) by decide)] at H; exact H
            clear H
            have H := H1
            clear H1
            as_aux_lemma =>
             obtain rfl := Option.some.inj H
             have hnb292 := NB336_308.out
             have hnc292 := NB308_336.out
             have hnb293 := NB336_312.out
             have hnc293 := NB312_336.out
             have hnb294 := NB336_320.out
             have hnc294 := NB320_336.out
             have hnb295 := NB336_340.out
             have hnc295 := NB340_336.out
             have hcz296_0 : wr.cell? ⟨gb336, 0, none⟩ = some (.int .i64 t333) := (blk_cell BK336.out 0).trans rfl
             have hcz296_1 : wr.cell? ⟨gb336, 1, none⟩ = some (.int .i64 t334) := (blk_cell BK336.out 1).trans rfl
             have hfz296_0 := blk_frozen BK336.out 0
             have hfz296_1 := blk_frozen BK336.out 1
             have hnb297 := NB308_312.out
             have hnc297 := NB312_308.out
             have hnb298 := NB308_320.out
             have hnc298 := NB320_308.out
             have hnb299 := NB308_340.out
             have hnc299 := NB340_308.out
             have hcz300_0 : wr.cell? ⟨gb308, 0, none⟩ = some (.int .i64 t306) := (blk_cell BK308.out 0).trans rfl
             have hcz300_1 : wr.cell? ⟨gb308, 1, none⟩ = some (.int .i64 t307) := (blk_cell BK308.out 1).trans rfl
             have hfz300_0 := blk_frozen BK308.out 0
             have hfz300_1 := blk_frozen BK308.out 1
             go_wp2
             go_ret
             exact ⟨by first | rfl | (simp [errW_none, errW_some] <;> rfl) | (simp [*, errW_none, errW_some] <;> rfl) | (simp [errW_none, errW_some, show ∀ l_ : List UInt8, (l_ != []) = !l_.isEmpty from fun l_ => by cases l_ <;> rfl]; done), by repeat (first | (with_reducible first | exact HB.out | apply lA_ | apply lN_ | apply lD_ | refine below_set ?_ GE308.out | refine below_set ?_ GE312.out | refine below_set ?_ GE320.out | refine below_set ?_ GE336.out | refine below_set ?_ GE340.out) | exact HB.out)⟩
           subst c212
           have H1 : (if (!(t337 == t306) || (!(t338 == t307))) = true then (some false) else (if x20_2 = true then ((impl_IsOrient.f t309 t310).bind fun t343 => (if t343 = true then ((impl_IsOrient.f t317 t318).bind fun t344 => (if t344 = true then (laws_FnOrients.j2 k2 l1) else (some false))) else (some false))) else (some false))) = some r := by rw [if_pos rfl] at H; exact H
           clear H
           have H := H1
           clear H1
           by_cases c213 : (!(t337 == t306) || (!(t338 == t307))) = true
           ·rw [if_pos c213] at H
            have c213b0 : (!(t337 == t306) || (!(t338 == t307))) = true := c213
            clear c213
            as_aux_lemma =>
             obtain rfl := Option.some.inj H
             have hnb214 := NB336_308.out
             have hnc214 := NB308_336.out
             have hnb215 := NB336_312.out
             have hnc215 := NB312_336.out
             have hnb216 := NB336_320.out
             have hnc216 := NB320_336.out
             have hnb217 := NB336_340.out
             have hnc217 := NB340_336.out
             have hcz218_0 : wr.cell? ⟨gb336, 0, none⟩ = some (.int .i64 t333) := (blk_cell BK336.out 0).trans rfl
             have hcz218_1 : wr.cell? ⟨gb336, 1, none⟩ = some (.int .i64 t334) := (blk_cell BK336.out 1).trans rfl
             have hfz218_0 := blk_frozen BK336.out 0
             have hfz218_1 := blk_frozen BK336.out 1
             have hnb219 := NB308_312.out
             have hnc219 := NB312_308.out
             have hnb220 := NB308_320.out
             have hnc220 := NB320_308.out
             have hnb221 := NB308_340.out
             have hnc221 := NB340_308.out
             have hcz222_0 : wr.cell? ⟨gb308, 0, none⟩ = some (.int .i64 t306) := (blk_cell BK308.out 0).trans rfl
             have hcz222_1 : wr.cell? ⟨gb308, 1, none⟩ = some (.int .i64 t307) := (blk_cell BK308.out 1).trans rfl
             have hfz222_0 := blk_frozen BK308.out 0
             have hfz222_1 := blk_frozen BK308.out 1
             have hnb223 := NB340_312.out
             have hnc223 := NB312_340.out
             have hnb224 := NB340_320.out
             have hnc224 := NB320_340.out
             have hcz225_0 : wr.cell? ⟨gb340, 0, none⟩ = some (.int .i64 t337) := (blk_cell BK340.out 0).trans rfl
             have hcz225_1 : wr.cell? ⟨gb340, 1, none⟩ = some (.int .i64 t338) := (blk_cell BK340.out 1).trans rfl
             have hfz225_0 := blk_frozen BK340.out 0
             have hfz225_1 := blk_frozen BK340.out 1
             go_wp2
             go_ret
             exact ⟨by first | rfl | (simp [errW_none, errW_some] <;> rfl) | (simp [*, errW_none, errW_some] <;> rfl) | (simp [errW_none, errW_some, show ∀ l_ : List UInt8, (l_ != []) = !l_.isEmpty from fun l_ => by cases l_ <;> rfl]; done), by repeat (first | (with_reducible first | exact HB.out | apply lA_ | apply lN_ | apply lD_ | refine below_set ?_ GE308.out | refine below_set ?_ GE312.out | refine below_set ?_ GE320.out | refine below_set ?_ GE336.out | refine below_set ?_ GE340.out) | exact HB.out)⟩
           rw [if_neg c213] at H
           have c213b0 : (!(t337 == t306) || (!(t338 == t307))) = false := by simpa using c213
           clear c213
           by_cases c226 : x20_2 = true
           rotate_left
           ·replace c226 := Bool.eq_false_iff.mpr c226
            subst c226
            have H1 : (some false) = some r := by rw [if_neg (show ¬ (false = true) by decide)] at H; exact H
            clear H
            have H := H1
            clear H1
            as_aux_lemma =>
             obtain rfl := Option.some.inj H
             have hnb280 := NB336_308.out
             have hnc280 := NB308_336.out
             have hnb281 := NB336_312.out
             have hnc281 := NB312_336.out
             have hnb282 := NB336_320.out
             have hnc282 := NB320_336.out
             have hnb283 := NB336_340.out
             have hnc283 := NB340_336.out
             have hcz284_0 : wr.cell? ⟨gb336, 0, none⟩ = some (.int .i64 t333) := (blk_cell BK336.out 0).trans rfl
             have hcz284_1 : wr.cell? ⟨gb336, 1, none⟩ = some (.int .i64 t334) := (blk_cell BK336.out 1).trans rfl
             have hfz284_0 := blk_frozen BK336.out 0
             have hfz284_1 := blk_frozen BK336.out 1
             have hnb285 := NB308_312.out
             have hnc285 := NB312_308.out
             have hnb286 := NB308_320.out
             have hnc286 := NB320_308.out
             have hnb287 := NB308_340.out
             have hnc287 := NB340_308.out
             have hcz288_0 : wr.cell? ⟨gb308, 0, none⟩ = some (.int .i64 t306) := (blk_cell BK308.out 0).trans rfl
             have hcz288_1 : wr.cell? ⟨gb308, 1, none⟩ = some (.int .i64 t307) := (blk_cell BK308.out 1).trans rfl
             have hfz288_0 := blk_frozen BK308.out 0
             have hfz288_1 := blk_frozen BK308.out 1
             have hnb289 := NB340_312.out
             have hnc289 := NB312_340.out
             have hnb290 := NB340_320.out
             have hnc290 := NB320_340.out
             have hcz291_0 : wr.cell? ⟨gb340, 0, none⟩ = some (.int .i64 t337) := (blk_cell BK340.out 0).trans rfl
             have hcz291_1 : wr.cell? ⟨gb340, 1, none⟩ = some (.int .i64 t338) := (blk_cell BK340.out 1).trans rfl
             have hfz291_0 := blk_frozen BK340.out 0
             have hfz291_1 := blk_frozen BK340.out 1
             go_wp2
             go_ret
             exact ⟨by first | rfl | (simp [errW_none, errW_some] <;> rfl) | (simp [*, errW_none, errW_some] <;> rfl) | (simp [errW_none, errW_some, show ∀ l_ : List UInt8, (l_ != []) = !l_.isEmpty from fun l_ => by cases l_ <;> rfl]; done), by repeat (first | (with_reducible first | exact HB.out | apply lA_ | apply lN_ | apply lD_ | refine below_set ?_ GE308.out | refine below_set ?_ GE312.out | refine below_set ?_ GE320.out | refine below_set ?_ GE336.out | refine below_set ?_ GE340.out) | exact HB.out)⟩
           subst c226
           have H1 : ((impl_IsOrient.f t309 t310).bind fun t343 => (if t343 = true then ((impl_IsOrient.f t317 t318).bind fun t344 => (if t344 = true then (laws_FnOrients.j2 k2 l1) else (some false))) else (some false))) = some r := by rw [if_pos rfl] at H; exact H
           clear H
           have H := H1
           clear H1
           replace H := Option.bind_eq_some_iff.mp H
           obtain ⟨t343, A2270, H⟩ := H
           (try dsimp only at H)
           have A227 := Aside0.mk A2270
           clear A2270
           as_aux_lemma =>
            by_cases c228 : t343 = true
            rotate_left
            ·replace c228 := Bool.eq_false_iff.mpr c228
             subst c228
             have H1 : (some false) = some r := by rw [if_neg (show ¬ (false = true) by decide)] at H; exact H
             clear H
             have H := H1
             clear H1
             as_aux_lemma =>
              obtain rfl := Option.some.inj H
              have hnb265 := NB336_308.out
              have hnc265 := NB308_336.out
              have hnb266 := NB336_312.out
              have hnc266 := NB312_336.out
              have hnb267 := NB336_320.out
              have hnc267 := NB320_336.out
              have hnb268 := NB336_340.out
              have hnc268 := NB340_336.out
              have hcz269_0 : wr.cell? ⟨gb336, 0, none⟩ = some (.int .i64 t333) := (blk_cell BK336.out 0).trans rfl
              have hcz269_1 : wr.cell? ⟨gb336, 1, none⟩ = some (.int .i64 t334) := (blk_cell BK336.out 1).trans rfl
              have hfz269_0 := blk_frozen BK336.out 0
              have hfz269_1 := blk_frozen BK336.out 1
              have hnb270 := NB308_312.out
              have hnc270 := NB312_308.out
              have hnb271 := NB308_320.out
              have hnc271 := NB320_308.out
              have hnb272 := NB308_340.out
              have hnc272 := NB340_308.out
              have hcz273_0 : wr.cell? ⟨gb308, 0, none⟩ = some (.int .i64 t306) := (blk_cell BK308.out 0).trans rfl
              have hcz273_1 : wr.cell? ⟨gb308, 1, none⟩ = some (.int .i64 t307) := (blk_cell BK308.out 1).trans rfl
              have hfz273_0 := blk_frozen BK308.out 0
              have hfz273_1 := blk_frozen BK308.out 1
              have hnb274 := NB340_312.out
              have hnc274 := NB312_340.out
              have hnb275 := NB340_320.out
              have hnc275 := NB320_340.out
              have hcz276_0 : wr.cell? ⟨gb340, 0, none⟩ = some (.int .i64 t337) := (blk_cell BK340.out 0).trans rfl
              have hcz276_1 : wr.cell? ⟨gb340, 1, none⟩ = some (.int .i64 t338) := (blk_cell BK340.out 1).trans rfl
              have hfz276_0 := blk_frozen BK340.out 0
              have hfz276_1 := blk_frozen BK340.out 1
              have hnb277 := NB312_320.out
              have hnc277 := NB320_312.out
              have hcz278_0 : wr.cell? ⟨gb312, 0, none⟩ = some (.int .i64 t309) := (blk_cell BK312.out 0).trans rfl
              have hcz278_1 : wr.cell? ⟨gb312, 1, none⟩ = some (.int .i64 t310) := (blk_cell BK312.out 1).trans rfl
              have hfz278_0 := blk_frozen BK312.out 0
              have hfz278_1 := blk_frozen BK312.out 1
              go_wp2_with (first | (go_at_call 32; (with_reducible refine (impl_IsOrient.calls t309 t310 false _ A227.out).mono ?_); rintro e w279 ⟨rfl, hb⟩; have n0_ := Aside0.mk (Kd.R_below (by (with_reducible repeat (first | apply rA_ | apply rN_ | apply rD_)); exact HO_130.out) hb); have n1_ := Aside0.mk (blk_below (g := gb308) (o := .cells #[.int .i64 t306, .int .i64 t307] 39 (0, 0)) (by (with_reducible repeat (first | apply kN_ | apply kD_ | apply kA_)); exact BK308.out) hb); have n2_ := Aside0.mk (blk_below (g := gb312) (o := .cells #[.int .i64 t309, .int .i64 t310] 39 (0, 0)) (by (with_reducible repeat (first | apply kN_ | apply kD_ | apply kA_)); exact BK312.out) hb); have n3_ := Aside0.mk (blk_below (g := gb320) (o := .cells #[.int .i64 t317, .int .i64 t318] 39 (0, 0)) (by (with_reducible repeat (first | apply kN_ | apply kD_ | apply kA_)); exact BK320.out) hb); have n4_ := Aside0.mk (blk_below (g := gb336) (o := .cells #[.int .i64 t333, .int .i64 t334] 39 (0, 0)) (by (with_reducible repeat (first | apply kN_ | apply kD_ | apply kA_)); exact BK336.out) hb); have n5_ := Aside0.mk (blk_below (g := gb340) (o := .cells #[.int .i64 t337, .int .i64 t338] 39 (0, 0)) (by (with_reducible repeat (first | apply kN_ | apply kD_ | apply kA_)); exact BK340.out) hb); have n6_ := Aside0.mk (below_step (by repeat (first | (with_reducible first | exact HB.out | apply lA_ | apply lN_ | apply lD_ | refine below_set ?_ GE308.out | refine below_set ?_ GE312.out | refine below_set ?_ GE320.out | refine below_set ?_ GE336.out | refine below_set ?_ GE340.out) | exact HB.out)) hb); clear HO_130; clear BK308; clear BK312; clear BK320; clear BK336; clear BK340; clear HB; have HO_130 := n0_; have BK308 := n1_; have BK312 := n2_; have BK320 := n3_; have BK336 := n4_; have BK340 := n5_; have HB := n6_; clear n0_ n1_ n2_ n3_ n4_ n5_ n6_; (try clear hb)))
              go_ret
              exact ⟨by first | rfl | (simp [errW_none, errW_some] <;> rfl) | (simp [*, errW_none, errW_some] <;> rfl) | (simp [errW_none, errW_some, show ∀ l_ : List UInt8, (l_ != []) = !l_.isEmpty from fun l_ => by cases l_ <;> rfl]; done), by repeat (first | (with_reducible first | exact HB.out | apply lA_ | apply lN_ | apply lD_ | refine below_set ?_ GE308.out | refine below_set ?_ GE312.out | refine below_set ?_ GE320.out | refine below_set ?_ GE336.out | refine below_set ?_ GE340.out) | exact HB.out)⟩
            subst c228
            have H1 : ((impl_IsOrient.f t317 t318).bind fun t344 => (if t344 = true then (laws_FnOrients.j2 k2 l1) else (some false))) = some r := by rw [if_pos rfl] at H; exact H
            clear H
            have H := H1
            clear H1
            replace H := Option.bind_eq_some_iff.mp H
            obtain ⟨t344, A2290, H⟩ := H
            (try dsimp only at H)
            have A229 := Aside0.mk A2290
            clear A2290
            as_aux_lemma =>
             by_cases c230 : t344 = true
             ·subst c230
              have H1 : (laws_FnOrients.j2 k2 l1) = some r := by rw [if_pos rfl] at H; exact H
              clear H
              have H := H1
              clear H1
              as_aux_lemma =>
               have H' := Aside0.mk H
               clear H
               have hnb231 := NB336_308.out
               have hnc231 := NB308_336.out
               have hnb232 := NB336_312.out
               have hnc232 := NB312_336.out
               have hnb233 := NB336_320.out
               have hnc233 := NB320_336.out
               have hnb234 := NB336_340.out
               have hnc234 := NB340_336.out
               have hcz235_0 : wr.cell? ⟨gb336, 0, none⟩ = some (.int .i64 t333) := (blk_cell BK336.out 0).trans rfl
               have hcz235_1 : wr.cell? ⟨gb336, 1, none⟩ = some (.int .i64 t334) := (blk_cell BK336.out 1).trans rfl
               have hfz235_0 := blk_frozen BK336.out 0
               have hfz235_1 := blk_frozen BK336.out 1
               have hnb236 := NB308_312.out
               have hnc236 := NB312_308.out
               have hnb237 := NB308_320.out
               have hnc237 := NB320_308.out
               have hnb238 := NB308_340.out
               have hnc238 := NB340_308.out
               have hcz239_0 : wr.cell? ⟨gb308, 0, none⟩ = some (.int .i64 t306) := (blk_cell BK308.out 0).trans rfl
               have hcz239_1 : wr.cell? ⟨gb308, 1, none⟩ = some (.int .i64 t307) := (blk_cell BK308.out 1).trans rfl
               have hfz239_0 := blk_frozen BK308.out 0
               have hfz239_1 := blk_frozen BK308.out 1
               have hnb240 := NB340_312.out
               have hnc240 := NB312_340.out
               have hnb241 := NB340_320.out
               have hnc241 := NB320_340.out
               have hcz242_0 : wr.cell? ⟨gb340, 0, none⟩ = some (.int .i64 t337) := (blk_cell BK340.out 0).trans rfl
               have hcz242_1 : wr.cell? ⟨gb340, 1, none⟩ = some (.int .i64 t338) := (blk_cell BK340.out 1).trans rfl
               have hfz242_0 := blk_frozen BK340.out 0
               have hfz242_1 := blk_frozen BK340.out 1
               have hnb243 := NB312_320.out
               have hnc243 := NB320_312.out
               have hcz244_0 : wr.cell? ⟨gb312, 0, none⟩ = some (.int .i64 t309) := (blk_cell BK312.out 0).trans rfl
               have hcz244_1 : wr.cell? ⟨gb312, 1, none⟩ = some (.int .i64 t310) := (blk_cell BK312.out 1).trans rfl
               have hfz244_0 := blk_frozen BK312.out 0
               have hfz244_1 := blk_frozen BK312.out 1
               go_wp2_with (first | (go_at_call 32; (with_reducible refine (impl_IsOrient.calls t309 t310 true _ A227.out).mono ?_); rintro e w245 ⟨rfl, hb⟩; have n0_ := Aside0.mk (Kd.R_below (by (with_reducible repeat (first | apply rA_ | apply rN_ | apply rD_)); exact HO_130.out) hb); have n1_ := Aside0.mk (blk_below (g := gb308) (o := .cells #[.int .i64 t306, .int .i64 t307] 39 (0, 0)) (by (with_reducible repeat (first | apply kN_ | apply kD_ | apply kA_)); exact BK308.out) hb); have n2_ := Aside0.mk (blk_below (g := gb312) (o := .cells #[.int .i64 t309, .int .i64 t310] 39 (0, 0)) (by (with_reducible repeat (first | apply kN_ | apply kD_ | apply kA_)); exact BK312.out) hb); have n3_ := Aside0.mk (blk_below (g := gb320) (o := .cells #[.int .i64 t317, .int .i64 t318] 39 (0, 0)) (by (with_reducible repeat (first | apply kN_ | apply kD_ | apply kA_)); exact BK320.out) hb); have n4_ := Aside0.mk (blk_below (g := gb336) (o := .cells #[.int .i64 t333, .int .i64 t334] 39 (0, 0)) (by (with_reducible repeat (first | apply kN_ | apply kD_ | apply kA_)); exact BK336.out) hb); have n5_ := Aside0.mk (blk_below (g := gb340) (o := .cells #[.int .i64 t337, .int .i64 t338] 39 (0, 0)) (by (with_reducible repeat (first | apply kN_ | apply kD_ | apply kA_)); exact BK340.out) hb); have n6_ := Aside0.mk (below_step (by repeat (first | (with_reducible first | exact HB.out | apply lA_ | apply lN_ | apply lD_ | refine below_set ?_ GE308.out | refine below_set ?_ GE312.out | refine below_set ?_ GE320.out | refine below_set ?_ GE336.out | refine below_set ?_ GE340.out) | exact HB.out)) hb); clear HO_130; clear BK308; clear BK312; clear BK320; clear BK336; clear BK340; clear HB; have HO_130 := n0_; have BK308 := n1_; have BK312 := n2_; have BK320 := n3_; have BK336 := n4_; have BK340 := n5_; have HB := n6_; clear n0_ n1_ n2_ n3_ n4_ n5_ n6_; (try clear hb); have hcz246_0 : w245.cell? ⟨gb320, 0, none⟩ = some (.int .i64 t317) := (blk_cell BK320.out 0).trans rfl; have hcz246_1 : w245.cell? ⟨gb320, 1, none⟩ = some (.int .i64 t318) := (blk_cell BK320.out 1).trans rfl; have hfz246_0 := blk_frozen BK320.out 0; have hfz246_1 := blk_frozen BK320.out 1) | (go_at_call 32; (with_reducible refine (impl_IsOrient.calls t317 t318 true _ A229.out).mono ?_); rintro e w247 ⟨rfl, hb⟩; have n0_ := Aside0.mk (Kd.R_below (by (with_reducible repeat (first | apply rA_ | apply rN_ | apply rD_)); exact HO_130.out) hb); have n1_ := Aside0.mk (blk_below (g := gb308) (o := .cells #[.int .i64 t306, .int .i64 t307] 39 (0, 0)) (by (with_reducible repeat (first | apply kN_ | apply kD_ | apply kA_)); exact BK308.out) hb); have n2_ := Aside0.mk (blk_below (g := gb312) (o := .cells #[.int .i64 t309, .int .i64 t310] 39 (0, 0)) (by (with_reducible repeat (first | apply kN_ | apply kD_ | apply kA_)); exact BK312.out) hb); have n3_ := Aside0.mk (blk_below (g := gb320) (o := .cells #[.int .i64 t317, .int .i64 t318] 39 (0, 0)) (by (with_reducible repeat (first | apply kN_ | apply kD_ | apply kA_)); exact BK320.out) hb); have n4_ := Aside0.mk (blk_below (g := gb336) (o := .cells #[.int .i64 t333, .int .i64 t334] 39 (0, 0)) (by (with_reducible repeat (first | apply kN_ | apply kD_ | apply kA_)); exact BK336.out) hb); have n5_ := Aside0.mk (blk_below (g := gb340) (o := .cells #[.int .i64 t337, .int .i64 t338] 39 (0, 0)) (by (with_reducible repeat (first | apply kN_ | apply kD_ | apply kA_)); exact BK340.out) hb); have n6_ := Aside0.mk (below_step (by repeat (first | (with_reducible first | exact HB.out | apply lA_ | apply lN_ | apply lD_ | refine below_set ?_ GE308.out | refine below_set ?_ GE312.out | refine below_set ?_ GE320.out | refine below_set ?_ GE336.out | refine below_set ?_ GE340.out) | exact HB.out)) hb); clear HO_130; clear BK308; clear BK312; clear BK320; clear BK336; clear BK340; clear HB; have HO_130 := n0_; have BK308 := n1_; have BK312 := n2_; have BK320 := n3_; have BK336 := n4_; have BK340 := n5_; have HB := n6_; clear n0_ n1_ n2_ n3_ n4_ n5_ n6_; (try clear hb)))
               go_meet
               case rel => exact ⟨_, H', ⟨by have := HJ11.out; have := HK2.out; first | omega | exact Nat.le_refl _⟩, ⟨by repeat (first | (with_reducible first | exact HB.out | apply lA_ | apply lN_ | apply lD_ | refine below_set ?_ GE308.out | refine below_set ?_ GE312.out | refine below_set ?_ GE320.out | refine below_set ?_ GE336.out | refine below_set ?_ GE340.out) | exact HB.out)⟩⟩
             replace c230 := Bool.eq_false_iff.mpr c230
             subst c230
             have H1 : (some false) = some r := by rw [if_neg (show ¬ (false = true) by decide)] at H; exact H
             clear H
             have H := H1
             clear H1
             as_aux_lemma =>
              obtain rfl := Option.some.inj H
              have hnb248 := NB336_308.out
              have hnc248 := NB308_336.out
              have hnb249 := NB336_312.out
              have hnc249 := NB312_336.out
              have hnb250 := NB336_320.out
              have hnc250 := NB320_336.out
              have hnb251 := NB336_340.out
              have hnc251 := NB340_336.out
              have hcz252_0 : wr.cell? ⟨gb336, 0, none⟩ = some (.int .i64 t333) := (blk_cell BK336.out 0).trans rfl
              have hcz252_1 : wr.cell? ⟨gb336, 1, none⟩ = some (.int .i64 t334) := (blk_cell BK336.out 1).trans rfl
              have hfz252_0 := blk_frozen BK336.out 0
              have hfz252_1 := blk_frozen BK336.out 1
              have hnb253 := NB308_312.out
              have hnc253 := NB312_308.out
              have hnb254 := NB308_320.out
              have hnc254 := NB320_308.out
              have hnb255 := NB308_340.out
              have hnc255 := NB340_308.out
              have hcz256_0 : wr.cell? ⟨gb308, 0, none⟩ = some (.int .i64 t306) := (blk_cell BK308.out 0).trans rfl
              have hcz256_1 : wr.cell? ⟨gb308, 1, none⟩ = some (.int .i64 t307) := (blk_cell BK308.out 1).trans rfl
              have hfz256_0 := blk_frozen BK308.out 0
              have hfz256_1 := blk_frozen BK308.out 1
              have hnb257 := NB340_312.out
              have hnc257 := NB312_340.out
              have hnb258 := NB340_320.out
              have hnc258 := NB320_340.out
              have hcz259_0 : wr.cell? ⟨gb340, 0, none⟩ = some (.int .i64 t337) := (blk_cell BK340.out 0).trans rfl
              have hcz259_1 : wr.cell? ⟨gb340, 1, none⟩ = some (.int .i64 t338) := (blk_cell BK340.out 1).trans rfl
              have hfz259_0 := blk_frozen BK340.out 0
              have hfz259_1 := blk_frozen BK340.out 1
              have hnb260 := NB312_320.out
              have hnc260 := NB320_312.out
              have hcz261_0 : wr.cell? ⟨gb312, 0, none⟩ = some (.int .i64 t309) := (blk_cell BK312.out 0).trans rfl
              have hcz261_1 : wr.cell? ⟨gb312, 1, none⟩ = some (.int .i64 t310) := (blk_cell BK312.out 1).trans rfl
              have hfz261_0 := blk_frozen BK312.out 0
              have hfz261_1 := blk_frozen BK312.out 1
              go_wp2_with (first | (go_at_call 32; (with_reducible refine (impl_IsOrient.calls t309 t310 true _ A227.out).mono ?_); rintro e w262 ⟨rfl, hb⟩; have n0_ := Aside0.mk (Kd.R_below (by (with_reducible repeat (first | apply rA_ | apply rN_ | apply rD_)); exact HO_130.out) hb); have n1_ := Aside0.mk (blk_below (g := gb308) (o := .cells #[.int .i64 t306, .int .i64 t307] 39 (0, 0)) (by (with_reducible repeat (first | apply kN_ | apply kD_ | apply kA_)); exact BK308.out) hb); have n2_ := Aside0.mk (blk_below (g := gb312) (o := .cells #[.int .i64 t309, .int .i64 t310] 39 (0, 0)) (by (with_reducible repeat (first | apply kN_ | apply kD_ | apply kA_)); exact BK312.out) hb); have n3_ := Aside0.mk (blk_below (g := gb320) (o := .cells #[.int .i64 t317, .int .i64 t318] 39 (0, 0)) (by (with_reducible repeat (first | apply kN_ | apply kD_ | apply kA_)); exact BK320.out) hb); have n4_ := Aside0.mk (blk_below (g := gb336) (o := .cells #[.int .i64 t333, .int .i64 t334] 39 (0, 0)) (by (with_reducible repeat (first | apply kN_ | apply kD_ | apply kA_)); exact BK336.out) hb); have n5_ := Aside0.mk (blk_below (g := gb340) (o := .cells #[.int .i64 t337, .int .i64 t338] 39 (0, 0)) (by (with_reducible repeat (first | apply kN_ | apply kD_ | apply kA_)); exact BK340.out) hb); have n6_ := Aside0.mk (below_step (by repeat (first | (with_reducible first | exact HB.out | apply lA_ | apply lN_ | apply lD_ | refine below_set ?_ GE308.out | refine below_set ?_ GE312.out | refine below_set ?_ GE320.out | refine below_set ?_ GE336.out | refine below_set ?_ GE340.out) | exact HB.out)) hb); clear HO_130; clear BK308; clear BK312; clear BK320; clear BK336; clear BK340; clear HB; have HO_130 := n0_; have BK308 := n1_; have BK312 := n2_; have BK320 := n3_; have BK336 := n4_; have BK340 := n5_; have HB := n6_; clear n0_ n1_ n2_ n3_ n4_ n5_ n6_; (try clear hb); have hcz263_0 : w262.cell? ⟨gb320, 0, none⟩ = some (.int .i64 t317) := (blk_cell BK320.out 0).trans rfl; have hcz263_1 : w262.cell? ⟨gb320, 1, none⟩ = some (.int .i64 t318) := (blk_cell BK320.out 1).trans rfl; have hfz263_0 := blk_frozen BK320.out 0; have hfz263_1 := blk_frozen BK320.out 1) | (go_at_call 32; (with_reducible refine (impl_IsOrient.calls t317 t318 false _ A229.out).mono ?_); rintro e w264 ⟨rfl, hb⟩; have n0_ := Aside0.mk (Kd.R_below (by (with_reducible repeat (first | apply rA_ | apply rN_ | apply rD_)); exact HO_130.out) hb); have n1_ := Aside0.mk (blk_below (g := gb308) (o := .cells #[.int .i64 t306, .int .i64 t307] 39 (0, 0)) (by (with_reducible repeat (first | apply kN_ | apply kD_ | apply kA_)); exact BK308.out) hb); have n2_ := Aside0.mk (blk_below (g := gb312) (o := .cells #[.int .i64 t309, .int .i64 t310] 39 (0, 0)) (by (with_reducible repeat (first | apply kN_ | apply kD_ | apply kA_)); exact BK312.out) hb); have n3_ := Aside0.mk (blk_below (g := gb320) (o := .cells #[.int .i64 t317, .int .i64 t318] 39 (0, 0)) (by (with_reducible repeat (first | apply kN_ | apply kD_ | apply kA_)); exact BK320.out) hb); have n4_ := Aside0.mk (blk_below (g := gb336) (o := .cells #[.int .i64 t333, .int .i64 t334] 39 (0, 0)) (by (with_reducible repeat (first | apply kN_ | apply kD_ | apply kA_)); exact BK336.out) hb); have n5_ := Aside0.mk (blk_below (g := gb340) (o := .cells #[.int .i64 t337, .int .i64 t338] 39 (0, 0)) (by (with_reducible repeat (first | apply kN_ | apply kD_ | apply kA_)); exact BK340.out) hb); have n6_ := Aside0.mk (below_step (by repeat (first | (with_reducible first | exact HB.out | apply lA_ | apply lN_ | apply lD_ | refine below_set ?_ GE308.out | refine below_set ?_ GE312.out | refine below_set ?_ GE320.out | refine below_set ?_ GE336.out | refine below_set ?_ GE340.out) | exact HB.out)) hb); clear HO_130; clear BK308; clear BK312; clear BK320; clear BK336; clear BK340; clear HB; have HO_130 := n0_; have BK308 := n1_; have BK312 := n2_; have BK320 := n3_; have BK336 := n4_; have BK340 := n5_; have HB := n6_; clear n0_ n1_ n2_ n3_ n4_ n5_ n6_; (try clear hb)))
              go_ret
              exact ⟨by first | rfl | (simp [errW_none, errW_some] <;> rfl) | (simp [*, errW_none, errW_some] <;> rfl) | (simp [errW_none, errW_some, show ∀ l_ : List UInt8, (l_ != []) = !l_.isEmpty from fun l_ => by cases l_ <;> rfl]; done), by repeat (first | (with_reducible first | exact HB.out | apply lA_ | apply lN_ | apply lD_ | refine below_set ?_ GE308.out | refine below_set ?_ GE312.out | refine below_set ?_ GE320.out | refine below_set ?_ GE336.out | refine below_set ?_ GE340.out) | exact HB.out)⟩
     case rest =>
      as_aux_lemma =>
       clear HC155
       (try clear c1);(try clear c154);(try clear hcz15_0);(try clear hcz15_1);(try clear hcz19_0);(try clear hcz19_1);(try clear hcz20_0);(try clear hcz20_1);(try clear hcz25_0);(try clear hcz25_1);(try clear hcz26_0);(try clear hcz26_1);(try clear hcz32_0);(try clear hcz32_1);(try clear hcz33_0);(try clear hcz33_1);(try clear hcz40_0);(try clear hcz40_1);(try clear hfz15_0);(try clear hfz15_1);(try clear hfz19_0);(try clear hfz19_1);(try clear hfz20_0);(try clear hfz20_1);(try clear hfz25_0);(try clear hfz25_1);(try clear hfz26_0);(try clear hfz26_1);(try clear hfz32_0);(try clear hfz32_1);(try clear hfz33_0);(try clear hfz33_1);(try clear hfz40_0);(try clear hfz40_1)
       obtain ⟨kq, HA, HJ154, HB⟩ := hcut
       cases kq with
       | zero => exact absurd HA.out (by simp [laws_FnOrients.j2])
       | succ kj154 =>
        as_aux_lemma =>
         have H := HA.out
         clear HA
         simp only [laws_FnOrients.j2] at H
         replace H := Option.bind_eq_some_iff.mp H
         obtain ⟨⟨t345, t346, t347, t348⟩, A3010, H⟩ := H
         (try dsimp only at H)
         have A301 := Aside0.mk A3010
         clear A3010
         replace H := Option.bind_eq_some_iff.mp H
         obtain ⟨⟨t351, t352⟩, A3020, H⟩ := H
         (try dsimp only at H)
         have A302 := Aside0.mk A3020
         clear A3020
         replace H := Option.bind_eq_some_iff.mp H
         obtain ⟨⟨t353, t354⟩, A3030, H⟩ := H
         (try dsimp only at H)
         have A303 := Aside0.mk A3030
         clear A3030
         have HC304 := Aside0.mk H
         clear H
         go_upto_region 26 with (first | ((with_reducible refine gate_callee (f := 33) rfl ?_); refine goesL_ (some 175) rfl rfl Try.func33 (by kernel_rfl) rfl #[.slice A1 l1.length c1] rfl (by (try simp only [List.map_toArray, List.map_cons, List.map_nil]); first | done | rfl) ?_; (with_reducible refine (spec_DrawPalmsMeet.calls kj154 _ _ l1 t345 t346 t347 t348 _ ?side1 ?side2 A301.out).mono ?_); (case side1 => repeat (first | exact (Kd.C_below HR1.out HB.out) | (with_reducible first | apply cA_ | apply cN_ | apply cD_))); (case side2 => exact HC1.out); rintro e w305 ⟨rfl, hb⟩; refine ⟨_, rfl, ?_⟩; have n0_ := Aside0.mk (below_step (by repeat (first | (with_reducible first | exact HB.out | apply lA_ | apply lN_ | apply lD_) | exact HB.out)) hb); clear HB; have HB := n0_; clear n0_; (try clear hb)) | ((with_reducible refine gate_dst (N := 23) rfl ?_); (try (refine gate_guard (by rfl) ?_; dsimp only)); refine box_event ?hg (N := 23) ?hd (cs := #[.int .i64 0, .int .i64 0]) (t := 39) ?hr ?_; (case hd => rfl); (case hg => rfl); (case hr => first | (go_simp; done) | (go_simp; rfl)); intro gb349 hg w306 hbox hb; have n0_ := Aside0.mk (below_step (by repeat (first | (with_reducible first | exact HB.out | apply lA_ | apply lN_ | apply lD_) | exact HB.out)) hb); have n1_ := Aside0.mk (hbox); have n2_ := Aside0.mk ((by rw [hg]; exact (below_size (by repeat (first | (with_reducible first | exact HB.out | apply lA_ | apply lN_ | apply lD_) | exact HB.out))) : w.heap.size ≤ gb349)); have n3_ := n2_; clear HB; have HB := n0_; have BK349 := n1_; have GW349 := n2_; have GE349 := n3_; clear n0_ n1_ n2_ n3_; clear hb hbox hg) | ((with_reducible refine gate_dst (N := 24) rfl ?_); (try (refine gate_guard (by rfl) ?_; dsimp only)); refine box_event ?hg (N := 24) ?hd (cs := #[.int .i64 0, .int .i64 0]) (t := 39) ?hr ?_; (case hd => rfl); (case hg => rfl); (case hr => first | (go_simp; done) | (go_simp; rfl)); intro gb350 hg w307 hbox hb; have n0_ := Aside0.mk (blk_below (g := gb349) (o := .cells #[.int .i64 0, .int .i64 0] 39 (0, 0)) (by (with_reducible repeat (first | apply kN_ | apply kD_ | apply kA_)); exact BK349.out) hb); have n1_ := Aside0.mk (below_step (by repeat (first | (with_reducible first | exact HB.out | apply lA_ | apply lN_ | apply lD_ | refine below_set ?_ GE349.out) | exact HB.out)) hb); have n2_ := Aside0.mk (hbox); have n3_ := Aside0.mk ((by rw [hg]; exact (below_size (by repeat (first | (with_reducible first | exact HB.out | apply lA_ | apply lN_ | apply lD_ | refine below_set ?_ GE349.out) | exact HB.out))) : w.heap.size ≤ gb350)); have n4_ := n3_; have n5_ := Aside0.mk ((by rw [hg]; exact Nat.ne_of_lt (blk_lt (g := gb349) (o := .cells #[.int .i64 0, .int .i64 0] 39 (0, 0)) (by (with_reducible repeat (first | apply kN_ | apply kD_ | apply kA_)); exact BK349.out)) : gb349 ≠ gb350)); have n6_ := Aside0.mk ((by rw [hg]; exact Nat.ne_of_gt (blk_lt (g := gb349) (o := .cells #[.int .i64 0, .int .i64 0] 39 (0, 0)) (by (with_reducible repeat (first | apply kN_ | apply kD_ | apply kA_)); exact BK349.out)) : gb350 ≠ gb349)); clear BK349; clear HB; have BK349 := n0_; have HB := n1_; have BK350 := n2_; have GW350 := n3_; have GE350 := n4_; have NB349_350 := n5_; have NB350_349 := n6_; clear n0_ n1_ n2_ n3_ n4_ n5_ n6_; clear hb hbox hg; have hnb308 := NB349_350.out; have hnc308 := NB350_349.out; have hcz309_0 : w307.cell? ⟨gb349, 0, none⟩ = some (.int .i64 0) := (blk_cell BK349.out 0).trans rfl; have hcz309_1 : w307.cell? ⟨gb349, 1, none⟩ = some (.int .i64 0) := (blk_cell BK349.out 1).trans rfl; have hfz309_0 := blk_frozen BK349.out 0; have hfz309_1 := blk_frozen BK349.out 1; have hcz310_0 : w307.cell? ⟨gb350, 0, none⟩ = some (.int .i64 0) := (blk_cell BK350.out 0).trans rfl; have hcz310_1 : w307.cell? ⟨gb350, 1, none⟩ = some (.int .i64 0) := (blk_cell BK350.out 1).trans rfl; have hfz310_0 := blk_frozen BK350.out 0; have hfz310_1 := blk_frozen BK350.out 1) | ((with_reducible refine gate_callee (f := 34) rfl ?_); refine goesL_ (some 181) rfl rfl Try.func34 (by kernel_rfl) rfl #[.agg #[.int .i64 t345, .int .i64 t346], .agg #[.int .i64 t347, .int .i64 t348]] rfl (by (try simp only [List.map_toArray, List.map_cons, List.map_nil]); first | done | rfl) ?_; (with_reducible refine (impl_PalmsMeet.calls t345 t346 t347 t348 t351 t352 _ A302.out).mono ?_); rintro e w311 ⟨rfl, hb⟩; refine ⟨_, rfl, ?_⟩; have n0_ := Aside0.mk (blk_below (g := gb349) (o := .cells #[.int .i64 t345, .int .i64 t346] 39 (0, 0)) (by (with_reducible repeat (first | apply kN_ | apply kD_ | apply kA_)); refine blk_far ?_ NB349_350.out _; (with_reducible repeat (first | apply kN_ | apply kD_ | apply kA_)); refine blk_far ?_ NB349_350.out _; (with_reducible repeat (first | apply kN_ | apply kD_ | apply kA_)); refine blk_put (cs := #[.int .i64 t345, .int .i64 0]) ?_ 1 _ rfl; (with_reducible repeat (first | apply kN_ | apply kD_ | apply kA_)); refine blk_put (cs := #[.int .i64 0, .int .i64 0]) ?_ 0 _ rfl; (with_reducible repeat (first | apply kN_ | apply kD_ | apply kA_)); exact BK349.out) hb); have n1_ := Aside0.mk (blk_below (g := gb350) (o := .cells #[.int .i64 t347, .int .i64 t348] 39 (0, 0)) (by (with_reducible repeat (first | apply kN_ | apply kD_ | apply kA_)); refine blk_put (cs := #[.int .i64 t347, .int .i64 0]) ?_ 1 _ rfl; (with_reducible repeat (first | apply kN_ | apply kD_ | apply kA_)); refine blk_put (cs := #[.int .i64 0, .int .i64 0]) ?_ 0 _ rfl; (with_reducible repeat (first | apply kN_ | apply kD_ | apply kA_)); refine blk_far ?_ NB350_349.out _; (with_reducible repeat (first | apply kN_ | apply kD_ | apply kA_)); refine blk_far ?_ NB350_349.out _; (with_reducible repeat (first | apply kN_ | apply kD_ | apply kA_)); exact BK350.out) hb); have n2_ := Aside0.mk (below_step (by repeat (first | (with_reducible first | exact HB.out | apply lA_ | apply lN_ | apply lD_ | refine below_set ?_ GE349.out | refine below_set ?_ GE350.out) | exact HB.out)) hb); clear BK349; clear BK350; clear HB; have BK349 := n0_; have BK350 := n1_; have HB := n2_; clear n0_ n1_ n2_; (try clear hb); have hcz312_0 : w311.cell? ⟨gb349, 0, none⟩ = some (.int .i64 t345) := (blk_cell BK349.out 0).trans rfl; have hcz312_1 : w311.cell? ⟨gb349, 1, none⟩ = some (.int .i64 t346) := (blk_cell BK349.out 1).trans rfl; have hfz312_0 := blk_frozen BK349.out 0; have hfz312_1 := blk_frozen BK349.out 1; have hcz313_0 : w311.cell? ⟨gb350, 0, none⟩ = some (.int .i64 t347) := (blk_cell BK350.out 0).trans rfl; have hcz313_1 : w311.cell? ⟨gb350, 1, none⟩ = some (.int .i64 t348) := (blk_cell BK350.out 1).trans rfl; have hfz313_0 := blk_frozen BK350.out 0; have hfz313_1 := blk_frozen BK350.out 1) | ((with_reducible refine gate_callee (f := 35) rfl ?_); refine goesL_ (some 187) rfl rfl Try.func35 (by kernel_rfl) rfl #[.agg #[.int .i64 t345, .int .i64 t346], .agg #[.int .i64 t347, .int .i64 t348]] rfl (by (try simp only [List.map_toArray, List.map_cons, List.map_nil]); first | done | rfl) ?_; (with_reducible refine (spec_PalmsMeet.calls t345 t346 t347 t348 t353 t354 _ A303.out).mono ?_); rintro e w314 ⟨rfl, hb⟩; refine ⟨_, rfl, ?_⟩; have n0_ := Aside0.mk (blk_below (g := gb349) (o := .cells #[.int .i64 t345, .int .i64 t346] 39 (0, 0)) (by (with_reducible repeat (first | apply kN_ | apply kD_ | apply kA_)); exact BK349.out) hb); have n1_ := Aside0.mk (blk_below (g := gb350) (o := .cells #[.int .i64 t347, .int .i64 t348] 39 (0, 0)) (by (with_reducible repeat (first | apply kN_ | apply kD_ | apply kA_)); exact BK350.out) hb); have n2_ := Aside0.mk (below_step (by repeat (first | (with_reducible first | exact HB.out | apply lA_ | apply lN_ | apply lD_ | refine below_set ?_ GE349.out | refine below_set ?_ GE350.out) | exact HB.out)) hb); clear BK349; clear BK350; clear HB; have BK349 := n0_; have BK350 := n1_; have HB := n2_; clear n0_ n1_ n2_; (try clear hb)))
         (try simp only [Act.put, List.setIfInBounds_toArray, List.set_cons_zero, List.set_cons_succ])
         go_cut [197] (fun v197 wc => ∃ (kq : Nat) (x197_303 : Bool), v197 = .bool x197_303 ∧ Aside0 (laws_FnOrients.j3 kq l1 t352 t353 x197_303 t345 t346 t347 t348 = some r) ∧ Aside0 (kq ≤ kj154) ∧ Aside0 (wc.heap[gb349]? = some (.cells #[.int .i64 t345, .int .i64 t346] 39 (0, 0))) ∧ Aside0 (wc.heap[gb350]? = some (.cells #[.int .i64 t347, .int .i64 t348] 39 (0, 0))) ∧ Aside0 (Below w.heap.size w wc))
         case first =>
          as_aux_lemma =>
           have H := HC304.out
           clear HC304
           by_cases c315 : (t352 != t354) = true
           rotate_left
           ·rw [if_neg c315] at H
            have c315b0 : (t352 != t354) = false := by simpa using c315
            (try (have c315b1 : decide (t352 = t354) = true := by simpa using c315))
            (try (have c315b2 : (t352 == t354) = true := by simpa using c315))
            clear c315
            (first | rw [c315b0] | (simp only [i64_w, i32_w]; rw [c315b0]) | skip)
            as_aux_lemma =>
             have H' := Aside0.mk H
             clear H
             go_wp2
             go_meet
             case rel => exact ⟨_, ((t351 != t353)), (by first | rfl | (simp; done) | (simp [*]; done)), H', ⟨by have := HJ11.out; have := HJ154.out; first | omega | exact Nat.le_refl _⟩, ⟨by (with_reducible repeat (first | apply kN_ | apply kD_ | apply kA_)); exact BK349.out⟩, ⟨by (with_reducible repeat (first | apply kN_ | apply kD_ | apply kA_)); exact BK350.out⟩, ⟨by repeat (first | (with_reducible first | exact HB.out | apply lA_ | apply lN_ | apply lD_ | refine below_set ?_ GE349.out | refine below_set ?_ GE350.out) | exact HB.out)⟩⟩
           rw [if_pos c315] at H
           have c315b0 : (t352 != t354) = true := c315
           (try (have c315b1 : decide (t352 = t354) = false := by simpa using c315))
           (try (have c315b2 : (t352 == t354) = false := by simpa using c315))
           (try (have c315b3 : ¬ (t352 = t354) := by simpa using c315))
           clear c315
           (first | rw [c315b0] | (simp only [i64_w, i32_w]; rw [c315b0]) | skip)
           as_aux_lemma =>
            have H' := Aside0.mk H
            clear H
            go_wp2
            go_meet
            case rel => exact ⟨_, (true), (by first | rfl | (simp; done) | (simp [*]; done)), H', ⟨by have := HJ11.out; have := HJ154.out; first | omega | exact Nat.le_refl _⟩, ⟨by (with_reducible repeat (first | apply kN_ | apply kD_ | apply kA_)); exact BK349.out⟩, ⟨by (with_reducible repeat (first | apply kN_ | apply kD_ | apply kA_)); exact BK350.out⟩, ⟨by repeat (first | (with_reducible first | exact HB.out | apply lA_ | apply lN_ | apply lD_ | refine below_set ?_ GE349.out | refine below_set ?_ GE350.out) | exact HB.out)⟩⟩
         case rest =>
          as_aux_lemma =>
           clear HC304
           (try clear c1);(try clear c154);(try clear hcz15_0);(try clear hcz15_1);(try clear hcz19_0);(try clear hcz19_1);(try clear hcz20_0);(try clear hcz20_1);(try clear hcz25_0);(try clear hcz25_1);(try clear hcz26_0);(try clear hcz26_1);(try clear hcz309_0);(try clear hcz309_1);(try clear hcz310_0);(try clear hcz310_1);(try clear hcz312_0);(try clear hcz312_1);(try clear hcz313_0);(try clear hcz313_1);(try clear hcz32_0);(try clear hcz32_1);(try clear hcz33_0);(try clear hcz33_1);(try clear hcz40_0);(try clear hcz40_1);(try clear hfz15_0);(try clear hfz15_1);(try clear hfz19_0);(try clear hfz19_1);(try clear hfz20_0);(try clear hfz20_1);(try clear hfz25_0);(try clear hfz25_1);(try clear hfz26_0);(try clear hfz26_1);(try clear hfz309_0);(try clear hfz309_1);(try clear hfz310_0);(try clear hfz310_1);(try clear hfz312_0);(try clear hfz312_1);(try clear hfz313_0);(try clear hfz313_1);(try clear hfz32_0);(try clear hfz32_1);(try clear hfz33_0);(try clear hfz33_1);(try clear hfz40_0);(try clear hfz40_1)
           obtain ⟨kq, x197_303, rfl, HA, HJ303, BK349, BK350, HB⟩ := hcut
           cases kq with
           | zero => exact absurd HA.out (by simp [laws_FnOrients.j3])
           | succ kj303 =>
            as_aux_lemma =>
             have H := HA.out
             clear HA
             simp only [laws_FnOrients.j3] at H
             by_cases c316 : x197_303 = true
             ·subst c316
              have H1 : (some false) = some r := by rw [if_pos rfl] at H; exact H
              clear H
              have H := H1
              clear H1
              as_aux_lemma =>
               obtain rfl := Option.some.inj H
               go_wp2
               go_ret
               exact ⟨by first | rfl | (simp [errW_none, errW_some] <;> rfl) | (simp [*, errW_none, errW_some] <;> rfl) | (simp [errW_none, errW_some, show ∀ l_ : List UInt8, (l_ != []) = !l_.isEmpty from fun l_ => by cases l_ <;> rfl]; done), by repeat (first | (with_reducible first | exact HB.out | apply lA_ | apply lN_ | apply lD_ | refine below_set ?_ GE349.out | refine below_set ?_ GE350.out) | exact HB.out)⟩
             replace c316 := Bool.eq_false_iff.mpr c316
             subst c316
             have H1 : (if t352 = true then ((impl_OppositeDir.f t345).bind fun bt355 => ((impl_PalmsMeet.f t347 t348 t345 t346).bind fun bt357 => (if bt355.2 = true then (if (t353 != (bt355.1 == t347)) = true then (some false) else (if bt357.2 = true then (if (bt357.1 != t353) = true then (some false) else (laws_FnOrients.j4 kj303 l1)) else (some false))) else (some false)))) else (laws_FnOrients.j4 kj303 l1)) = some r := by rw [if_neg (show ¬ (false = true) by decide)] at H; exact H
             clear H
             have H := H1
             clear H1
             have HC317 := Aside0.mk H
             clear H
             go_upto_if 198 with (fail)
             go_cut [] (fun wc => ∃ (kq : Nat), Aside0 (laws_FnOrients.j4 kq l1 = some r) ∧ Aside0 (kq ≤ kj303) ∧ Aside0 (Below w.heap.size w wc))
             case first =>
              as_aux_lemma =>
               have H := HC317.out
               clear HC317
               by_cases c318 : t352 = true
               rotate_left
               ·replace c318 := Bool.eq_false_iff.mpr c318
                subst c318
                have H1 : (laws_FnOrients.j4 kj303 l1) = some r := by rw [if_neg (show ¬ (false = true) by decide)] at H; exact H
                clear H
                have H := H1
                clear H1
                as_aux_lemma =>
                 have H' := Aside0.mk H
                 clear H
                 go_wp2
                 go_meet
                 case rel => exact ⟨_, H', ⟨by have := HJ11.out; have := HJ154.out; have := HJ303.out; first | omega | exact Nat.le_refl _⟩, ⟨by repeat (first | (with_reducible first | exact HB.out | apply lA_ | apply lN_ | apply lD_ | refine below_set ?_ GE349.out | refine below_set ?_ GE350.out) | exact HB.out)⟩⟩
               subst c318
               have H1 : ((impl_OppositeDir.f t345).bind fun bt355 => ((impl_PalmsMeet.f t347 t348 t345 t346).bind fun bt357 => (if bt355.2 = true then (if (t353 != (bt355.1 == t347)) = true then (some false) else (if bt357.2 = true then (if (bt357.1 != t353) = true then (some false) else (laws_FnOrients.j4 kj303 l1)) else (some false))) else (some false)))) = some r := by rw [if_pos rfl] at H; exact H
               clear H
               have H := H1
               clear H1
               replace H := Option.bind_eq_some_iff.mp H
               obtain ⟨⟨t355, t356⟩, A3190, H⟩ := H
               (try dsimp only at H)
               have A319 := Aside0.mk A3190
               clear A3190
               replace H := Option.bind_eq_some_iff.mp H
               obtain ⟨⟨t357, t358⟩, A3200, H⟩ := H
               (try dsimp only at H)
               have A320 := Aside0.mk A3200
               clear A3200
               by_cases c321 : t356 = true
               rotate_left
               ·replace c321 := Bool.eq_false_iff.mpr c321
                subst c321
                have H1 : (some false) = some r := by rw [if_neg (show ¬ (false = true) by decide)] at H; exact H
                clear H
                have H := H1
                clear H1
                as_aux_lemma =>
                 obtain rfl := Option.some.inj H
                 have hnb345 := NB349_350.out
                 have hnc345 := NB350_349.out
                 have hcz346_0 : wc.cell? ⟨gb349, 0, none⟩ = some (.int .i64 t345) := (blk_cell BK349.out 0).trans rfl
                 have hcz346_1 : wc.cell? ⟨gb349, 1, none⟩ = some (.int .i64 t346) := (blk_cell BK349.out 1).trans rfl
                 have hfz346_0 := blk_frozen BK349.out 0
                 have hfz346_1 := blk_frozen BK349.out 1
                 go_wp2_with (first | ((with_reducible refine gate_callee (f := 36) rfl ?_); refine goesL_ (some 202) rfl rfl Try.func36 (by kernel_rfl) rfl #[.int .i64 t345] rfl (by (try simp only [List.map_toArray, List.map_cons, List.map_nil]); first | done | rfl) ?_; (with_reducible refine (impl_OppositeDir.calls t345 t355 false _ A319.out).mono ?_); rintro e w' ⟨rfl, ⟨nd, rfl⟩⟩; refine ⟨_, rfl, ?_⟩; have hcz347_0 : wc.cell? ⟨gb350, 0, none⟩ = some (.int .i64 t347) := (blk_cell BK350.out 0).trans rfl; have hcz347_1 : wc.cell? ⟨gb350, 1, none⟩ = some (.int .i64 t348) := (blk_cell BK350.out 1).trans rfl; have hfz347_0 := blk_frozen BK350.out 0; have hfz347_1 := blk_frozen BK350.out 1; clear BK350; clear BK349) | ((with_reducible refine gate_callee (f := 34) rfl ?_); refine goesL_ (some 208) rfl rfl Try.func34 (by kernel_rfl) rfl #[.agg #[.int .i64 t347, .int .i64 t348], .agg #[.int .i64 t345, .int .i64 t346]] rfl (by (try simp only [List.map_toArray, List.map_cons, List.map_nil]); first | done | rfl) ?_; (with_reducible refine (impl_PalmsMeet.calls t347 t348 t345 t346 t357 t358 _ A320.out).mono ?_); rintro e w348 ⟨rfl, hb⟩; refine ⟨_, rfl, ?_⟩; have n0_ := Aside0.mk (below_step (by repeat (first | (with_reducible first | exact HB.out | apply lA_ | apply lN_ | apply lD_) | exact HB.out)) hb); clear HB; have HB := n0_; clear n0_; (try clear hb)))
                 go_ret
                 exact ⟨by first | rfl | (simp [errW_none, errW_some] <;> rfl) | (simp [*, errW_none, errW_some] <;> rfl) | (simp [errW_none, errW_some, show ∀ l_ : List UInt8, (l_ != []) = !l_.isEmpty from fun l_ => by cases l_ <;> rfl]; done), by repeat (first | (with_reducible first | exact HB.out | apply lA_ | apply lN_ | apply lD_) | exact HB.out)⟩
               subst c321
               have H1 : (if (t353 != (t355 == t347)) = true then (some false) else (if t358 = true then (if (t357 != t353) = true then (some false) else (laws_FnOrients.j4 kj303 l1)) else (some false))) = some r := by rw [if_pos rfl] at H; exact H
               clear H
               have H := H1
               clear H1
               by_cases c322 : (t353 != (t355 == t347)) = true
               ·rw [if_pos c322] at H
                have c322b0 : (t353 != (t355 == t347)) = true := c322
                (try (have c322b1 : decide (t353 = (t355 == t347)) = false := by simpa using c322))
                (try (have c322b2 : (t353 == (t355 == t347)) = false := by simpa using c322))
                (try (have c322b3 : ¬ (t353 = (t355 == t347)) := by simpa using c322))
                clear c322
                (first | rw [c322b0] | (simp only [i64_w, i32_w]; rw [c322b0]) | skip)
                as_aux_lemma =>
                 obtain rfl := Option.some.inj H
                 have hnb323 := NB349_350.out
                 have hnc323 := NB350_349.out
                 have hcz324_0 : wc.cell? ⟨gb349, 0, none⟩ = some (.int .i64 t345) := (blk_cell BK349.out 0).trans rfl
                 have hcz324_1 : wc.cell? ⟨gb349, 1, none⟩ = some (.int .i64 t346) := (blk_cell BK349.out 1).trans rfl
                 have hfz324_0 := blk_frozen BK349.out 0
                 have hfz324_1 := blk_frozen BK349.out 1
                 go_wp2_with (first | ((with_reducible refine gate_callee (f := 36) rfl ?_); refine goesL_ (some 202) rfl rfl Try.func36 (by kernel_rfl) rfl #[.int .i64 t345] rfl (by (try simp only [List.map_toArray, List.map_cons, List.map_nil]); first | done | rfl) ?_; (with_reducible refine (impl_OppositeDir.calls t345 t355 true _ A319.out).mono ?_); rintro e w' ⟨rfl, ⟨nd, rfl⟩⟩; refine ⟨_, rfl, ?_⟩; have hcz325_0 : wc.cell? ⟨gb350, 0, none⟩ = some (.int .i64 t347) := (blk_cell BK350.out 0).trans rfl; have hcz325_1 : wc.cell? ⟨gb350, 1, none⟩ = some (.int .i64 t348) := (blk_cell BK350.out 1).trans rfl; have hfz325_0 := blk_frozen BK350.out 0; have hfz325_1 := blk_frozen BK350.out 1; clear BK349) | ((with_reducible refine gate_callee (f := 34) rfl ?_); refine goesL_ (some 208) rfl rfl Try.func34 (by kernel_rfl) rfl #[.agg #[.int .i64 t347, .int .i64 t348], .agg #[.int .i64 t345, .int .i64 t346]] rfl (by (try simp only [List.map_toArray, List.map_cons, List.map_nil]); first | done | rfl) ?_; (with_reducible refine (impl_PalmsMeet.calls t347 t348 t345 t346 t357 t358 _ A320.out).mono ?_); rintro e w326 ⟨rfl, hb⟩; refine ⟨_, rfl, ?_⟩; have n0_ := Aside0.mk (blk_below (g := gb350) (o := .cells #[.int .i64 t347, .int .i64 t348] 39 (0, 0)) (by (with_reducible repeat (first | apply kN_ | apply kD_ | apply kA_)); exact BK350.out) hb); have n1_ := Aside0.mk (below_step (by repeat (first | (with_reducible first | exact HB.out | apply lA_ | apply lN_ | apply lD_ | refine below_set ?_ GE350.out) | exact HB.out)) hb); clear BK350; clear HB; have BK350 := n0_; have HB := n1_; clear n0_ n1_; (try clear hb); have hcz327_0 : w326.cell? ⟨gb350, 0, none⟩ = some (.int .i64 t347) := (blk_cell BK350.out 0).trans rfl; have hcz327_1 : w326.cell? ⟨gb350, 1, none⟩ = some (.int .i64 t348) := (blk_cell BK350.out 1).trans rfl; have hfz327_0 := blk_frozen BK350.out 0; have hfz327_1 := blk_frozen BK350.out 1))
                 go_ret
                 exact ⟨by first | rfl | (simp [errW_none, errW_some] <;> rfl) | (simp [*, errW_none, errW_some] <;> rfl) | (simp [errW_none, errW_some, show ∀ l_ : List UInt8, (l_ != []) = !l_.isEmpty from fun l_ => by cases l_ <;> rfl]; done), by repeat (first | (with_reducible first | exact HB.out | apply lA_ | apply lN_ | apply lD_ | refine below_set ?_ GE350.out) | exact HB.out)⟩
               rw [if_neg c322] at H
               have c322b0 : (t353 != (t355 == t347)) = false := by simpa using c322
               (try (have c322b1 : decide (t353 = (t355 == t347)) = true := by simpa using c322))
               (try (have c322b2 : (t353 == (t355 == t347)) = true := by simpa using c322))
               clear c322
               (first | rw [c322b0] | (simp only [i64_w, i32_w]; rw [c322b0]) | skip)
               by_cases c328 : t358 = true
               rotate_left
               ·replace c328 := Bool.eq_false_iff.mpr c328
                subst c328
                have H1 : (some false) = some r := by rw [if_neg (show ¬ (false = true) by decide)] at H; exact H
                clear H
                have H := H1
                clear H1
                as_aux_lemma =>
                 obtain rfl := Option.some.inj H
                 have hnb340 := NB349_350.out
                 have hnc340 := NB350_349.out
                 have hcz341_0 : wc.cell? ⟨gb349, 0, none⟩ = some (.int .i64 t345) := (blk_cell BK349.out 0).trans rfl
                 have hcz341_1 : wc.cell? ⟨gb349, 1, none⟩ = some (.int .i64 t346) := (blk_cell BK349.out 1).trans rfl
                 have hfz341_0 := blk_frozen BK349.out 0
                 have hfz341_1 := blk_frozen BK349.out 1
                 go_wp2_with (first | ((with_reducible refine gate_callee (f := 36) rfl ?_); refine goesL_ (some 202) rfl rfl Try.func36 (by kernel_rfl) rfl #[.int .i64 t345] rfl (by (try simp only [List.map_toArray, List.map_cons, List.map_nil]); first | done | rfl) ?_; (with_reducible refine (impl_OppositeDir.calls t345 t355 true _ A319.out).mono ?_); rintro e w' ⟨rfl, ⟨nd, rfl⟩⟩; refine ⟨_, rfl, ?_⟩; have hcz342_0 : wc.cell? ⟨gb350, 0, none⟩ = some (.int .i64 t347) := (blk_cell BK350.out 0).trans rfl; have hcz342_1 : wc.cell? ⟨gb350, 1, none⟩ = some (.int .i64 t348) := (blk_cell BK350.out 1).trans rfl; have hfz342_0 := blk_frozen BK350.out 0; have hfz342_1 := blk_frozen BK350.out 1; clear BK349) | ((with_reducible refine gate_callee (f := 34) rfl ?_); refine goesL_ (some 208) rfl rfl Try.func34 (by kernel_rfl) rfl #[.agg #[.int .i64 t347, .int .i64 t348], .agg #[.int .i64 t345, .int .i64 t346]] rfl (by (try simp only [List.map_toArray, List.map_cons, List.map_nil]); first | done | rfl) ?_; (with_reducible refine (impl_PalmsMeet.calls t347 t348 t345 t346 t357 false _ A320.out).mono ?_); rintro e w343 ⟨rfl, hb⟩; refine ⟨_, rfl, ?_⟩; have n0_ := Aside0.mk (blk_below (g := gb350) (o := .cells #[.int .i64 t347, .int .i64 t348] 39 (0, 0)) (by (with_reducible repeat (first | apply kN_ | apply kD_ | apply kA_)); exact BK350.out) hb); have n1_ := Aside0.mk (below_step (by repeat (first | (with_reducible first | exact HB.out | apply lA_ | apply lN_ | apply lD_ | refine below_set ?_ GE350.out) | exact HB.out)) hb); clear BK350; clear HB; have BK350 := n0_; have HB := n1_; clear n0_ n1_; (try clear hb); have hcz344_0 : w343.cell? ⟨gb350, 0, none⟩ = some (.int .i64 t347) := (blk_cell BK350.out 0).trans rfl; have hcz344_1 : w343.cell? ⟨gb350, 1, none⟩ = some (.int .i64 t348) := (blk_cell BK350.out 1).trans rfl; have hfz344_0 := blk_frozen BK350.out 0; have hfz344_1 := blk_frozen BK350.out 1))
                 go_ret
                 exact ⟨by first | rfl | (simp [errW_none, errW_some] <;> rfl) | (simp [*, errW_none, errW_some] <;> rfl) | (simp [errW_none, errW_some, show ∀ l_ : List UInt8, (l_ != []) = !l_.isEmpty from fun l_ => by cases l_ <;> rfl]; done), by repeat (first | (with_reducible first | exact HB.out | apply lA_ | apply lN_ | apply lD_ | refine below_set ?_ GE350.out) | exact HB.out)⟩
               subst c328
               have H1 : (if (t357 != t353) = true then (some false) else (laws_FnOrients.j4 kj303 l1)) = some r := by rw [if_pos rfl] at H; exact H
               clear H
               have H := H1
               clear H1
               by_cases c329 : (t357 != t353) = true
               rotate_left
               ·rw [if_neg c329] at H
                have c329b0 : (t357 != t353) = false := by simpa using c329
                (try (have c329b1 : decide (t357 = t353) = true := by simpa using c329))
                (try (have c329b2 : (t357 == t353) = true := by simpa using c329))
                clear c329
                as_aux_lemma =>
                 have H' := Aside0.mk H
                 clear H
                 have hnb335 := NB349_350.out
                 have hnc335 := NB350_349.out
                 have hcz336_0 : wc.cell? ⟨gb349, 0, none⟩ = some (.int .i64 t345) := (blk_cell BK349.out 0).trans rfl
                 have hcz336_1 : wc.cell? ⟨gb349, 1, none⟩ = some (.int .i64 t346) := (blk_cell BK349.out 1).trans rfl
                 have hfz336_0 := blk_frozen BK349.out 0
                 have hfz336_1 := blk_frozen BK349.out 1
                 go_wp2_with (first | ((with_reducible refine gate_callee (f := 36) rfl ?_); refine goesL_ (some 202) rfl rfl Try.func36 (by kernel_rfl) rfl #[.int .i64 t345] rfl (by (try simp only [List.map_toArray, List.map_cons, List.map_nil]); first | done | rfl) ?_; (with_reducible refine (impl_OppositeDir.calls t345 t355 true _ A319.out).mono ?_); rintro e w' ⟨rfl, ⟨nd, rfl⟩⟩; refine ⟨_, rfl, ?_⟩; have hcz337_0 : wc.cell? ⟨gb350, 0, none⟩ = some (.int .i64 t347) := (blk_cell BK350.out 0).trans rfl; have hcz337_1 : wc.cell? ⟨gb350, 1, none⟩ = some (.int .i64 t348) := (blk_cell BK350.out 1).trans rfl; have hfz337_0 := blk_frozen BK350.out 0; have hfz337_1 := blk_frozen BK350.out 1; clear BK349) | ((with_reducible refine gate_callee (f := 34) rfl ?_); refine goesL_ (some 208) rfl rfl Try.func34 (by kernel_rfl) rfl #[.agg #[.int .i64 t347, .int .i64 t348], .agg #[.int .i64 t345, .int .i64 t346]] rfl (by (try simp only [List.map_toArray, List.map_cons, List.map_nil]); first | done | rfl) ?_; (with_reducible refine (impl_PalmsMeet.calls t347 t348 t345 t346 t357 true _ A320.out).mono ?_); rintro e w338 ⟨rfl, hb⟩; refine ⟨_, rfl, ?_⟩; have n0_ := Aside0.mk (blk_below (g := gb350) (o := .cells #[.int .i64 t347, .int .i64 t348] 39 (0, 0)) (by (with_reducible repeat (first | apply kN_ | apply kD_ | apply kA_)); exact BK350.out) hb); have n1_ := Aside0.mk (below_step (by repeat (first | (with_reducible first | exact HB.out | apply lA_ | apply lN_ | apply lD_ | refine below_set ?_ GE350.out) | exact HB.out)) hb); clear BK350; clear HB; have BK350 := n0_; have HB := n1_; clear n0_ n1_; (try clear hb); have hcz339_0 : w338.cell? ⟨gb350, 0, none⟩ = some (.int .i64 t347) := (blk_cell BK350.out 0).trans rfl; have hcz339_1 : w338.cell? ⟨gb350, 1, none⟩ = some (.int .i64 t348) := (blk_cell BK350.out 1).trans rfl; have hfz339_0 := blk_frozen BK350.out 0; have hfz339_1 := blk_frozen BK350.out 1))
                 go_meet
                 case rel => exact ⟨_, H', ⟨by have := HJ11.out; have := HJ154.out; have := HJ303.out; first | omega | exact Nat.le_refl _⟩, ⟨by repeat (first | (with_reducible first | exact HB.out | apply lA_ | apply lN_ | apply lD_ | refine below_set ?_ GE350.out) | exact HB.out)⟩⟩
               rw [if_pos c329] at H
               have c329b0 : (t357 != t353) = true := c329
               (try (have c329b1 : decide (t357 = t353) = false := by simpa using c329))
               (try (have c329b2 : (t357 == t353) = false := by simpa using c329))
               (try (have c329b3 : ¬ (t357 = t353) := by simpa using c329))
               clear c329
               as_aux_lemma =>
                obtain rfl := Option.some.inj H
                have hnb330 := NB349_350.out
                have hnc330 := NB350_349.out
                have hcz331_0 : wc.cell? ⟨gb349, 0, none⟩ = some (.int .i64 t345) := (blk_cell BK349.out 0).trans rfl
                have hcz331_1 : wc.cell? ⟨gb349, 1, none⟩ = some (.int .i64 t346) := (blk_cell BK349.out 1).trans rfl
                have hfz331_0 := blk_frozen BK349.out 0
                have hfz331_1 := blk_frozen BK349.out 1
                go_wp2_with (first | ((with_reducible refine gate_callee (f := 36) rfl ?_); refine goesL_ (some 202) rfl rfl Try.func36 (by kernel_rfl) rfl #[.int .i64 t345] rfl (by (try simp only [List.map_toArray, List.map_cons, List.map_nil]); first | done | rfl) ?_; (with_reducible refine (impl_OppositeDir.calls t345 t355 true _ A319.out).mono ?_); rintro e w' ⟨rfl, ⟨nd, rfl⟩⟩; refine ⟨_, rfl, ?_⟩; have hcz332_0 : wc.cell? ⟨gb350, 0, none⟩ = some (.int .i64 t347) := (blk_cell BK350.out 0).trans rfl; have hcz332_1 : wc.cell? ⟨gb350, 1, none⟩ = some (.int .i64 t348) := (blk_cell BK350.out 1).trans rfl; have hfz332_0 := blk_frozen BK350.out 0; have hfz332_1 := blk_frozen BK350.out 1; clear BK349) | ((with_reducible refine gate_callee (f := 34) rfl ?_); refine goesL_ (some 208) rfl rfl Try.func34 (by kernel_rfl) rfl #[.agg #[.int .i64 t347, .int .i64 t348], .agg #[.int .i64 t345, .int .i64 t346]] rfl (by (try simp only [List.map_toArray, List.map_cons, List.map_nil]); first | done | rfl) ?_; (with_reducible refine (impl_PalmsMeet.calls t347 t348 t345 t346 t357 true _ A320.out).mono ?_); rintro e w333 ⟨rfl, hb⟩; refine ⟨_, rfl, ?_⟩; have n0_ := Aside0.mk (blk_below (g := gb350) (o := .cells #[.int .i64 t347, .int .i64 t348] 39 (0, 0)) (by (with_reducible repeat (first | apply kN_ | apply kD_ | apply kA_)); exact BK350.out) hb); have n1_ := Aside0.mk (below_step (by repeat (first | (with_reducible first | exact HB.out | apply lA_ | apply lN_ | apply lD_ | refine below_set ?_ GE350.out) | exact HB.out)) hb); clear BK350; clear HB; have BK350 := n0_; have HB := n1_; clear n0_ n1_; (try clear hb); have hcz334_0 : w333.cell? ⟨gb350, 0, none⟩ = some (.int .i64 t347) := (blk_cell BK350.out 0).trans rfl; have hcz334_1 : w333.cell? ⟨gb350, 1, none⟩ = some (.int .i64 t348) := (blk_cell BK350.out 1).trans rfl; have hfz334_0 := blk_frozen BK350.out 0; have hfz334_1 := blk_frozen BK350.out 1))
                go_ret
                exact ⟨by first | rfl | (simp [errW_none, errW_some] <;> rfl) | (simp [*, errW_none, errW_some] <;> rfl) | (simp [errW_none, errW_some, show ∀ l_ : List UInt8, (l_ != []) = !l_.isEmpty from fun l_ => by cases l_ <;> rfl]; done), by repeat (first | (with_reducible first | exact HB.out | apply lA_ | apply lN_ | apply lD_ | refine below_set ?_ GE350.out) | exact HB.out)⟩
             case rest =>
              as_aux_lemma =>
               clear HC317
               (try clear c1);(try clear c154);(try clear c316);(try clear hcz15_0);(try clear hcz15_1);(try clear hcz19_0);(try clear hcz19_1);(try clear hcz20_0);(try clear hcz20_1);(try clear hcz25_0);(try clear hcz25_1);(try clear hcz26_0);(try clear hcz26_1);(try clear hcz309_0);(try clear hcz309_1);(try clear hcz310_0);(try clear hcz310_1);(try clear hcz312_0);(try clear hcz312_1);(try clear hcz313_0);(try clear hcz313_1);(try clear hcz32_0);(try clear hcz32_1);(try clear hcz33_0);(try clear hcz33_1);(try clear hcz40_0);(try clear hcz40_1);(try clear hfz15_0);(try clear hfz15_1);(try clear hfz19_0);(try clear hfz19_1);(try clear hfz20_0);(try clear hfz20_1);(try clear hfz25_0);(try clear hfz25_1);(try clear hfz26_0);(try clear hfz26_1);(try clear hfz309_0);(try clear hfz309_1);(try clear hfz310_0);(try clear hfz310_1);(try clear hfz312_0);(try clear hfz312_1);(try clear hfz313_0);(try clear hfz313_1);(try clear hfz32_0);(try clear hfz32_1);(try clear hfz33_0);(try clear hfz33_1);(try clear hfz40_0);(try clear hfz40_1)
               obtain ⟨kq, HA, HJ316, HB⟩ := hcut
               cases kq with
               | zero => exact absurd HA.out (by simp [laws_FnOrients.j4])
               | succ kj316 =>
                as_aux_lemma =>
                 have H := HA.out
                 clear HA
                 simp only [laws_FnOrients.j4] at H
                 replace H := Option.bind_eq_some_iff.mp H
                 obtain ⟨t359, A3490, H⟩ := H
                 (try dsimp only at H)
                 have A349 := Aside0.mk A3490
                 clear A3490
                 replace H := Option.bind_eq_some_iff.mp H
                 obtain ⟨⟨t360, t361⟩, A3500, H⟩ := H
                 (try dsimp only at H)
                 have A350 := Aside0.mk A3500
                 clear A3500
                 replace H := Option.bind_eq_some_iff.mp H
                 obtain ⟨⟨t362, t363⟩, A3510, H⟩ := H
                 (try dsimp only at H)
                 have A351 := Aside0.mk A3510
                 clear A3510
                 have HC352 := Aside0.mk H
                 clear H
                 go_upto_region 36 with (first | ((with_reducible refine gate_callee (f := 37) rfl ?_); refine goesL_ (some 231) rfl rfl Try.func37 (by kernel_rfl) rfl #[.slice A1 l1.length c1] rfl (by (try simp only [List.map_toArray, List.map_cons, List.map_nil]); first | done | rfl) ?_; (with_reducible refine (spec_DrawOppositeDir.calls _ _ l1 t359 _ ?side1 ?side2 A349.out).mono ?_); (case side1 => repeat (first | exact (Kd.C_below HR1.out HB.out) | (with_reducible first | apply cA_ | apply cN_ | apply cD_))); (case side2 => exact HC1.out); rintro e w353 ⟨rfl, hb⟩; refine ⟨_, rfl, ?_⟩; have n0_ := Aside0.mk (below_step (by repeat (first | (with_reducible first | exact HB.out | apply lA_ | apply lN_ | apply lD_) | exact HB.out)) hb); clear HB; have HB := n0_; clear n0_; (try clear hb)) | ((with_reducible refine gate_callee (f := 36) rfl ?_); refine goesL_ (some 234) rfl rfl Try.func36 (by kernel_rfl) rfl #[.int .i64 t359] rfl (by (try simp only [List.map_toArray, List.map_cons, List.map_nil]); first | done | rfl) ?_; (with_reducible refine (impl_OppositeDir.calls t359 t360 t361 _ A350.out).mono ?_); rintro e w' ⟨rfl, ⟨nd, rfl⟩⟩; refine ⟨_, rfl, ?_⟩) | ((with_reducible refine gate_callee (f := 38) rfl ?_); refine goesL_ (some 239) rfl rfl Try.func38 (by kernel_rfl) rfl #[.int .i64 t359] rfl (by (try simp only [List.map_toArray, List.map_cons, List.map_nil]); first | done | rfl) ?_; (with_reducible refine (spec_OppositeDir.calls t359 t362 t363 _ A351.out).mono ?_); rintro e w' ⟨rfl, ⟨nd, rfl⟩⟩; refine ⟨_, rfl, ?_⟩))
                 (try simp only [Act.put, List.setIfInBounds_toArray, List.set_cons_zero, List.set_cons_succ])
                 go_cut [249] (fun v249 wc => ∃ (kq : Nat) (x249_351 : Bool), v249 = .bool x249_351 ∧ Aside0 (laws_FnOrients.j5 kq l1 t359 t360 t361 t362 x249_351 = some r) ∧ Aside0 (kq ≤ kj316) ∧ Aside0 (Below w.heap.size w wc))
                 case first =>
                  as_aux_lemma =>
                   have H := HC352.out
                   clear HC352
                   by_cases c354 : (t361 != t363) = true
                   rotate_left
                   ·rw [if_neg c354] at H
                    have c354b0 : (t361 != t363) = false := by simpa using c354
                    (try (have c354b1 : decide (t361 = t363) = true := by simpa using c354))
                    (try (have c354b2 : (t361 == t363) = true := by simpa using c354))
                    clear c354
                    (first | rw [c354b0] | (simp only [i64_w, i32_w]; rw [c354b0]) | skip)
                    as_aux_lemma =>
                     have H' := Aside0.mk H
                     clear H
                     go_wp2
                     go_meet
                     case rel => exact ⟨_, ((t360 != t362)), (by first | rfl | (simp; done) | (simp [*]; done)), H', ⟨by have := HJ11.out; have := HJ154.out; have := HJ303.out; have := HJ316.out; first | omega | exact Nat.le_refl _⟩, ⟨by repeat (first | (with_reducible first | exact HB.out | apply lA_ | apply lN_ | apply lD_) | exact HB.out)⟩⟩
                   rw [if_pos c354] at H
                   have c354b0 : (t361 != t363) = true := c354
                   (try (have c354b1 : decide (t361 = t363) = false := by simpa using c354))
                   (try (have c354b2 : (t361 == t363) = false := by simpa using c354))
                   (try (have c354b3 : ¬ (t361 = t363) := by simpa using c354))
                   clear c354
                   (first | rw [c354b0] | (simp only [i64_w, i32_w]; rw [c354b0]) | skip)
                   as_aux_lemma =>
                    have H' := Aside0.mk H
                    clear H
                    go_wp2
                    go_meet
                    case rel => exact ⟨_, (true), (by first | rfl | (simp; done) | (simp [*]; done)), H', ⟨by have := HJ11.out; have := HJ154.out; have := HJ303.out; have := HJ316.out; first | omega | exact Nat.le_refl _⟩, ⟨by repeat (first | (with_reducible first | exact HB.out | apply lA_ | apply lN_ | apply lD_) | exact HB.out)⟩⟩
                 case rest =>
                  as_aux_lemma =>
                   clear HC352
                   (try clear c1);(try clear c154);(try clear c316);(try clear hcz15_0);(try clear hcz15_1);(try clear hcz19_0);(try clear hcz19_1);(try clear hcz20_0);(try clear hcz20_1);(try clear hcz25_0);(try clear hcz25_1);(try clear hcz26_0);(try clear hcz26_1);(try clear hcz309_0);(try clear hcz309_1);(try clear hcz310_0);(try clear hcz310_1);(try clear hcz312_0);(try clear hcz312_1);(try clear hcz313_0);(try clear hcz313_1);(try clear hcz32_0);(try clear hcz32_1);(try clear hcz33_0);(try clear hcz33_1);(try clear hcz40_0);(try clear hcz40_1);(try clear hfz15_0);(try clear hfz15_1);(try clear hfz19_0);(try clear hfz19_1);(try clear hfz20_0);(try clear hfz20_1);(try clear hfz25_0);(try clear hfz25_1);(try clear hfz26_0);(try clear hfz26_1);(try clear hfz309_0);(try clear hfz309_1);(try clear hfz310_0);(try clear hfz310_1);(try clear hfz312_0);(try clear hfz312_1);(try clear hfz313_0);(try clear hfz313_1);(try clear hfz32_0);(try clear hfz32_1);(try clear hfz33_0);(try clear hfz33_1);(try clear hfz40_0);(try clear hfz40_1)
                   obtain ⟨kq, x249_351, rfl, HA, HJ351, HB⟩ := hcut
                   cases kq with
                   | zero => exact absurd HA.out (by simp [laws_FnOrients.j5])
                   | succ kj351 =>
                    as_aux_lemma =>
                     have H := HA.out
                     clear HA
                     simp only [laws_FnOrients.j5] at H
                     by_cases c355 : x249_351 = true
                     ·subst c355
                      have H1 : (some false) = some r := by rw [if_pos rfl] at H; exact H
                      clear H
                      have H := H1
                      clear H1
                      as_aux_lemma =>
                       obtain rfl := Option.some.inj H
                       go_wp2
                       go_ret
                       exact ⟨by first | rfl | (simp [errW_none, errW_some] <;> rfl) | (simp [*, errW_none, errW_some] <;> rfl) | (simp [errW_none, errW_some, show ∀ l_ : List UInt8, (l_ != []) = !l_.isEmpty from fun l_ => by cases l_ <;> rfl]; done), by repeat (first | (with_reducible first | exact HB.out | apply lA_ | apply lN_ | apply lD_) | exact HB.out)⟩
                     replace c355 := Bool.eq_false_iff.mpr c355
                     subst c355
                     have H1 : (if t361 = true then ((impl_OppositeDir.f t360).bind fun bt364 => (if bt364.2 = true then (if bt364.1 = t359 then (if t362 = t359 then (some false) else (laws_FnOrients.j6 kj351 l1)) else (some false)) else (some false))) else (laws_FnOrients.j6 kj351 l1)) = some r := by rw [if_neg (show ¬ (false = true) by decide)] at H; exact H
                     clear H
                     have H := H1
                     clear H1
                     have HC356 := Aside0.mk H
                     clear H
                     go_upto_if 250 with (fail)
                     go_cut [] (fun wc => ∃ (kq : Nat), Aside0 (laws_FnOrients.j6 kq l1 = some r) ∧ Aside0 (kq ≤ kj351) ∧ Aside0 (Below w.heap.size w wc))
                     case first =>
                      as_aux_lemma =>
                       have H := HC356.out
                       clear HC356
                       by_cases c357 : t361 = true
                       rotate_left
                       ·replace c357 := Bool.eq_false_iff.mpr c357
                        subst c357
                        have H1 : (laws_FnOrients.j6 kj351 l1) = some r := by rw [if_neg (show ¬ (false = true) by decide)] at H; exact H
                        clear H
                        have H := H1
                        clear H1
                        as_aux_lemma =>
                         have H' := Aside0.mk H
                         clear H
                         go_wp2
                         go_meet
                         case rel => exact ⟨_, H', ⟨by have := HJ11.out; have := HJ154.out; have := HJ303.out; have := HJ316.out; have := HJ351.out; first | omega | exact Nat.le_refl _⟩, ⟨by repeat (first | (with_reducible first | exact HB.out | apply lA_ | apply lN_ | apply lD_) | exact HB.out)⟩⟩
                       subst c357
                       have H1 : ((impl_OppositeDir.f t360).bind fun bt364 => (if bt364.2 = true then (if bt364.1 = t359 then (if t362 = t359 then (some false) else (laws_FnOrients.j6 kj351 l1)) else (some false)) else (some false))) = some r := by rw [if_pos rfl] at H; exact H
                       clear H
                       have H := H1
                       clear H1
                       replace H := Option.bind_eq_some_iff.mp H
                       obtain ⟨⟨t364, t365⟩, A3580, H⟩ := H
                       (try dsimp only at H)
                       have A358 := Aside0.mk A3580
                       clear A3580
                       by_cases c359 : t365 = true
                       rotate_left
                       ·replace c359 := Bool.eq_false_iff.mpr c359
                        subst c359
                        have H1 : (some false) = some r := by rw [if_neg (show ¬ (false = true) by decide)] at H; exact H
                        clear H
                        have H := H1
                        clear H1
                        as_aux_lemma =>
                         obtain rfl := Option.some.inj H
                         go_wp2_with (first | ((with_reducible refine gate_callee (f := 36) rfl ?_); refine goesL_ (some 253) rfl rfl Try.func36 (by kernel_rfl) rfl #[.int .i64 t360] rfl (by (try simp only [List.map_toArray, List.map_cons, List.map_nil]); first | done | rfl) ?_; (with_reducible refine (impl_OppositeDir.calls t360 t364 false _ A358.out).mono ?_); rintro e w' ⟨rfl, ⟨nd, rfl⟩⟩; refine ⟨_, rfl, ?_⟩))
                         go_ret
                         exact ⟨by first | rfl | (simp [errW_none, errW_some] <;> rfl) | (simp [*, errW_none, errW_some] <;> rfl) | (simp [errW_none, errW_some, show ∀ l_ : List UInt8, (l_ != []) = !l_.isEmpty from fun l_ => by cases l_ <;> rfl]; done), by repeat (first | (with_reducible first | exact HB.out | apply lA_ | apply lN_ | apply lD_) | exact HB.out)⟩
                       subst c359
                       have H1 : (if t364 = t359 then (if t362 = t359 then (some false) else (laws_FnOrients.j6 kj351 l1)) else (some false)) = some r := by rw [if_pos rfl] at H; exact H
                       clear H
                       have H := H1
                       clear H1
                       by_cases c360 : t364 = t359
                       rotate_left
                       ·rw [if_neg c360] at H
                        have c360b0 : (t364 == t359) = false := beq_eq_false_iff_ne.mpr c360
                        have c360b1 : (t364 != t359) = true := bne_iff_ne.mpr c360
                        (first | rw [c360b0] | (simp only [i64_w, i32_w]; rw [c360b0]) | skip)
                        as_aux_lemma =>
                         obtain rfl := Option.some.inj H
                         go_wp2_with (first | ((with_reducible refine gate_callee (f := 36) rfl ?_); refine goesL_ (some 253) rfl rfl Try.func36 (by kernel_rfl) rfl #[.int .i64 t360] rfl (by (try simp only [List.map_toArray, List.map_cons, List.map_nil]); first | done | rfl) ?_; (with_reducible refine (impl_OppositeDir.calls t360 t364 true _ A358.out).mono ?_); rintro e w' ⟨rfl, ⟨nd, rfl⟩⟩; refine ⟨_, rfl, ?_⟩))
                         go_ret
                         exact ⟨by first | rfl | (simp [errW_none, errW_some] <;> rfl) | (simp [*, errW_none, errW_some] <;> rfl) | (simp [errW_none, errW_some, show ∀ l_ : List UInt8, (l_ != []) = !l_.isEmpty from fun l_ => by cases l_ <;> rfl]; done), by repeat (first | (with_reducible first | exact HB.out | apply lA_ | apply lN_ | apply lD_) | exact HB.out)⟩
                       rw [if_pos c360] at H
                       have c360b0 : (t364 == t359) = true := beq_iff_eq.mpr c360
                       have c360b1 : (t364 != t359) = false := bne_eq_false_iff_eq.mpr c360
                       clear c360
                       (first | rw [c360b0] | (simp only [i64_w, i32_w]; rw [c360b0]) | skip)
                       by_cases c361 : t362 = t359
                       rotate_left
                       ·rw [if_neg c361] at H
                        have c361b0 : (t362 == t359) = false := beq_eq_false_iff_ne.mpr c361
                        have c361b1 : (t362 != t359) = true := bne_iff_ne.mpr c361
                        as_aux_lemma =>
                         have H' := Aside0.mk H
                         clear H
                         go_wp2_with (first | ((with_reducible refine gate_callee (f := 36) rfl ?_); refine goesL_ (some 253) rfl rfl Try.func36 (by kernel_rfl) rfl #[.int .i64 t360] rfl (by (try simp only [List.map_toArray, List.map_cons, List.map_nil]); first | done | rfl) ?_; (with_reducible refine (impl_OppositeDir.calls t360 t364 true _ A358.out).mono ?_); rintro e w' ⟨rfl, ⟨nd, rfl⟩⟩; refine ⟨_, rfl, ?_⟩))
                         go_meet
                         case rel => exact ⟨_, H', ⟨by have := HJ11.out; have := HJ154.out; have := HJ303.out; have := HJ316.out; have := HJ351.out; first | omega | exact Nat.le_refl _⟩, ⟨by repeat (first | (with_reducible first | exact HB.out | apply lA_ | apply lN_ | apply lD_) | exact HB.out)⟩⟩
                       rw [if_pos c361] at H
                       have c361b0 : (t362 == t359) = true := beq_iff_eq.mpr c361
                       have c361b1 : (t362 != t359) = false := bne_eq_false_iff_eq.mpr c361
                       clear c361
                       as_aux_lemma =>
                        obtain rfl := Option.some.inj H
                        go_wp2_with (first | ((with_reducible refine gate_callee (f := 36) rfl ?_); refine goesL_ (some 253) rfl rfl Try.func36 (by kernel_rfl) rfl #[.int .i64 t360] rfl (by (try simp only [List.map_toArray, List.map_cons, List.map_nil]); first | done | rfl) ?_; (with_reducible refine (impl_OppositeDir.calls t360 t364 true _ A358.out).mono ?_); rintro e w' ⟨rfl, ⟨nd, rfl⟩⟩; refine ⟨_, rfl, ?_⟩))
                        go_ret
                        exact ⟨by first | rfl | (simp [errW_none, errW_some] <;> rfl) | (simp [*, errW_none, errW_some] <;> rfl) | (simp [errW_none, errW_some, show ∀ l_ : List UInt8, (l_ != []) = !l_.isEmpty from fun l_ => by cases l_ <;> rfl]; done), by repeat (first | (with_reducible first | exact HB.out | apply lA_ | apply lN_ | apply lD_) | exact HB.out)⟩
                     case rest =>
                      as_aux_lemma =>
                       clear HC356
                       (try clear c1);(try clear c154);(try clear c316);(try clear c355);(try clear hcz15_0);(try clear hcz15_1);(try clear hcz19_0);(try clear hcz19_1);(try clear hcz20_0);(try clear hcz20_1);(try clear hcz25_0);(try clear hcz25_1);(try clear hcz26_0);(try clear hcz26_1);(try clear hcz309_0);(try clear hcz309_1);(try clear hcz310_0);(try clear hcz310_1);(try clear hcz312_0);(try clear hcz312_1);(try clear hcz313_0);(try clear hcz313_1);(try clear hcz32_0);(try clear hcz32_1);(try clear hcz33_0);(try clear hcz33_1);(try clear hcz40_0);(try clear hcz40_1);(try clear hfz15_0);(try clear hfz15_1);(try clear hfz19_0);(try clear hfz19_1);(try clear hfz20_0);(try clear hfz20_1);(try clear hfz25_0);(try clear hfz25_1);(try clear hfz26_0);(try clear hfz26_1);(try clear hfz309_0);(try clear hfz309_1);(try clear hfz310_0);(try clear hfz310_1);(try clear hfz312_0);(try clear hfz312_1);(try clear hfz313_0);(try clear hfz313_1);(try clear hfz32_0);(try clear hfz32_1);(try clear hfz33_0);(try clear hfz33_1);(try clear hfz40_0);(try clear hfz40_1)
                       obtain ⟨kq, HA, HJ355, HB⟩ := hcut
                       cases kq with
                       | zero => exact absurd HA.out (by simp [laws_FnOrients.j6])
                       | succ kj355 =>
                        as_aux_lemma =>
                         have H := HA.out
                         clear HA
                         simp only [laws_FnOrients.j6] at H
                         replace H := Option.bind_eq_some_iff.mp H
                         obtain ⟨t366, A3620, H⟩ := H
                         (try dsimp only at H)
                         have A362 := Aside0.mk A3620
                         clear A3620
                         replace H := Option.bind_eq_some_iff.mp H
                         obtain ⟨⟨t367, t368, t369⟩, A3630, H⟩ := H
                         (try dsimp only at H)
                         have A363 := Aside0.mk A3630
                         clear A3630
                         replace H := Option.bind_eq_some_iff.mp H
                         obtain ⟨⟨t371, t372, t373⟩, A3640, H⟩ := H
                         (try dsimp only at H)
                         have A364 := Aside0.mk A3640
                         clear A3640
                         replace H := Option.bind_eq_some_iff.mp H
                         obtain ⟨⟨t375, t376⟩, A3650, H⟩ := H
                         (try dsimp only at H)
                         have A365 := Aside0.mk A3650
                         clear A3650
                         replace H := Option.bind_eq_some_iff.mp H
                         obtain ⟨⟨t378, t379⟩, A3660, H⟩ := H
                         (try dsimp only at H)
                         have A366 := Aside0.mk A3660
                         clear A3660
                         replace H := Option.bind_eq_some_iff.mp H
                         obtain ⟨⟨t380, t381⟩, A3670, H⟩ := H
                         (try dsimp only at H)
                         have A367 := Aside0.mk A3670
                         clear A3670
                         have HC368 := Aside0.mk H
                         clear H
                         go_upto_region 48 with (first | ((with_reducible refine gate_callee (f := 39) rfl ?_); refine goesL_ (some 269) rfl rfl Try.func39 (by kernel_rfl) rfl #[.slice A1 l1.length c1] rfl (by (try simp only [List.map_toArray, List.map_cons, List.map_nil]); first | done | rfl) ?_; (with_reducible refine (spec_DrawParseOrient.calls kj355 _ _ l1 t366 _ ?side1 ?side2 A362.out).mono ?_); (case side1 => repeat (first | exact (Kd.C_below HR1.out HB.out) | (with_reducible first | apply cA_ | apply cN_ | apply cD_))); (case side2 => exact HC1.out); rintro e w369 ⟨rfl, hb⟩; refine ⟨_, rfl, ?_⟩; have n0_ := Aside0.mk (below_step (by repeat (first | (with_reducible first | exact HB.out | apply lA_ | apply lN_ | apply lD_) | exact HB.out)) hb); clear HB; have HB := n0_; clear n0_; (try clear hb)) | ((with_reducible refine gate_callee (f := 40) rfl ?_); refine goesL_ (some 272) rfl rfl Try.func40 (by kernel_rfl) rfl #[.string t366] rfl (by (try simp only [List.map_toArray, List.map_cons, List.map_nil]); first | done | rfl) ?_; (with_reducible refine (impl_ParseOrient.calls t366 t367 t368 t369 _ A363.out).mono ?_); rintro e w370 ⟨rfl, hb⟩; refine ⟨_, rfl, ?_⟩; have n0_ := Aside0.mk (below_step (by repeat (first | (with_reducible first | exact HB.out | apply lA_ | apply lN_ | apply lD_) | exact HB.out)) hb); clear HB; have HB := n0_; clear n0_; (try clear hb)) | ((with_reducible refine gate_dst (N := 41) rfl ?_); (try (refine gate_guard (by rfl) ?_; dsimp only)); refine box_event ?hg (N := 41) ?hd (cs := #[.int .i64 0, .int .i64 0]) (t := 39) ?hr ?_; (case hd => rfl); (case hg => rfl); (case hr => first | (go_simp; done) | (go_simp; rfl)); intro gb370 hg w371 hbox hb; have n0_ := Aside0.mk (below_step (by repeat (first | (with_reducible first | exact HB.out | apply lA_ | apply lN_ | apply lD_) | exact HB.out)) hb); have n1_ := Aside0.mk (hbox); have n2_ := Aside0.mk ((by rw [hg]; exact (below_size (by repeat (first | (with_reducible first | exact HB.out | apply lA_ | apply lN_ | apply lD_) | exact HB.out))) : w.heap.size ≤ gb370)); have n3_ := n2_; clear HB; have HB := n0_; have BK370 := n1_; have GW370 := n2_; have GE370 := n3_; clear n0_ n1_ n2_ n3_; clear hb hbox hg; have hcz372_0 : w371.cell? ⟨gb370, 0, none⟩ = some (.int .i64 0) := (blk_cell BK370.out 0).trans rfl; have hcz372_1 : w371.cell? ⟨gb370, 1, none⟩ = some (.int .i64 0) := (blk_cell BK370.out 1).trans rfl; have hfz372_0 := blk_frozen BK370.out 0; have hfz372_1 := blk_frozen BK370.out 1) | ((with_reducible refine gate_callee (f := 41) rfl ?_); refine goesL_ (some 277) rfl rfl Try.func41 (by kernel_rfl) rfl #[.string t366] rfl (by (try simp only [List.map_toArray, List.map_cons, List.map_nil]); first | done | rfl) ?_; (with_reducible refine (spec_ParseOrient.calls kj355 t366 t371 t372 t373 _ A364.out).mono ?_); rintro e w373 ⟨rfl, hb⟩; refine ⟨_, rfl, ?_⟩; have n0_ := Aside0.mk (blk_below (g := gb370) (o := .cells #[.int .i64 t367, .int .i64 t368] 39 (0, 0)) (by (with_reducible repeat (first | apply kN_ | apply kD_ | apply kA_)); refine blk_put (cs := #[.int .i64 t367, .int .i64 0]) ?_ 1 _ rfl; (with_reducible repeat (first | apply kN_ | apply kD_ | apply kA_)); refine blk_put (cs := #[.int .i64 0, .int .i64 0]) ?_ 0 _ rfl; (with_reducible repeat (first | apply kN_ | apply kD_ | apply kA_)); exact BK370.out) hb); have n1_ := Aside0.mk (below_step (by repeat (first | (with_reducible first | exact HB.out | apply lA_ | apply lN_ | apply lD_ | refine below_set ?_ GE370.out) | exact HB.out)) hb); clear BK370; clear HB; have BK370 := n0_; have HB := n1_; clear n0_ n1_; (try clear hb)) | ((with_reducible refine gate_dst (N := 43) rfl ?_); (try (refine gate_guard (by rfl) ?_; dsimp only)); refine box_event ?hg (N := 43) ?hd (cs := #[.int .i64 0, .int .i64 0]) (t := 39) ?hr ?_; (case hd => rfl); (case hg => rfl); (case hr => first | (go_simp; done) | (go_simp; rfl)); intro gb374 hg w374 hbox hb; have n0_ := Aside0.mk (blk_below (g := gb370) (o := .cells #[.int .i64 t367, .int .i64 t368] 39 (0, 0)) (by (with_reducible repeat (first | apply kN_ | apply kD_ | apply kA_)); exact BK370.out) hb); have n1_ := Aside0.mk (below_step (by repeat (first | (with_reducible first | exact HB.out | apply lA_ | apply lN_ | apply lD_ | refine below_set ?_ GE370.out) | exact HB.out)) hb); have n2_ := Aside0.mk (hbox); have n3_ := Aside0.mk ((by rw [hg]; exact (below_size (by repeat (first | (with_reducible first | exact HB.out | apply lA_ | apply lN_ | apply lD_ | refine below_set ?_ GE370.out) | exact HB.out))) : w.heap.size ≤ gb374)); have n4_ := n3_; have n5_ := Aside0.mk ((by rw [hg]; exact Nat.ne_of_lt (blk_lt (g := gb370) (o := .cells #[.int .i64 t367, .int .i64 t368] 39 (0, 0)) (by (with_reducible repeat (first | apply kN_ | apply kD_ | apply kA_)); exact BK370.out)) : gb370 ≠ gb374)); have n6_ := Aside0.mk ((by rw [hg]; exact Nat.ne_of_gt (blk_lt (g := gb370) (o := .cells #[.int .i64 t367, .int .i64 t368] 39 (0, 0)) (by (with_reducible repeat (first | apply kN_ | apply kD_ | apply kA_)); exact BK370.out)) : gb374 ≠ gb370)); clear BK370; clear HB; have BK370 := n0_; have HB := n1_; have BK374 := n2_; have GW374 := n3_; have GE374 := n4_; have NB370_374 := n5_; have NB374_370 := n6_; clear n0_ n1_ n2_ n3_ n4_ n5_ n6_; clear hb hbox hg; have hnb375 := NB374_370.out; have hnc375 := NB370_374.out; have hcz376_0 : w374.cell? ⟨gb374, 0, none⟩ = some (.int .i64 0) := (blk_cell BK374.out 0).trans rfl; have hcz376_1 : w374.cell? ⟨gb374, 1, none⟩ = some (.int .i64 0) := (blk_cell BK374.out 1).trans rfl; have hfz376_0 := blk_frozen BK374.out 0; have hfz376_1 := blk_frozen BK374.out 1) | ((with_reducible refine gate_callee (f := 42) rfl ?_); refine goesL_ (some 281) rfl rfl Try.func42 (by kernel_rfl) rfl #[.slice A1 l1.length c1] rfl (by (try simp only [List.map_toArray, List.map_cons, List.map_nil]); first | done | rfl) ?_; (with_reducible refine (spec_DrawOrientText.calls kj355 _ _ l1 t375 t376 _ ?side1 ?side2 A365.out).mono ?_); (case side1 => exact Kd.C_below HR1.out (by repeat (first | (with_reducible first | exact HB.out | apply lA_ | apply lN_ | apply lD_ | refine below_set ?_ GE370.out | refine below_set ?_ GE374.out) | exact HB.out))); (case side2 => exact HC1.out); rintro e w377 ⟨rfl, hb⟩; refine ⟨_, rfl, ?_⟩; have n0_ := Aside0.mk (blk_below (g := gb370) (o := .cells #[.int .i64 t367, .int .i64 t368] 39 (0, 0)) (by (with_reducible repeat (first | apply kN_ | apply kD_ | apply kA_)); refine blk_far ?_ NB370_374.out _; (with_reducible repeat (first | apply kN_ | apply kD_ | apply kA_)); refine blk_far ?_ NB370_374.out _; (with_reducible repeat (first | apply kN_ | apply kD_ | apply kA_)); exact BK370.out) hb); have n1_ := Aside0.mk (blk_below (g := gb374) (o := .cells #[.int .i64 t371, .int .i64 t372] 39 (0, 0)) (by (with_reducible repeat (first | apply kN_ | apply kD_ | apply kA_)); refine blk_put (cs := #[.int .i64 t371, .int .i64 0]) ?_ 1 _ rfl; (with_reducible repeat (first | apply kN_ | apply kD_ | apply kA_)); refine blk_put (cs := #[.int .i64 0, .int .i64 0]) ?_ 0 _ rfl; (with_reducible repeat (first | apply kN_ | apply kD_ | apply kA_)); exact BK374.out) hb); have n2_ := Aside0.mk (below_step (by repeat (first | (with_reducible first | exact HB.out | apply lA_ | apply lN_ | apply lD_ | refine below_set ?_ GE370.out | refine below_set ?_ GE374.out) | exact HB.out)) hb); clear BK370; clear BK374; clear HB; have BK370 := n0_; have BK374 := n1_; have HB := n2_; clear n0_ n1_ n2_; (try clear hb)) | ((with_reducible refine gate_dst (N := 45) rfl ?_); (try (refine gate_guard (by rfl) ?_; dsimp only)); refine box_event ?hg (N := 45) ?hd (cs := #[.int .i64 0, .int .i64 0]) (t := 39) ?hr ?_; (case hd => rfl); (case hg => rfl); (case hr => first | (go_simp; done) | (go_simp; rfl)); intro gb377 hg w378 hbox hb; have n0_ := Aside0.mk (blk_below (g := gb370) (o := .cells #[.int .i64 t367, .int .i64 t368] 39 (0, 0)) (by (with_reducible repeat (first | apply kN_ | apply kD_ | apply kA_)); exact BK370.out) hb); have n1_ := Aside0.mk (blk_below (g := gb374) (o := .cells #[.int .i64 t371, .int .i64 t372] 39 (0, 0)) (by (with_reducible repeat (first | apply kN_ | apply kD_ | apply kA_)); exact BK374.out) hb); have n2_ := Aside0.mk (below_step (by repeat (first | (with_reducible first | exact HB.out | apply lA_ | apply lN_ | apply lD_ | refine below_set ?_ GE370.out | refine below_set ?_ GE374.out) | exact HB.out)) hb); have n3_ := Aside0.mk (hbox); have n4_ := Aside0.mk ((by rw [hg]; exact (below_size (by repeat (first | (with_reducible first | exact HB.out | apply lA_ | apply lN_ | apply lD_ | refine below_set ?_ GE370.out | refine below_set ?_ GE374.out) | exact HB.out))) : w.heap.size ≤ gb377)); have n5_ := n4_; have n6_ := Aside0.mk ((by rw [hg]; exact Nat.ne_of_lt (blk_lt (g := gb370) (o := .cells #[.int .i64 t367, .int .i64 t368] 39 (0, 0)) (by (with_reducible repeat (first | apply kN_ | apply kD_ | apply kA_)); exact BK370.out)) : gb370 ≠ gb377)); have n7_ := Aside0.mk ((by rw [hg]; exact Nat.ne_of_gt (blk_lt (g := gb370) (o := .cells #[.int .i64 t367, .int .i64 t368] 39 (0, 0)) (by (with_reducible repeat (first | apply kN_ | apply kD_ | apply kA_)); exact BK370.out)) : gb377 ≠ gb370)); have n8_ := Aside0.mk ((by rw [hg]; exact Nat.ne_of_lt (blk_lt (g := gb374) (o := .cells #[.int .i64 t371, .int .i64 t372] 39 (0, 0)) (by (with_reducible repeat (first | apply kN_ | apply kD_ | apply kA_)); exact BK374.out)) : gb374 ≠ gb377)); have n9_ := Aside0.mk ((by rw [hg]; exact Nat.ne_of_gt (blk_lt (g := gb374) (o := .cells #[.int .i64 t371, .int .i64 t372] 39 (0, 0)) (by (with_reducible repeat (first | apply kN_ | apply kD_ | apply kA_)); exact BK374.out)) : gb377 ≠ gb374)); clear BK370; clear BK374; clear HB; have BK370 := n0_; have BK374 := n1_; have HB := n2_; have BK377 := n3_; have GW377 := n4_; have GE377 := n5_; have NB370_377 := n6_; have NB377_370 := n7_; have NB374_377 := n8_; have NB377_374 := n9_; clear n0_ n1_ n2_ n3_ n4_ n5_ n6_ n7_ n8_ n9_; clear hb hbox hg; have hnb379 := NB377_370.out; have hnc379 := NB370_377.out; have hnb380 := NB377_374.out; have hnc380 := NB374_377.out; have hcz381_0 : w378.cell? ⟨gb377, 0, none⟩ = some (.int .i64 0) := (blk_cell BK377.out 0).trans rfl; have hcz381_1 : w378.cell? ⟨gb377, 1, none⟩ = some (.int .i64 0) := (blk_cell BK377.out 1).trans rfl; have hfz381_0 := blk_frozen BK377.out 0; have hfz381_1 := blk_frozen BK377.out 1) | ((with_reducible refine gate_callee (f := 43) rfl ?_); refine goesL_ (some 284) rfl rfl Try.func43 (by kernel_rfl) rfl #[.agg #[.int .i64 t375, .int .i64 t376]] rfl (by (try simp only [List.map_toArray, List.map_cons, List.map_nil]); first | done | rfl) ?_; (with_reducible refine (impl_OrientText.calls t375 t376 t378 t379 _ A366.out).mono ?_); rintro e w382 ⟨rfl, hb⟩; refine ⟨_, rfl, ?_⟩; have n0_ := Aside0.mk (blk_below (g := gb370) (o := .cells #[.int .i64 t367, .int .i64 t368] 39 (0, 0)) (by (with_reducible repeat (first | apply kN_ | apply kD_ | apply kA_)); refine blk_far ?_ NB370_377.out _; (with_reducible repeat (first | apply kN_ | apply kD_ | apply kA_)); refine blk_far ?_ NB370_377.out _; (with_reducible repeat (first | apply kN_ | apply kD_ | apply kA_)); exact BK370.out) hb); have n1_ := Aside0.mk (blk_below (g := gb374) (o := .cells #[.int .i64 t371, .int .i64 t372] 39 (0, 0)) (by (with_reducible repeat (first | apply kN_ | apply kD_ | apply kA_)); refine blk_far ?_ NB374_377.out _; (with_reducible repeat (first | apply kN_ | apply kD_ | apply kA_)); refine blk_far ?_ NB374_377.out _; (with_reducible repeat (first | apply kN_ | apply kD_ | apply kA_)); exact BK374.out) hb); have n2_ := Aside0.mk (blk_below (g := gb377) (o := .cells #[.int .i64 t375, .int .i64 t376] 39 (0, 0)) (by (with_reducible repeat (first | apply kN_ | apply kD_ | apply kA_)); refine blk_put (cs := #[.int .i64 t375, .int .i64 0]) ?_ 1 _ rfl; (with_reducible repeat (first | apply kN_ | apply kD_ | apply kA_)); refine blk_put (cs := #[.int .i64 0, .int .i64 0]) ?_ 0 _ rfl; (with_reducible repeat (first | apply kN_ | apply kD_ | apply kA_)); exact BK377.out) hb); have n3_ := Aside0.mk (below_step (by repeat (first | (with_reducible first | exact HB.out | apply lA_ | apply lN_ | apply lD_ | refine below_set ?_ GE370.out | refine below_set ?_ GE374.out | refine below_set ?_ GE377.out) | exact HB.out)) hb); clear BK370; clear BK374; clear BK377; clear HB; have BK370 := n0_; have BK374 := n1_; have BK377 := n2_; have HB := n3_; clear n0_ n1_ n2_ n3_; (try clear hb); have hcz383_0 : w382.cell? ⟨gb377, 0, none⟩ = some (.int .i64 t375) := (blk_cell BK377.out 0).trans rfl; have hcz383_1 : w382.cell? ⟨gb377, 1, none⟩ = some (.int .i64 t376) := (blk_cell BK377.out 1).trans rfl; have hfz383_0 := blk_frozen BK377.out 0; have hfz383_1 := blk_frozen BK377.out 1) | ((with_reducible refine gate_callee (f := 44) rfl ?_); refine goesL_ (some 289) rfl rfl Try.func44 (by kernel_rfl) rfl #[.agg #[.int .i64 t375, .int .i64 t376]] rfl (by (try simp only [List.map_toArray, List.map_cons, List.map_nil]); first | done | rfl) ?_; (with_reducible refine (spec_OrientText.calls t375 t376 t380 t381 _ A367.out).mono ?_); rintro e w384 ⟨rfl, hb⟩; refine ⟨_, rfl, ?_⟩; have n0_ := Aside0.mk (blk_below (g := gb370) (o := .cells #[.int .i64 t367, .int .i64 t368] 39 (0, 0)) (by (with_reducible repeat (first | apply kN_ | apply kD_ | apply kA_)); exact BK370.out) hb); have n1_ := Aside0.mk (blk_below (g := gb374) (o := .cells #[.int .i64 t371, .int .i64 t372] 39 (0, 0)) (by (with_reducible repeat (first | apply kN_ | apply kD_ | apply kA_)); exact BK374.out) hb); have n2_ := Aside0.mk (blk_below (g := gb377) (o := .cells #[.int .i64 t375, .int .i64 t376] 39 (0, 0)) (by (with_reducible repeat (first | apply kN_ | apply kD_ | apply kA_)); exact BK377.out) hb); have n3_ := Aside0.mk (below_step (by repeat (first | (with_reducible first | exact HB.out | apply lA_ | apply lN_ | apply lD_ | refine below_set ?_ GE370.out | refine below_set ?_ GE374.out | refine below_set ?_ GE377.out) | exact HB.out)) hb); clear BK370; clear BK374; clear BK377; clear HB; have BK370 := n0_; have BK374 := n1_; have BK377 := n2_; have HB := n3_; clear n0_ n1_ n2_ n3_; (try clear hb)))
                         (try simp only [Act.put, List.setIfInBounds_toArray, List.set_cons_zero, List.set_cons_succ])
                         go_cut [309] (fun v309 wc => ∃ (kq : Nat) (x309_367 : Bool), v309 = .bool x309_367 ∧ Aside0 (laws_FnOrients.j7 kq t378 t379 x309_367 t375 t376 = some r) ∧ Aside0 (kq ≤ kj355) ∧ Aside0 (wc.heap[gb377]? = some (.cells #[.int .i64 t375, .int .i64 t376] 39 (0, 0))) ∧ Aside0 (Below w.heap.size w wc))
                         case first =>
                          as_aux_lemma =>
                           have H := HC368.out
                           clear HC368
                           by_cases c385 : (t369 != t373) = true
                           ·rw [if_pos c385] at H
                            have c385b0 : (t369 != t373) = true := c385
                            (try (have c385b1 : decide (t369 = t373) = false := by simpa using c385))
                            (try (have c385b2 : (t369 == t373) = false := by simpa using c385))
                            (try (have c385b3 : ¬ (t369 = t373) := by simpa using c385))
                            clear c385
                            (first | rw [c385b0] | (simp only [i64_w, i32_w]; rw [c385b0]) | skip)
                            as_aux_lemma =>
                             have H' := Aside0.mk H
                             clear H
                             go_wp2
                             go_meet
                             case rel => exact ⟨_, (true), (by first | rfl | (simp; done) | (simp [*]; done)), H', ⟨by have := HJ11.out; have := HJ154.out; have := HJ303.out; have := HJ316.out; have := HJ351.out; have := HJ355.out; first | omega | exact Nat.le_refl _⟩, ⟨by (with_reducible repeat (first | apply kN_ | apply kD_ | apply kA_)); exact BK377.out⟩, ⟨by repeat (first | (with_reducible first | exact HB.out | apply lA_ | apply lN_ | apply lD_ | refine below_set ?_ GE370.out | refine below_set ?_ GE374.out | refine below_set ?_ GE377.out) | exact HB.out)⟩⟩
                           rw [if_neg c385] at H
                           have c385b0 : (t369 != t373) = false := by simpa using c385
                           (try (have c385b1 : decide (t369 = t373) = true := by simpa using c385))
                           (try (have c385b2 : (t369 == t373) = true := by simpa using c385))
                           clear c385
                           (first | rw [c385b0] | (simp only [i64_w, i32_w]; rw [c385b0]) | skip)
                           by_cases c386 : (!(t367 == t371) || (!(t368 == t372))) = true
                           ·rw [if_pos c386] at H
                            have c386b0 : (!(t367 == t371) || (!(t368 == t372))) = true := c386
                            clear c386
                            as_aux_lemma =>
                             have H' := Aside0.mk H
                             clear H
                             have hnb387 := NB370_374.out
                             have hnc387 := NB374_370.out
                             have hnb388 := NB370_377.out
                             have hnc388 := NB377_370.out
                             have hcz389_0 : w384.cell? ⟨gb370, 0, none⟩ = some (.int .i64 t367) := (blk_cell BK370.out 0).trans rfl
                             have hcz389_1 : w384.cell? ⟨gb370, 1, none⟩ = some (.int .i64 t368) := (blk_cell BK370.out 1).trans rfl
                             have hfz389_0 := blk_frozen BK370.out 0
                             have hfz389_1 := blk_frozen BK370.out 1
                             clear BK370
                             have hnb390 := NB374_377.out
                             have hnc390 := NB377_374.out
                             have hcz391_0 : w384.cell? ⟨gb374, 0, none⟩ = some (.int .i64 t371) := (blk_cell BK374.out 0).trans rfl
                             have hcz391_1 : w384.cell? ⟨gb374, 1, none⟩ = some (.int .i64 t372) := (blk_cell BK374.out 1).trans rfl
                             have hfz391_0 := blk_frozen BK374.out 0
                             have hfz391_1 := blk_frozen BK374.out 1
                             go_wp2
                             go_meet
                             case rel => exact ⟨_, (true), (by first | rfl | (simp; done) | (simp [*]; done)), H', ⟨by have := HJ11.out; have := HJ154.out; have := HJ303.out; have := HJ316.out; have := HJ351.out; have := HJ355.out; first | omega | exact Nat.le_refl _⟩, ⟨by (with_reducible repeat (first | apply kN_ | apply kD_ | apply kA_)); exact BK377.out⟩, ⟨by repeat (first | (with_reducible first | exact HB.out | apply lA_ | apply lN_ | apply lD_ | refine below_set ?_ GE374.out | refine below_set ?_ GE377.out) | exact HB.out)⟩⟩
                           rw [if_neg c386] at H
                           have c386b0 : (!(t367 == t371) || (!(t368 == t372))) = false := by simpa using c386
                           clear c386
                           by_cases c392 : (t379 != t381) = true
                           rotate_left
                           ·rw [if_neg c392] at H
                            have c392b0 : (t379 != t381) = false := by simpa using c392
                            (try (have c392b1 : decide (t379 = t381) = true := by simpa using c392))
                            (try (have c392b2 : (t379 == t381) = true := by simpa using c392))
                            clear c392
                            as_aux_lemma =>
                             have H' := Aside0.mk H
                             clear H
                             have hnb398 := NB370_374.out
                             have hnc398 := NB374_370.out
                             have hnb399 := NB370_377.out
                             have hnc399 := NB377_370.out
                             have hcz400_0 : w384.cell? ⟨gb370, 0, none⟩ = some (.int .i64 t367) := (blk_cell BK370.out 0).trans rfl
                             have hcz400_1 : w384.cell? ⟨gb370, 1, none⟩ = some (.int .i64 t368) := (blk_cell BK370.out 1).trans rfl
                             have hfz400_0 := blk_frozen BK370.out 0
                             have hfz400_1 := blk_frozen BK370.out 1
                             clear BK370
                             have hnb401 := NB374_377.out
                             have hnc401 := NB377_374.out
                             have hcz402_0 : w384.cell? ⟨gb374, 0, none⟩ = some (.int .i64 t371) := (blk_cell BK374.out 0).trans rfl
                             have hcz402_1 : w384.cell? ⟨gb374, 1, none⟩ = some (.int .i64 t372) := (blk_cell BK374.out 1).trans rfl
                             have hfz402_0 := blk_frozen BK374.out 0
                             have hfz402_1 := blk_frozen BK374.out 1
                             go_wp2
                             go_meet
                             case rel => exact ⟨_, ((t378.toList != t380.toList)), (by first | rfl | (simp; done) | (simp [*]; done)), H', ⟨by have := HJ11.out; have := HJ154.out; have := HJ303.out; have := HJ316.out; have := HJ351.out; have := HJ355.out; first | omega | exact Nat.le_refl _⟩, ⟨by (with_reducible repeat (first | apply kN_ | apply kD_ | apply kA_)); exact BK377.out⟩, ⟨by repeat (first | (with_reducible first | exact HB.out | apply lA_ | apply lN_ | apply lD_ | refine below_set ?_ GE374.out | refine below_set ?_ GE377.out) | exact HB.out)⟩⟩
                           rw [if_pos c392] at H
                           have c392b0 : (t379 != t381) = true := c392
                           (try (have c392b1 : decide (t379 = t381) = false := by simpa using c392))
                           (try (have c392b2 : (t379 == t381) = false := by simpa using c392))
                           (try (have c392b3 : ¬ (t379 = t381) := by simpa using c392))
                           clear c392
                           as_aux_lemma =>
                            have H' := Aside0.mk H
                            clear H
                            have hnb393 := NB370_374.out
                            have hnc393 := NB374_370.out
                            have hnb394 := NB370_377.out
                            have hnc394 := NB377_370.out
                            have hcz395_0 : w384.cell? ⟨gb370, 0, none⟩ = some (.int .i64 t367) := (blk_cell BK370.out 0).trans rfl
                            have hcz395_1 : w384.cell? ⟨gb370, 1, none⟩ = some (.int .i64 t368) := (blk_cell BK370.out 1).trans rfl
                            have hfz395_0 := blk_frozen BK370.out 0
                            have hfz395_1 := blk_frozen BK370.out 1
                            clear BK370
                            have hnb396 := NB374_377.out
                            have hnc396 := NB377_374.out
                            have hcz397_0 : w384.cell? ⟨gb374, 0, none⟩ = some (.int .i64 t371) := (blk_cell BK374.out 0).trans rfl
                            have hcz397_1 : w384.cell? ⟨gb374, 1, none⟩ = some (.int .i64 t372) := (blk_cell BK374.out 1).trans rfl
                            have hfz397_0 := blk_frozen BK374.out 0
                            have hfz397_1 := blk_frozen BK374.out 1
                            go_wp2
                            go_meet
                            case rel => exact ⟨_, (true), (by first | rfl | (simp; done) | (simp [*]; done)), H', ⟨by have := HJ11.out; have := HJ154.out; have := HJ303.out; have := HJ316.out; have := HJ351.out; have := HJ355.out; first | omega | exact Nat.le_refl _⟩, ⟨by (with_reducible repeat (first | apply kN_ | apply kD_ | apply kA_)); exact BK377.out⟩, ⟨by repeat (first | (with_reducible first | exact HB.out | apply lA_ | apply lN_ | apply lD_ | refine below_set ?_ GE374.out | refine below_set ?_ GE377.out) | exact HB.out)⟩⟩
                         case rest =>
                          as_aux_lemma =>
                           clear HC368
                           (try clear c1);(try clear c4);(try clear c316);(try clear c355);(try clear hcz15_0);(try clear hcz15_1);(try clear hcz19_0);(try clear hcz19_1);(try clear hcz20_0);(try clear hcz20_1);(try clear hcz25_0);(try clear hcz25_1);(try clear hcz26_0);(try clear hcz26_1);(try clear hcz309_0);(try clear hcz309_1);(try clear hcz310_0);(try clear hcz310_1);(try clear hcz312_0);(try clear hcz312_1);(try clear hcz313_0);(try clear hcz313_1);(try clear hcz32_0);(try clear hcz32_1);(try clear hcz33_0);(try clear hcz33_1);(try clear hcz372_0);(try clear hcz372_1);(try clear hcz376_0);(try clear hcz376_1);(try clear hcz381_0);(try clear hcz381_1);(try clear hcz383_0);(try clear hcz383_1);(try clear hcz40_0);(try clear hcz40_1);(try clear hfz15_0);(try clear hfz15_1);(try clear hfz19_0);(try clear hfz19_1);(try clear hfz20_0);(try clear hfz20_1);(try clear hfz25_0);(try clear hfz25_1);(try clear hfz26_0);(try clear hfz26_1);(try clear hfz309_0);(try clear hfz309_1);(try clear hfz310_0);(try clear hfz310_1);(try clear hfz312_0);(try clear hfz312_1);(try clear hfz313_0);(try clear hfz313_1);(try clear hfz32_0);(try clear hfz32_1);(try clear hfz33_0);(try clear hfz33_1);(try clear hfz372_0);(try clear hfz372_1);(try clear hfz376_0);(try clear hfz376_1);(try clear hfz381_0);(try clear hfz381_1);(try clear hfz383_0);(try clear hfz383_1);(try clear hfz40_0);(try clear hfz40_1)
                           obtain ⟨kq, x309_367, rfl, HA, HJ367, BK377, HB⟩ := hcut
                           cases kq with
                           | zero => exact absurd HA.out (by simp [laws_FnOrients.j7])
                           | succ kj367 =>
                            as_aux_lemma =>
                             have H := HA.out
                             clear HA
                             simp only [laws_FnOrients.j7] at H
                             by_cases c403 : x309_367 = true
                             ·subst c403
                              have H1 : (some false) = some r := by rw [if_pos rfl] at H; exact H
                              clear H
                              have H := H1
                              clear H1
                              as_aux_lemma =>
                               obtain rfl := Option.some.inj H
                               go_wp2
                               go_ret
                               exact ⟨by first | rfl | (simp [errW_none, errW_some] <;> rfl) | (simp [*, errW_none, errW_some] <;> rfl) | (simp [errW_none, errW_some, show ∀ l_ : List UInt8, (l_ != []) = !l_.isEmpty from fun l_ => by cases l_ <;> rfl]; done), by repeat (first | (with_reducible first | exact HB.out | apply lA_ | apply lN_ | apply lD_ | refine below_set ?_ GE377.out) | exact HB.out)⟩
                             replace c403 := Bool.eq_false_iff.mpr c403
                             subst c403
                             have H1 : (if t379 = true then ((impl_ParseOrient.f t378).bind fun bt382 => (if bt382.2.2 = true then (some (bt382.1 == t375 && (bt382.2.1 == t376))) else (some false))) else (some true)) = some r := by rw [if_neg (show ¬ (false = true) by decide)] at H; exact H
                             clear H
                             have H := H1
                             clear H1
                             by_cases c404 : t379 = true
                             rotate_left
                             ·replace c404 := Bool.eq_false_iff.mpr c404
                              subst c404
                              have H1 : (some true) = some r := by rw [if_neg (show ¬ (false = true) by decide)] at H; exact H
                              clear H
                              have H := H1
                              clear H1
                              as_aux_lemma =>
                               obtain rfl := Option.some.inj H
                               go_wp2
                               go_ret
                               exact ⟨by first | rfl | (simp [errW_none, errW_some] <;> rfl) | (simp [*, errW_none, errW_some] <;> rfl) | (simp [errW_none, errW_some, show ∀ l_ : List UInt8, (l_ != []) = !l_.isEmpty from fun l_ => by cases l_ <;> rfl]; done), by repeat (first | (with_reducible first | exact HB.out | apply lA_ | apply lN_ | apply lD_ | refine below_set ?_ GE377.out) | exact HB.out)⟩
                             subst c404
                             have H1 : ((impl_ParseOrient.f t378).bind fun bt382 => (if bt382.2.2 = true then (some (bt382.1 == t375 && (bt382.2.1 == t376))) else (some false))) = some r := by rw [if_pos rfl] at H; exact H
                             clear H
                             have H := H1
                             clear H1
                             replace H := Option.bind_eq_some_iff.mp H
                             obtain ⟨⟨t382, t383, t384⟩, A4050, H⟩ := H
                             (try dsimp only at H)
                             have A405 := Aside0.mk A4050
                             clear A4050
                             by_cases c406 : t384 = true
                             rotate_left
                             ·replace c406 := Bool.eq_false_iff.mpr c406
                              subst c406
                              have H1 : (some false) = some r := by rw [if_neg (show ¬ (false = true) by decide)] at H; exact H
                              clear H
                              have H := H1
                              clear H1
                              as_aux_lemma =>
                               obtain rfl := Option.some.inj H
                               clear BK377
                               go_wp2_with (first | ((with_reducible refine gate_callee (f := 40) rfl ?_); refine goesL_ (some 313) rfl rfl Try.func40 (by kernel_rfl) rfl #[.string t378] rfl (by (try simp only [List.map_toArray, List.map_cons, List.map_nil]); first | done | rfl) ?_; (with_reducible refine (impl_ParseOrient.calls t378 t382 t383 false _ A405.out).mono ?_); rintro e w412 ⟨rfl, hb⟩; refine ⟨_, rfl, ?_⟩; have n0_ := Aside0.mk (below_step (by repeat (first | (with_reducible first | exact HB.out | apply lA_ | apply lN_ | apply lD_) | exact HB.out)) hb); clear HB; have HB := n0_; clear n0_; (try clear hb)) | ((with_reducible refine gate_dst (N := 50) rfl ?_); (try (refine gate_guard (by rfl) ?_; dsimp only)); refine box_event ?hg (N := 50) ?hd (cs := #[.int .i64 0, .int .i64 0]) (t := 39) ?hr ?_; (case hd => rfl); (case hg => rfl); (case hr => first | (go_simp; done) | (go_simp; rfl)); intro gb385 hg w413 hbox hb; have n0_ := Aside0.mk (below_step (by repeat (first | (with_reducible first | exact HB.out | apply lA_ | apply lN_ | apply lD_) | exact HB.out)) hb); have n1_ := Aside0.mk (hbox); have n2_ := Aside0.mk ((by rw [hg]; exact (below_size (by repeat (first | (with_reducible first | exact HB.out | apply lA_ | apply lN_ | apply lD_) | exact HB.out))) : w.heap.size ≤ gb385)); have n3_ := n2_; clear HB; have HB := n0_; have BK385 := n1_; have GW385 := n2_; have GE385 := n3_; clear n0_ n1_ n2_ n3_; clear hb hbox hg; have hcz414_0 : w413.cell? ⟨gb385, 0, none⟩ = some (.int .i64 0) := (blk_cell BK385.out 0).trans rfl; have hcz414_1 : w413.cell? ⟨gb385, 1, none⟩ = some (.int .i64 0) := (blk_cell BK385.out 1).trans rfl; have hfz414_0 := blk_frozen BK385.out 0; have hfz414_1 := blk_frozen BK385.out 1))
                               go_ret
                               exact ⟨by first | rfl | (simp [errW_none, errW_some] <;> rfl) | (simp [*, errW_none, errW_some] <;> rfl) | (simp [errW_none, errW_some, show ∀ l_ : List UInt8, (l_ != []) = !l_.isEmpty from fun l_ => by cases l_ <;> rfl]; done), by repeat (first | (with_reducible first | exact HB.out | apply lA_ | apply lN_ | apply lD_ | refine below_set ?_ GE385.out) | exact HB.out)⟩
                             subst c406
                             have H1 : (some (t382 == t375 && (t383 == t376))) = some r := by rw [if_pos rfl] at H; exact H
                             clear H
                             have H := H1
                             clear H1
                             as_aux_lemma =>
                              obtain rfl := Option.some.inj H
                              go_wp2_with (first | ((with_reducible refine gate_callee (f := 40) rfl ?_); refine goesL_ (some 313) rfl rfl Try.func40 (by kernel_rfl) rfl #[.string t378] rfl (by (try simp only [List.map_toArray, List.map_cons, List.map_nil]); first | done | rfl) ?_; (with_reducible refine (impl_ParseOrient.calls t378 t382 t383 true _ A405.out).mono ?_); rintro e w407 ⟨rfl, hb⟩; refine ⟨_, rfl, ?_⟩; have n0_ := Aside0.mk (blk_below (g := gb377) (o := .cells #[.int .i64 t375, .int .i64 t376] 39 (0, 0)) (by (with_reducible repeat (first | apply kN_ | apply kD_ | apply kA_)); exact BK377.out) hb); have n1_ := Aside0.mk (below_step (by repeat (first | (with_reducible first | exact HB.out | apply lA_ | apply lN_ | apply lD_ | refine below_set ?_ GE377.out) | exact HB.out)) hb); clear BK377; clear HB; have BK377 := n0_; have HB := n1_; clear n0_ n1_; (try clear hb)) | ((with_reducible refine gate_dst (N := 50) rfl ?_); (try (refine gate_guard (by rfl) ?_; dsimp only)); refine box_event ?hg (N := 50) ?hd (cs := #[.int .i64 0, .int .i64 0]) (t := 39) ?hr ?_; (case hd => rfl); (case hg => rfl); (case hr => first | (go_simp; done) | (go_simp; rfl)); intro gb385 hg w408 hbox hb; have n0_ := Aside0.mk (blk_below (g := gb377) (o := .cells #[.int .i64 t375, .int .i64 t376] 39 (0, 0)) (by (with_reducible repeat (first | apply kN_ | apply kD_ | apply kA_)); exact BK377.out) hb); have n1_ := Aside0.mk (below_step (by repeat (first | (with_reducible first | exact HB.out | apply lA_ | apply lN_ | apply lD_ | refine below_set ?_ GE377.out) | exact HB.out)) hb); have n2_ := Aside0.mk (hbox); have n3_ := Aside0.mk ((by rw [hg]; exact (below_size (by repeat (first | (with_reducible first | exact HB.out | apply lA_ | apply lN_ | apply lD_ | refine below_set ?_ GE377.out) | exact HB.out))) : w.heap.size ≤ gb385)); have n4_ := n3_; have n5_ := Aside0.mk ((by rw [hg]; exact Nat.ne_of_lt (blk_lt (g := gb377) (o := .cells #[.int .i64 t375, .int .i64 t376] 39 (0, 0)) (by (with_reducible repeat (first | apply kN_ | apply kD_ | apply kA_)); exact BK377.out)) : gb377 ≠ gb385)); have n6_ := Aside0.mk ((by rw [hg]; exact Nat.ne_of_gt (blk_lt (g := gb377) (o := .cells #[.int .i64 t375, .int .i64 t376] 39 (0, 0)) (by (with_reducible repeat (first | apply kN_ | apply kD_ | apply kA_)); exact BK377.out)) : gb385 ≠ gb377)); clear BK377; clear HB; have BK377 := n0_; have HB := n1_; have BK385 := n2_; have GW385 := n3_; have GE385 := n4_; have NB377_385 := n5_; have NB385_377 := n6_; clear n0_ n1_ n2_ n3_ n4_ n5_ n6_; clear hb hbox hg; have hnb409 := NB385_377.out; have hnc409 := NB377_385.out; have hcz410_0 : w408.cell? ⟨gb385, 0, none⟩ = some (.int .i64 0) := (blk_cell BK385.out 0).trans rfl; have hcz410_1 : w408.cell? ⟨gb385, 1, none⟩ = some (.int .i64 0) := (blk_cell BK385.out 1).trans rfl; have hfz410_0 := blk_frozen BK385.out 0; have hfz410_1 := blk_frozen BK385.out 1; have hcz411_0 : w408.cell? ⟨gb377, 0, none⟩ = some (.int .i64 t375) := (blk_cell BK377.out 0).trans rfl; have hcz411_1 : w408.cell? ⟨gb377, 1, none⟩ = some (.int .i64 t376) := (blk_cell BK377.out 1).trans rfl; have hfz411_0 := blk_frozen BK377.out 0; have hfz411_1 := blk_frozen BK377.out 1))
                              go_ret
                              exact ⟨by first | rfl | (simp [errW_none, errW_some] <;> rfl) | (simp [*, errW_none, errW_some] <;> rfl) | (simp [errW_none, errW_some, show ∀ l_ : List UInt8, (l_ != []) = !l_.isEmpty from fun l_ => by cases l_ <;> rfl]; done), by repeat (first | (with_reducible first | exact HB.out | apply lA_ | apply lN_ | apply lD_ | refine below_set ?_ GE377.out | refine below_set ?_ GE385.out) | exact HB.out)⟩

/-- THE ONE PURE STATEMENT of laws_FnOrients: yours. -/
theorem laws_FnOrients.walk (P : laws_FnOrients.Pure) (a0 : Option Addr) (len0 cap0 : Nat) (z0 : List Int) (a1 : Option Addr) (len1 cap1 : Nat) (z1 : List Int) (w : World) (w0 : (a0 = none ∧ len0 = 0 ∧ cap0 = 0 ∧ z0 = []) ∨ ∃ x, a0 = some x ∧ len0 ≤ cap0 ∧ cap0 ≤ maxLen ∧ z0.length = cap0 ∧ (∀ i, i < z0.length → w.cell? (x.add i) = some (.int .u8 (z0.getD i 0))) ∧ ∀ n ∈ z0, (Lit.int .u8 n).wf = true) (y0 : len0 * 1 ≤ 140737488351232) (w1 : (a1 = none ∧ len1 = 0 ∧ cap1 = 0 ∧ z1 = []) ∨ ∃ x, a1 = some x ∧ len1 ≤ cap1 ∧ cap1 ≤ maxLen ∧ z1.length = cap1 ∧ (∀ i, i < z1.length → w.cell? (x.add i) = some (.int .u8 (z1.getD i 0))) ∧ ∀ n ∈ z1, (Lit.int .u8 n).wf = true) (y1 : len1 * 1 ≤ 140737488351232) :
 Calls Try.prog 4 #[.slice a0 len0 cap0, .slice a1 len1 cap1] w fun e w' => e = .returned (.bool true) ∧ Below w.heap.size w w' := by
 obtain ⟨l0, rfl, hr0, hm0, hw0, hc0⟩ := ReadsInt.ofRowC w0
 obtain ⟨l1, rfl, hr1, hm1, hw1, hc1⟩ := ReadsInt.ofRowC w1
 obtain ⟨k, h⟩ := P l0 l1 hm0 y0 hw0 hm1 y1 hw1
 refine (laws_FnOrients.calls k _ _ l0 _ _ l1 true w (Kd.C_of_reads (d := (0 : Int)) (h1 := fun _ => rfl) hr0) hc0 (Kd.C_of_reads (d := (0 : Int)) (h1 := fun _ => rfl) hr1) hc1 h).mono ?_
 rintro e w' ⟨rfl, hd⟩
 exact ⟨rfl, hd⟩

end Go.Proofs.Ytmlpogmedglncaa.PFnOrients
