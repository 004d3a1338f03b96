/- Printed for this claim: functions of the program as Lean functions, and that the calls answer so. -/
import Derived.Test.YtnmgcphajacdnaaPFnQueriesx0
import Derived.Test.YtnmgcphajacdnaaPFnQueriesx5
import Derived.Test.YtnmgcphajacdnaaPFnQueriesx8
import Derived.Test.YtnmgcphajacdnaaPFnQueriesx9
import Derived.Test.YtnmgcphajacdnaaPFnQueriesx10
import Derived.Test.YtnmgcphajacdnaaPFnQueriesx11
import Derived.Test.YtnmgcphajacdnaaPFnQueriesx13
import Derived.Test.YtnmgcphajacdnaaPFnQueriesx14
import Derived.Test.YtnmgcphajacdnaaPFnQueriesxD0
namespace Go.Proofs.Ytnmgcphajacdnaa.PFnQueries
open Go.RowKit Go.Proofs.YtnmgcphajacdnaaW.PrintWords Go.Proofs.YtnmgcphajacdnaaW.PrintLast Go.Proofs.YtnmgcphajacdnaaW.PrintMore
attribute [local go_sem] max2_int min2_int max_two min_two max_three min_three max_four min_four isSome_setCell   -- for this text's walks alone
set_option linter.unusedVariables false
set_option linter.unusedSimpArgs false

/-! ### laws_FnQueries: function 9 -/
set_option maxHeartbeats 8000000 in
set_option maxRecDepth 100000 in
theorem laws_FnQueries.calls (k : Nat) (A0 : Option Addr) (c0 : Nat) (l0 : List Int) (A1 : Option Addr) (c1 : Nat) (l1 : List Int) (r : Bool) (w : World) (hr0 : Kd.C (Kd.int .u8) w A0 l0.length l0) (hc0 : l0.length ≤ c0) (hr1 : Kd.C (Kd.int .u8) w A1 l1.length l1) (hc1 : l1.length ≤ c1) (h : laws_FnQueries.f k l0 l1 = some r) :
 Calls Try.prog 9 #[.slice A0 l0.length c0, .slice A1 l1.length c1] w fun e w' => e = .returned (.bool r) ∧ Below w.heap.size w w' := by
 have hu66 := Try.underlying66
 have HR0 := Aside0.mk hr0
 have HC0 := Aside0.mk hc0
 clear hr0 hc0
 have HR1 := Aside0.mk hr1
 have HC1 := Aside0.mk hc1
 clear hr1 hc1
 have HB := Aside0.mk (Below.refl w.heap.size w)
 have H : (if (wrap64 ((l0.length : Int) + (l1.length : Int))) > 1048576 then (some true) else ((spec_DrawSequencesOf.f k l0).bind fun bt433 => ((impl_SequencesOf.f k bt433.1 bt433.2).bind fun bt439 => ((spec_SequencesOf.f k bt433.1 bt433.2).bind fun bt443 => ((spec_DrawNotesLike.f k l1).bind fun bt447 => ((impl_NotesLike.f k bt447.1 bt447.2).bind fun bt451 => ((spec_NotesLike.f k bt447.1 bt447.2).bind fun bt455 => ((spec_DrawPairsWithin.f k l1).bind fun bt459 => ((impl_PairsWithin.f k bt459.1 bt459.2.1 bt459.2.2.1 bt459.2.2.2).bind fun bt465 => ((spec_PairsWithin.f k bt459.1 bt459.2.1 bt459.2.2.1 bt459.2.2.2).bind fun bt469 => ((spec_DrawMatchesGloss.f l1).bind fun bt473 => ((impl_MatchesGloss.f k bt473.1 bt473.2).bind fun bt475 => ((spec_MatchesGloss.f k bt473.1 bt473.2).bind fun bt477 => (if (bt439.2 != bt443.2) = true then (laws_FnQueries.j0 k bt433.1 bt433.2 bt443.1 bt447.1 bt447.2 bt451.2 bt455.1 bt459.1 bt459.2.2.2 bt469.1 bt473.2 bt475.2 true) else ((laws_qInts.f k bt439.1 bt443.1).bind fun t479 => (if t479 = true then (if (bt451.2 != bt455.2) = true then (laws_FnQueries.j0 k bt433.1 bt433.2 bt443.1 bt447.1 bt447.2 bt451.2 bt455.1 bt459.1 bt459.2.2.2 bt469.1 bt473.2 bt475.2 true) else ((laws_qInts.f k bt451.1 bt455.1).bind fun t480 => (if t480 = true then (if (bt465.2 != bt469.2) = true then (laws_FnQueries.j0 k bt433.1 bt433.2 bt443.1 bt447.1 bt447.2 bt451.2 bt455.1 bt459.1 bt459.2.2.2 bt469.1 bt473.2 bt475.2 true) else ((laws_qLists.f k bt465.1 bt469.1).bind fun t481 => (if t481 = true then (if (bt475.2 != bt477.2) = true then (laws_FnQueries.j0 k bt433.1 bt433.2 bt443.1 bt447.1 bt447.2 bt451.2 bt455.1 bt459.1 bt459.2.2.2 bt469.1 bt473.2 bt475.2 true) else (laws_FnQueries.j0 k bt433.1 bt433.2 bt443.1 bt447.1 bt447.2 bt451.2 bt455.1 bt459.1 bt459.2.2.2 bt469.1 bt473.2 bt475.2 (bt475.1 != bt477.1))) else (laws_FnQueries.j0 k bt433.1 bt433.2 bt443.1 bt447.1 bt447.2 bt451.2 bt455.1 bt459.1 bt459.2.2.2 bt469.1 bt473.2 bt475.2 true)))) else (laws_FnQueries.j0 k bt433.1 bt433.2 bt443.1 bt447.1 bt447.2 bt451.2 bt455.1 bt459.1 bt459.2.2.2 bt469.1 bt473.2 bt475.2 true)))) else (laws_FnQueries.j0 k bt433.1 bt433.2 bt443.1 bt447.1 bt447.2 bt451.2 bt455.1 bt459.1 bt459.2.2.2 bt469.1 bt473.2 bt475.2 true))))))))))))))))) = some r := h
 clear h
 by_cases c3 : (wrap64 ((l0.length : Int) + (l1.length : Int))) > 1048576
 ·rw [if_pos c3] at H
  have c3b0 : decide (1048576 < (wrap64 ((l0.length : Int) + (l1.length : Int)))) = true := decide_eq_true c3
  clear c3
  as_aux_lemma =>
   obtain rfl := Option.some.inj H
   go_enter Try.func9, Try.ntmps9
   go_wp2
   repeat (go_quiet (fail); try go_wp2)
   go_ret
   exact ⟨by first | rfl | (simp [errW_none, errW_some] <;> rfl) | (simp [*, errW_none, errW_some] <;> rfl), by repeat (first | (with_reducible first | exact HB.out | apply lA_ | apply lN_ | apply lD_) | exact HB.out)⟩
 rw [if_neg c3] at H
 have c3b0 : decide (1048576 < (wrap64 ((l0.length : Int) + (l1.length : Int)))) = false := decide_eq_false c3
 clear c3
 replace H := Option.bind_eq_some_iff.mp H
 obtain ⟨⟨t433, t434⟩, A40, H⟩ := H
 (try dsimp only at H)
 have A4 := Aside0.mk A40
 clear A40
 replace H := Option.bind_eq_some_iff.mp H
 obtain ⟨⟨t439, t440⟩, A50, H⟩ := H
 (try dsimp only at H)
 have A5 := Aside0.mk A50
 clear A50
 replace H := Option.bind_eq_some_iff.mp H
 obtain ⟨⟨t443, t444⟩, A60, H⟩ := H
 (try dsimp only at H)
 have A6 := Aside0.mk A60
 clear A60
 replace H := Option.bind_eq_some_iff.mp H
 obtain ⟨⟨t447, t448⟩, A70, H⟩ := H
 (try dsimp only at H)
 have A7 := Aside0.mk A70
 clear A70
 replace H := Option.bind_eq_some_iff.mp H
 obtain ⟨⟨t451, t452⟩, A80, H⟩ := H
 (try dsimp only at H)
 have A8 := Aside0.mk A80
 clear A80
 replace H := Option.bind_eq_some_iff.mp H
 obtain ⟨⟨t455, t456⟩, A90, H⟩ := H
 (try dsimp only at H)
 have A9 := Aside0.mk A90
 clear A90
 replace H := Option.bind_eq_some_iff.mp H
 obtain ⟨⟨t459, t460, t461, t462⟩, A100, H⟩ := H
 (try dsimp only at H)
 have A10 := Aside0.mk A100
 clear A100
 replace H := Option.bind_eq_some_iff.mp H
 obtain ⟨⟨t465, t466⟩, A110, H⟩ := H
 (try dsimp only at H)
 have A11 := Aside0.mk A110
 clear A110
 replace H := Option.bind_eq_some_iff.mp H
 obtain ⟨⟨t469, t470⟩, A120, H⟩ := H
 (try dsimp only at H)
 have A12 := Aside0.mk A120
 clear A120
 replace H := Option.bind_eq_some_iff.mp H
 obtain ⟨⟨t473, t474⟩, A130, H⟩ := H
 (try dsimp only at H)
 have A13 := Aside0.mk A130
 clear A130
 replace H := Option.bind_eq_some_iff.mp H
 obtain ⟨⟨t475, t476⟩, A140, H⟩ := H
 (try dsimp only at H)
 have A14 := Aside0.mk A140
 clear A140
 replace H := Option.bind_eq_some_iff.mp H
 obtain ⟨⟨t477, t478⟩, A150, H⟩ := H
 (try dsimp only at H)
 have A15 := Aside0.mk A150
 clear A150
 have HC16 := Aside0.mk H
 clear H
 go_enter Try.func9, Try.ntmps9
 go_upto_region 15 with (first | (go_at_call 38; (with_reducible refine (spec_DrawSequencesOf.calls k _ _ l0 t433 t434 _ ?side1 ?side2 A4.out).mono ?_); (case side1 => repeat (first | exact HR0.out | (with_reducible first | apply cA_ | apply cN_ | apply cD_))); (case side2 => exact HC0.out); rintro e w17 ⟨v435, v437, rfl, ho0, ho1, hb⟩; have n0_ := Aside0.mk (Kd.R_lower ho0 (below_size (by repeat (first | (with_reducible first | exact HB.out | apply lA_ | apply lN_ | apply lD_) | exact HB.out)))); have n1_ := Aside0.mk (Kd.R_lower ho1 (below_size (by repeat (first | (with_reducible first | exact HB.out | apply lA_ | apply lN_ | apply lD_) | exact HB.out)))); have n2_ := Aside0.mk (below_step (by repeat (first | (with_reducible first | exact HB.out | apply lA_ | apply lN_ | apply lD_) | exact HB.out)) hb); clear HB; have HO436 := n0_; have HO438 := n1_; have HB := n2_; clear n0_ n1_ n2_; (try clear hb); (try clear ho0); (try clear ho1); obtain ⟨Ao18, co18, eo18⟩ := Kd.R_slice HO436.out; subst eo18; obtain ⟨Ao19, co19, eo19⟩ := Kd.R_slice HO438.out; subst eo19) | (go_at_call 32; (with_reducible refine (impl_SequencesOf.calls k _ _ t433 _ _ t434 t439 t440 _ ?side1 ?side2 ?side3 ?side4 A5.out).mono ?_); (case side1 => repeat (first | exact (Kd.R_reads' HO436.out).2.2 | (with_reducible first | apply cA_ | apply cN_ | apply cD_))); (case side2 => exact (Kd.R_reads' HO436.out).2.1); (case side3 => repeat (first | exact (Kd.R_reads' HO438.out).2.2 | (with_reducible first | apply cA_ | apply cN_ | apply cD_))); (case side4 => exact (Kd.R_reads' HO438.out).2.1); rintro e w20 ⟨v441, rfl, ho0, hb⟩; have n0_ := Aside0.mk (Kd.R_below (by (with_reducible repeat (first | apply rA_ | apply rN_ | apply rD_)); exact HO436.out) hb); have n1_ := Aside0.mk (Kd.R_below (by (with_reducible repeat (first | apply rA_ | apply rN_ | apply rD_)); exact HO438.out) hb); have n2_ := Aside0.mk (Kd.R_lower ho0 (below_size (by repeat (first | (with_reducible first | exact HB.out | apply lA_ | apply lN_ | apply lD_) | exact HB.out)))); have n3_ := Aside0.mk (below_step (by repeat (first | (with_reducible first | exact HB.out | apply lA_ | apply lN_ | apply lD_) | exact HB.out)) hb); clear HO436; clear HO438; clear HB; have HO436 := n0_; have HO438 := n1_; have HO442 := n2_; have HB := n3_; clear n0_ n1_ n2_ n3_; (try clear hb); (try clear ho0)) | (go_at_call 30; (with_reducible refine (spec_SequencesOf.calls k _ _ t433 _ _ t434 t443 t444 _ ?side1 ?side2 ?side3 ?side4 A6.out).mono ?_); (case side1 => repeat (first | exact (Kd.R_reads' HO436.out).2.2 | (with_reducible first | apply cA_ | apply cN_ | apply cD_))); (case side2 => exact (Kd.R_reads' HO436.out).2.1); (case side3 => repeat (first | exact (Kd.R_reads' HO438.out).2.2 | (with_reducible first | apply cA_ | apply cN_ | apply cD_))); (case side4 => exact (Kd.R_reads' HO438.out).2.1); rintro e w21 ⟨v445, rfl, ho0, hb⟩; have n0_ := Aside0.mk (Kd.R_below (by (with_reducible repeat (first | apply rA_ | apply rN_ | apply rD_)); exact HO436.out) hb); have n1_ := Aside0.mk (Kd.R_below (by (with_reducible repeat (first | apply rA_ | apply rN_ | apply rD_)); exact HO438.out) hb); have n2_ := Aside0.mk (Kd.R_elder' (by (with_reducible repeat (first | apply rA_ | apply rN_ | apply rD_)); exact HO442.out) (Kd.R_base ho0) hb); have n3_ := Aside0.mk (Kd.R_lower (Kd.R_new' ho0 (Kd.R_lt (by (with_reducible repeat (first | apply rA_ | apply rN_ | apply rD_)); exact HO442.out))) (below_size (by repeat (first | (with_reducible first | exact HB.out | apply lA_ | apply lN_ | apply lD_) | exact HB.out)))); have n4_ := Aside0.mk (below_step (by repeat (first | (with_reducible first | exact HB.out | apply lA_ | apply lN_ | apply lD_) | exact HB.out)) hb); clear HO436; clear HO438; clear HO442; clear HB; have HO436 := n0_; have HO438 := n1_; have HO442 := n2_; have HO446 := n3_; have HB := n4_; clear n0_ n1_ n2_ n3_ n4_; (try clear hb); (try clear ho0)) | (go_at_call 39; (with_reducible refine (spec_DrawNotesLike.calls k _ _ l1 t447 t448 _ ?side1 ?side2 A7.out).mono ?_); (case side1 => repeat (first | exact (Kd.C_below HR1.out HB.out) | (with_reducible first | apply cA_ | apply cN_ | apply cD_))); (case side2 => exact HC1.out); rintro e w22 ⟨v449, rfl, ho0, hb⟩; have n0_ := Aside0.mk (Kd.R_elder' (by (with_reducible repeat (first | apply rA_ | apply rN_ | apply rD_)); exact HO436.out) (Kd.R_base ho0) hb); have n1_ := Aside0.mk (Kd.R_below (by (with_reducible repeat (first | apply rA_ | apply rN_ | apply rD_)); exact HO438.out) hb); have n2_ := Aside0.mk (Kd.R_below (by (with_reducible repeat (first | apply rA_ | apply rN_ | apply rD_)); exact HO442.out) hb); have n3_ := Aside0.mk (Kd.R_below (by (with_reducible repeat (first | apply rA_ | apply rN_ | apply rD_)); exact HO446.out) hb); have n4_ := Aside0.mk (Kd.R_lower (Kd.R_new' ho0 (Kd.R_lt (by (with_reducible repeat (first | apply rA_ | apply rN_ | apply rD_)); exact HO436.out))) (below_size (by repeat (first | (with_reducible first | exact HB.out | apply lA_ | apply lN_ | apply lD_) | exact HB.out)))); have n5_ := Aside0.mk (below_step (by repeat (first | (with_reducible first | exact HB.out | apply lA_ | apply lN_ | apply lD_) | exact HB.out)) hb); clear HO436; clear HO438; clear HO442; clear HO446; clear HB; have HO436 := n0_; have HO438 := n1_; have HO442 := n2_; have HO446 := n3_; have HO450 := n4_; have HB := n5_; clear n0_ n1_ n2_ n3_ n4_ n5_; (try clear hb); (try clear ho0); obtain ⟨Ao23, co23, eo23⟩ := Kd.R_slice HO450.out; subst eo23) | (go_at_call 23; (with_reducible refine (impl_NotesLike.calls k _ _ t447 t448 t451 t452 _ ?side1 ?side2 A8.out).mono ?_); (case side1 => repeat (first | exact (Kd.R_reads' HO450.out).2.2 | (with_reducible first | apply cA_ | apply cN_ | apply cD_))); (case side2 => exact (Kd.R_reads' HO450.out).2.1); rintro e w24 ⟨v453, rfl, ho0, hb⟩; have n0_ := Aside0.mk (Kd.R_below (by (with_reducible repeat (first | apply rA_ | apply rN_ | apply rD_)); exact HO436.out) hb); have n1_ := Aside0.mk (Kd.R_below (by (with_reducible repeat (first | apply rA_ | apply rN_ | apply rD_)); exact HO438.out) hb); have n2_ := Aside0.mk (Kd.R_elder' (by (with_reducible repeat (first | apply rA_ | apply rN_ | apply rD_)); exact HO442.out) (Kd.R_base ho0) hb); have n3_ := Aside0.mk (Kd.R_elder' (by (with_reducible repeat (first | apply rA_ | apply rN_ | apply rD_)); exact HO446.out) (Kd.R_base ho0) hb); have n4_ := Aside0.mk (Kd.R_below (by (with_reducible repeat (first | apply rA_ | apply rN_ | apply rD_)); exact HO450.out) hb); have n5_ := Aside0.mk (Kd.R_lower (Kd.R_new' (Kd.R_new' ho0 (Kd.R_lt (by (with_reducible repeat (first | apply rA_ | apply rN_ | apply rD_)); exact HO442.out))) (Kd.R_lt (by (with_reducible repeat (first | apply rA_ | apply rN_ | apply rD_)); exact HO446.out))) (below_size (by repeat (first | (with_reducible first | exact HB.out | apply lA_ | apply lN_ | apply lD_) | exact HB.out)))); have n6_ := Aside0.mk (below_step (by repeat (first | (with_reducible first | exact HB.out | apply lA_ | apply lN_ | apply lD_) | exact HB.out)) hb); clear HO436; clear HO438; clear HO442; clear HO446; clear HO450; clear HB; have HO436 := n0_; have HO438 := n1_; have HO442 := n2_; have HO446 := n3_; have HO450 := n4_; have HO454 := n5_; have HB := n6_; clear n0_ n1_ n2_ n3_ n4_ n5_ n6_; (try clear hb); (try clear ho0)) | (go_at_call 22; (with_reducible refine (spec_NotesLike.calls k _ _ t447 t448 t455 t456 _ ?side1 ?side2 A9.out).mono ?_); (case side1 => repeat (first | exact (Kd.R_reads' HO450.out).2.2 | (with_reducible first | apply cA_ | apply cN_ | apply cD_))); (case side2 => exact (Kd.R_reads' HO450.out).2.1); rintro e w25 ⟨v457, rfl, ho0, hb⟩; have n0_ := Aside0.mk (Kd.R_below (by (with_reducible repeat (first | apply rA_ | apply rN_ | apply rD_)); exact HO436.out) hb); have n1_ := Aside0.mk (Kd.R_below (by (with_reducible repeat (first | apply rA_ | apply rN_ | apply rD_)); exact HO438.out) hb); have n2_ := Aside0.mk (Kd.R_elder' (by (with_reducible repeat (first | apply rA_ | apply rN_ | apply rD_)); exact HO442.out) (Kd.R_base ho0) hb); have n3_ := Aside0.mk (Kd.R_elder' (by (with_reducible repeat (first | apply rA_ | apply rN_ | apply rD_)); exact HO446.out) (Kd.R_base ho0) hb); have n4_ := Aside0.mk (Kd.R_below (by (with_reducible repeat (first | apply rA_ | apply rN_ | apply rD_)); exact HO450.out) hb); have n5_ := Aside0.mk (Kd.R_elder' (by (with_reducible repeat (first | apply rA_ | apply rN_ | apply rD_)); exact HO454.out) (Kd.R_base ho0) hb); have n6_ := Aside0.mk (Kd.R_lower (Kd.R_new' (Kd.R_new' (Kd.R_new' ho0 (Kd.R_lt (by (with_reducible repeat (first | apply rA_ | apply rN_ | apply rD_)); exact HO442.out))) (Kd.R_lt (by (with_reducible repeat (first | apply rA_ | apply rN_ | apply rD_)); exact HO446.out))) (Kd.R_lt (by (with_reducible repeat (first | apply rA_ | apply rN_ | apply rD_)); exact HO454.out))) (below_size (by repeat (first | (with_reducible first | exact HB.out | apply lA_ | apply lN_ | apply lD_) | exact HB.out)))); have n7_ := Aside0.mk (below_step (by repeat (first | (with_reducible first | exact HB.out | apply lA_ | apply lN_ | apply lD_) | exact HB.out)) hb); clear HO436; clear HO438; clear HO442; clear HO446; clear HO450; clear HO454; clear HB; have HO436 := n0_; have HO438 := n1_; have HO442 := n2_; have HO446 := n3_; have HO450 := n4_; have HO454 := n5_; have HO458 := n6_; have HB := n7_; clear n0_ n1_ n2_ n3_ n4_ n5_ n6_ n7_; (try clear hb); (try clear ho0)) | (go_at_call 40; (with_reducible refine (spec_DrawPairsWithin.calls k _ _ l1 t459 t460 t461 t462 _ ?side1 ?side2 A10.out).mono ?_); (case side1 => repeat (first | exact (Kd.C_below HR1.out HB.out) | (with_reducible first | apply cA_ | apply cN_ | apply cD_))); (case side2 => exact HC1.out); rintro e w26 ⟨v463, rfl, ho0, hb⟩; have n0_ := Aside0.mk (Kd.R_elder' (by (with_reducible repeat (first | apply rA_ | apply rN_ | apply rD_)); exact HO436.out) (Kd.R_base ho0) hb); have n1_ := Aside0.mk (Kd.R_below (by (with_reducible repeat (first | apply rA_ | apply rN_ | apply rD_)); exact HO438.out) hb); have n2_ := Aside0.mk (Kd.R_below (by (with_reducible repeat (first | apply rA_ | apply rN_ | apply rD_)); exact HO442.out) hb); have n3_ := Aside0.mk (Kd.R_below (by (with_reducible repeat (first | apply rA_ | apply rN_ | apply rD_)); exact HO446.out) hb); have n4_ := Aside0.mk (Kd.R_elder' (by (with_reducible repeat (first | apply rA_ | apply rN_ | apply rD_)); exact HO450.out) (Kd.R_base ho0) hb); have n5_ := Aside0.mk (Kd.R_below (by (with_reducible repeat (first | apply rA_ | apply rN_ | apply rD_)); exact HO454.out) hb); have n6_ := Aside0.mk (Kd.R_below (by (with_reducible repeat (first | apply rA_ | apply rN_ | apply rD_)); exact HO458.out) hb); have n7_ := Aside0.mk (Kd.R_lower (Kd.R_new' (Kd.R_new' ho0 (Kd.R_lt (by (with_reducible repeat (first | apply rA_ | apply rN_ | apply rD_)); exact HO436.out))) (Kd.R_lt (by (with_reducible repeat (first | apply rA_ | apply rN_ | apply rD_)); exact HO450.out))) (below_size (by repeat (first | (with_reducible first | exact HB.out | apply lA_ | apply lN_ | apply lD_) | exact HB.out)))); have n8_ := Aside0.mk (below_step (by repeat (first | (with_reducible first | exact HB.out | apply lA_ | apply lN_ | apply lD_) | exact HB.out)) hb); clear HO436; clear HO438; clear HO442; clear HO446; clear HO450; clear HO454; clear HO458; clear HB; have HO436 := n0_; have HO438 := n1_; have HO442 := n2_; have HO446 := n3_; have HO450 := n4_; have HO454 := n5_; have HO458 := n6_; have HO464 := n7_; have HB := n8_; clear n0_ n1_ n2_ n3_ n4_ n5_ n6_ n7_ n8_; (try clear hb); (try clear ho0); obtain ⟨Ao27, co27, eo27⟩ := Kd.R_slice HO464.out; subst eo27) | (go_at_call 28; (with_reducible refine (impl_PairsWithin.calls k _ _ t459 t460 t461 t462 t465 t466 _ ?side1 ?side2 A11.out).mono ?_); (case side1 => repeat (first | exact (Kd.R_reads' HO464.out).2.2 | (with_reducible first | apply cA_ | apply cN_ | apply cD_))); (case side2 => exact (Kd.R_reads' HO464.out).2.1); rintro e w28 ⟨v467, rfl, ho0, hb⟩; have n0_ := Aside0.mk (Kd.R_below (by (with_reducible repeat (first | apply rA_ | apply rN_ | apply rD_)); exact HO436.out) hb); have n1_ := Aside0.mk (Kd.R_below (by (with_reducible repeat (first | apply rA_ | apply rN_ | apply rD_)); exact HO438.out) hb); have n2_ := Aside0.mk (Kd.R_below (by (with_reducible repeat (first | apply rA_ | apply rN_ | apply rD_)); exact HO442.out) hb); have n3_ := Aside0.mk (Kd.R_below (by (with_reducible repeat (first | apply rA_ | apply rN_ | apply rD_)); exact HO446.out) hb); have n4_ := Aside0.mk (Kd.R_below (by (with_reducible repeat (first | apply rA_ | apply rN_ | apply rD_)); exact HO450.out) hb); have n5_ := Aside0.mk (Kd.R_below (by (with_reducible repeat (first | apply rA_ | apply rN_ | apply rD_)); exact HO454.out) hb); have n6_ := Aside0.mk (Kd.R_below (by (with_reducible repeat (first | apply rA_ | apply rN_ | apply rD_)); exact HO458.out) hb); have n7_ := Aside0.mk (Kd.R_below (by (with_reducible repeat (first | apply rA_ | apply rN_ | apply rD_)); exact HO464.out) hb); have n8_ := Aside0.mk (Kd.S_lower (Kd.S_new' (Kd.S_new' (Kd.S_new' (Kd.S_new' ho0 (Kd.R_lt (by (with_reducible repeat (first | apply rA_ | apply rN_ | apply rD_)); exact HO442.out))) (Kd.R_lt (by (with_reducible repeat (first | apply rA_ | apply rN_ | apply rD_)); exact HO446.out))) (Kd.R_lt (by (with_reducible repeat (first | apply rA_ | apply rN_ | apply rD_)); exact HO454.out))) (Kd.R_lt (by (with_reducible repeat (first | apply rA_ | apply rN_ | apply rD_)); exact HO458.out))) (below_size (by repeat (first | (with_reducible first | exact HB.out | apply lA_ | apply lN_ | apply lD_) | exact HB.out)))); have n9_ := Aside0.mk (below_step (by repeat (first | (with_reducible first | exact HB.out | apply lA_ | apply lN_ | apply lD_) | exact HB.out)) hb); clear HO436; clear HO438; clear HO442; clear HO446; clear HO450; clear HO454; clear HO458; clear HO464; clear HB; have HO436 := n0_; have HO438 := n1_; have HO442 := n2_; have HO446 := n3_; have HO450 := n4_; have HO454 := n5_; have HO458 := n6_; have HO464 := n7_; have HO468 := n8_; have HB := n9_; clear n0_ n1_ n2_ n3_ n4_ n5_ n6_ n7_ n8_ n9_; (try clear hb); (try clear ho0)) | (go_at_call 27; (with_reducible refine (spec_PairsWithin.calls k _ _ t459 t460 t461 t462 t469 t470 _ ?side1 ?side2 A12.out).mono ?_); (case side1 => repeat (first | exact (Kd.R_reads' HO464.out).2.2 | (with_reducible first | apply cA_ | apply cN_ | apply cD_))); (case side2 => exact (Kd.R_reads' HO464.out).2.1); rintro e w29 ⟨v471, rfl, ho0, hb⟩; have n0_ := Aside0.mk (Kd.R_below (by (with_reducible repeat (first | apply rA_ | apply rN_ | apply rD_)); exact HO436.out) hb); have n1_ := Aside0.mk (Kd.R_below (by (with_reducible repeat (first | apply rA_ | apply rN_ | apply rD_)); exact HO438.out) hb); have n2_ := Aside0.mk (Kd.R_below (by (with_reducible repeat (first | apply rA_ | apply rN_ | apply rD_)); exact HO442.out) hb); have n3_ := Aside0.mk (Kd.R_below (by (with_reducible repeat (first | apply rA_ | apply rN_ | apply rD_)); exact HO446.out) hb); have n4_ := Aside0.mk (Kd.R_below (by (with_reducible repeat (first | apply rA_ | apply rN_ | apply rD_)); exact HO450.out) hb); have n5_ := Aside0.mk (Kd.R_below (by (with_reducible repeat (first | apply rA_ | apply rN_ | apply rD_)); exact HO454.out) hb); have n6_ := Aside0.mk (Kd.R_below (by (with_reducible repeat (first | apply rA_ | apply rN_ | apply rD_)); exact HO458.out) hb); have n7_ := Aside0.mk (Kd.R_below (by (with_reducible repeat (first | apply rA_ | apply rN_ | apply rD_)); exact HO464.out) hb); have n8_ := Aside0.mk (Kd.S_elder' (by (with_reducible repeat (first | apply Kd.S_alloc | apply Kd.S_drewN | apply Kd.S_drew)); exact HO468.out) (Kd.S_base ho0) hb); have n9_ := Aside0.mk (Kd.S_lower (Kd.S_new' (Kd.S_new' (Kd.S_new' (Kd.S_new' (Kd.S_new' ho0 (Kd.R_lt (by (with_reducible repeat (first | apply rA_ | apply rN_ | apply rD_)); exact HO442.out))) (Kd.R_lt (by (with_reducible repeat (first | apply rA_ | apply rN_ | apply rD_)); exact HO446.out))) (Kd.R_lt (by (with_reducible repeat (first | apply rA_ | apply rN_ | apply rD_)); exact HO454.out))) (Kd.R_lt (by (with_reducible repeat (first | apply rA_ | apply rN_ | apply rD_)); exact HO458.out))) (Kd.S_lt (by (with_reducible repeat (first | apply Kd.S_alloc | apply Kd.S_drewN | apply Kd.S_drew)); exact HO468.out))) (below_size (by repeat (first | (with_reducible first | exact HB.out | apply lA_ | apply lN_ | apply lD_) | exact HB.out)))); have n10_ := Aside0.mk (below_step (by repeat (first | (with_reducible first | exact HB.out | apply lA_ | apply lN_ | apply lD_) | exact HB.out)) hb); clear HO436; clear HO438; clear HO442; clear HO446; clear HO450; clear HO454; clear HO458; clear HO464; clear HO468; clear HB; have HO436 := n0_; have HO438 := n1_; have HO442 := n2_; have HO446 := n3_; have HO450 := n4_; have HO454 := n5_; have HO458 := n6_; have HO464 := n7_; have HO468 := n8_; have HO472 := n9_; have HB := n10_; clear n0_ n1_ n2_ n3_ n4_ n5_ n6_ n7_ n8_ n9_ n10_; (try clear hb); (try clear ho0)) | (go_at_call 41; (with_reducible refine (spec_DrawMatchesGloss.calls _ _ l1 t473 t474 _ ?side1 ?side2 A13.out).mono ?_); (case side1 => repeat (first | exact (Kd.C_below HR1.out HB.out) | (with_reducible first | apply cA_ | apply cN_ | apply cD_))); (case side2 => exact HC1.out); rintro e w30 ⟨rfl, hb⟩; have n0_ := Aside0.mk (Kd.R_below (by (with_reducible repeat (first | apply rA_ | apply rN_ | apply rD_)); exact HO436.out) hb); have n1_ := Aside0.mk (Kd.R_below (by (with_reducible repeat (first | apply rA_ | apply rN_ | apply rD_)); exact HO438.out) hb); have n2_ := Aside0.mk (Kd.R_below (by (with_reducible repeat (first | apply rA_ | apply rN_ | apply rD_)); exact HO442.out) hb); have n3_ := Aside0.mk (Kd.R_below (by (with_reducible repeat (first | apply rA_ | apply rN_ | apply rD_)); exact HO446.out) hb); have n4_ := Aside0.mk (Kd.R_below (by (with_reducible repeat (first | apply rA_ | apply rN_ | apply rD_)); exact HO450.out) hb); have n5_ := Aside0.mk (Kd.R_below (by (with_reducible repeat (first | apply rA_ | apply rN_ | apply rD_)); exact HO454.out) hb); have n6_ := Aside0.mk (Kd.R_below (by (with_reducible repeat (first | apply rA_ | apply rN_ | apply rD_)); exact HO458.out) hb); have n7_ := Aside0.mk (Kd.R_below (by (with_reducible repeat (first | apply rA_ | apply rN_ | apply rD_)); exact HO464.out) hb); have n8_ := Aside0.mk (Kd.S_below (by (with_reducible repeat (first | apply Kd.S_alloc | apply Kd.S_drewN | apply Kd.S_drew)); exact HO468.out) hb); have n9_ := Aside0.mk (Kd.S_below (by (with_reducible repeat (first | apply Kd.S_alloc | apply Kd.S_drewN | apply Kd.S_drew)); exact HO472.out) hb); have n10_ := Aside0.mk (below_step (by repeat (first | (with_reducible first | exact HB.out | apply lA_ | apply lN_ | apply lD_) | exact HB.out)) hb); clear HO436; clear HO438; clear HO442; clear HO446; clear HO450; clear HO454; clear HO458; clear HO464; clear HO468; clear HO472; clear HB; have HO436 := n0_; have HO438 := n1_; have HO442 := n2_; have HO446 := n3_; have HO450 := n4_; have HO454 := n5_; have HO458 := n6_; have HO464 := n7_; have HO468 := n8_; have HO472 := n9_; have HB := n10_; clear n0_ n1_ n2_ n3_ n4_ n5_ n6_ n7_ n8_ n9_ n10_; (try clear hb)) | (go_at_call 42; (with_reducible refine (impl_MatchesGloss.calls k t473 t474 t475 t476 _ A14.out).mono ?_); rintro e w31 ⟨rfl, hb⟩; have n0_ := Aside0.mk (Kd.R_below (by (with_reducible repeat (first | apply rA_ | apply rN_ | apply rD_)); exact HO436.out) hb); have n1_ := Aside0.mk (Kd.R_below (by (with_reducible repeat (first | apply rA_ | apply rN_ | apply rD_)); exact HO438.out) hb); have n2_ := Aside0.mk (Kd.R_below (by (with_reducible repeat (first | apply rA_ | apply rN_ | apply rD_)); exact HO442.out) hb); have n3_ := Aside0.mk (Kd.R_below (by (with_reducible repeat (first | apply rA_ | apply rN_ | apply rD_)); exact HO446.out) hb); have n4_ := Aside0.mk (Kd.R_below (by (with_reducible repeat (first | apply rA_ | apply rN_ | apply rD_)); exact HO450.out) hb); have n5_ := Aside0.mk (Kd.R_below (by (with_reducible repeat (first | apply rA_ | apply rN_ | apply rD_)); exact HO454.out) hb); have n6_ := Aside0.mk (Kd.R_below (by (with_reducible repeat (first | apply rA_ | apply rN_ | apply rD_)); exact HO458.out) hb); have n7_ := Aside0.mk (Kd.R_below (by (with_reducible repeat (first | apply rA_ | apply rN_ | apply rD_)); exact HO464.out) hb); have n8_ := Aside0.mk (Kd.S_below (by (with_reducible repeat (first | apply Kd.S_alloc | apply Kd.S_drewN | apply Kd.S_drew)); exact HO468.out) hb); have n9_ := Aside0.mk (Kd.S_below (by (with_reducible repeat (first | apply Kd.S_alloc | apply Kd.S_drewN | apply Kd.S_drew)); exact HO472.out) hb); have n10_ := Aside0.mk (below_step (by repeat (first | (with_reducible first | exact HB.out | apply lA_ | apply lN_ | apply lD_) | exact HB.out)) hb); clear HO436; clear HO438; clear HO442; clear HO446; clear HO450; clear HO454; clear HO458; clear HO464; clear HO468; clear HO472; clear HB; have HO436 := n0_; have HO438 := n1_; have HO442 := n2_; have HO446 := n3_; have HO450 := n4_; have HO454 := n5_; have HO458 := n6_; have HO464 := n7_; have HO468 := n8_; have HO472 := n9_; have HB := n10_; clear n0_ n1_ n2_ n3_ n4_ n5_ n6_ n7_ n8_ n9_ n10_; (try clear hb)) | (go_at_call 43; (with_reducible refine (spec_MatchesGloss.calls k t473 t474 t477 t478 _ A15.out).mono ?_); rintro e w32 ⟨rfl, hb⟩; have n0_ := Aside0.mk (Kd.R_below (by (with_reducible repeat (first | apply rA_ | apply rN_ | apply rD_)); exact HO436.out) hb); have n1_ := Aside0.mk (Kd.R_below (by (with_reducible repeat (first | apply rA_ | apply rN_ | apply rD_)); exact HO438.out) hb); have n2_ := Aside0.mk (Kd.R_below (by (with_reducible repeat (first | apply rA_ | apply rN_ | apply rD_)); exact HO442.out) hb); have n3_ := Aside0.mk (Kd.R_below (by (with_reducible repeat (first | apply rA_ | apply rN_ | apply rD_)); exact HO446.out) hb); have n4_ := Aside0.mk (Kd.R_below (by (with_reducible repeat (first | apply rA_ | apply rN_ | apply rD_)); exact HO450.out) hb); have n5_ := Aside0.mk (Kd.R_below (by (with_reducible repeat (first | apply rA_ | apply rN_ | apply rD_)); exact HO454.out) hb); have n6_ := Aside0.mk (Kd.R_below (by (with_reducible repeat (first | apply rA_ | apply rN_ | apply rD_)); exact HO458.out) hb); have n7_ := Aside0.mk (Kd.R_below (by (with_reducible repeat (first | apply rA_ | apply rN_ | apply rD_)); exact HO464.out) hb); have n8_ := Aside0.mk (Kd.S_below (by (with_reducible repeat (first | apply Kd.S_alloc | apply Kd.S_drewN | apply Kd.S_drew)); exact HO468.out) hb); have n9_ := Aside0.mk (Kd.S_below (by (with_reducible repeat (first | apply Kd.S_alloc | apply Kd.S_drewN | apply Kd.S_drew)); exact HO472.out) hb); have n10_ := Aside0.mk (below_step (by repeat (first | (with_reducible first | exact HB.out | apply lA_ | apply lN_ | apply lD_) | exact HB.out)) hb); clear HO436; clear HO438; clear HO442; clear HO446; clear HO450; clear HO454; clear HO458; clear HO464; clear HO468; clear HO472; clear HB; have HO436 := n0_; have HO438 := n1_; have HO442 := n2_; have HO446 := n3_; have HO450 := n4_; have HO454 := n5_; have HO458 := n6_; have HO464 := n7_; have HO468 := n8_; have HO472 := n9_; have HB := n10_; clear n0_ n1_ n2_ n3_ n4_ n5_ n6_ n7_ n8_ n9_ n10_; (try clear hb)) | (go_quiet (fail)))
 (try simp only [Act.put, List.setIfInBounds_toArray, List.set_cons_zero, List.set_cons_succ])
 go_cut [169] (fun v169 wc => ∃ (kq : Nat) (x169_15 : Bool), v169 = .bool x169_15 ∧ Aside0 (laws_FnQueries.j0 kq t433 t434 t443 t447 t448 t452 t455 t459 t462 t469 t474 t476 x169_15 = some r) ∧ Aside0 (kq ≤ k) ∧ Aside0 (Kd.R k66 66 wc w.heap.size (fun k_ => some k_ ≠ ((.slice Ao23 t447.length co23) : Value).ownBlock ∧ some k_ ≠ ((.slice Ao27 t459.length co27) : Value).ownBlock) (.slice Ao18 t433.length co18) t433) ∧ Aside0 (Kd.R Kd.string 9 wc w.heap.size (fun _ => True) (.slice Ao19 t434.length co19) t434) ∧ Aside0 (Kd.R (Kd.int .i64) 3 wc w.heap.size (fun k_ => some k_ ≠ (v457 : Value).ownBlock) v445 t443) ∧ Aside0 (Kd.R k66 66 wc w.heap.size (fun k_ => some k_ ≠ ((.slice Ao18 t433.length co18) : Value).ownBlock ∧ some k_ ≠ ((.slice Ao27 t459.length co27) : Value).ownBlock) (.slice Ao23 t447.length co23) t447) ∧ Aside0 (Kd.R (Kd.int .i64) 3 wc w.heap.size (fun k_ => some k_ ≠ (v445 : Value).ownBlock) v457 t455) ∧ Aside0 (Kd.R k66 66 wc w.heap.size (fun k_ => some k_ ≠ ((.slice Ao18 t433.length co18) : Value).ownBlock ∧ some k_ ≠ ((.slice Ao23 t447.length co23) : Value).ownBlock) (.slice Ao27 t459.length co27) t459) ∧ Aside0 (Kd.S (Kd.slice 3 (Kd.int .i64)) 37 wc w.heap.size (fun k_ => some k_ ≠ (v445 : Value).ownBlock ∧ some k_ ≠ (v457 : Value).ownBlock) v471 t469) ∧ Aside0 (Below w.heap.size w wc))
 case first =>
  have H := HC16.out
  clear HC16
  by_cases c33 : (t440 != t444) = true
  ·rw [if_pos c33] at H
   have c33b0 : (t440 != t444) = true := c33
   (try (have c33b1 : decide (t440 = t444) = false := by simpa using c33))
   (try (have c33b2 : (t440 == t444) = false := by simpa using c33))
   (try (have c33b3 : ¬ (t440 = t444) := by simpa using c33))
   clear c33
   (first | rw [c33b0] | (simp only [i64_w, i32_w]; rw [c33b0]) | skip)
   as_aux_lemma =>
    have H' := Aside0.mk H
    clear H
    go_wp2
    repeat (go_quiet (fail); try go_wp2)
    go_meet
    case rel => exact ⟨_, (true), (by first | rfl | (simp; done) | (simp [*]; done)), H', ⟨by first | omega | exact Nat.le_refl _⟩, ⟨by (with_reducible repeat (first | apply rA_ | apply rN_ | apply rD_)); exact Kd.R_mono HO436.out (fun _ hk => ⟨hk.1.2, hk.2⟩)⟩, ⟨by (with_reducible repeat (first | apply rA_ | apply rN_ | apply rD_)); exact HO438.out⟩, ⟨by (with_reducible repeat (first | apply rA_ | apply rN_ | apply rD_)); exact Kd.R_mono HO446.out (fun _ hk => hk.2)⟩, ⟨by (with_reducible repeat (first | apply rA_ | apply rN_ | apply rD_)); exact Kd.R_mono HO450.out (fun _ hk => ⟨hk.1.2, hk.2⟩)⟩, ⟨by (with_reducible repeat (first | apply rA_ | apply rN_ | apply rD_)); exact Kd.R_mono HO458.out (fun _ hk => hk.1.2)⟩, ⟨by (with_reducible repeat (first | apply rA_ | apply rN_ | apply rD_)); exact Kd.R_mono HO464.out (fun _ hk => ⟨hk.1.2, hk.2⟩)⟩, ⟨by (with_reducible repeat (first | apply Kd.S_alloc | apply Kd.S_drewN | apply Kd.S_drew)); exact Kd.S_mono HO472.out (fun _ hk => ⟨hk.1.1.1.2, hk.1.2⟩)⟩, ⟨by repeat (first | (with_reducible first | exact HB.out | apply lA_ | apply lN_ | apply lD_) | exact HB.out)⟩⟩
  rw [if_neg c33] at H
  have c33b0 : (t440 != t444) = false := by simpa using c33
  (try (have c33b1 : decide (t440 = t444) = true := by simpa using c33))
  (try (have c33b2 : (t440 == t444) = true := by simpa using c33))
  clear c33
  (first | rw [c33b0] | (simp only [i64_w, i32_w]; rw [c33b0]) | skip)
  replace H := Option.bind_eq_some_iff.mp H
  obtain ⟨t479, A340, H⟩ := H
  (try dsimp only at H)
  have A34 := Aside0.mk A340
  clear A340
  by_cases c35 : t479 = true
  rotate_left
  ·replace c35 := Bool.eq_false_iff.mpr c35
   subst c35
   have H1 : (laws_FnQueries.j0 k t433 t434 t443 t447 t448 t452 t455 t459 t462 t469 t474 t476 true) = some r := by rw [if_neg (show ¬ (false = true) by decide)] at H; exact H
   clear H
   have H := H1
   clear H1
   as_aux_lemma =>
    have H' := Aside0.mk H
    clear H
    obtain ⟨Ao71, co71, eo71⟩ := Kd.R_slice HO442.out
    subst eo71
    obtain ⟨Ao72, co72, eo72⟩ := Kd.R_slice HO446.out
    subst eo72
    go_wp2_with (first | (go_at_call 44; (with_reducible refine (laws_qInts.calls k _ _ t439 _ _ t443 false _ ?side1 ?side2 ?side3 ?side4 A34.out).mono ?_); (case side1 => repeat (first | exact (Kd.R_reads' HO442.out).2.2 | (with_reducible first | apply cA_ | apply cN_ | apply cD_))); (case side2 => exact (Kd.R_reads' HO442.out).2.1); (case side3 => repeat (first | exact (Kd.R_reads' HO446.out).2.2 | (with_reducible first | apply cA_ | apply cN_ | apply cD_))); (case side4 => exact (Kd.R_reads' HO446.out).2.1); rintro e w' ⟨rfl, ⟨nd, rfl⟩⟩; (try first | exact ⟨rfl, _, World.drewN_drewN _ _ _⟩ | exact ⟨rfl, _, Eq.trans (World.drewN_drewN _ _ _) (congrArg (World.drewN _) (Nat.add_assoc _ _ _))⟩)) | (go_quiet (first | (go_at_call 44; (with_reducible refine (laws_qInts.calls k _ _ t439 _ _ t443 false _ ?side1 ?side2 ?side3 ?side4 A34.out).mono ?_); (case side1 => repeat (first | exact (Kd.R_reads' HO442.out).2.2 | (with_reducible first | apply cA_ | apply cN_ | apply cD_))); (case side2 => exact (Kd.R_reads' HO442.out).2.1); (case side3 => repeat (first | exact (Kd.R_reads' HO446.out).2.2 | (with_reducible first | apply cA_ | apply cN_ | apply cD_))); (case side4 => exact (Kd.R_reads' HO446.out).2.1); rintro e w' ⟨rfl, ⟨nd, rfl⟩⟩; (try first | exact ⟨rfl, _, World.drewN_drewN _ _ _⟩ | exact ⟨rfl, _, Eq.trans (World.drewN_drewN _ _ _) (congrArg (World.drewN _) (Nat.add_assoc _ _ _))⟩)))))
    go_meet
    case rel => exact ⟨_, (true), (by first | rfl | (simp; done) | (simp [*]; done)), H', ⟨by first | omega | exact Nat.le_refl _⟩, ⟨by (with_reducible repeat (first | apply rA_ | apply rN_ | apply rD_)); exact Kd.R_mono HO436.out (fun _ hk => ⟨hk.1.2, hk.2⟩)⟩, ⟨by (with_reducible repeat (first | apply rA_ | apply rN_ | apply rD_)); exact HO438.out⟩, ⟨by (with_reducible repeat (first | apply rA_ | apply rN_ | apply rD_)); exact Kd.R_mono HO446.out (fun _ hk => hk.2)⟩, ⟨by (with_reducible repeat (first | apply rA_ | apply rN_ | apply rD_)); exact Kd.R_mono HO450.out (fun _ hk => ⟨hk.1.2, hk.2⟩)⟩, ⟨by (with_reducible repeat (first | apply rA_ | apply rN_ | apply rD_)); exact Kd.R_mono HO458.out (fun _ hk => hk.1.2)⟩, ⟨by (with_reducible repeat (first | apply rA_ | apply rN_ | apply rD_)); exact Kd.R_mono HO464.out (fun _ hk => ⟨hk.1.2, hk.2⟩)⟩, ⟨by (with_reducible repeat (first | apply Kd.S_alloc | apply Kd.S_drewN | apply Kd.S_drew)); exact Kd.S_mono HO472.out (fun _ hk => ⟨hk.1.1.1.2, hk.1.2⟩)⟩, ⟨by repeat (first | (with_reducible first | exact HB.out | apply lA_ | apply lN_ | apply lD_) | exact HB.out)⟩⟩
  subst c35
  have H1 : (if (t452 != t456) = true then (laws_FnQueries.j0 k t433 t434 t443 t447 t448 t452 t455 t459 t462 t469 t474 t476 true) else ((laws_qInts.f k t451 t455).bind fun t480 => (if t480 = true then (if (t466 != t470) = true then (laws_FnQueries.j0 k t433 t434 t443 t447 t448 t452 t455 t459 t462 t469 t474 t476 true) else ((laws_qLists.f k t465 t469).bind fun t481 => (if t481 = true then (if (t476 != t478) = true then (laws_FnQueries.j0 k t433 t434 t443 t447 t448 t452 t455 t459 t462 t469 t474 t476 true) else (laws_FnQueries.j0 k t433 t434 t443 t447 t448 t452 t455 t459 t462 t469 t474 t476 (t475 != t477))) else (laws_FnQueries.j0 k t433 t434 t443 t447 t448 t452 t455 t459 t462 t469 t474 t476 true)))) else (laws_FnQueries.j0 k t433 t434 t443 t447 t448 t452 t455 t459 t462 t469 t474 t476 true)))) = some r := by rw [if_pos rfl] at H; exact H
  clear H
  have H := H1
  clear H1
  by_cases c36 : (t452 != t456) = true
  ·rw [if_pos c36] at H
   have c36b0 : (t452 != t456) = true := c36
   (try (have c36b1 : decide (t452 = t456) = false := by simpa using c36))
   (try (have c36b2 : (t452 == t456) = false := by simpa using c36))
   (try (have c36b3 : ¬ (t452 = t456) := by simpa using c36))
   clear c36
   as_aux_lemma =>
    have H' := Aside0.mk H
    clear H
    obtain ⟨Ao37, co37, eo37⟩ := Kd.R_slice HO442.out
    subst eo37
    obtain ⟨Ao38, co38, eo38⟩ := Kd.R_slice HO446.out
    subst eo38
    go_wp2_with (first | (go_at_call 44; (with_reducible refine (laws_qInts.calls k _ _ t439 _ _ t443 true _ ?side1 ?side2 ?side3 ?side4 A34.out).mono ?_); (case side1 => repeat (first | exact (Kd.R_reads' HO442.out).2.2 | (with_reducible first | apply cA_ | apply cN_ | apply cD_))); (case side2 => exact (Kd.R_reads' HO442.out).2.1); (case side3 => repeat (first | exact (Kd.R_reads' HO446.out).2.2 | (with_reducible first | apply cA_ | apply cN_ | apply cD_))); (case side4 => exact (Kd.R_reads' HO446.out).2.1); rintro e w' ⟨rfl, ⟨nd, rfl⟩⟩; (try first | exact ⟨rfl, _, World.drewN_drewN _ _ _⟩ | exact ⟨rfl, _, Eq.trans (World.drewN_drewN _ _ _) (congrArg (World.drewN _) (Nat.add_assoc _ _ _))⟩)) | (go_quiet (first | (go_at_call 44; (with_reducible refine (laws_qInts.calls k _ _ t439 _ _ t443 true _ ?side1 ?side2 ?side3 ?side4 A34.out).mono ?_); (case side1 => repeat (first | exact (Kd.R_reads' HO442.out).2.2 | (with_reducible first | apply cA_ | apply cN_ | apply cD_))); (case side2 => exact (Kd.R_reads' HO442.out).2.1); (case side3 => repeat (first | exact (Kd.R_reads' HO446.out).2.2 | (with_reducible first | apply cA_ | apply cN_ | apply cD_))); (case side4 => exact (Kd.R_reads' HO446.out).2.1); rintro e w' ⟨rfl, ⟨nd, rfl⟩⟩; (try first | exact ⟨rfl, _, World.drewN_drewN _ _ _⟩ | exact ⟨rfl, _, Eq.trans (World.drewN_drewN _ _ _) (congrArg (World.drewN _) (Nat.add_assoc _ _ _))⟩)))))
    go_meet
    case rel => exact ⟨_, (true), (by first | rfl | (simp; done) | (simp [*]; done)), H', ⟨by first | omega | exact Nat.le_refl _⟩, ⟨by (with_reducible repeat (first | apply rA_ | apply rN_ | apply rD_)); exact Kd.R_mono HO436.out (fun _ hk => ⟨hk.1.2, hk.2⟩)⟩, ⟨by (with_reducible repeat (first | apply rA_ | apply rN_ | apply rD_)); exact HO438.out⟩, ⟨by (with_reducible repeat (first | apply rA_ | apply rN_ | apply rD_)); exact Kd.R_mono HO446.out (fun _ hk => hk.2)⟩, ⟨by (with_reducible repeat (first | apply rA_ | apply rN_ | apply rD_)); exact Kd.R_mono HO450.out (fun _ hk => ⟨hk.1.2, hk.2⟩)⟩, ⟨by (with_reducible repeat (first | apply rA_ | apply rN_ | apply rD_)); exact Kd.R_mono HO458.out (fun _ hk => hk.1.2)⟩, ⟨by (with_reducible repeat (first | apply rA_ | apply rN_ | apply rD_)); exact Kd.R_mono HO464.out (fun _ hk => ⟨hk.1.2, hk.2⟩)⟩, ⟨by (with_reducible repeat (first | apply Kd.S_alloc | apply Kd.S_drewN | apply Kd.S_drew)); exact Kd.S_mono HO472.out (fun _ hk => ⟨hk.1.1.1.2, hk.1.2⟩)⟩, ⟨by repeat (first | (with_reducible first | exact HB.out | apply lA_ | apply lN_ | apply lD_) | exact HB.out)⟩⟩
  rw [if_neg c36] at H
  have c36b0 : (t452 != t456) = false := by simpa using c36
  (try (have c36b1 : decide (t452 = t456) = true := by simpa using c36))
  (try (have c36b2 : (t452 == t456) = true := by simpa using c36))
  clear c36
  replace H := Option.bind_eq_some_iff.mp H
  obtain ⟨t480, A390, H⟩ := H
  (try dsimp only at H)
  have A39 := Aside0.mk A390
  clear A390
  by_cases c40 : t480 = true
  rotate_left
  ·replace c40 := Bool.eq_false_iff.mpr c40
   subst c40
   have H1 : (laws_FnQueries.j0 k t433 t434 t443 t447 t448 t452 t455 t459 t462 t469 t474 t476 true) = some r := by rw [if_neg (show ¬ (false = true) by decide)] at H; exact H
   clear H
   have H := H1
   clear H1
   as_aux_lemma =>
    have H' := Aside0.mk H
    clear H
    obtain ⟨Ao67, co67, eo67⟩ := Kd.R_slice HO442.out
    subst eo67
    obtain ⟨Ao68, co68, eo68⟩ := Kd.R_slice HO446.out
    subst eo68
    go_wp2_with (first | (go_at_call 44; (with_reducible refine (laws_qInts.calls k _ _ t439 _ _ t443 true _ ?side1 ?side2 ?side3 ?side4 A34.out).mono ?_); (case side1 => repeat (first | exact (Kd.R_reads' HO442.out).2.2 | (with_reducible first | apply cA_ | apply cN_ | apply cD_))); (case side2 => exact (Kd.R_reads' HO442.out).2.1); (case side3 => repeat (first | exact (Kd.R_reads' HO446.out).2.2 | (with_reducible first | apply cA_ | apply cN_ | apply cD_))); (case side4 => exact (Kd.R_reads' HO446.out).2.1); rintro e w' ⟨rfl, ⟨nd, rfl⟩⟩; (try first | exact ⟨rfl, _, World.drewN_drewN _ _ _⟩ | exact ⟨rfl, _, Eq.trans (World.drewN_drewN _ _ _) (congrArg (World.drewN _) (Nat.add_assoc _ _ _))⟩); obtain ⟨Ao69, co69, eo69⟩ := Kd.R_slice HO454.out; subst eo69; obtain ⟨Ao70, co70, eo70⟩ := Kd.R_slice HO458.out; subst eo70) | (go_at_call 44; (with_reducible refine (laws_qInts.calls k _ _ t451 _ _ t455 false _ ?side1 ?side2 ?side3 ?side4 A39.out).mono ?_); (case side1 => repeat (first | exact (Kd.R_reads' HO454.out).2.2 | (with_reducible first | apply cA_ | apply cN_ | apply cD_))); (case side2 => exact (Kd.R_reads' HO454.out).2.1); (case side3 => repeat (first | exact (Kd.R_reads' HO458.out).2.2 | (with_reducible first | apply cA_ | apply cN_ | apply cD_))); (case side4 => exact (Kd.R_reads' HO458.out).2.1); rintro e w' ⟨rfl, ⟨nd, rfl⟩⟩; (try first | exact ⟨rfl, _, World.drewN_drewN _ _ _⟩ | exact ⟨rfl, _, Eq.trans (World.drewN_drewN _ _ _) (congrArg (World.drewN _) (Nat.add_assoc _ _ _))⟩)) | (go_quiet (first | (go_at_call 44; (with_reducible refine (laws_qInts.calls k _ _ t439 _ _ t443 true _ ?side1 ?side2 ?side3 ?side4 A34.out).mono ?_); (case side1 => repeat (first | exact (Kd.R_reads' HO442.out).2.2 | (with_reducible first | apply cA_ | apply cN_ | apply cD_))); (case side2 => exact (Kd.R_reads' HO442.out).2.1); (case side3 => repeat (first | exact (Kd.R_reads' HO446.out).2.2 | (with_reducible first | apply cA_ | apply cN_ | apply cD_))); (case side4 => exact (Kd.R_reads' HO446.out).2.1); rintro e w' ⟨rfl, ⟨nd, rfl⟩⟩; (try first | exact ⟨rfl, _, World.drewN_drewN _ _ _⟩ | exact ⟨rfl, _, Eq.trans (World.drewN_drewN _ _ _) (congrArg (World.drewN _) (Nat.add_assoc _ _ _))⟩); obtain ⟨Ao69, co69, eo69⟩ := Kd.R_slice HO454.out; subst eo69; obtain ⟨Ao70, co70, eo70⟩ := Kd.R_slice HO458.out; subst eo70) | (go_at_call 44; (with_reducible refine (laws_qInts.calls k _ _ t451 _ _ t455 false _ ?side1 ?side2 ?side3 ?side4 A39.out).mono ?_); (case side1 => repeat (first | exact (Kd.R_reads' HO454.out).2.2 | (with_reducible first | apply cA_ | apply cN_ | apply cD_))); (case side2 => exact (Kd.R_reads' HO454.out).2.1); (case side3 => repeat (first | exact (Kd.R_reads' HO458.out).2.2 | (with_reducible first | apply cA_ | apply cN_ | apply cD_))); (case side4 => exact (Kd.R_reads' HO458.out).2.1); rintro e w' ⟨rfl, ⟨nd, rfl⟩⟩; (try first | exact ⟨rfl, _, World.drewN_drewN _ _ _⟩ | exact ⟨rfl, _, Eq.trans (World.drewN_drewN _ _ _) (congrArg (World.drewN _) (Nat.add_assoc _ _ _))⟩)))))
    go_meet
    case rel => exact ⟨_, (true), (by first | rfl | (simp; done) | (simp [*]; done)), H', ⟨by first | omega | exact Nat.le_refl _⟩, ⟨by (with_reducible repeat (first | apply rA_ | apply rN_ | apply rD_)); exact Kd.R_mono HO436.out (fun _ hk => ⟨hk.1.2, hk.2⟩)⟩, ⟨by (with_reducible repeat (first | apply rA_ | apply rN_ | apply rD_)); exact HO438.out⟩, ⟨by (with_reducible repeat (first | apply rA_ | apply rN_ | apply rD_)); exact Kd.R_mono HO446.out (fun _ hk => hk.2)⟩, ⟨by (with_reducible repeat (first | apply rA_ | apply rN_ | apply rD_)); exact Kd.R_mono HO450.out (fun _ hk => ⟨hk.1.2, hk.2⟩)⟩, ⟨by (with_reducible repeat (first | apply rA_ | apply rN_ | apply rD_)); exact Kd.R_mono HO458.out (fun _ hk => hk.1.2)⟩, ⟨by (with_reducible repeat (first | apply rA_ | apply rN_ | apply rD_)); exact Kd.R_mono HO464.out (fun _ hk => ⟨hk.1.2, hk.2⟩)⟩, ⟨by (with_reducible repeat (first | apply Kd.S_alloc | apply Kd.S_drewN | apply Kd.S_drew)); exact Kd.S_mono HO472.out (fun _ hk => ⟨hk.1.1.1.2, hk.1.2⟩)⟩, ⟨by repeat (first | (with_reducible first | exact HB.out | apply lA_ | apply lN_ | apply lD_) | exact HB.out)⟩⟩
  subst c40
  have H1 : (if (t466 != t470) = true then (laws_FnQueries.j0 k t433 t434 t443 t447 t448 t452 t455 t459 t462 t469 t474 t476 true) else ((laws_qLists.f k t465 t469).bind fun t481 => (if t481 = true then (if (t476 != t478) = true then (laws_FnQueries.j0 k t433 t434 t443 t447 t448 t452 t455 t459 t462 t469 t474 t476 true) else (laws_FnQueries.j0 k t433 t434 t443 t447 t448 t452 t455 t459 t462 t469 t474 t476 (t475 != t477))) else (laws_FnQueries.j0 k t433 t434 t443 t447 t448 t452 t455 t459 t462 t469 t474 t476 true)))) = some r := by rw [if_pos rfl] at H; exact H
  clear H
  have H := H1
  clear H1
  by_cases c41 : (t466 != t470) = true
  ·rw [if_pos c41] at H
   have c41b0 : (t466 != t470) = true := c41
   (try (have c41b1 : decide (t466 = t470) = false := by simpa using c41))
   (try (have c41b2 : (t466 == t470) = false := by simpa using c41))
   (try (have c41b3 : ¬ (t466 = t470) := by simpa using c41))
   clear c41
   as_aux_lemma =>
    have H' := Aside0.mk H
    clear H
    obtain ⟨Ao42, co42, eo42⟩ := Kd.R_slice HO442.out
    subst eo42
    obtain ⟨Ao43, co43, eo43⟩ := Kd.R_slice HO446.out
    subst eo43
    go_wp2_with (first | (go_at_call 44; (with_reducible refine (laws_qInts.calls k _ _ t439 _ _ t443 true _ ?side1 ?side2 ?side3 ?side4 A34.out).mono ?_); (case side1 => repeat (first | exact (Kd.R_reads' HO442.out).2.2 | (with_reducible first | apply cA_ | apply cN_ | apply cD_))); (case side2 => exact (Kd.R_reads' HO442.out).2.1); (case side3 => repeat (first | exact (Kd.R_reads' HO446.out).2.2 | (with_reducible first | apply cA_ | apply cN_ | apply cD_))); (case side4 => exact (Kd.R_reads' HO446.out).2.1); rintro e w' ⟨rfl, ⟨nd, rfl⟩⟩; (try first | exact ⟨rfl, _, World.drewN_drewN _ _ _⟩ | exact ⟨rfl, _, Eq.trans (World.drewN_drewN _ _ _) (congrArg (World.drewN _) (Nat.add_assoc _ _ _))⟩); obtain ⟨Ao44, co44, eo44⟩ := Kd.R_slice HO454.out; subst eo44; obtain ⟨Ao45, co45, eo45⟩ := Kd.R_slice HO458.out; subst eo45) | (go_at_call 44; (with_reducible refine (laws_qInts.calls k _ _ t451 _ _ t455 true _ ?side1 ?side2 ?side3 ?side4 A39.out).mono ?_); (case side1 => repeat (first | exact (Kd.R_reads' HO454.out).2.2 | (with_reducible first | apply cA_ | apply cN_ | apply cD_))); (case side2 => exact (Kd.R_reads' HO454.out).2.1); (case side3 => repeat (first | exact (Kd.R_reads' HO458.out).2.2 | (with_reducible first | apply cA_ | apply cN_ | apply cD_))); (case side4 => exact (Kd.R_reads' HO458.out).2.1); rintro e w' ⟨rfl, ⟨nd, rfl⟩⟩; (try first | exact ⟨rfl, _, World.drewN_drewN _ _ _⟩ | exact ⟨rfl, _, Eq.trans (World.drewN_drewN _ _ _) (congrArg (World.drewN _) (Nat.add_assoc _ _ _))⟩)) | (go_quiet (first | (go_at_call 44; (with_reducible refine (laws_qInts.calls k _ _ t439 _ _ t443 true _ ?side1 ?side2 ?side3 ?side4 A34.out).mono ?_); (case side1 => repeat (first | exact (Kd.R_reads' HO442.out).2.2 | (with_reducible first | apply cA_ | apply cN_ | apply cD_))); (case side2 => exact (Kd.R_reads' HO442.out).2.1); (case side3 => repeat (first | exact (Kd.R_reads' HO446.out).2.2 | (with_reducible first | apply cA_ | apply cN_ | apply cD_))); (case side4 => exact (Kd.R_reads' HO446.out).2.1); rintro e w' ⟨rfl, ⟨nd, rfl⟩⟩; (try first | exact ⟨rfl, _, World.drewN_drewN _ _ _⟩ | exact ⟨rfl, _, Eq.trans (World.drewN_drewN _ _ _) (congrArg (World.drewN _) (Nat.add_assoc _ _ _))⟩); obtain ⟨Ao44, co44, eo44⟩ := Kd.R_slice HO454.out; subst eo44; obtain ⟨Ao45, co45, eo45⟩ := Kd.R_slice HO458.out; subst eo45) | (go_at_call 44; (with_reducible refine (laws_qInts.calls k _ _ t451 _ _ t455 true _ ?side1 ?side2 ?side3 ?side4 A39.out).mono ?_); (case side1 => repeat (first | exact (Kd.R_reads' HO454.out).2.2 | (with_reducible first | apply cA_ | apply cN_ | apply cD_))); (case side2 => exact (Kd.R_reads' HO454.out).2.1); (case side3 => repeat (first | exact (Kd.R_reads' HO458.out).2.2 | (with_reducible first | apply cA_ | apply cN_ | apply cD_))); (case side4 => exact (Kd.R_reads' HO458.out).2.1); rintro e w' ⟨rfl, ⟨nd, rfl⟩⟩; (try first | exact ⟨rfl, _, World.drewN_drewN _ _ _⟩ | exact ⟨rfl, _, Eq.trans (World.drewN_drewN _ _ _) (congrArg (World.drewN _) (Nat.add_assoc _ _ _))⟩)))))
    go_meet
    case rel => exact ⟨_, (true), (by first | rfl | (simp; done) | (simp [*]; done)), H', ⟨by first | omega | exact Nat.le_refl _⟩, ⟨by (with_reducible repeat (first | apply rA_ | apply rN_ | apply rD_)); exact Kd.R_mono HO436.out (fun _ hk => ⟨hk.1.2, hk.2⟩)⟩, ⟨by (with_reducible repeat (first | apply rA_ | apply rN_ | apply rD_)); exact HO438.out⟩, ⟨by (with_reducible repeat (first | apply rA_ | apply rN_ | apply rD_)); exact Kd.R_mono HO446.out (fun _ hk => hk.2)⟩, ⟨by (with_reducible repeat (first | apply rA_ | apply rN_ | apply rD_)); exact Kd.R_mono HO450.out (fun _ hk => ⟨hk.1.2, hk.2⟩)⟩, ⟨by (with_reducible repeat (first | apply rA_ | apply rN_ | apply rD_)); exact Kd.R_mono HO458.out (fun _ hk => hk.1.2)⟩, ⟨by (with_reducible repeat (first | apply rA_ | apply rN_ | apply rD_)); exact Kd.R_mono HO464.out (fun _ hk => ⟨hk.1.2, hk.2⟩)⟩, ⟨by (with_reducible repeat (first | apply Kd.S_alloc | apply Kd.S_drewN | apply Kd.S_drew)); exact Kd.S_mono HO472.out (fun _ hk => ⟨hk.1.1.1.2, hk.1.2⟩)⟩, ⟨by repeat (first | (with_reducible first | exact HB.out | apply lA_ | apply lN_ | apply lD_) | exact HB.out)⟩⟩
  rw [if_neg c41] at H
  have c41b0 : (t466 != t470) = false := by simpa using c41
  (try (have c41b1 : decide (t466 = t470) = true := by simpa using c41))
  (try (have c41b2 : (t466 == t470) = true := by simpa using c41))
  clear c41
  replace H := Option.bind_eq_some_iff.mp H
  obtain ⟨t481, A460, H⟩ := H
  (try dsimp only at H)
  have A46 := Aside0.mk A460
  clear A460
  by_cases c47 : t481 = true
  rotate_left
  ·replace c47 := Bool.eq_false_iff.mpr c47
   subst c47
   have H1 : (laws_FnQueries.j0 k t433 t434 t443 t447 t448 t452 t455 t459 t462 t469 t474 t476 true) = some r := by rw [if_neg (show ¬ (false = true) by decide)] at H; exact H
   clear H
   have H := H1
   clear H1
   as_aux_lemma =>
    have H' := Aside0.mk H
    clear H
    obtain ⟨Ao61, co61, eo61⟩ := Kd.R_slice HO442.out
    subst eo61
    obtain ⟨Ao62, co62, eo62⟩ := Kd.R_slice HO446.out
    subst eo62
    go_wp2_with (first | (go_at_call 44; (with_reducible refine (laws_qInts.calls k _ _ t439 _ _ t443 true _ ?side1 ?side2 ?side3 ?side4 A34.out).mono ?_); (case side1 => repeat (first | exact (Kd.R_reads' HO442.out).2.2 | (with_reducible first | apply cA_ | apply cN_ | apply cD_))); (case side2 => exact (Kd.R_reads' HO442.out).2.1); (case side3 => repeat (first | exact (Kd.R_reads' HO446.out).2.2 | (with_reducible first | apply cA_ | apply cN_ | apply cD_))); (case side4 => exact (Kd.R_reads' HO446.out).2.1); rintro e w' ⟨rfl, ⟨nd, rfl⟩⟩; (try first | exact ⟨rfl, _, World.drewN_drewN _ _ _⟩ | exact ⟨rfl, _, Eq.trans (World.drewN_drewN _ _ _) (congrArg (World.drewN _) (Nat.add_assoc _ _ _))⟩); obtain ⟨Ao63, co63, eo63⟩ := Kd.R_slice HO454.out; subst eo63; obtain ⟨Ao64, co64, eo64⟩ := Kd.R_slice HO458.out; subst eo64) | (go_at_call 44; (with_reducible refine (laws_qInts.calls k _ _ t451 _ _ t455 true _ ?side1 ?side2 ?side3 ?side4 A39.out).mono ?_); (case side1 => repeat (first | exact (Kd.R_reads' HO454.out).2.2 | (with_reducible first | apply cA_ | apply cN_ | apply cD_))); (case side2 => exact (Kd.R_reads' HO454.out).2.1); (case side3 => repeat (first | exact (Kd.R_reads' HO458.out).2.2 | (with_reducible first | apply cA_ | apply cN_ | apply cD_))); (case side4 => exact (Kd.R_reads' HO458.out).2.1); rintro e w' ⟨rfl, ⟨nd, rfl⟩⟩; (try first | exact ⟨rfl, _, World.drewN_drewN _ _ _⟩ | exact ⟨rfl, _, Eq.trans (World.drewN_drewN _ _ _) (congrArg (World.drewN _) (Nat.add_assoc _ _ _))⟩); obtain ⟨Ao65, co65, eo65⟩ := Kd.S_slice HO468.out; subst eo65; obtain ⟨Ao66, co66, eo66⟩ := Kd.S_slice HO472.out; subst eo66) | (go_at_call 45; (with_reducible refine (laws_qLists.calls k _ _ t465 _ _ t469 false _ ?side1 ?side2 ?side3 ?side4 A46.out).mono ?_); (case side1 => repeat (first | exact (Kd.S_reads' HO468.out).2.2 | (with_reducible first | apply cA_ | apply cN_ | apply cD_))); (case side2 => exact (Kd.S_reads' HO468.out).2.1); (case side3 => repeat (first | exact (Kd.S_reads' HO472.out).2.2 | (with_reducible first | apply cA_ | apply cN_ | apply cD_))); (case side4 => exact (Kd.S_reads' HO472.out).2.1); rintro e w' ⟨rfl, ⟨nd, rfl⟩⟩; (try first | exact ⟨rfl, _, World.drewN_drewN _ _ _⟩ | exact ⟨rfl, _, Eq.trans (World.drewN_drewN _ _ _) (congrArg (World.drewN _) (Nat.add_assoc _ _ _))⟩)) | (go_quiet (first | (go_at_call 44; (with_reducible refine (laws_qInts.calls k _ _ t439 _ _ t443 true _ ?side1 ?side2 ?side3 ?side4 A34.out).mono ?_); (case side1 => repeat (first | exact (Kd.R_reads' HO442.out).2.2 | (with_reducible first | apply cA_ | apply cN_ | apply cD_))); (case side2 => exact (Kd.R_reads' HO442.out).2.1); (case side3 => repeat (first | exact (Kd.R_reads' HO446.out).2.2 | (with_reducible first | apply cA_ | apply cN_ | apply cD_))); (case side4 => exact (Kd.R_reads' HO446.out).2.1); rintro e w' ⟨rfl, ⟨nd, rfl⟩⟩; (try first | exact ⟨rfl, _, World.drewN_drewN _ _ _⟩ | exact ⟨rfl, _, Eq.trans (World.drewN_drewN _ _ _) (congrArg (World.drewN _) (Nat.add_assoc _ _ _))⟩); obtain ⟨Ao63, co63, eo63⟩ := Kd.R_slice HO454.out; subst eo63; obtain ⟨Ao64, co64, eo64⟩ := Kd.R_slice HO458.out; subst eo64) | (go_at_call 44; (with_reducible refine (laws_qInts.calls k _ _ t451 _ _ t455 true _ ?side1 ?side2 ?side3 ?side4 A39.out).mono ?_); (case side1 => repeat (first | exact (Kd.R_reads' HO454.out).2.2 | (with_reducible first | apply cA_ | apply cN_ | apply cD_))); (case side2 => exact (Kd.R_reads' HO454.out).2.1); (case side3 => repeat (first | exact (Kd.R_reads' HO458.out).2.2 | (with_reducible first | apply cA_ | apply cN_ | apply cD_))); (case side4 => exact (Kd.R_reads' HO458.out).2.1); rintro e w' ⟨rfl, ⟨nd, rfl⟩⟩; (try first | exact ⟨rfl, _, World.drewN_drewN _ _ _⟩ | exact ⟨rfl, _, Eq.trans (World.drewN_drewN _ _ _) (congrArg (World.drewN _) (Nat.add_assoc _ _ _))⟩); obtain ⟨Ao65, co65, eo65⟩ := Kd.S_slice HO468.out; subst eo65; obtain ⟨Ao66, co66, eo66⟩ := Kd.S_slice HO472.out; subst eo66) | (go_at_call 45; (with_reducible refine (laws_qLists.calls k _ _ t465 _ _ t469 false _ ?side1 ?side2 ?side3 ?side4 A46.out).mono ?_); (case side1 => repeat (first | exact (Kd.S_reads' HO468.out).2.2 | (with_reducible first | apply cA_ | apply cN_ | apply cD_))); (case side2 => exact (Kd.S_reads' HO468.out).2.1); (case side3 => repeat (first | exact (Kd.S_reads' HO472.out).2.2 | (with_reducible first | apply cA_ | apply cN_ | apply cD_))); (case side4 => exact (Kd.S_reads' HO472.out).2.1); rintro e w' ⟨rfl, ⟨nd, rfl⟩⟩; (try first | exact ⟨rfl, _, World.drewN_drewN _ _ _⟩ | exact ⟨rfl, _, Eq.trans (World.drewN_drewN _ _ _) (congrArg (World.drewN _) (Nat.add_assoc _ _ _))⟩)))))
    go_meet
    case rel => exact ⟨_, (true), (by first | rfl | (simp; done) | (simp [*]; done)), H', ⟨by first | omega | exact Nat.le_refl _⟩, ⟨by (with_reducible repeat (first | apply rA_ | apply rN_ | apply rD_)); exact Kd.R_mono HO436.out (fun _ hk => ⟨hk.1.2, hk.2⟩)⟩, ⟨by (with_reducible repeat (first | apply rA_ | apply rN_ | apply rD_)); exact HO438.out⟩, ⟨by (with_reducible repeat (first | apply rA_ | apply rN_ | apply rD_)); exact Kd.R_mono HO446.out (fun _ hk => hk.2)⟩, ⟨by (with_reducible repeat (first | apply rA_ | apply rN_ | apply rD_)); exact Kd.R_mono HO450.out (fun _ hk => ⟨hk.1.2, hk.2⟩)⟩, ⟨by (with_reducible repeat (first | apply rA_ | apply rN_ | apply rD_)); exact Kd.R_mono HO458.out (fun _ hk => hk.1.2)⟩, ⟨by (with_reducible repeat (first | apply rA_ | apply rN_ | apply rD_)); exact Kd.R_mono HO464.out (fun _ hk => ⟨hk.1.2, hk.2⟩)⟩, ⟨by (with_reducible repeat (first | apply Kd.S_alloc | apply Kd.S_drewN | apply Kd.S_drew)); exact Kd.S_mono HO472.out (fun _ hk => ⟨hk.1.1.1.2, hk.1.2⟩)⟩, ⟨by repeat (first | (with_reducible first | exact HB.out | apply lA_ | apply lN_ | apply lD_) | exact HB.out)⟩⟩
  subst c47
  have H1 : (if (t476 != t478) = true then (laws_FnQueries.j0 k t433 t434 t443 t447 t448 t452 t455 t459 t462 t469 t474 t476 true) else (laws_FnQueries.j0 k t433 t434 t443 t447 t448 t452 t455 t459 t462 t469 t474 t476 (t475 != t477))) = some r := by rw [if_pos rfl] at H; exact H
  clear H
  have H := H1
  clear H1
  by_cases c48 : (t476 != t478) = true
  rotate_left
  ·rw [if_neg c48] at H
   have c48b0 : (t476 != t478) = false := by simpa using c48
   (try (have c48b1 : decide (t476 = t478) = true := by simpa using c48))
   (try (have c48b2 : (t476 == t478) = true := by simpa using c48))
   clear c48
   as_aux_lemma =>
    have H' := Aside0.mk H
    clear H
    obtain ⟨Ao55, co55, eo55⟩ := Kd.R_slice HO442.out
    subst eo55
    obtain ⟨Ao56, co56, eo56⟩ := Kd.R_slice HO446.out
    subst eo56
    go_wp2_with (first | (go_at_call 44; (with_reducible refine (laws_qInts.calls k _ _ t439 _ _ t443 true _ ?side1 ?side2 ?side3 ?side4 A34.out).mono ?_); (case side1 => repeat (first | exact (Kd.R_reads' HO442.out).2.2 | (with_reducible first | apply cA_ | apply cN_ | apply cD_))); (case side2 => exact (Kd.R_reads' HO442.out).2.1); (case side3 => repeat (first | exact (Kd.R_reads' HO446.out).2.2 | (with_reducible first | apply cA_ | apply cN_ | apply cD_))); (case side4 => exact (Kd.R_reads' HO446.out).2.1); rintro e w' ⟨rfl, ⟨nd, rfl⟩⟩; (try first | exact ⟨rfl, _, World.drewN_drewN _ _ _⟩ | exact ⟨rfl, _, Eq.trans (World.drewN_drewN _ _ _) (congrArg (World.drewN _) (Nat.add_assoc _ _ _))⟩); obtain ⟨Ao57, co57, eo57⟩ := Kd.R_slice HO454.out; subst eo57; obtain ⟨Ao58, co58, eo58⟩ := Kd.R_slice HO458.out; subst eo58) | (go_at_call 44; (with_reducible refine (laws_qInts.calls k _ _ t451 _ _ t455 true _ ?side1 ?side2 ?side3 ?side4 A39.out).mono ?_); (case side1 => repeat (first | exact (Kd.R_reads' HO454.out).2.2 | (with_reducible first | apply cA_ | apply cN_ | apply cD_))); (case side2 => exact (Kd.R_reads' HO454.out).2.1); (case side3 => repeat (first | exact (Kd.R_reads' HO458.out).2.2 | (with_reducible first | apply cA_ | apply cN_ | apply cD_))); (case side4 => exact (Kd.R_reads' HO458.out).2.1); rintro e w' ⟨rfl, ⟨nd, rfl⟩⟩; (try first | exact ⟨rfl, _, World.drewN_drewN _ _ _⟩ | exact ⟨rfl, _, Eq.trans (World.drewN_drewN _ _ _) (congrArg (World.drewN _) (Nat.add_assoc _ _ _))⟩); obtain ⟨Ao59, co59, eo59⟩ := Kd.S_slice HO468.out; subst eo59; obtain ⟨Ao60, co60, eo60⟩ := Kd.S_slice HO472.out; subst eo60) | (go_at_call 45; (with_reducible refine (laws_qLists.calls k _ _ t465 _ _ t469 true _ ?side1 ?side2 ?side3 ?side4 A46.out).mono ?_); (case side1 => repeat (first | exact (Kd.S_reads' HO468.out).2.2 | (with_reducible first | apply cA_ | apply cN_ | apply cD_))); (case side2 => exact (Kd.S_reads' HO468.out).2.1); (case side3 => repeat (first | exact (Kd.S_reads' HO472.out).2.2 | (with_reducible first | apply cA_ | apply cN_ | apply cD_))); (case side4 => exact (Kd.S_reads' HO472.out).2.1); rintro e w' ⟨rfl, ⟨nd, rfl⟩⟩; (try first | exact ⟨rfl, _, World.drewN_drewN _ _ _⟩ | exact ⟨rfl, _, Eq.trans (World.drewN_drewN _ _ _) (congrArg (World.drewN _) (Nat.add_assoc _ _ _))⟩)) | (go_quiet (first | (go_at_call 44; (with_reducible refine (laws_qInts.calls k _ _ t439 _ _ t443 true _ ?side1 ?side2 ?side3 ?side4 A34.out).mono ?_); (case side1 => repeat (first | exact (Kd.R_reads' HO442.out).2.2 | (with_reducible first | apply cA_ | apply cN_ | apply cD_))); (case side2 => exact (Kd.R_reads' HO442.out).2.1); (case side3 => repeat (first | exact (Kd.R_reads' HO446.out).2.2 | (with_reducible first | apply cA_ | apply cN_ | apply cD_))); (case side4 => exact (Kd.R_reads' HO446.out).2.1); rintro e w' ⟨rfl, ⟨nd, rfl⟩⟩; (try first | exact ⟨rfl, _, World.drewN_drewN _ _ _⟩ | exact ⟨rfl, _, Eq.trans (World.drewN_drewN _ _ _) (congrArg (World.drewN _) (Nat.add_assoc _ _ _))⟩); obtain ⟨Ao57, co57, eo57⟩ := Kd.R_slice HO454.out; subst eo57; obtain ⟨Ao58, co58, eo58⟩ := Kd.R_slice HO458.out; subst eo58) | (go_at_call 44; (with_reducible refine (laws_qInts.calls k _ _ t451 _ _ t455 true _ ?side1 ?side2 ?side3 ?side4 A39.out).mono ?_); (case side1 => repeat (first | exact (Kd.R_reads' HO454.out).2.2 | (with_reducible first | apply cA_ | apply cN_ | apply cD_))); (case side2 => exact (Kd.R_reads' HO454.out).2.1); (case side3 => repeat (first | exact (Kd.R_reads' HO458.out).2.2 | (with_reducible first | apply cA_ | apply cN_ | apply cD_))); (case side4 => exact (Kd.R_reads' HO458.out).2.1); rintro e w' ⟨rfl, ⟨nd, rfl⟩⟩; (try first | exact ⟨rfl, _, World.drewN_drewN _ _ _⟩ | exact ⟨rfl, _, Eq.trans (World.drewN_drewN _ _ _) (congrArg (World.drewN _) (Nat.add_assoc _ _ _))⟩); obtain ⟨Ao59, co59, eo59⟩ := Kd.S_slice HO468.out; subst eo59; obtain ⟨Ao60, co60, eo60⟩ := Kd.S_slice HO472.out; subst eo60) | (go_at_call 45; (with_reducible refine (laws_qLists.calls k _ _ t465 _ _ t469 true _ ?side1 ?side2 ?side3 ?side4 A46.out).mono ?_); (case side1 => repeat (first | exact (Kd.S_reads' HO468.out).2.2 | (with_reducible first | apply cA_ | apply cN_ | apply cD_))); (case side2 => exact (Kd.S_reads' HO468.out).2.1); (case side3 => repeat (first | exact (Kd.S_reads' HO472.out).2.2 | (with_reducible first | apply cA_ | apply cN_ | apply cD_))); (case side4 => exact (Kd.S_reads' HO472.out).2.1); rintro e w' ⟨rfl, ⟨nd, rfl⟩⟩; (try first | exact ⟨rfl, _, World.drewN_drewN _ _ _⟩ | exact ⟨rfl, _, Eq.trans (World.drewN_drewN _ _ _) (congrArg (World.drewN _) (Nat.add_assoc _ _ _))⟩)))))
    go_meet
    case rel => exact ⟨_, ((t475 != t477)), (by first | rfl | (simp; done) | (simp [*]; done)), H', ⟨by first | omega | exact Nat.le_refl _⟩, ⟨by (with_reducible repeat (first | apply rA_ | apply rN_ | apply rD_)); exact Kd.R_mono HO436.out (fun _ hk => ⟨hk.1.2, hk.2⟩)⟩, ⟨by (with_reducible repeat (first | apply rA_ | apply rN_ | apply rD_)); exact HO438.out⟩, ⟨by (with_reducible repeat (first | apply rA_ | apply rN_ | apply rD_)); exact Kd.R_mono HO446.out (fun _ hk => hk.2)⟩, ⟨by (with_reducible repeat (first | apply rA_ | apply rN_ | apply rD_)); exact Kd.R_mono HO450.out (fun _ hk => ⟨hk.1.2, hk.2⟩)⟩, ⟨by (with_reducible repeat (first | apply rA_ | apply rN_ | apply rD_)); exact Kd.R_mono HO458.out (fun _ hk => hk.1.2)⟩, ⟨by (with_reducible repeat (first | apply rA_ | apply rN_ | apply rD_)); exact Kd.R_mono HO464.out (fun _ hk => ⟨hk.1.2, hk.2⟩)⟩, ⟨by (with_reducible repeat (first | apply Kd.S_alloc | apply Kd.S_drewN | apply Kd.S_drew)); exact Kd.S_mono HO472.out (fun _ hk => ⟨hk.1.1.1.2, hk.1.2⟩)⟩, ⟨by repeat (first | (with_reducible first | exact HB.out | apply lA_ | apply lN_ | apply lD_) | exact HB.out)⟩⟩
  rw [if_pos c48] at H
  have c48b0 : (t476 != t478) = true := c48
  (try (have c48b1 : decide (t476 = t478) = false := by simpa using c48))
  (try (have c48b2 : (t476 == t478) = false := by simpa using c48))
  (try (have c48b3 : ¬ (t476 = t478) := by simpa using c48))
  clear c48
  as_aux_lemma =>
   have H' := Aside0.mk H
   clear H
   obtain ⟨Ao49, co49, eo49⟩ := Kd.R_slice HO442.out
   subst eo49
   obtain ⟨Ao50, co50, eo50⟩ := Kd.R_slice HO446.out
   subst eo50
   go_wp2_with (first | (go_at_call 44; (with_reducible refine (laws_qInts.calls k _ _ t439 _ _ t443 true _ ?side1 ?side2 ?side3 ?side4 A34.out).mono ?_); (case side1 => repeat (first | exact (Kd.R_reads' HO442.out).2.2 | (with_reducible first | apply cA_ | apply cN_ | apply cD_))); (case side2 => exact (Kd.R_reads' HO442.out).2.1); (case side3 => repeat (first | exact (Kd.R_reads' HO446.out).2.2 | (with_reducible first | apply cA_ | apply cN_ | apply cD_))); (case side4 => exact (Kd.R_reads' HO446.out).2.1); rintro e w' ⟨rfl, ⟨nd, rfl⟩⟩; (try first | exact ⟨rfl, _, World.drewN_drewN _ _ _⟩ | exact ⟨rfl, _, Eq.trans (World.drewN_drewN _ _ _) (congrArg (World.drewN _) (Nat.add_assoc _ _ _))⟩); obtain ⟨Ao51, co51, eo51⟩ := Kd.R_slice HO454.out; subst eo51; obtain ⟨Ao52, co52, eo52⟩ := Kd.R_slice HO458.out; subst eo52) | (go_at_call 44; (with_reducible refine (laws_qInts.calls k _ _ t451 _ _ t455 true _ ?side1 ?side2 ?side3 ?side4 A39.out).mono ?_); (case side1 => repeat (first | exact (Kd.R_reads' HO454.out).2.2 | (with_reducible first | apply cA_ | apply cN_ | apply cD_))); (case side2 => exact (Kd.R_reads' HO454.out).2.1); (case side3 => repeat (first | exact (Kd.R_reads' HO458.out).2.2 | (with_reducible first | apply cA_ | apply cN_ | apply cD_))); (case side4 => exact (Kd.R_reads' HO458.out).2.1); rintro e w' ⟨rfl, ⟨nd, rfl⟩⟩; (try first | exact ⟨rfl, _, World.drewN_drewN _ _ _⟩ | exact ⟨rfl, _, Eq.trans (World.drewN_drewN _ _ _) (congrArg (World.drewN _) (Nat.add_assoc _ _ _))⟩); obtain ⟨Ao53, co53, eo53⟩ := Kd.S_slice HO468.out; subst eo53; obtain ⟨Ao54, co54, eo54⟩ := Kd.S_slice HO472.out; subst eo54) | (go_at_call 45; (with_reducible refine (laws_qLists.calls k _ _ t465 _ _ t469 true _ ?side1 ?side2 ?side3 ?side4 A46.out).mono ?_); (case side1 => repeat (first | exact (Kd.S_reads' HO468.out).2.2 | (with_reducible first | apply cA_ | apply cN_ | apply cD_))); (case side2 => exact (Kd.S_reads' HO468.out).2.1); (case side3 => repeat (first | exact (Kd.S_reads' HO472.out).2.2 | (with_reducible first | apply cA_ | apply cN_ | apply cD_))); (case side4 => exact (Kd.S_reads' HO472.out).2.1); rintro e w' ⟨rfl, ⟨nd, rfl⟩⟩; (try first | exact ⟨rfl, _, World.drewN_drewN _ _ _⟩ | exact ⟨rfl, _, Eq.trans (World.drewN_drewN _ _ _) (congrArg (World.drewN _) (Nat.add_assoc _ _ _))⟩)) | (go_quiet (first | (go_at_call 44; (with_reducible refine (laws_qInts.calls k _ _ t439 _ _ t443 true _ ?side1 ?side2 ?side3 ?side4 A34.out).mono ?_); (case side1 => repeat (first | exact (Kd.R_reads' HO442.out).2.2 | (with_reducible first | apply cA_ | apply cN_ | apply cD_))); (case side2 => exact (Kd.R_reads' HO442.out).2.1); (case side3 => repeat (first | exact (Kd.R_reads' HO446.out).2.2 | (with_reducible first | apply cA_ | apply cN_ | apply cD_))); (case side4 => exact (Kd.R_reads' HO446.out).2.1); rintro e w' ⟨rfl, ⟨nd, rfl⟩⟩; (try first | exact ⟨rfl, _, World.drewN_drewN _ _ _⟩ | exact ⟨rfl, _, Eq.trans (World.drewN_drewN _ _ _) (congrArg (World.drewN _) (Nat.add_assoc _ _ _))⟩); obtain ⟨Ao51, co51, eo51⟩ := Kd.R_slice HO454.out; subst eo51; obtain ⟨Ao52, co52, eo52⟩ := Kd.R_slice HO458.out; subst eo52) | (go_at_call 44; (with_reducible refine (laws_qInts.calls k _ _ t451 _ _ t455 true _ ?side1 ?side2 ?side3 ?side4 A39.out).mono ?_); (case side1 => repeat (first | exact (Kd.R_reads' HO454.out).2.2 | (with_reducible first | apply cA_ | apply cN_ | apply cD_))); (case side2 => exact (Kd.R_reads' HO454.out).2.1); (case side3 => repeat (first | exact (Kd.R_reads' HO458.out).2.2 | (with_reducible first | apply cA_ | apply cN_ | apply cD_))); (case side4 => exact (Kd.R_reads' HO458.out).2.1); rintro e w' ⟨rfl, ⟨nd, rfl⟩⟩; (try first | exact ⟨rfl, _, World.drewN_drewN _ _ _⟩ | exact ⟨rfl, _, Eq.trans (World.drewN_drewN _ _ _) (congrArg (World.drewN _) (Nat.add_assoc _ _ _))⟩); obtain ⟨Ao53, co53, eo53⟩ := Kd.S_slice HO468.out; subst eo53; obtain ⟨Ao54, co54, eo54⟩ := Kd.S_slice HO472.out; subst eo54) | (go_at_call 45; (with_reducible refine (laws_qLists.calls k _ _ t465 _ _ t469 true _ ?side1 ?side2 ?side3 ?side4 A46.out).mono ?_); (case side1 => repeat (first | exact (Kd.S_reads' HO468.out).2.2 | (with_reducible first | apply cA_ | apply cN_ | apply cD_))); (case side2 => exact (Kd.S_reads' HO468.out).2.1); (case side3 => repeat (first | exact (Kd.S_reads' HO472.out).2.2 | (with_reducible first | apply cA_ | apply cN_ | apply cD_))); (case side4 => exact (Kd.S_reads' HO472.out).2.1); rintro e w' ⟨rfl, ⟨nd, rfl⟩⟩; (try first | exact ⟨rfl, _, World.drewN_drewN _ _ _⟩ | exact ⟨rfl, _, Eq.trans (World.drewN_drewN _ _ _) (congrArg (World.drewN _) (Nat.add_assoc _ _ _))⟩)))))
   go_meet
   case rel => exact ⟨_, (true), (by first | rfl | (simp; done) | (simp [*]; done)), H', ⟨by first | omega | exact Nat.le_refl _⟩, ⟨by (with_reducible repeat (first | apply rA_ | apply rN_ | apply rD_)); exact Kd.R_mono HO436.out (fun _ hk => ⟨hk.1.2, hk.2⟩)⟩, ⟨by (with_reducible repeat (first | apply rA_ | apply rN_ | apply rD_)); exact HO438.out⟩, ⟨by (with_reducible repeat (first | apply rA_ | apply rN_ | apply rD_)); exact Kd.R_mono HO446.out (fun _ hk => hk.2)⟩, ⟨by (with_reducible repeat (first | apply rA_ | apply rN_ | apply rD_)); exact Kd.R_mono HO450.out (fun _ hk => ⟨hk.1.2, hk.2⟩)⟩, ⟨by (with_reducible repeat (first | apply rA_ | apply rN_ | apply rD_)); exact Kd.R_mono HO458.out (fun _ hk => hk.1.2)⟩, ⟨by (with_reducible repeat (first | apply rA_ | apply rN_ | apply rD_)); exact Kd.R_mono HO464.out (fun _ hk => ⟨hk.1.2, hk.2⟩)⟩, ⟨by (with_reducible repeat (first | apply Kd.S_alloc | apply Kd.S_drewN | apply Kd.S_drew)); exact Kd.S_mono HO472.out (fun _ hk => ⟨hk.1.1.1.2, hk.1.2⟩)⟩, ⟨by repeat (first | (with_reducible first | exact HB.out | apply lA_ | apply lN_ | apply lD_) | exact HB.out)⟩⟩
 case rest =>
  clear HC16
  (try clear c1);(try clear c3);(try clear c3b0)
  obtain ⟨kq, x169_15, rfl, HA, HJ15, HO_5, HO_6, HO_9, HO_11, HO_15, HO_17, HO_23, HB⟩ := hcut
  cases kq with
  | zero => exact absurd HA.out (by simp [laws_FnQueries.j0])
  | succ kj15 =>
   have H := HA.out
   clear HA
   simp only [laws_FnQueries.j0] at H
   by_cases c73 : x169_15 = true
   ·subst c73
    have H1 : (some false) = some r := by rw [if_pos rfl] at H; exact H
    clear H
    have H := H1
    clear H1
    as_aux_lemma =>
     obtain rfl := Option.some.inj H
     go_wp2
     repeat (go_quiet (fail); try go_wp2)
     go_ret
     exact ⟨by first | rfl | (simp [errW_none, errW_some] <;> rfl) | (simp [*, errW_none, errW_some] <;> rfl), by repeat (first | (with_reducible first | exact HB.out | apply lA_ | apply lN_ | apply lD_) | exact HB.out)⟩
   replace c73 := Bool.eq_false_iff.mpr c73
   subst c73
   have H1 : (laws_FnQueries.l0 kj15 t433 t434 t447 t448 t452 t455 t459 t462 t469 t474 t476 t443 (t443.length : Int) 0) = some r := by rw [if_neg (show ¬ (false = true) by decide)] at H; exact H
   clear H
   have H := H1
   clear H1
   have H' := Aside0.mk H
   clear H
   obtain ⟨Ao74, co74, eo74⟩ := Kd.R_slice HO_9.out
   subst eo74
   go_wp2
   repeat (go_quiet (fail); try go_wp2)
   go_loopg [172] kj15 (fun kq v172 w' => ∃ (x172_2 : Int), v172 = .int .i64 x172_2 ∧ Aside0 (laws_FnQueries.l0 kq t433 t434 t447 t448 t452 t455 t459 t462 t469 t474 t476 t443 (t443.length : Int) x172_2 = some r) ∧ Aside0 (kq ≤ kj15) ∧ Aside0 (Kd.R k66 66 w' w.heap.size (fun k_ => some k_ ≠ ((.slice Ao23 t447.length co23) : Value).ownBlock ∧ some k_ ≠ ((.slice Ao27 t459.length co27) : Value).ownBlock) (.slice Ao18 t433.length co18) t433) ∧ Aside0 (Kd.R Kd.string 9 w' w.heap.size (fun _ => True) (.slice Ao19 t434.length co19) t434) ∧ Aside0 (Kd.R k66 66 w' w.heap.size (fun k_ => some k_ ≠ ((.slice Ao18 t433.length co18) : Value).ownBlock ∧ some k_ ≠ ((.slice Ao27 t459.length co27) : Value).ownBlock) (.slice Ao23 t447.length co23) t447) ∧ Aside0 (Kd.R (Kd.int .i64) 3 w' w.heap.size (fun k_ => some k_ ≠ ((.slice Ao74 t443.length co74) : Value).ownBlock) v457 t455) ∧ Aside0 (Kd.R k66 66 w' w.heap.size (fun k_ => some k_ ≠ ((.slice Ao18 t433.length co18) : Value).ownBlock ∧ some k_ ≠ ((.slice Ao23 t447.length co23) : Value).ownBlock) (.slice Ao27 t459.length co27) t459) ∧ Aside0 (Kd.S (Kd.slice 3 (Kd.int .i64)) 37 w' w.heap.size (fun k_ => some k_ ≠ (v457 : Value).ownBlock ∧ some k_ ≠ ((.slice Ao74 t443.length co74) : Value).ownBlock) v471 t469) ∧ Aside0 (Kd.R (Kd.int .i64) 3 w' w.heap.size (fun k_ => some k_ ≠ (v457 : Value).ownBlock) (.slice Ao74 t443.length co74) t443) ∧ Aside0 (Below w.heap.size w w'))
   case atStart => exact ⟨(0), (by first | rfl | (simp; done) | (simp [*]; done)), H', ⟨Nat.le_refl _⟩, ⟨by (with_reducible repeat (first | apply rA_ | apply rN_ | apply rD_)); exact HO_5.out⟩, ⟨by (with_reducible repeat (first | apply rA_ | apply rN_ | apply rD_)); exact HO_6.out⟩, ⟨by (with_reducible repeat (first | apply rA_ | apply rN_ | apply rD_)); exact HO_11.out⟩, ⟨by (with_reducible repeat (first | apply rA_ | apply rN_ | apply rD_)); exact HO_15.out⟩, ⟨by (with_reducible repeat (first | apply rA_ | apply rN_ | apply rD_)); exact HO_17.out⟩, ⟨by (with_reducible repeat (first | apply Kd.S_alloc | apply Kd.S_drewN | apply Kd.S_drew)); exact Kd.S_mono HO_23.out (fun _ hk => ⟨hk.2, hk.1⟩)⟩, ⟨by (with_reducible repeat (first | apply rA_ | apply rN_ | apply rD_)); exact HO_9.out⟩, ⟨by repeat (first | (with_reducible first | exact HB.out | apply lA_ | apply lN_ | apply lD_) | exact HB.out)⟩⟩
   case round =>
    clear H'
    (try clear c1);(try clear c3);(try clear c3b0);(try clear c73)
    obtain ⟨x172_2, rfl, HA, HK2, HO_5, HO_6, HO_11, HO_15, HO_17, HO_23, HO_170, HB⟩ := hrel
    cases gk with
    | zero => exact absurd HA.out (by simp [laws_FnQueries.l0])
    | succ k2 =>
     have H := HA.out
     clear HA
     simp only [laws_FnQueries.l0] at H
     by_cases c75 : x172_2 < (t443.length : Int)
     ·rw [if_pos c75] at H
      have c75b0 : decide (x172_2 < (t443.length : Int)) = true := decide_eq_true c75
      clear c75
      by_cases c76 : 0 ≤ x172_2
      rotate_left
      ·rw [if_neg c76] at H
       exact absurd H (by simp)
      rw [if_pos c76] at H
      have c76b0 : decide (0 ≤ x172_2) = true := decide_eq_true c76
      clear c76
      by_cases c77 : x172_2 < (t443.length : Int)
      rotate_left
      ·rw [if_neg c77] at H
       exact absurd H (by simp)
      rw [if_pos c77] at H
      have c77b0 : decide (x172_2 < (t443.length : Int)) = true := decide_eq_true c77
      clear c77
      have H' := Aside0.mk H
      clear H
      have p482 : 0 ≤ (x172_2 : Int) := ode_
      have q482 : x172_2 < (t443.length : Int) := ode_
      obtain ⟨ad482, e482, hx482_0⟩ := Kd.at_int (Kd.R_reads' HO_170.out).2.2 x172_2 p482 q482
      cases e482
      replace p482 := eq_true p482
      replace q482 := eq_true q482
      go_wp2
      repeat (go_quiet (fail); try go_wp2)
      go_loopg [178] k2 (fun kq v178 w' => ∃ (x178_3 : Int), v178 = .int .i64 x178_3 ∧ Aside0 (laws_FnQueries.l1 kq t433 t434 t447 t448 t452 t455 t459 t462 t469 t474 t476 (rd t443 x172_2) t443 (t443.length : Int) x172_2 t434 (t434.length : Int) x178_3 = some r) ∧ Aside0 (kq ≤ k2) ∧ Aside0 (Kd.R k66 66 w' w.heap.size (fun k_ => some k_ ≠ ((.slice Ao23 t447.length co23) : Value).ownBlock ∧ some k_ ≠ ((.slice Ao27 t459.length co27) : Value).ownBlock) (.slice Ao18 t433.length co18) t433) ∧ Aside0 (Kd.R Kd.string 9 w' w.heap.size (fun _ => True) (.slice Ao19 t434.length co19) t434) ∧ Aside0 (Kd.R k66 66 w' w.heap.size (fun k_ => some k_ ≠ ((.slice Ao18 t433.length co18) : Value).ownBlock ∧ some k_ ≠ ((.slice Ao27 t459.length co27) : Value).ownBlock) (.slice Ao23 t447.length co23) t447) ∧ Aside0 (Kd.R (Kd.int .i64) 3 w' w.heap.size (fun k_ => some k_ ≠ ((.slice (some ad482) t443.length co74) : Value).ownBlock) v457 t455) ∧ Aside0 (Kd.R k66 66 w' w.heap.size (fun k_ => some k_ ≠ ((.slice Ao18 t433.length co18) : Value).ownBlock ∧ some k_ ≠ ((.slice Ao23 t447.length co23) : Value).ownBlock) (.slice Ao27 t459.length co27) t459) ∧ Aside0 (Kd.S (Kd.slice 3 (Kd.int .i64)) 37 w' w.heap.size (fun k_ => some k_ ≠ (v457 : Value).ownBlock ∧ some k_ ≠ ((.slice (some ad482) t443.length co74) : Value).ownBlock) v471 t469) ∧ Aside0 (Kd.R (Kd.int .i64) 3 w' w.heap.size (fun k_ => some k_ ≠ (v457 : Value).ownBlock) (.slice (some ad482) t443.length co74) t443) ∧ Aside0 (Kd.R Kd.string 9 w' w.heap.size (fun _ => True) (.slice Ao19 t434.length co19) t434) ∧ Aside0 (Below w.heap.size w w'))
      case atStart => exact ⟨(0), (by first | rfl | (simp; done) | (simp [*]; done)), H', ⟨Nat.le_refl _⟩, ⟨by (with_reducible repeat (first | apply rA_ | apply rN_ | apply rD_)); exact HO_5.out⟩, ⟨by (with_reducible repeat (first | apply rA_ | apply rN_ | apply rD_)); exact HO_6.out⟩, ⟨by (with_reducible repeat (first | apply rA_ | apply rN_ | apply rD_)); exact HO_11.out⟩, ⟨by (with_reducible repeat (first | apply rA_ | apply rN_ | apply rD_)); exact HO_15.out⟩, ⟨by (with_reducible repeat (first | apply rA_ | apply rN_ | apply rD_)); exact HO_17.out⟩, ⟨by (with_reducible repeat (first | apply Kd.S_alloc | apply Kd.S_drewN | apply Kd.S_drew)); exact HO_23.out⟩, ⟨by (with_reducible repeat (first | apply rA_ | apply rN_ | apply rD_)); exact HO_170.out⟩, ⟨by (with_reducible repeat (first | apply rA_ | apply rN_ | apply rD_)); exact HO_6.out⟩, ⟨by repeat (first | (with_reducible first | exact HB.out | apply lA_ | apply lN_ | apply lD_) | exact HB.out)⟩⟩
      case round =>
       clear H'
       (try clear c1);(try clear c3);(try clear c3b0);(try clear c73);(try clear c75);(try clear c75b0);(try clear c76);(try clear c76b0);(try clear c77);(try clear c77b0);(try clear hx482_0);(try clear p482);(try clear q482)
       obtain ⟨x178_3, rfl, HA, HK3, HO_5, HO_6, HO_11, HO_15, HO_17, HO_23, HO_170, HO_176, HB⟩ := hrel
       cases gk with
       | zero => exact absurd HA.out (by simp [laws_FnQueries.l1])
       | succ k3 =>
        have H := HA.out
        clear HA
        simp only [laws_FnQueries.l1] at H
        by_cases c78 : x178_3 < (t434.length : Int)
        rotate_left
        ·rw [if_neg c78] at H
         have c78b0 : decide (x178_3 < (t434.length : Int)) = false := decide_eq_false c78
         clear c78
         as_aux_lemma =>
          have H' := Aside0.mk H
          clear H
          go_wp2
          repeat (go_quiet (fail); try go_wp2)
          go_roundg k3
          case measure => have := HJ15.out; have := HK2.out; have := HK3.out; omega
          case rel => exact ⟨(wrap64 (x172_2 + 1)), (by first | rfl | (simp; done) | (simp [*]; done)), H', ⟨by have := HJ15.out; have := HK2.out; have := HK3.out; omega⟩, ⟨by (with_reducible repeat (first | apply rA_ | apply rN_ | apply rD_)); exact HO_5.out⟩, ⟨by (with_reducible repeat (first | apply rA_ | apply rN_ | apply rD_)); exact HO_6.out⟩, ⟨by (with_reducible repeat (first | apply rA_ | apply rN_ | apply rD_)); exact HO_11.out⟩, ⟨by (with_reducible repeat (first | apply rA_ | apply rN_ | apply rD_)); exact HO_15.out⟩, ⟨by (with_reducible repeat (first | apply rA_ | apply rN_ | apply rD_)); exact HO_17.out⟩, ⟨by (with_reducible repeat (first | apply Kd.S_alloc | apply Kd.S_drewN | apply Kd.S_drew)); exact HO_23.out⟩, ⟨by (with_reducible repeat (first | apply rA_ | apply rN_ | apply rD_)); exact HO_170.out⟩, ⟨by repeat (first | (with_reducible first | exact HB.out | apply lA_ | apply lN_ | apply lD_) | exact HB.out)⟩⟩
        rw [if_pos c78] at H
        have c78b0 : decide (x178_3 < (t434.length : Int)) = true := decide_eq_true c78
        clear c78
        by_cases c79 : 0 ≤ x178_3
        rotate_left
        ·rw [if_neg c79] at H
         exact absurd H (by simp)
        rw [if_pos c79] at H
        have c79b0 : decide (0 ≤ x178_3) = true := decide_eq_true c79
        clear c79
        by_cases c80 : x178_3 < (t434.length : Int)
        rotate_left
        ·rw [if_neg c80] at H
         exact absurd H (by simp)
        rw [if_pos c80] at H
        have c80b0 : decide (x178_3 < (t434.length : Int)) = true := decide_eq_true c80
        clear c80
        obtain ⟨ji81, hji81⟩ : ∃ j_ : Int, (wrap64 ((rd t443 x172_2) + x178_3)) = j_ := ⟨_, rfl⟩
        replace H : (if 0 ≤ (ji81) then (if (ji81) < (t433.length : Int) then ((impl_MatchesGloss.f k3 (rdOf ByteArray.empty t434 x178_3) ((rd_T66 t433 (ji81)).f2)).bind fun bt485 => (if bt485.2 = true then (if bt485.1 = true then (laws_FnQueries.l1 k3 t433 t434 t447 t448 t452 t455 t459 t462 t469 t474 t476 (rd t443 x172_2) t443 (t443.length : Int) x172_2 t434 (t434.length : Int) (wrap64 (x178_3 + 1))) else (some false)) else (some false))) else (none)) else (none)) = some r := by first | (rw [hji81] at H; exact H) | (simp only [hji81] at H ⊢; exact H)
        have hji81w : (IntKind.i64.wrap ((rd t443 x172_2) + x178_3)) = ji81 := (i64_w _).trans hji81
        by_cases c82 : 0 ≤ (ji81)
        rotate_left
        ·rw [if_neg c82] at H
         exact absurd H (by simp)
        rw [if_pos c82] at H
        have c82b0 : decide (0 ≤ (ji81)) = true := decide_eq_true c82
        clear c82
        by_cases c83 : (ji81) < (t433.length : Int)
        rotate_left
        ·rw [if_neg c83] at H
         exact absurd H (by simp)
        rw [if_pos c83] at H
        have c83b0 : decide ((ji81) < (t433.length : Int)) = true := decide_eq_true c83
        clear c83
        replace H := Option.bind_eq_some_iff.mp H
        obtain ⟨⟨t485, t486⟩, A840, H⟩ := H
        (try dsimp only at H)
        have A84 := Aside0.mk A840
        clear A840
        by_cases c85 : t486 = true
        rotate_left
        ·replace c85 := Bool.eq_false_iff.mpr c85
         subst c85
         have H1 : (some false) = some r := by rw [if_neg (show ¬ (false = true) by decide)] at H; exact H
         clear H
         have H := H1
         clear H1
         as_aux_lemma =>
          obtain rfl := Option.some.inj H
          have p483 : 0 ≤ (x178_3 : Int) := ode_
          have q483 : x178_3 < (t434.length : Int) := ode_
          obtain ⟨ad483, e483, hx483_0⟩ := Kd.at_string (Kd.R_reads' HO_176.out).2.2 x178_3 p483 q483
          cases e483
          replace p483 := eq_true p483
          replace q483 := eq_true q483
          have p484 : 0 ≤ ((ji81) : Int) := ode_
          have q484 : (ji81) < (t433.length : Int) := ode_
          obtain ⟨ad484, e484, hx484_0, hx484_1, hx484_2⟩ := at_T66 (Kd.R_reads' HO_5.out).2.2 (ji81) p484 q484
          cases e484
          replace p484 := eq_true p484
          replace q484 := eq_true q484
          go_wp2_with (first | (go_at_call 42; (with_reducible refine (impl_MatchesGloss.calls k3 (rdOf ByteArray.empty t434 x178_3) ((rd_T66 t433 (ji81)).f2) t485 false _ A84.out).mono ?_); rintro e w89 ⟨rfl, hb⟩; have n0_ := Aside0.mk (Kd.R_below (by (with_reducible repeat (first | apply rA_ | apply rN_ | apply rD_)); exact HO_5.out) hb); have n1_ := Aside0.mk (Kd.R_below (by (with_reducible repeat (first | apply rA_ | apply rN_ | apply rD_)); exact HO_6.out) hb); have n2_ := Aside0.mk (Kd.R_below (by (with_reducible repeat (first | apply rA_ | apply rN_ | apply rD_)); exact HO_11.out) hb); have n3_ := Aside0.mk (Kd.R_below (by (with_reducible repeat (first | apply rA_ | apply rN_ | apply rD_)); exact HO_15.out) hb); have n4_ := Aside0.mk (Kd.R_below (by (with_reducible repeat (first | apply rA_ | apply rN_ | apply rD_)); exact HO_17.out) hb); have n5_ := Aside0.mk (Kd.S_below (by (with_reducible repeat (first | apply Kd.S_alloc | apply Kd.S_drewN | apply Kd.S_drew)); exact HO_23.out) hb); have n6_ := Aside0.mk (Kd.R_below (by (with_reducible repeat (first | apply rA_ | apply rN_ | apply rD_)); exact HO_170.out) hb); have n7_ := Aside0.mk (Kd.R_below (by (with_reducible repeat (first | apply rA_ | apply rN_ | apply rD_)); exact HO_176.out) hb); have n8_ := Aside0.mk (below_step (by repeat (first | (with_reducible first | exact HB.out | apply lA_ | apply lN_ | apply lD_) | exact HB.out)) hb); clear HO_5; clear HO_6; clear HO_11; clear HO_15; clear HO_17; clear HO_23; clear HO_170; clear HO_176; clear HB; have HO_5 := n0_; have HO_6 := n1_; have HO_11 := n2_; have HO_15 := n3_; have HO_17 := n4_; have HO_23 := n5_; have HO_170 := n6_; have HO_176 := n7_; have HB := n8_; clear n0_ n1_ n2_ n3_ n4_ n5_ n6_ n7_ n8_; (try clear hb)) | (go_quiet (fail)))
          go_ret
          exact ⟨by first | rfl | (simp [errW_none, errW_some] <;> rfl) | (simp only [← hji81]; first | rfl | (simp [errW_none, errW_some] <;> rfl)) | (simp [*, errW_none, errW_some] <;> rfl), by repeat (first | (with_reducible first | exact HB.out | apply lA_ | apply lN_ | apply lD_) | exact HB.out)⟩
        subst c85
        have H1 : (if t485 = true then (laws_FnQueries.l1 k3 t433 t434 t447 t448 t452 t455 t459 t462 t469 t474 t476 (rd t443 x172_2) t443 (t443.length : Int) x172_2 t434 (t434.length : Int) (wrap64 (x178_3 + 1))) else (some false)) = some r := by rw [if_pos rfl] at H; exact H
        clear H
        have H := H1
        clear H1
        by_cases c86 : t485 = true
        rotate_left
        ·replace c86 := Bool.eq_false_iff.mpr c86
         subst c86
         have H1 : (some false) = some r := by rw [if_neg (show ¬ (false = true) by decide)] at H; exact H
         clear H
         have H := H1
         clear H1
         as_aux_lemma =>
          obtain rfl := Option.some.inj H
          have p483 : 0 ≤ (x178_3 : Int) := ode_
          have q483 : x178_3 < (t434.length : Int) := ode_
          obtain ⟨ad483, e483, hx483_0⟩ := Kd.at_string (Kd.R_reads' HO_176.out).2.2 x178_3 p483 q483
          cases e483
          replace p483 := eq_true p483
          replace q483 := eq_true q483
          have p484 : 0 ≤ ((ji81) : Int) := ode_
          have q484 : (ji81) < (t433.length : Int) := ode_
          obtain ⟨ad484, e484, hx484_0, hx484_1, hx484_2⟩ := at_T66 (Kd.R_reads' HO_5.out).2.2 (ji81) p484 q484
          cases e484
          replace p484 := eq_true p484
          replace q484 := eq_true q484
          go_wp2_with (first | (go_at_call 42; (with_reducible refine (impl_MatchesGloss.calls k3 (rdOf ByteArray.empty t434 x178_3) ((rd_T66 t433 (ji81)).f2) false true _ A84.out).mono ?_); rintro e w88 ⟨rfl, hb⟩; have n0_ := Aside0.mk (Kd.R_below (by (with_reducible repeat (first | apply rA_ | apply rN_ | apply rD_)); exact HO_5.out) hb); have n1_ := Aside0.mk (Kd.R_below (by (with_reducible repeat (first | apply rA_ | apply rN_ | apply rD_)); exact HO_6.out) hb); have n2_ := Aside0.mk (Kd.R_below (by (with_reducible repeat (first | apply rA_ | apply rN_ | apply rD_)); exact HO_11.out) hb); have n3_ := Aside0.mk (Kd.R_below (by (with_reducible repeat (first | apply rA_ | apply rN_ | apply rD_)); exact HO_15.out) hb); have n4_ := Aside0.mk (Kd.R_below (by (with_reducible repeat (first | apply rA_ | apply rN_ | apply rD_)); exact HO_17.out) hb); have n5_ := Aside0.mk (Kd.S_below (by (with_reducible repeat (first | apply Kd.S_alloc | apply Kd.S_drewN | apply Kd.S_drew)); exact HO_23.out) hb); have n6_ := Aside0.mk (Kd.R_below (by (with_reducible repeat (first | apply rA_ | apply rN_ | apply rD_)); exact HO_170.out) hb); have n7_ := Aside0.mk (Kd.R_below (by (with_reducible repeat (first | apply rA_ | apply rN_ | apply rD_)); exact HO_176.out) hb); have n8_ := Aside0.mk (below_step (by repeat (first | (with_reducible first | exact HB.out | apply lA_ | apply lN_ | apply lD_) | exact HB.out)) hb); clear HO_5; clear HO_6; clear HO_11; clear HO_15; clear HO_17; clear HO_23; clear HO_170; clear HO_176; clear HB; have HO_5 := n0_; have HO_6 := n1_; have HO_11 := n2_; have HO_15 := n3_; have HO_17 := n4_; have HO_23 := n5_; have HO_170 := n6_; have HO_176 := n7_; have HB := n8_; clear n0_ n1_ n2_ n3_ n4_ n5_ n6_ n7_ n8_; (try clear hb)) | (go_quiet (fail)))
          go_ret
          exact ⟨by first | rfl | (simp [errW_none, errW_some] <;> rfl) | (simp only [← hji81]; first | rfl | (simp [errW_none, errW_some] <;> rfl)) | (simp [*, errW_none, errW_some] <;> rfl), by repeat (first | (with_reducible first | exact HB.out | apply lA_ | apply lN_ | apply lD_) | exact HB.out)⟩
        subst c86
        have H1 : (laws_FnQueries.l1 k3 t433 t434 t447 t448 t452 t455 t459 t462 t469 t474 t476 (rd t443 x172_2) t443 (t443.length : Int) x172_2 t434 (t434.length : Int) (wrap64 (x178_3 + 1))) = some r := by rw [if_pos rfl] at H; exact H
        clear H
        have H := H1
        clear H1
        as_aux_lemma =>
         have H' := Aside0.mk H
         clear H
         have p483 : 0 ≤ (x178_3 : Int) := ode_
         have q483 : x178_3 < (t434.length : Int) := ode_
         obtain ⟨ad483, e483, hx483_0⟩ := Kd.at_string (Kd.R_reads' HO_176.out).2.2 x178_3 p483 q483
         cases e483
         replace p483 := eq_true p483
         replace q483 := eq_true q483
         have p484 : 0 ≤ ((ji81) : Int) := ode_
         have q484 : (ji81) < (t433.length : Int) := ode_
         obtain ⟨ad484, e484, hx484_0, hx484_1, hx484_2⟩ := at_T66 (Kd.R_reads' HO_5.out).2.2 (ji81) p484 q484
         cases e484
         replace p484 := eq_true p484
         replace q484 := eq_true q484
         go_wp2_with (first | (go_at_call 42; (with_reducible refine (impl_MatchesGloss.calls k3 (rdOf ByteArray.empty t434 x178_3) ((rd_T66 t433 (ji81)).f2) true true _ A84.out).mono ?_); rintro e w87 ⟨rfl, hb⟩; have n0_ := Aside0.mk (Kd.R_below (by (with_reducible repeat (first | apply rA_ | apply rN_ | apply rD_)); exact HO_5.out) hb); have n1_ := Aside0.mk (Kd.R_below (by (with_reducible repeat (first | apply rA_ | apply rN_ | apply rD_)); exact HO_6.out) hb); have n2_ := Aside0.mk (Kd.R_below (by (with_reducible repeat (first | apply rA_ | apply rN_ | apply rD_)); exact HO_11.out) hb); have n3_ := Aside0.mk (Kd.R_below (by (with_reducible repeat (first | apply rA_ | apply rN_ | apply rD_)); exact HO_15.out) hb); have n4_ := Aside0.mk (Kd.R_below (by (with_reducible repeat (first | apply rA_ | apply rN_ | apply rD_)); exact HO_17.out) hb); have n5_ := Aside0.mk (Kd.S_below (by (with_reducible repeat (first | apply Kd.S_alloc | apply Kd.S_drewN | apply Kd.S_drew)); exact HO_23.out) hb); have n6_ := Aside0.mk (Kd.R_below (by (with_reducible repeat (first | apply rA_ | apply rN_ | apply rD_)); exact HO_170.out) hb); have n7_ := Aside0.mk (Kd.R_below (by (with_reducible repeat (first | apply rA_ | apply rN_ | apply rD_)); exact HO_176.out) hb); have n8_ := Aside0.mk (below_step (by repeat (first | (with_reducible first | exact HB.out | apply lA_ | apply lN_ | apply lD_) | exact HB.out)) hb); clear HO_5; clear HO_6; clear HO_11; clear HO_15; clear HO_17; clear HO_23; clear HO_170; clear HO_176; clear HB; have HO_5 := n0_; have HO_6 := n1_; have HO_11 := n2_; have HO_15 := n3_; have HO_17 := n4_; have HO_23 := n5_; have HO_170 := n6_; have HO_176 := n7_; have HB := n8_; clear n0_ n1_ n2_ n3_ n4_ n5_ n6_ n7_ n8_; (try clear hb)) | (go_quiet (fail)))
         go_roundg k3
         case measure => have := HJ15.out; have := HK2.out; have := HK3.out; omega
         case rel => exact ⟨(wrap64 (x178_3 + 1)), (by first | rfl | (simp; done) | (simp [*]; done)), H', ⟨by have := HJ15.out; have := HK2.out; have := HK3.out; omega⟩, ⟨by (with_reducible repeat (first | apply rA_ | apply rN_ | apply rD_)); exact HO_5.out⟩, ⟨by (with_reducible repeat (first | apply rA_ | apply rN_ | apply rD_)); exact HO_6.out⟩, ⟨by (with_reducible repeat (first | apply rA_ | apply rN_ | apply rD_)); exact HO_11.out⟩, ⟨by (with_reducible repeat (first | apply rA_ | apply rN_ | apply rD_)); exact HO_15.out⟩, ⟨by (with_reducible repeat (first | apply rA_ | apply rN_ | apply rD_)); exact HO_17.out⟩, ⟨by (with_reducible repeat (first | apply Kd.S_alloc | apply Kd.S_drewN | apply Kd.S_drew)); exact HO_23.out⟩, ⟨by (with_reducible repeat (first | apply rA_ | apply rN_ | apply rD_)); exact HO_170.out⟩, ⟨by (with_reducible repeat (first | apply rA_ | apply rN_ | apply rD_)); exact HO_176.out⟩, ⟨by repeat (first | (with_reducible first | exact HB.out | apply lA_ | apply lN_ | apply lD_) | exact HB.out)⟩⟩
     rw [if_neg c75] at H
     have c75b0 : decide (x172_2 < (t443.length : Int)) = false := decide_eq_false c75
     clear c75
     have HC90 := Aside0.mk H
     clear H
     go_upto_if 203 with (fail)
     repeat (go_quiet (fail); go_upto_if 203 with (fail))
     go_cut [] (fun wc => ∃ (kq : Nat), Aside0 (laws_FnQueries.j4 kq t459 t462 t469 t474 t476 = some r) ∧ Aside0 (kq ≤ k2) ∧ Aside0 (Kd.R k66 66 wc w.heap.size (fun _ => True) (.slice Ao27 t459.length co27) t459) ∧ Aside0 (Kd.S (Kd.slice 3 (Kd.int .i64)) 37 wc w.heap.size (fun _ => True) v471 t469) ∧ Aside0 (Below w.heap.size w wc))
     case first =>
      have H := HC90.out
      clear HC90
      by_cases c91 : t452 = true
      rotate_left
      ·replace c91 := Bool.eq_false_iff.mpr c91
       subst c91
       have H1 : (laws_FnQueries.j4 k2 t459 t462 t469 t474 t476) = some r := by rw [if_neg (show ¬ (false = true) by decide)] at H; exact H
       clear H
       have H := H1
       clear H1
       as_aux_lemma =>
        have H' := Aside0.mk H
        clear H
        go_wp2
        repeat (go_quiet (fail); try go_wp2)
        go_meet
        case rel => exact ⟨_, H', ⟨by have := HJ15.out; have := HK2.out; first | omega | exact Nat.le_refl _⟩, ⟨by (with_reducible repeat (first | apply rA_ | apply rN_ | apply rD_)); exact Kd.R_mono HO_17.out (fun _ hk => trivial)⟩, ⟨by (with_reducible repeat (first | apply Kd.S_alloc | apply Kd.S_drewN | apply Kd.S_drew)); exact Kd.S_mono HO_23.out (fun _ hk => trivial)⟩, ⟨by repeat (first | (with_reducible first | exact HB.out | apply lA_ | apply lN_ | apply lD_) | exact HB.out)⟩⟩
      subst c91
      have H1 : (laws_FnQueries.l2 k2 t448 t455 t459 t462 t469 t474 t476 t447 (t447.length : Int) 0) = some r := by rw [if_pos rfl] at H; exact H
      clear H
      have H := H1
      clear H1
      have H' := Aside0.mk H
      clear H
      go_wp2
      repeat (go_quiet (fail); try go_wp2)
      go_loopg [206] k2 (fun kq v206 w' => ∃ (x206_3 : Int), v206 = .int .i64 x206_3 ∧ Aside0 (laws_FnQueries.l2 kq t448 t455 t459 t462 t469 t474 t476 t447 (t447.length : Int) x206_3 = some r) ∧ Aside0 (kq ≤ k2) ∧ Aside0 (Kd.R (Kd.int .i64) 3 w' w.heap.size (fun _ => True) v457 t455) ∧ Aside0 (Kd.R k66 66 w' w.heap.size (fun k_ => some k_ ≠ ((.slice Ao23 t447.length co23) : Value).ownBlock) (.slice Ao27 t459.length co27) t459) ∧ Aside0 (Kd.S (Kd.slice 3 (Kd.int .i64)) 37 w' w.heap.size (fun k_ => some k_ ≠ (v457 : Value).ownBlock) v471 t469) ∧ Aside0 (Kd.R k66 66 w' w.heap.size (fun k_ => some k_ ≠ ((.slice Ao27 t459.length co27) : Value).ownBlock) (.slice Ao23 t447.length co23) t447) ∧ Aside0 (Below w.heap.size w w'))
      case atStart => exact ⟨(0), (by first | rfl | (simp; done) | (simp [*]; done)), H', ⟨Nat.le_refl _⟩, ⟨by (with_reducible repeat (first | apply rA_ | apply rN_ | apply rD_)); exact Kd.R_mono HO_15.out (fun _ hk => trivial)⟩, ⟨by (with_reducible repeat (first | apply rA_ | apply rN_ | apply rD_)); exact Kd.R_mono HO_17.out (fun _ hk => hk.2)⟩, ⟨by (with_reducible repeat (first | apply Kd.S_alloc | apply Kd.S_drewN | apply Kd.S_drew)); exact Kd.S_mono HO_23.out (fun _ hk => hk.1)⟩, ⟨by (with_reducible repeat (first | apply rA_ | apply rN_ | apply rD_)); exact Kd.R_mono HO_11.out (fun _ hk => hk.2)⟩, ⟨by repeat (first | (with_reducible first | exact HB.out | apply lA_ | apply lN_ | apply lD_) | exact HB.out)⟩⟩
      case round =>
       clear H'
       (try clear c1);(try clear c3);(try clear c3b0);(try clear c73);(try clear c75);(try clear c75b0);(try clear c91)
       obtain ⟨x206_3, rfl, HA, HK3, HO_15, HO_17, HO_23, HO_204, HB⟩ := hrel
       cases gk with
       | zero => exact absurd HA.out (by simp [laws_FnQueries.l2])
       | succ k3 =>
        have H := HA.out
        clear HA
        simp only [laws_FnQueries.l2] at H
        by_cases c92 : x206_3 < (t447.length : Int)
        rotate_left
        ·rw [if_neg c92] at H
         have c92b0 : decide (x206_3 < (t447.length : Int)) = false := decide_eq_false c92
         clear c92
         (first | rw [c92b0] | (simp only [i64_w, i32_w]; rw [c92b0]) | skip)
         as_aux_lemma =>
          have H' := Aside0.mk H
          clear H
          go_wp2
          repeat (go_quiet (fail); try go_wp2)
          go_meet
          case rel => exact ⟨_, H', ⟨by have := HJ15.out; have := HK2.out; have := HK3.out; first | omega | exact Nat.le_refl _⟩, ⟨by (with_reducible repeat (first | apply rA_ | apply rN_ | apply rD_)); exact Kd.R_mono HO_17.out (fun _ hk => trivial)⟩, ⟨by (with_reducible repeat (first | apply Kd.S_alloc | apply Kd.S_drewN | apply Kd.S_drew)); exact Kd.S_mono HO_23.out (fun _ hk => trivial)⟩, ⟨by repeat (first | (with_reducible first | exact HB.out | apply lA_ | apply lN_ | apply lD_) | exact HB.out)⟩⟩
        rw [if_pos c92] at H
        have c92b0 : decide (x206_3 < (t447.length : Int)) = true := decide_eq_true c92
        clear c92
        (first | rw [c92b0] | (simp only [i64_w, i32_w]; rw [c92b0]) | skip)
        by_cases c93 : 0 ≤ x206_3
        rotate_left
        ·rw [if_neg c93] at H
         exact absurd H (by simp)
        rw [if_pos c93] at H
        have c93b0 : decide (0 ≤ x206_3) = true := decide_eq_true c93
        clear c93
        by_cases c94 : x206_3 < (t447.length : Int)
        rotate_left
        ·rw [if_neg c94] at H
         exact absurd H (by simp)
        rw [if_pos c94] at H
        have c94b0 : decide (x206_3 < (t447.length : Int)) = true := decide_eq_true c94
        clear c94
        replace H := Option.bind_eq_some_iff.mp H
        obtain ⟨⟨t489, t490⟩, A950, H⟩ := H
        (try dsimp only at H)
        have A95 := Aside0.mk A950
        clear A950
        replace H := Option.bind_eq_some_iff.mp H
        obtain ⟨⟨t491, t492⟩, A960, H⟩ := H
        (try dsimp only at H)
        have A96 := Aside0.mk A960
        clear A960
        by_cases c97 : t490 = true
        rotate_left
        ·replace c97 := Bool.eq_false_iff.mpr c97
         subst c97
         have H1 : (some false) = some r := by rw [if_neg (show ¬ (false = true) by decide)] at H; exact H
         clear H
         have H := H1
         clear H1
         as_aux_lemma =>
          obtain rfl := Option.some.inj H
          have p487 : 0 ≤ (x206_3 : Int) := ode_
          have q487 : x206_3 < (t447.length : Int) := ode_
          obtain ⟨ad487, e487, hx487_0, hx487_1, hx487_2⟩ := at_T66 (Kd.R_reads' HO_204.out).2.2 x206_3 p487 q487
          cases e487
          replace p487 := eq_true p487
          replace q487 := eq_true q487
          go_wp2_with (first | ((with_reducible refine gate_dst (N := 38) rfl ?_); refine box_event ?hg (N := 38) ?hd (cs := #[.int .i64 0, .int .i64 0, .string (⟨#[]⟩ : ByteArray)]) (t := 66) ?hr ?_; (case hd => rfl); (case hg => rfl); (case hr => first | (go_simp; done) | (go_simp; rfl)); intro gb488 hg w124 hbox hb; have n0_ := Aside0.mk (Kd.R_below (by (with_reducible repeat (first | apply rA_ | apply rN_ | apply rD_)); exact HO_15.out) hb); have n1_ := Aside0.mk (Kd.R_below (Kd.R_elderB (by (with_reducible repeat (first | apply rA_ | apply rN_ | apply rD_)); exact HO_17.out) gb488 (Nat.le_of_eq hg.symm)) hb); have n2_ := Aside0.mk (Kd.S_below (by (with_reducible repeat (first | apply Kd.S_alloc | apply Kd.S_drewN | apply Kd.S_drew)); exact HO_23.out) hb); have n3_ := Aside0.mk (Kd.R_below (Kd.R_elderB (by (with_reducible repeat (first | apply rA_ | apply rN_ | apply rD_)); exact HO_204.out) gb488 (Nat.le_of_eq hg.symm)) hb); have n4_ := Aside0.mk (below_step (by repeat (first | (with_reducible first | exact HB.out | apply lA_ | apply lN_ | apply lD_) | exact HB.out)) hb); have n5_ := Aside0.mk (hbox); have n6_ := Aside0.mk ((by rw [hg]; exact (below_size (by repeat (first | (with_reducible first | exact HB.out | apply lA_ | apply lN_ | apply lD_) | exact HB.out))) : w.heap.size ≤ gb488)); have n7_ := n6_; clear HO_15; clear HO_17; clear HO_23; clear HO_204; clear HB; have HO_15 := n0_; have HO_17 := n1_; have HO_23 := n2_; have HO_204 := n3_; have HB := n4_; have BK488 := n5_; have GW488 := n6_; have GE488 := n7_; clear n0_ n1_ n2_ n3_ n4_ n5_ n6_ n7_; clear hb hbox hg; have hcz125_0 : w124.cell? ⟨gb488, 0, none⟩ = some (.int .i64 0) := (blk_cell BK488.out 0).trans rfl; have hcz125_1 : w124.cell? ⟨gb488, 1, none⟩ = some (.int .i64 0) := (blk_cell BK488.out 1).trans rfl; have hcz125_2 : w124.cell? ⟨gb488, 2, none⟩ = some (.string (⟨#[]⟩ : ByteArray)) := (blk_cell BK488.out 2).trans rfl; have hfz125_0 := blk_frozen BK488.out 0; have hfz125_1 := blk_frozen BK488.out 1; have hfz125_2 := blk_frozen BK488.out 2) | (go_at_call 42; (with_reducible refine (impl_MatchesGloss.calls k3 t448 ((rd_T66 t447 x206_3).f2) t489 false _ A95.out).mono ?_); rintro e w126 ⟨rfl, hb⟩; have n0_ := Aside0.mk (Kd.R_below (by (with_reducible repeat (first | apply rA_ | apply rN_ | apply rD_)); exact (Kd.R_mono (Kd.R_far (p := ⟨gb488, 2, none⟩) (Kd.R_far (p := ⟨gb488, 1, none⟩) (Kd.R_far (p := ⟨gb488, 0, none⟩) (Kd.R_types HO_15.out BK488.out (by decide)) (fun _ hk => hk.2) (.int .i64 ((rd_T66 t447 x206_3).f0))) (fun _ hk => hk.2) (.int .i64 ((rd_T66 t447 x206_3).f1))) (fun _ hk => hk.2) (.string ((rd_T66 t447 x206_3).f2))) (fun _ h_ => h_.1))) hb); have n1_ := Aside0.mk (Kd.R_below (by (with_reducible repeat (first | apply rA_ | apply rN_ | apply rD_)); exact (Kd.R_mono (Kd.R_far (p := ⟨gb488, 2, none⟩) (Kd.R_far (p := ⟨gb488, 1, none⟩) (Kd.R_far (p := ⟨gb488, 0, none⟩) (Kd.R_mono HO_17.out (fun k_ hk => (⟨hk, hk.2⟩ : _ ∧ k_ ≠ gb488))) (fun _ hk => hk.2) (.int .i64 ((rd_T66 t447 x206_3).f0))) (fun _ hk => hk.2) (.int .i64 ((rd_T66 t447 x206_3).f1))) (fun _ hk => hk.2) (.string ((rd_T66 t447 x206_3).f2))) (fun _ h_ => h_.1))) hb); have n2_ := Aside0.mk (Kd.S_below (by (with_reducible repeat (first | apply Kd.S_alloc | apply Kd.S_drewN | apply Kd.S_drew)); exact (Kd.S_mono (Kd.S_far (p := ⟨gb488, 2, none⟩) (Kd.S_far (p := ⟨gb488, 1, none⟩) (Kd.S_far (p := ⟨gb488, 0, none⟩) (Kd.S_types HO_23.out BK488.out (by decide)) (fun _ hk => hk.2) (.int .i64 ((rd_T66 t447 x206_3).f0))) (fun _ hk => hk.2) (.int .i64 ((rd_T66 t447 x206_3).f1))) (fun _ hk => hk.2) (.string ((rd_T66 t447 x206_3).f2))) (fun _ h_ => h_.1))) hb); have n3_ := Aside0.mk (Kd.R_below (by (with_reducible repeat (first | apply rA_ | apply rN_ | apply rD_)); exact (Kd.R_mono (Kd.R_far (p := ⟨gb488, 2, none⟩) (Kd.R_far (p := ⟨gb488, 1, none⟩) (Kd.R_far (p := ⟨gb488, 0, none⟩) (Kd.R_mono HO_204.out (fun k_ hk => (⟨hk, hk.2⟩ : _ ∧ k_ ≠ gb488))) (fun _ hk => hk.2) (.int .i64 ((rd_T66 t447 x206_3).f0))) (fun _ hk => hk.2) (.int .i64 ((rd_T66 t447 x206_3).f1))) (fun _ hk => hk.2) (.string ((rd_T66 t447 x206_3).f2))) (fun _ h_ => h_.1))) hb); have n4_ := Aside0.mk (blk_below (g := gb488) (o := .cells #[.int .i64 ((rd_T66 t447 x206_3).f0), .int .i64 ((rd_T66 t447 x206_3).f1), .string ((rd_T66 t447 x206_3).f2)] 66 (0, 0)) (by (with_reducible repeat (first | apply kN_ | apply kD_ | apply kA_)); refine blk_put (cs := #[.int .i64 ((rd_T66 t447 x206_3).f0), .int .i64 ((rd_T66 t447 x206_3).f1), .string (⟨#[]⟩ : ByteArray)]) ?_ 2 _ rfl; (with_reducible repeat (first | apply kN_ | apply kD_ | apply kA_)); refine blk_put (cs := #[.int .i64 ((rd_T66 t447 x206_3).f0), .int .i64 0, .string (⟨#[]⟩ : ByteArray)]) ?_ 1 _ rfl; (with_reducible repeat (first | apply kN_ | apply kD_ | apply kA_)); refine blk_put (cs := #[.int .i64 0, .int .i64 0, .string (⟨#[]⟩ : ByteArray)]) ?_ 0 _ rfl; (with_reducible repeat (first | apply kN_ | apply kD_ | apply kA_)); exact BK488.out) hb); have n5_ := Aside0.mk (below_step (by repeat (first | (with_reducible first | exact HB.out | apply lA_ | apply lN_ | apply lD_ | refine below_set ?_ GE488.out) | exact HB.out)) hb); clear HO_15; clear HO_17; clear HO_23; clear HO_204; clear BK488; clear HB; have HO_15 := n0_; have HO_17 := n1_; have HO_23 := n2_; have HO_204 := n3_; have BK488 := n4_; have HB := n5_; clear n0_ n1_ n2_ n3_ n4_ n5_; (try clear hb); (try clear hk); have hcz127_0 : w126.cell? ⟨gb488, 0, none⟩ = some (.int .i64 ((rd_T66 t447 x206_3).f0)) := (blk_cell BK488.out 0).trans rfl; have hcz127_1 : w126.cell? ⟨gb488, 1, none⟩ = some (.int .i64 ((rd_T66 t447 x206_3).f1)) := (blk_cell BK488.out 1).trans rfl; have hcz127_2 : w126.cell? ⟨gb488, 2, none⟩ = some (.string ((rd_T66 t447 x206_3).f2)) := (blk_cell BK488.out 2).trans rfl; have hfz127_0 := blk_frozen BK488.out 0; have hfz127_1 := blk_frozen BK488.out 1; have hfz127_2 := blk_frozen BK488.out 2) | (go_at_call 43; (with_reducible refine (spec_MatchesGloss.calls k3 t448 ((rd_T66 t447 x206_3).f2) t491 t492 _ A96.out).mono ?_); rintro e w128 ⟨rfl, hb⟩; have n0_ := Aside0.mk (Kd.R_below (by (with_reducible repeat (first | apply rA_ | apply rN_ | apply rD_)); exact HO_15.out) hb); have n1_ := Aside0.mk (Kd.R_below (by (with_reducible repeat (first | apply rA_ | apply rN_ | apply rD_)); exact HO_17.out) hb); have n2_ := Aside0.mk (Kd.S_below (by (with_reducible repeat (first | apply Kd.S_alloc | apply Kd.S_drewN | apply Kd.S_drew)); exact HO_23.out) hb); have n3_ := Aside0.mk (Kd.R_below (by (with_reducible repeat (first | apply rA_ | apply rN_ | apply rD_)); exact HO_204.out) hb); have n4_ := Aside0.mk (blk_below (g := gb488) (o := .cells #[.int .i64 ((rd_T66 t447 x206_3).f0), .int .i64 ((rd_T66 t447 x206_3).f1), .string ((rd_T66 t447 x206_3).f2)] 66 (0, 0)) (by (with_reducible repeat (first | apply kN_ | apply kD_ | apply kA_)); exact BK488.out) hb); have n5_ := Aside0.mk (below_step (by repeat (first | (with_reducible first | exact HB.out | apply lA_ | apply lN_ | apply lD_ | refine below_set ?_ GE488.out) | exact HB.out)) hb); clear HO_15; clear HO_17; clear HO_23; clear HO_204; clear BK488; clear HB; have HO_15 := n0_; have HO_17 := n1_; have HO_23 := n2_; have HO_204 := n3_; have BK488 := n4_; have HB := n5_; clear n0_ n1_ n2_ n3_ n4_ n5_; (try clear hb); (try clear hk)) | (go_quiet (fail)))
          go_ret
          exact ⟨by first | rfl | (simp [errW_none, errW_some] <;> rfl) | (simp [*, errW_none, errW_some] <;> rfl), by repeat (first | (with_reducible first | exact HB.out | apply lA_ | apply lN_ | apply lD_ | refine below_set ?_ GE488.out) | exact HB.out)⟩
        subst c97
        have H1 : (if t492 = true then (if (t489 != t491) = true then (some false) else ((laws_qHas.f k3 t455 x206_3).bind fun t493 => (if (t493 != t491) = true then (some false) else (laws_FnQueries.l2 k3 t448 t455 t459 t462 t469 t474 t476 t447 (t447.length : Int) (wrap64 (x206_3 + 1)))))) else (some false)) = some r := by rw [if_pos rfl] at H; exact H
        clear H
        have H := H1
        clear H1
        by_cases c98 : t492 = true
        rotate_left
        ·replace c98 := Bool.eq_false_iff.mpr c98
         subst c98
         have H1 : (some false) = some r := by rw [if_neg (show ¬ (false = true) by decide)] at H; exact H
         clear H
         have H := H1
         clear H1
         as_aux_lemma =>
          obtain rfl := Option.some.inj H
          have p487 : 0 ≤ (x206_3 : Int) := ode_
          have q487 : x206_3 < (t447.length : Int) := ode_
          obtain ⟨ad487, e487, hx487_0, hx487_1, hx487_2⟩ := at_T66 (Kd.R_reads' HO_204.out).2.2 x206_3 p487 q487
          cases e487
          replace p487 := eq_true p487
          replace q487 := eq_true q487
          go_wp2_with (first | ((with_reducible refine gate_dst (N := 38) rfl ?_); refine box_event ?hg (N := 38) ?hd (cs := #[.int .i64 0, .int .i64 0, .string (⟨#[]⟩ : ByteArray)]) (t := 66) ?hr ?_; (case hd => rfl); (case hg => rfl); (case hr => first | (go_simp; done) | (go_simp; rfl)); intro gb488 hg w119 hbox hb; have n0_ := Aside0.mk (Kd.R_below (by (with_reducible repeat (first | apply rA_ | apply rN_ | apply rD_)); exact HO_15.out) hb); have n1_ := Aside0.mk (Kd.R_below (Kd.R_elderB (by (with_reducible repeat (first | apply rA_ | apply rN_ | apply rD_)); exact HO_17.out) gb488 (Nat.le_of_eq hg.symm)) hb); have n2_ := Aside0.mk (Kd.S_below (by (with_reducible repeat (first | apply Kd.S_alloc | apply Kd.S_drewN | apply Kd.S_drew)); exact HO_23.out) hb); have n3_ := Aside0.mk (Kd.R_below (Kd.R_elderB (by (with_reducible repeat (first | apply rA_ | apply rN_ | apply rD_)); exact HO_204.out) gb488 (Nat.le_of_eq hg.symm)) hb); have n4_ := Aside0.mk (below_step (by repeat (first | (with_reducible first | exact HB.out | apply lA_ | apply lN_ | apply lD_) | exact HB.out)) hb); have n5_ := Aside0.mk (hbox); have n6_ := Aside0.mk ((by rw [hg]; exact (below_size (by repeat (first | (with_reducible first | exact HB.out | apply lA_ | apply lN_ | apply lD_) | exact HB.out))) : w.heap.size ≤ gb488)); have n7_ := n6_; clear HO_15; clear HO_17; clear HO_23; clear HO_204; clear HB; have HO_15 := n0_; have HO_17 := n1_; have HO_23 := n2_; have HO_204 := n3_; have HB := n4_; have BK488 := n5_; have GW488 := n6_; have GE488 := n7_; clear n0_ n1_ n2_ n3_ n4_ n5_ n6_ n7_; clear hb hbox hg; have hcz120_0 : w119.cell? ⟨gb488, 0, none⟩ = some (.int .i64 0) := (blk_cell BK488.out 0).trans rfl; have hcz120_1 : w119.cell? ⟨gb488, 1, none⟩ = some (.int .i64 0) := (blk_cell BK488.out 1).trans rfl; have hcz120_2 : w119.cell? ⟨gb488, 2, none⟩ = some (.string (⟨#[]⟩ : ByteArray)) := (blk_cell BK488.out 2).trans rfl; have hfz120_0 := blk_frozen BK488.out 0; have hfz120_1 := blk_frozen BK488.out 1; have hfz120_2 := blk_frozen BK488.out 2) | (go_at_call 42; (with_reducible refine (impl_MatchesGloss.calls k3 t448 ((rd_T66 t447 x206_3).f2) t489 true _ A95.out).mono ?_); rintro e w121 ⟨rfl, hb⟩; have n0_ := Aside0.mk (Kd.R_below (by (with_reducible repeat (first | apply rA_ | apply rN_ | apply rD_)); exact (Kd.R_mono (Kd.R_far (p := ⟨gb488, 2, none⟩) (Kd.R_far (p := ⟨gb488, 1, none⟩) (Kd.R_far (p := ⟨gb488, 0, none⟩) (Kd.R_types HO_15.out BK488.out (by decide)) (fun _ hk => hk.2) (.int .i64 ((rd_T66 t447 x206_3).f0))) (fun _ hk => hk.2) (.int .i64 ((rd_T66 t447 x206_3).f1))) (fun _ hk => hk.2) (.string ((rd_T66 t447 x206_3).f2))) (fun _ h_ => h_.1))) hb); have n1_ := Aside0.mk (Kd.R_below (by (with_reducible repeat (first | apply rA_ | apply rN_ | apply rD_)); exact (Kd.R_mono (Kd.R_far (p := ⟨gb488, 2, none⟩) (Kd.R_far (p := ⟨gb488, 1, none⟩) (Kd.R_far (p := ⟨gb488, 0, none⟩) (Kd.R_mono HO_17.out (fun k_ hk => (⟨hk, hk.2⟩ : _ ∧ k_ ≠ gb488))) (fun _ hk => hk.2) (.int .i64 ((rd_T66 t447 x206_3).f0))) (fun _ hk => hk.2) (.int .i64 ((rd_T66 t447 x206_3).f1))) (fun _ hk => hk.2) (.string ((rd_T66 t447 x206_3).f2))) (fun _ h_ => h_.1))) hb); have n2_ := Aside0.mk (Kd.S_below (by (with_reducible repeat (first | apply Kd.S_alloc | apply Kd.S_drewN | apply Kd.S_drew)); exact (Kd.S_mono (Kd.S_far (p := ⟨gb488, 2, none⟩) (Kd.S_far (p := ⟨gb488, 1, none⟩) (Kd.S_far (p := ⟨gb488, 0, none⟩) (Kd.S_types HO_23.out BK488.out (by decide)) (fun _ hk => hk.2) (.int .i64 ((rd_T66 t447 x206_3).f0))) (fun _ hk => hk.2) (.int .i64 ((rd_T66 t447 x206_3).f1))) (fun _ hk => hk.2) (.string ((rd_T66 t447 x206_3).f2))) (fun _ h_ => h_.1))) hb); have n3_ := Aside0.mk (Kd.R_below (by (with_reducible repeat (first | apply rA_ | apply rN_ | apply rD_)); exact (Kd.R_mono (Kd.R_far (p := ⟨gb488, 2, none⟩) (Kd.R_far (p := ⟨gb488, 1, none⟩) (Kd.R_far (p := ⟨gb488, 0, none⟩) (Kd.R_mono HO_204.out (fun k_ hk => (⟨hk, hk.2⟩ : _ ∧ k_ ≠ gb488))) (fun _ hk => hk.2) (.int .i64 ((rd_T66 t447 x206_3).f0))) (fun _ hk => hk.2) (.int .i64 ((rd_T66 t447 x206_3).f1))) (fun _ hk => hk.2) (.string ((rd_T66 t447 x206_3).f2))) (fun _ h_ => h_.1))) hb); have n4_ := Aside0.mk (blk_below (g := gb488) (o := .cells #[.int .i64 ((rd_T66 t447 x206_3).f0), .int .i64 ((rd_T66 t447 x206_3).f1), .string ((rd_T66 t447 x206_3).f2)] 66 (0, 0)) (by (with_reducible repeat (first | apply kN_ | apply kD_ | apply kA_)); refine blk_put (cs := #[.int .i64 ((rd_T66 t447 x206_3).f0), .int .i64 ((rd_T66 t447 x206_3).f1), .string (⟨#[]⟩ : ByteArray)]) ?_ 2 _ rfl; (with_reducible repeat (first | apply kN_ | apply kD_ | apply kA_)); refine blk_put (cs := #[.int .i64 ((rd_T66 t447 x206_3).f0), .int .i64 0, .string (⟨#[]⟩ : ByteArray)]) ?_ 1 _ rfl; (with_reducible repeat (first | apply kN_ | apply kD_ | apply kA_)); refine blk_put (cs := #[.int .i64 0, .int .i64 0, .string (⟨#[]⟩ : ByteArray)]) ?_ 0 _ rfl; (with_reducible repeat (first | apply kN_ | apply kD_ | apply kA_)); exact BK488.out) hb); have n5_ := Aside0.mk (below_step (by repeat (first | (with_reducible first | exact HB.out | apply lA_ | apply lN_ | apply lD_ | refine below_set ?_ GE488.out) | exact HB.out)) hb); clear HO_15; clear HO_17; clear HO_23; clear HO_204; clear BK488; clear HB; have HO_15 := n0_; have HO_17 := n1_; have HO_23 := n2_; have HO_204 := n3_; have BK488 := n4_; have HB := n5_; clear n0_ n1_ n2_ n3_ n4_ n5_; (try clear hb); (try clear hk); have hcz122_0 : w121.cell? ⟨gb488, 0, none⟩ = some (.int .i64 ((rd_T66 t447 x206_3).f0)) := (blk_cell BK488.out 0).trans rfl; have hcz122_1 : w121.cell? ⟨gb488, 1, none⟩ = some (.int .i64 ((rd_T66 t447 x206_3).f1)) := (blk_cell BK488.out 1).trans rfl; have hcz122_2 : w121.cell? ⟨gb488, 2, none⟩ = some (.string ((rd_T66 t447 x206_3).f2)) := (blk_cell BK488.out 2).trans rfl; have hfz122_0 := blk_frozen BK488.out 0; have hfz122_1 := blk_frozen BK488.out 1; have hfz122_2 := blk_frozen BK488.out 2) | (go_at_call 43; (with_reducible refine (spec_MatchesGloss.calls k3 t448 ((rd_T66 t447 x206_3).f2) t491 false _ A96.out).mono ?_); rintro e w123 ⟨rfl, hb⟩; have n0_ := Aside0.mk (Kd.R_below (by (with_reducible repeat (first | apply rA_ | apply rN_ | apply rD_)); exact HO_15.out) hb); have n1_ := Aside0.mk (Kd.R_below (by (with_reducible repeat (first | apply rA_ | apply rN_ | apply rD_)); exact HO_17.out) hb); have n2_ := Aside0.mk (Kd.S_below (by (with_reducible repeat (first | apply Kd.S_alloc | apply Kd.S_drewN | apply Kd.S_drew)); exact HO_23.out) hb); have n3_ := Aside0.mk (Kd.R_below (by (with_reducible repeat (first | apply rA_ | apply rN_ | apply rD_)); exact HO_204.out) hb); have n4_ := Aside0.mk (blk_below (g := gb488) (o := .cells #[.int .i64 ((rd_T66 t447 x206_3).f0), .int .i64 ((rd_T66 t447 x206_3).f1), .string ((rd_T66 t447 x206_3).f2)] 66 (0, 0)) (by (with_reducible repeat (first | apply kN_ | apply kD_ | apply kA_)); exact BK488.out) hb); have n5_ := Aside0.mk (below_step (by repeat (first | (with_reducible first | exact HB.out | apply lA_ | apply lN_ | apply lD_ | refine below_set ?_ GE488.out) | exact HB.out)) hb); clear HO_15; clear HO_17; clear HO_23; clear HO_204; clear BK488; clear HB; have HO_15 := n0_; have HO_17 := n1_; have HO_23 := n2_; have HO_204 := n3_; have BK488 := n4_; have HB := n5_; clear n0_ n1_ n2_ n3_ n4_ n5_; (try clear hb); (try clear hk)) | (go_quiet (fail)))
          go_ret
          exact ⟨by first | rfl | (simp [errW_none, errW_some] <;> rfl) | (simp [*, errW_none, errW_some] <;> rfl), by repeat (first | (with_reducible first | exact HB.out | apply lA_ | apply lN_ | apply lD_ | refine below_set ?_ GE488.out) | exact HB.out)⟩
        subst c98
        have H1 : (if (t489 != t491) = true then (some false) else ((laws_qHas.f k3 t455 x206_3).bind fun t493 => (if (t493 != t491) = true then (some false) else (laws_FnQueries.l2 k3 t448 t455 t459 t462 t469 t474 t476 t447 (t447.length : Int) (wrap64 (x206_3 + 1)))))) = some r := by rw [if_pos rfl] at H; exact H
        clear H
        have H := H1
        clear H1
        by_cases c99 : (t489 != t491) = true
        ·rw [if_pos c99] at H
         have c99b0 : (t489 != t491) = true := c99
         (try (have c99b1 : decide (t489 = t491) = false := by simpa using c99))
         (try (have c99b2 : (t489 == t491) = false := by simpa using c99))
         (try (have c99b3 : ¬ (t489 = t491) := by simpa using c99))
         clear c99
         as_aux_lemma =>
          obtain rfl := Option.some.inj H
          have p487 : 0 ≤ (x206_3 : Int) := ode_
          have q487 : x206_3 < (t447.length : Int) := ode_
          obtain ⟨ad487, e487, hx487_0, hx487_1, hx487_2⟩ := at_T66 (Kd.R_reads' HO_204.out).2.2 x206_3 p487 q487
          cases e487
          replace p487 := eq_true p487
          replace q487 := eq_true q487
          go_wp2_with (first | ((with_reducible refine gate_dst (N := 38) rfl ?_); refine box_event ?hg (N := 38) ?hd (cs := #[.int .i64 0, .int .i64 0, .string (⟨#[]⟩ : ByteArray)]) (t := 66) ?hr ?_; (case hd => rfl); (case hg => rfl); (case hr => first | (go_simp; done) | (go_simp; rfl)); intro gb488 hg w100 hbox hb; have n0_ := Aside0.mk (Kd.R_below (by (with_reducible repeat (first | apply rA_ | apply rN_ | apply rD_)); exact HO_15.out) hb); have n1_ := Aside0.mk (Kd.R_below (Kd.R_elderB (by (with_reducible repeat (first | apply rA_ | apply rN_ | apply rD_)); exact HO_17.out) gb488 (Nat.le_of_eq hg.symm)) hb); have n2_ := Aside0.mk (Kd.S_below (by (with_reducible repeat (first | apply Kd.S_alloc | apply Kd.S_drewN | apply Kd.S_drew)); exact HO_23.out) hb); have n3_ := Aside0.mk (Kd.R_below (Kd.R_elderB (by (with_reducible repeat (first | apply rA_ | apply rN_ | apply rD_)); exact HO_204.out) gb488 (Nat.le_of_eq hg.symm)) hb); have n4_ := Aside0.mk (below_step (by repeat (first | (with_reducible first | exact HB.out | apply lA_ | apply lN_ | apply lD_) | exact HB.out)) hb); have n5_ := Aside0.mk (hbox); have n6_ := Aside0.mk ((by rw [hg]; exact (below_size (by repeat (first | (with_reducible first | exact HB.out | apply lA_ | apply lN_ | apply lD_) | exact HB.out))) : w.heap.size ≤ gb488)); have n7_ := n6_; clear HO_15; clear HO_17; clear HO_23; clear HO_204; clear HB; have HO_15 := n0_; have HO_17 := n1_; have HO_23 := n2_; have HO_204 := n3_; have HB := n4_; have BK488 := n5_; have GW488 := n6_; have GE488 := n7_; clear n0_ n1_ n2_ n3_ n4_ n5_ n6_ n7_; clear hb hbox hg; have hcz101_0 : w100.cell? ⟨gb488, 0, none⟩ = some (.int .i64 0) := (blk_cell BK488.out 0).trans rfl; have hcz101_1 : w100.cell? ⟨gb488, 1, none⟩ = some (.int .i64 0) := (blk_cell BK488.out 1).trans rfl; have hcz101_2 : w100.cell? ⟨gb488, 2, none⟩ = some (.string (⟨#[]⟩ : ByteArray)) := (blk_cell BK488.out 2).trans rfl; have hfz101_0 := blk_frozen BK488.out 0; have hfz101_1 := blk_frozen BK488.out 1; have hfz101_2 := blk_frozen BK488.out 2) | (go_at_call 42; (with_reducible refine (impl_MatchesGloss.calls k3 t448 ((rd_T66 t447 x206_3).f2) t489 true _ A95.out).mono ?_); rintro e w102 ⟨rfl, hb⟩; have n0_ := Aside0.mk (Kd.R_below (by (with_reducible repeat (first | apply rA_ | apply rN_ | apply rD_)); exact (Kd.R_mono (Kd.R_far (p := ⟨gb488, 2, none⟩) (Kd.R_far (p := ⟨gb488, 1, none⟩) (Kd.R_far (p := ⟨gb488, 0, none⟩) (Kd.R_types HO_15.out BK488.out (by decide)) (fun _ hk => hk.2) (.int .i64 ((rd_T66 t447 x206_3).f0))) (fun _ hk => hk.2) (.int .i64 ((rd_T66 t447 x206_3).f1))) (fun _ hk => hk.2) (.string ((rd_T66 t447 x206_3).f2))) (fun _ h_ => h_.1))) hb); have n1_ := Aside0.mk (Kd.R_below (by (with_reducible repeat (first | apply rA_ | apply rN_ | apply rD_)); exact (Kd.R_mono (Kd.R_far (p := ⟨gb488, 2, none⟩) (Kd.R_far (p := ⟨gb488, 1, none⟩) (Kd.R_far (p := ⟨gb488, 0, none⟩) (Kd.R_mono HO_17.out (fun k_ hk => (⟨hk, hk.2⟩ : _ ∧ k_ ≠ gb488))) (fun _ hk => hk.2) (.int .i64 ((rd_T66 t447 x206_3).f0))) (fun _ hk => hk.2) (.int .i64 ((rd_T66 t447 x206_3).f1))) (fun _ hk => hk.2) (.string ((rd_T66 t447 x206_3).f2))) (fun _ h_ => h_.1))) hb); have n2_ := Aside0.mk (Kd.S_below (by (with_reducible repeat (first | apply Kd.S_alloc | apply Kd.S_drewN | apply Kd.S_drew)); exact (Kd.S_mono (Kd.S_far (p := ⟨gb488, 2, none⟩) (Kd.S_far (p := ⟨gb488, 1, none⟩) (Kd.S_far (p := ⟨gb488, 0, none⟩) (Kd.S_types HO_23.out BK488.out (by decide)) (fun _ hk => hk.2) (.int .i64 ((rd_T66 t447 x206_3).f0))) (fun _ hk => hk.2) (.int .i64 ((rd_T66 t447 x206_3).f1))) (fun _ hk => hk.2) (.string ((rd_T66 t447 x206_3).f2))) (fun _ h_ => h_.1))) hb); have n3_ := Aside0.mk (Kd.R_below (by (with_reducible repeat (first | apply rA_ | apply rN_ | apply rD_)); exact (Kd.R_mono (Kd.R_far (p := ⟨gb488, 2, none⟩) (Kd.R_far (p := ⟨gb488, 1, none⟩) (Kd.R_far (p := ⟨gb488, 0, none⟩) (Kd.R_mono HO_204.out (fun k_ hk => (⟨hk, hk.2⟩ : _ ∧ k_ ≠ gb488))) (fun _ hk => hk.2) (.int .i64 ((rd_T66 t447 x206_3).f0))) (fun _ hk => hk.2) (.int .i64 ((rd_T66 t447 x206_3).f1))) (fun _ hk => hk.2) (.string ((rd_T66 t447 x206_3).f2))) (fun _ h_ => h_.1))) hb); have n4_ := Aside0.mk (blk_below (g := gb488) (o := .cells #[.int .i64 ((rd_T66 t447 x206_3).f0), .int .i64 ((rd_T66 t447 x206_3).f1), .string ((rd_T66 t447 x206_3).f2)] 66 (0, 0)) (by (with_reducible repeat (first | apply kN_ | apply kD_ | apply kA_)); refine blk_put (cs := #[.int .i64 ((rd_T66 t447 x206_3).f0), .int .i64 ((rd_T66 t447 x206_3).f1), .string (⟨#[]⟩ : ByteArray)]) ?_ 2 _ rfl; (with_reducible repeat (first | apply kN_ | apply kD_ | apply kA_)); refine blk_put (cs := #[.int .i64 ((rd_T66 t447 x206_3).f0), .int .i64 0, .string (⟨#[]⟩ : ByteArray)]) ?_ 1 _ rfl; (with_reducible repeat (first | apply kN_ | apply kD_ | apply kA_)); refine blk_put (cs := #[.int .i64 0, .int .i64 0, .string (⟨#[]⟩ : ByteArray)]) ?_ 0 _ rfl; (with_reducible repeat (first | apply kN_ | apply kD_ | apply kA_)); exact BK488.out) hb); have n5_ := Aside0.mk (below_step (by repeat (first | (with_reducible first | exact HB.out | apply lA_ | apply lN_ | apply lD_ | refine below_set ?_ GE488.out) | exact HB.out)) hb); clear HO_15; clear HO_17; clear HO_23; clear HO_204; clear BK488; clear HB; have HO_15 := n0_; have HO_17 := n1_; have HO_23 := n2_; have HO_204 := n3_; have BK488 := n4_; have HB := n5_; clear n0_ n1_ n2_ n3_ n4_ n5_; (try clear hb); (try clear hk); have hcz103_0 : w102.cell? ⟨gb488, 0, none⟩ = some (.int .i64 ((rd_T66 t447 x206_3).f0)) := (blk_cell BK488.out 0).trans rfl; have hcz103_1 : w102.cell? ⟨gb488, 1, none⟩ = some (.int .i64 ((rd_T66 t447 x206_3).f1)) := (blk_cell BK488.out 1).trans rfl; have hcz103_2 : w102.cell? ⟨gb488, 2, none⟩ = some (.string ((rd_T66 t447 x206_3).f2)) := (blk_cell BK488.out 2).trans rfl; have hfz103_0 := blk_frozen BK488.out 0; have hfz103_1 := blk_frozen BK488.out 1; have hfz103_2 := blk_frozen BK488.out 2) | (go_at_call 43; (with_reducible refine (spec_MatchesGloss.calls k3 t448 ((rd_T66 t447 x206_3).f2) t491 true _ A96.out).mono ?_); rintro e w104 ⟨rfl, hb⟩; have n0_ := Aside0.mk (Kd.R_below (by (with_reducible repeat (first | apply rA_ | apply rN_ | apply rD_)); exact HO_15.out) hb); have n1_ := Aside0.mk (Kd.R_below (by (with_reducible repeat (first | apply rA_ | apply rN_ | apply rD_)); exact HO_17.out) hb); have n2_ := Aside0.mk (Kd.S_below (by (with_reducible repeat (first | apply Kd.S_alloc | apply Kd.S_drewN | apply Kd.S_drew)); exact HO_23.out) hb); have n3_ := Aside0.mk (Kd.R_below (by (with_reducible repeat (first | apply rA_ | apply rN_ | apply rD_)); exact HO_204.out) hb); have n4_ := Aside0.mk (blk_below (g := gb488) (o := .cells #[.int .i64 ((rd_T66 t447 x206_3).f0), .int .i64 ((rd_T66 t447 x206_3).f1), .string ((rd_T66 t447 x206_3).f2)] 66 (0, 0)) (by (with_reducible repeat (first | apply kN_ | apply kD_ | apply kA_)); exact BK488.out) hb); have n5_ := Aside0.mk (below_step (by repeat (first | (with_reducible first | exact HB.out | apply lA_ | apply lN_ | apply lD_ | refine below_set ?_ GE488.out) | exact HB.out)) hb); clear HO_15; clear HO_17; clear HO_23; clear HO_204; clear BK488; clear HB; have HO_15 := n0_; have HO_17 := n1_; have HO_23 := n2_; have HO_204 := n3_; have BK488 := n4_; have HB := n5_; clear n0_ n1_ n2_ n3_ n4_ n5_; (try clear hb); (try clear hk)) | (go_quiet (fail)))
          go_ret
          exact ⟨by first | rfl | (simp [errW_none, errW_some] <;> rfl) | (simp [*, errW_none, errW_some] <;> rfl), by repeat (first | (with_reducible first | exact HB.out | apply lA_ | apply lN_ | apply lD_ | refine below_set ?_ GE488.out) | exact HB.out)⟩
        rw [if_neg c99] at H
        have c99b0 : (t489 != t491) = false := by simpa using c99
        (try (have c99b1 : decide (t489 = t491) = true := by simpa using c99))
        (try (have c99b2 : (t489 == t491) = true := by simpa using c99))
        clear c99
        replace H := Option.bind_eq_some_iff.mp H
        obtain ⟨t493, A1050, H⟩ := H
        (try dsimp only at H)
        have A105 := Aside0.mk A1050
        clear A1050
        by_cases c106 : (t493 != t491) = true
        ·rw [if_pos c106] at H
         have c106b0 : (t493 != t491) = true := c106
         (try (have c106b1 : decide (t493 = t491) = false := by simpa using c106))
         (try (have c106b2 : (t493 == t491) = false := by simpa using c106))
         (try (have c106b3 : ¬ (t493 = t491) := by simpa using c106))
         clear c106
         as_aux_lemma =>
          obtain rfl := Option.some.inj H
          have p487 : 0 ≤ (x206_3 : Int) := ode_
          have q487 : x206_3 < (t447.length : Int) := ode_
          obtain ⟨ad487, e487, hx487_0, hx487_1, hx487_2⟩ := at_T66 (Kd.R_reads' HO_204.out).2.2 x206_3 p487 q487
          cases e487
          replace p487 := eq_true p487
          replace q487 := eq_true q487
          go_wp2_with (first | ((with_reducible refine gate_dst (N := 38) rfl ?_); refine box_event ?hg (N := 38) ?hd (cs := #[.int .i64 0, .int .i64 0, .string (⟨#[]⟩ : ByteArray)]) (t := 66) ?hr ?_; (case hd => rfl); (case hg => rfl); (case hr => first | (go_simp; done) | (go_simp; rfl)); intro gb488 hg w107 hbox hb; have n0_ := Aside0.mk (Kd.R_below (by (with_reducible repeat (first | apply rA_ | apply rN_ | apply rD_)); exact HO_15.out) hb); have n1_ := Aside0.mk (Kd.R_below (Kd.R_elderB (by (with_reducible repeat (first | apply rA_ | apply rN_ | apply rD_)); exact HO_17.out) gb488 (Nat.le_of_eq hg.symm)) hb); have n2_ := Aside0.mk (Kd.S_below (by (with_reducible repeat (first | apply Kd.S_alloc | apply Kd.S_drewN | apply Kd.S_drew)); exact HO_23.out) hb); have n3_ := Aside0.mk (Kd.R_below (Kd.R_elderB (by (with_reducible repeat (first | apply rA_ | apply rN_ | apply rD_)); exact HO_204.out) gb488 (Nat.le_of_eq hg.symm)) hb); have n4_ := Aside0.mk (below_step (by repeat (first | (with_reducible first | exact HB.out | apply lA_ | apply lN_ | apply lD_) | exact HB.out)) hb); have n5_ := Aside0.mk (hbox); have n6_ := Aside0.mk ((by rw [hg]; exact (below_size (by repeat (first | (with_reducible first | exact HB.out | apply lA_ | apply lN_ | apply lD_) | exact HB.out))) : w.heap.size ≤ gb488)); have n7_ := n6_; clear HO_15; clear HO_17; clear HO_23; clear HO_204; clear HB; have HO_15 := n0_; have HO_17 := n1_; have HO_23 := n2_; have HO_204 := n3_; have HB := n4_; have BK488 := n5_; have GW488 := n6_; have GE488 := n7_; clear n0_ n1_ n2_ n3_ n4_ n5_ n6_ n7_; clear hb hbox hg; have hcz108_0 : w107.cell? ⟨gb488, 0, none⟩ = some (.int .i64 0) := (blk_cell BK488.out 0).trans rfl; have hcz108_1 : w107.cell? ⟨gb488, 1, none⟩ = some (.int .i64 0) := (blk_cell BK488.out 1).trans rfl; have hcz108_2 : w107.cell? ⟨gb488, 2, none⟩ = some (.string (⟨#[]⟩ : ByteArray)) := (blk_cell BK488.out 2).trans rfl; have hfz108_0 := blk_frozen BK488.out 0; have hfz108_1 := blk_frozen BK488.out 1; have hfz108_2 := blk_frozen BK488.out 2) | (go_at_call 42; (with_reducible refine (impl_MatchesGloss.calls k3 t448 ((rd_T66 t447 x206_3).f2) t489 true _ A95.out).mono ?_); rintro e w109 ⟨rfl, hb⟩; have n0_ := Aside0.mk (Kd.R_below (by (with_reducible repeat (first | apply rA_ | apply rN_ | apply rD_)); exact (Kd.R_mono (Kd.R_far (p := ⟨gb488, 2, none⟩) (Kd.R_far (p := ⟨gb488, 1, none⟩) (Kd.R_far (p := ⟨gb488, 0, none⟩) (Kd.R_types HO_15.out BK488.out (by decide)) (fun _ hk => hk.2) (.int .i64 ((rd_T66 t447 x206_3).f0))) (fun _ hk => hk.2) (.int .i64 ((rd_T66 t447 x206_3).f1))) (fun _ hk => hk.2) (.string ((rd_T66 t447 x206_3).f2))) (fun _ h_ => h_.1))) hb); have n1_ := Aside0.mk (Kd.R_below (by (with_reducible repeat (first | apply rA_ | apply rN_ | apply rD_)); exact (Kd.R_mono (Kd.R_far (p := ⟨gb488, 2, none⟩) (Kd.R_far (p := ⟨gb488, 1, none⟩) (Kd.R_far (p := ⟨gb488, 0, none⟩) (Kd.R_mono HO_17.out (fun k_ hk => (⟨hk, hk.2⟩ : _ ∧ k_ ≠ gb488))) (fun _ hk => hk.2) (.int .i64 ((rd_T66 t447 x206_3).f0))) (fun _ hk => hk.2) (.int .i64 ((rd_T66 t447 x206_3).f1))) (fun _ hk => hk.2) (.string ((rd_T66 t447 x206_3).f2))) (fun _ h_ => h_.1))) hb); have n2_ := Aside0.mk (Kd.S_below (by (with_reducible repeat (first | apply Kd.S_alloc | apply Kd.S_drewN | apply Kd.S_drew)); exact (Kd.S_mono (Kd.S_far (p := ⟨gb488, 2, none⟩) (Kd.S_far (p := ⟨gb488, 1, none⟩) (Kd.S_far (p := ⟨gb488, 0, none⟩) (Kd.S_types HO_23.out BK488.out (by decide)) (fun _ hk => hk.2) (.int .i64 ((rd_T66 t447 x206_3).f0))) (fun _ hk => hk.2) (.int .i64 ((rd_T66 t447 x206_3).f1))) (fun _ hk => hk.2) (.string ((rd_T66 t447 x206_3).f2))) (fun _ h_ => h_.1))) hb); have n3_ := Aside0.mk (Kd.R_below (by (with_reducible repeat (first | apply rA_ | apply rN_ | apply rD_)); exact (Kd.R_mono (Kd.R_far (p := ⟨gb488, 2, none⟩) (Kd.R_far (p := ⟨gb488, 1, none⟩) (Kd.R_far (p := ⟨gb488, 0, none⟩) (Kd.R_mono HO_204.out (fun k_ hk => (⟨hk, hk.2⟩ : _ ∧ k_ ≠ gb488))) (fun _ hk => hk.2) (.int .i64 ((rd_T66 t447 x206_3).f0))) (fun _ hk => hk.2) (.int .i64 ((rd_T66 t447 x206_3).f1))) (fun _ hk => hk.2) (.string ((rd_T66 t447 x206_3).f2))) (fun _ h_ => h_.1))) hb); have n4_ := Aside0.mk (blk_below (g := gb488) (o := .cells #[.int .i64 ((rd_T66 t447 x206_3).f0), .int .i64 ((rd_T66 t447 x206_3).f1), .string ((rd_T66 t447 x206_3).f2)] 66 (0, 0)) (by (with_reducible repeat (first | apply kN_ | apply kD_ | apply kA_)); refine blk_put (cs := #[.int .i64 ((rd_T66 t447 x206_3).f0), .int .i64 ((rd_T66 t447 x206_3).f1), .string (⟨#[]⟩ : ByteArray)]) ?_ 2 _ rfl; (with_reducible repeat (first | apply kN_ | apply kD_ | apply kA_)); refine blk_put (cs := #[.int .i64 ((rd_T66 t447 x206_3).f0), .int .i64 0, .string (⟨#[]⟩ : ByteArray)]) ?_ 1 _ rfl; (with_reducible repeat (first | apply kN_ | apply kD_ | apply kA_)); refine blk_put (cs := #[.int .i64 0, .int .i64 0, .string (⟨#[]⟩ : ByteArray)]) ?_ 0 _ rfl; (with_reducible repeat (first | apply kN_ | apply kD_ | apply kA_)); exact BK488.out) hb); have n5_ := Aside0.mk (below_step (by repeat (first | (with_reducible first | exact HB.out | apply lA_ | apply lN_ | apply lD_ | refine below_set ?_ GE488.out) | exact HB.out)) hb); clear HO_15; clear HO_17; clear HO_23; clear HO_204; clear BK488; clear HB; have HO_15 := n0_; have HO_17 := n1_; have HO_23 := n2_; have HO_204 := n3_; have BK488 := n4_; have HB := n5_; clear n0_ n1_ n2_ n3_ n4_ n5_; (try clear hb); (try clear hk); have hcz110_0 : w109.cell? ⟨gb488, 0, none⟩ = some (.int .i64 ((rd_T66 t447 x206_3).f0)) := (blk_cell BK488.out 0).trans rfl; have hcz110_1 : w109.cell? ⟨gb488, 1, none⟩ = some (.int .i64 ((rd_T66 t447 x206_3).f1)) := (blk_cell BK488.out 1).trans rfl; have hcz110_2 : w109.cell? ⟨gb488, 2, none⟩ = some (.string ((rd_T66 t447 x206_3).f2)) := (blk_cell BK488.out 2).trans rfl; have hfz110_0 := blk_frozen BK488.out 0; have hfz110_1 := blk_frozen BK488.out 1; have hfz110_2 := blk_frozen BK488.out 2) | (go_at_call 43; (with_reducible refine (spec_MatchesGloss.calls k3 t448 ((rd_T66 t447 x206_3).f2) t491 true _ A96.out).mono ?_); rintro e w111 ⟨rfl, hb⟩; have n0_ := Aside0.mk (Kd.R_below (by (with_reducible repeat (first | apply rA_ | apply rN_ | apply rD_)); exact HO_15.out) hb); have n1_ := Aside0.mk (Kd.R_below (by (with_reducible repeat (first | apply rA_ | apply rN_ | apply rD_)); exact HO_17.out) hb); have n2_ := Aside0.mk (Kd.S_below (by (with_reducible repeat (first | apply Kd.S_alloc | apply Kd.S_drewN | apply Kd.S_drew)); exact HO_23.out) hb); have n3_ := Aside0.mk (Kd.R_below (by (with_reducible repeat (first | apply rA_ | apply rN_ | apply rD_)); exact HO_204.out) hb); have n4_ := Aside0.mk (blk_below (g := gb488) (o := .cells #[.int .i64 ((rd_T66 t447 x206_3).f0), .int .i64 ((rd_T66 t447 x206_3).f1), .string ((rd_T66 t447 x206_3).f2)] 66 (0, 0)) (by (with_reducible repeat (first | apply kN_ | apply kD_ | apply kA_)); exact BK488.out) hb); have n5_ := Aside0.mk (below_step (by repeat (first | (with_reducible first | exact HB.out | apply lA_ | apply lN_ | apply lD_ | refine below_set ?_ GE488.out) | exact HB.out)) hb); clear HO_15; clear HO_17; clear HO_23; clear HO_204; clear BK488; clear HB; have HO_15 := n0_; have HO_17 := n1_; have HO_23 := n2_; have HO_204 := n3_; have BK488 := n4_; have HB := n5_; clear n0_ n1_ n2_ n3_ n4_ n5_; (try clear hb); (try clear hk); obtain ⟨Ao112, co112, eo112⟩ := Kd.R_slice HO_15.out; subst eo112) | (go_at_call 46; (with_reducible refine (laws_qHas.calls k3 _ _ t455 x206_3 t493 _ ?side1 ?side2 A105.out).mono ?_); (case side1 => repeat (first | exact (Kd.R_reads' HO_15.out).2.2 | (with_reducible first | apply cA_ | apply cN_ | apply cD_))); (case side2 => exact (Kd.R_reads' HO_15.out).2.1); rintro e w' ⟨rfl, ⟨nd, rfl⟩⟩; (try first | exact ⟨rfl, _, World.drewN_drewN _ _ _⟩ | exact ⟨rfl, _, Eq.trans (World.drewN_drewN _ _ _) (congrArg (World.drewN _) (Nat.add_assoc _ _ _))⟩)) | (go_quiet (first | (go_at_call 46; (with_reducible refine (laws_qHas.calls k3 _ _ t455 x206_3 t493 _ ?side1 ?side2 A105.out).mono ?_); (case side1 => repeat (first | exact (Kd.R_reads' HO_15.out).2.2 | (with_reducible first | apply cA_ | apply cN_ | apply cD_))); (case side2 => exact (Kd.R_reads' HO_15.out).2.1); rintro e w' ⟨rfl, ⟨nd, rfl⟩⟩; (try first | exact ⟨rfl, _, World.drewN_drewN _ _ _⟩ | exact ⟨rfl, _, Eq.trans (World.drewN_drewN _ _ _) (congrArg (World.drewN _) (Nat.add_assoc _ _ _))⟩)))))
          go_ret
          exact ⟨by first | rfl | (simp [errW_none, errW_some] <;> rfl) | (simp [*, errW_none, errW_some] <;> rfl), by repeat (first | (with_reducible first | exact HB.out | apply lA_ | apply lN_ | apply lD_ | refine below_set ?_ GE488.out) | exact HB.out)⟩
        rw [if_neg c106] at H
        have c106b0 : (t493 != t491) = false := by simpa using c106
        (try (have c106b1 : decide (t493 = t491) = true := by simpa using c106))
        (try (have c106b2 : (t493 == t491) = true := by simpa using c106))
        clear c106
        as_aux_lemma =>
         have H' := Aside0.mk H
         clear H
         have p487 : 0 ≤ (x206_3 : Int) := ode_
         have q487 : x206_3 < (t447.length : Int) := ode_
         obtain ⟨ad487, e487, hx487_0, hx487_1, hx487_2⟩ := at_T66 (Kd.R_reads' HO_204.out).2.2 x206_3 p487 q487
         cases e487
         replace p487 := eq_true p487
         replace q487 := eq_true q487
         go_wp2_with (first | ((with_reducible refine gate_dst (N := 38) rfl ?_); refine box_event ?hg (N := 38) ?hd (cs := #[.int .i64 0, .int .i64 0, .string (⟨#[]⟩ : ByteArray)]) (t := 66) ?hr ?_; (case hd => rfl); (case hg => rfl); (case hr => first | (go_simp; done) | (go_simp; rfl)); intro gb488 hg w113 hbox hb; have n0_ := Aside0.mk (Kd.R_below (by (with_reducible repeat (first | apply rA_ | apply rN_ | apply rD_)); exact HO_15.out) hb); have n1_ := Aside0.mk (Kd.R_below (Kd.R_elderB (by (with_reducible repeat (first | apply rA_ | apply rN_ | apply rD_)); exact HO_17.out) gb488 (Nat.le_of_eq hg.symm)) hb); have n2_ := Aside0.mk (Kd.S_below (by (with_reducible repeat (first | apply Kd.S_alloc | apply Kd.S_drewN | apply Kd.S_drew)); exact HO_23.out) hb); have n3_ := Aside0.mk (Kd.R_below (Kd.R_elderB (by (with_reducible repeat (first | apply rA_ | apply rN_ | apply rD_)); exact HO_204.out) gb488 (Nat.le_of_eq hg.symm)) hb); have n4_ := Aside0.mk (below_step (by repeat (first | (with_reducible first | exact HB.out | apply lA_ | apply lN_ | apply lD_) | exact HB.out)) hb); have n5_ := Aside0.mk (hbox); have n6_ := Aside0.mk ((by rw [hg]; exact (below_size (by repeat (first | (with_reducible first | exact HB.out | apply lA_ | apply lN_ | apply lD_) | exact HB.out))) : w.heap.size ≤ gb488)); have n7_ := n6_; clear HO_15; clear HO_17; clear HO_23; clear HO_204; clear HB; have HO_15 := n0_; have HO_17 := n1_; have HO_23 := n2_; have HO_204 := n3_; have HB := n4_; have BK488 := n5_; have GW488 := n6_; have GE488 := n7_; clear n0_ n1_ n2_ n3_ n4_ n5_ n6_ n7_; clear hb hbox hg; have hcz114_0 : w113.cell? ⟨gb488, 0, none⟩ = some (.int .i64 0) := (blk_cell BK488.out 0).trans rfl; have hcz114_1 : w113.cell? ⟨gb488, 1, none⟩ = some (.int .i64 0) := (blk_cell BK488.out 1).trans rfl; have hcz114_2 : w113.cell? ⟨gb488, 2, none⟩ = some (.string (⟨#[]⟩ : ByteArray)) := (blk_cell BK488.out 2).trans rfl; have hfz114_0 := blk_frozen BK488.out 0; have hfz114_1 := blk_frozen BK488.out 1; have hfz114_2 := blk_frozen BK488.out 2) | (go_at_call 42; (with_reducible refine (impl_MatchesGloss.calls k3 t448 ((rd_T66 t447 x206_3).f2) t489 true _ A95.out).mono ?_); rintro e w115 ⟨rfl, hb⟩; have n0_ := Aside0.mk (Kd.R_below (by (with_reducible repeat (first | apply rA_ | apply rN_ | apply rD_)); exact (Kd.R_mono (Kd.R_far (p := ⟨gb488, 2, none⟩) (Kd.R_far (p := ⟨gb488, 1, none⟩) (Kd.R_far (p := ⟨gb488, 0, none⟩) (Kd.R_types HO_15.out BK488.out (by decide)) (fun _ hk => hk.2) (.int .i64 ((rd_T66 t447 x206_3).f0))) (fun _ hk => hk.2) (.int .i64 ((rd_T66 t447 x206_3).f1))) (fun _ hk => hk.2) (.string ((rd_T66 t447 x206_3).f2))) (fun _ h_ => h_.1))) hb); have n1_ := Aside0.mk (Kd.R_below (by (with_reducible repeat (first | apply rA_ | apply rN_ | apply rD_)); exact (Kd.R_mono (Kd.R_far (p := ⟨gb488, 2, none⟩) (Kd.R_far (p := ⟨gb488, 1, none⟩) (Kd.R_far (p := ⟨gb488, 0, none⟩) (Kd.R_mono HO_17.out (fun k_ hk => (⟨hk, hk.2⟩ : _ ∧ k_ ≠ gb488))) (fun _ hk => hk.2) (.int .i64 ((rd_T66 t447 x206_3).f0))) (fun _ hk => hk.2) (.int .i64 ((rd_T66 t447 x206_3).f1))) (fun _ hk => hk.2) (.string ((rd_T66 t447 x206_3).f2))) (fun _ h_ => h_.1))) hb); have n2_ := Aside0.mk (Kd.S_below (by (with_reducible repeat (first | apply Kd.S_alloc | apply Kd.S_drewN | apply Kd.S_drew)); exact (Kd.S_mono (Kd.S_far (p := ⟨gb488, 2, none⟩) (Kd.S_far (p := ⟨gb488, 1, none⟩) (Kd.S_far (p := ⟨gb488, 0, none⟩) (Kd.S_types HO_23.out BK488.out (by decide)) (fun _ hk => hk.2) (.int .i64 ((rd_T66 t447 x206_3).f0))) (fun _ hk => hk.2) (.int .i64 ((rd_T66 t447 x206_3).f1))) (fun _ hk => hk.2) (.string ((rd_T66 t447 x206_3).f2))) (fun _ h_ => h_.1))) hb); have n3_ := Aside0.mk (Kd.R_below (by (with_reducible repeat (first | apply rA_ | apply rN_ | apply rD_)); exact (Kd.R_mono (Kd.R_far (p := ⟨gb488, 2, none⟩) (Kd.R_far (p := ⟨gb488, 1, none⟩) (Kd.R_far (p := ⟨gb488, 0, none⟩) (Kd.R_mono HO_204.out (fun k_ hk => (⟨hk, hk.2⟩ : _ ∧ k_ ≠ gb488))) (fun _ hk => hk.2) (.int .i64 ((rd_T66 t447 x206_3).f0))) (fun _ hk => hk.2) (.int .i64 ((rd_T66 t447 x206_3).f1))) (fun _ hk => hk.2) (.string ((rd_T66 t447 x206_3).f2))) (fun _ h_ => h_.1))) hb); have n4_ := Aside0.mk (blk_below (g := gb488) (o := .cells #[.int .i64 ((rd_T66 t447 x206_3).f0), .int .i64 ((rd_T66 t447 x206_3).f1), .string ((rd_T66 t447 x206_3).f2)] 66 (0, 0)) (by (with_reducible repeat (first | apply kN_ | apply kD_ | apply kA_)); refine blk_put (cs := #[.int .i64 ((rd_T66 t447 x206_3).f0), .int .i64 ((rd_T66 t447 x206_3).f1), .string (⟨#[]⟩ : ByteArray)]) ?_ 2 _ rfl; (with_reducible repeat (first | apply kN_ | apply kD_ | apply kA_)); refine blk_put (cs := #[.int .i64 ((rd_T66 t447 x206_3).f0), .int .i64 0, .string (⟨#[]⟩ : ByteArray)]) ?_ 1 _ rfl; (with_reducible repeat (first | apply kN_ | apply kD_ | apply kA_)); refine blk_put (cs := #[.int .i64 0, .int .i64 0, .string (⟨#[]⟩ : ByteArray)]) ?_ 0 _ rfl; (with_reducible repeat (first | apply kN_ | apply kD_ | apply kA_)); exact BK488.out) hb); have n5_ := Aside0.mk (below_step (by repeat (first | (with_reducible first | exact HB.out | apply lA_ | apply lN_ | apply lD_ | refine below_set ?_ GE488.out) | exact HB.out)) hb); clear HO_15; clear HO_17; clear HO_23; clear HO_204; clear BK488; clear HB; have HO_15 := n0_; have HO_17 := n1_; have HO_23 := n2_; have HO_204 := n3_; have BK488 := n4_; have HB := n5_; clear n0_ n1_ n2_ n3_ n4_ n5_; (try clear hb); (try clear hk); have hcz116_0 : w115.cell? ⟨gb488, 0, none⟩ = some (.int .i64 ((rd_T66 t447 x206_3).f0)) := (blk_cell BK488.out 0).trans rfl; have hcz116_1 : w115.cell? ⟨gb488, 1, none⟩ = some (.int .i64 ((rd_T66 t447 x206_3).f1)) := (blk_cell BK488.out 1).trans rfl; have hcz116_2 : w115.cell? ⟨gb488, 2, none⟩ = some (.string ((rd_T66 t447 x206_3).f2)) := (blk_cell BK488.out 2).trans rfl; have hfz116_0 := blk_frozen BK488.out 0; have hfz116_1 := blk_frozen BK488.out 1; have hfz116_2 := blk_frozen BK488.out 2) | (go_at_call 43; (with_reducible refine (spec_MatchesGloss.calls k3 t448 ((rd_T66 t447 x206_3).f2) t491 true _ A96.out).mono ?_); rintro e w117 ⟨rfl, hb⟩; have n0_ := Aside0.mk (Kd.R_below (by (with_reducible repeat (first | apply rA_ | apply rN_ | apply rD_)); exact HO_15.out) hb); have n1_ := Aside0.mk (Kd.R_below (by (with_reducible repeat (first | apply rA_ | apply rN_ | apply rD_)); exact HO_17.out) hb); have n2_ := Aside0.mk (Kd.S_below (by (with_reducible repeat (first | apply Kd.S_alloc | apply Kd.S_drewN | apply Kd.S_drew)); exact HO_23.out) hb); have n3_ := Aside0.mk (Kd.R_below (by (with_reducible repeat (first | apply rA_ | apply rN_ | apply rD_)); exact HO_204.out) hb); have n4_ := Aside0.mk (blk_below (g := gb488) (o := .cells #[.int .i64 ((rd_T66 t447 x206_3).f0), .int .i64 ((rd_T66 t447 x206_3).f1), .string ((rd_T66 t447 x206_3).f2)] 66 (0, 0)) (by (with_reducible repeat (first | apply kN_ | apply kD_ | apply kA_)); exact BK488.out) hb); have n5_ := Aside0.mk (below_step (by repeat (first | (with_reducible first | exact HB.out | apply lA_ | apply lN_ | apply lD_ | refine below_set ?_ GE488.out) | exact HB.out)) hb); clear HO_15; clear HO_17; clear HO_23; clear HO_204; clear BK488; clear HB; have HO_15 := n0_; have HO_17 := n1_; have HO_23 := n2_; have HO_204 := n3_; have BK488 := n4_; have HB := n5_; clear n0_ n1_ n2_ n3_ n4_ n5_; (try clear hb); (try clear hk); obtain ⟨Ao118, co118, eo118⟩ := Kd.R_slice HO_15.out; subst eo118) | (go_at_call 46; (with_reducible refine (laws_qHas.calls k3 _ _ t455 x206_3 t493 _ ?side1 ?side2 A105.out).mono ?_); (case side1 => repeat (first | exact (Kd.R_reads' HO_15.out).2.2 | (with_reducible first | apply cA_ | apply cN_ | apply cD_))); (case side2 => exact (Kd.R_reads' HO_15.out).2.1); rintro e w' ⟨rfl, ⟨nd, rfl⟩⟩; (try first | exact ⟨rfl, _, World.drewN_drewN _ _ _⟩ | exact ⟨rfl, _, Eq.trans (World.drewN_drewN _ _ _) (congrArg (World.drewN _) (Nat.add_assoc _ _ _))⟩)) | (go_quiet (first | (go_at_call 46; (with_reducible refine (laws_qHas.calls k3 _ _ t455 x206_3 t493 _ ?side1 ?side2 A105.out).mono ?_); (case side1 => repeat (first | exact (Kd.R_reads' HO_15.out).2.2 | (with_reducible first | apply cA_ | apply cN_ | apply cD_))); (case side2 => exact (Kd.R_reads' HO_15.out).2.1); rintro e w' ⟨rfl, ⟨nd, rfl⟩⟩; (try first | exact ⟨rfl, _, World.drewN_drewN _ _ _⟩ | exact ⟨rfl, _, Eq.trans (World.drewN_drewN _ _ _) (congrArg (World.drewN _) (Nat.add_assoc _ _ _))⟩)))))
         go_roundg k3
         case measure => have := HJ15.out; have := HK2.out; have := HK3.out; omega
         case rel => exact ⟨(wrap64 (x206_3 + 1)), (by first | rfl | (simp; done) | (simp [*]; done)), H', ⟨by have := HJ15.out; have := HK2.out; have := HK3.out; omega⟩, ⟨by (with_reducible repeat (first | apply rA_ | apply rN_ | apply rD_)); exact HO_15.out⟩, ⟨by (with_reducible repeat (first | apply rA_ | apply rN_ | apply rD_)); exact Kd.R_mono HO_17.out (fun _ hk => hk.1)⟩, ⟨by (with_reducible repeat (first | apply Kd.S_alloc | apply Kd.S_drewN | apply Kd.S_drew)); exact HO_23.out⟩, ⟨by (with_reducible repeat (first | apply rA_ | apply rN_ | apply rD_)); exact Kd.R_mono HO_204.out (fun _ hk => hk.1)⟩, ⟨by repeat (first | (with_reducible first | exact HB.out | apply lA_ | apply lN_ | apply lD_ | refine below_set ?_ GE488.out) | exact HB.out)⟩⟩
     case rest =>
      clear HC90
      (try clear c1);(try clear c3);(try clear c3b0);(try clear c73);(try clear c75);(try clear c75b0)
      obtain ⟨kq, HA, HJ89, HO_17, HO_23, HB⟩ := hcut
      cases kq with
      | zero => exact absurd HA.out (by simp [laws_FnQueries.j4])
      | succ kj89 =>
       have H := HA.out
       clear HA
       simp only [laws_FnQueries.j4] at H
       have H' := Aside0.mk H
       clear H
       obtain ⟨Ao129, co129, eo129⟩ := Kd.S_slice HO_23.out
       subst eo129
       go_wp2
       repeat (go_quiet (fail); try go_wp2)
       go_loopg [246] kj89 (fun kq v246 w' => ∃ (x246_4 : Int), v246 = .int .i64 x246_4 ∧ Aside0 (laws_FnQueries.l3 kq t459 t462 t474 t476 t469 (t469.length : Int) x246_4 = some r) ∧ Aside0 (kq ≤ kj89) ∧ Aside0 (Kd.R k66 66 w' w.heap.size (fun _ => True) (.slice Ao27 t459.length co27) t459) ∧ Aside0 (Kd.S (Kd.slice 3 (Kd.int .i64)) 37 w' w.heap.size (fun _ => True) (.slice Ao129 t469.length co129) t469) ∧ Aside0 (Below w.heap.size w w'))
       case atStart => exact ⟨(0), (by first | rfl | (simp; done) | (simp [*]; done)), H', ⟨Nat.le_refl _⟩, ⟨by (with_reducible repeat (first | apply rA_ | apply rN_ | apply rD_)); exact HO_17.out⟩, ⟨by (with_reducible repeat (first | apply Kd.S_alloc | apply Kd.S_drewN | apply Kd.S_drew)); exact HO_23.out⟩, ⟨by repeat (first | (with_reducible first | exact HB.out | apply lA_ | apply lN_ | apply lD_) | exact HB.out)⟩⟩
       case round =>
        clear H'
        (try clear c1);(try clear c3);(try clear c3b0);(try clear c73);(try clear c75);(try clear c75b0)
        obtain ⟨x246_4, rfl, HA, HK4, HO_17, HO_244, HB⟩ := hrel
        cases gk with
        | zero => exact absurd HA.out (by simp [laws_FnQueries.l3])
        | succ k4 =>
         have H := HA.out
         clear HA
         simp only [laws_FnQueries.l3] at H
         by_cases c130 : x246_4 < (t469.length : Int)
         rotate_left
         ·rw [if_neg c130] at H
          have c130b0 : decide (x246_4 < (t469.length : Int)) = false := decide_eq_false c130
          clear c130
          by_cases c141 : t476 = true
          rotate_left
          ·replace c141 := Bool.eq_false_iff.mpr c141
           subst c141
           have H1 : (some true) = some r := by rw [if_neg (show ¬ (false = true) by decide)] at H; exact H
           clear H
           have H := H1
           clear H1
           as_aux_lemma =>
            obtain rfl := Option.some.inj H
            go_wp2
            repeat (go_quiet (fail); try go_wp2)
            go_ret
            exact ⟨by first | rfl | (simp [errW_none, errW_some] <;> rfl) | (simp [*, errW_none, errW_some] <;> rfl), by repeat (first | (with_reducible first | exact HB.out | apply lA_ | apply lN_ | apply lD_) | exact HB.out)⟩
          subst c141
          have H1 : ((impl_MatchesGloss.f k4 (⟨#[42]⟩ : ByteArray) t474).bind fun bt501 => ((impl_MatchesGloss.f k4 t474 t474).bind fun bt503 => (if bt501.2 = true then (if bt501.1 = true then (if bt503.2 = true then (some bt503.1) else (some false)) else (some false)) else (some false)))) = some r := by rw [if_pos rfl] at H; exact H
          clear H
          have H := H1
          clear H1
          replace H := Option.bind_eq_some_iff.mp H
          obtain ⟨⟨t501, t502⟩, A1420, H⟩ := H
          (try dsimp only at H)
          have A142 := Aside0.mk A1420
          clear A1420
          replace H := Option.bind_eq_some_iff.mp H
          obtain ⟨⟨t503, t504⟩, A1430, H⟩ := H
          (try dsimp only at H)
          have A143 := Aside0.mk A1430
          clear A1430
          by_cases c144 : t502 = true
          rotate_left
          ·replace c144 := Bool.eq_false_iff.mpr c144
           subst c144
           have H1 : (some false) = some r := by rw [if_neg (show ¬ (false = true) by decide)] at H; exact H
           clear H
           have H := H1
           clear H1
           as_aux_lemma =>
            obtain rfl := Option.some.inj H
            go_wp2_with (first | (go_at_call 42; (with_reducible refine (impl_MatchesGloss.calls k4 (⟨#[42]⟩ : ByteArray) t474 t501 false _ A142.out).mono ?_); rintro e w153 ⟨rfl, hb⟩; have n0_ := Aside0.mk (Kd.R_below (by (with_reducible repeat (first | apply rA_ | apply rN_ | apply rD_)); exact HO_17.out) hb); have n1_ := Aside0.mk (Kd.S_below (by (with_reducible repeat (first | apply Kd.S_alloc | apply Kd.S_drewN | apply Kd.S_drew)); exact HO_244.out) hb); have n2_ := Aside0.mk (below_step (by repeat (first | (with_reducible first | exact HB.out | apply lA_ | apply lN_ | apply lD_) | exact HB.out)) hb); clear HO_17; clear HO_244; clear HB; have HO_17 := n0_; have HO_244 := n1_; have HB := n2_; clear n0_ n1_ n2_; (try clear hb)) | (go_at_call 42; (with_reducible refine (impl_MatchesGloss.calls k4 t474 t474 t503 t504 _ A143.out).mono ?_); rintro e w154 ⟨rfl, hb⟩; have n0_ := Aside0.mk (Kd.R_below (by (with_reducible repeat (first | apply rA_ | apply rN_ | apply rD_)); exact HO_17.out) hb); have n1_ := Aside0.mk (Kd.S_below (by (with_reducible repeat (first | apply Kd.S_alloc | apply Kd.S_drewN | apply Kd.S_drew)); exact HO_244.out) hb); have n2_ := Aside0.mk (below_step (by repeat (first | (with_reducible first | exact HB.out | apply lA_ | apply lN_ | apply lD_) | exact HB.out)) hb); clear HO_17; clear HO_244; clear HB; have HO_17 := n0_; have HO_244 := n1_; have HB := n2_; clear n0_ n1_ n2_; (try clear hb)) | (go_quiet (fail)))
            go_ret
            exact ⟨by first | rfl | (simp [errW_none, errW_some] <;> rfl) | (simp [*, errW_none, errW_some] <;> rfl), by repeat (first | (with_reducible first | exact HB.out | apply lA_ | apply lN_ | apply lD_) | exact HB.out)⟩
          subst c144
          have H1 : (if t501 = true then (if t504 = true then (some t503) else (some false)) else (some false)) = some r := by rw [if_pos rfl] at H; exact H
          clear H
          have H := H1
          clear H1
          by_cases c145 : t501 = true
          rotate_left
          ·replace c145 := Bool.eq_false_iff.mpr c145
           subst c145
           have H1 : (some false) = some r := by rw [if_neg (show ¬ (false = true) by decide)] at H; exact H
           clear H
           have H := H1
           clear H1
           as_aux_lemma =>
            obtain rfl := Option.some.inj H
            go_wp2_with (first | (go_at_call 42; (with_reducible refine (impl_MatchesGloss.calls k4 (⟨#[42]⟩ : ByteArray) t474 false true _ A142.out).mono ?_); rintro e w151 ⟨rfl, hb⟩; have n0_ := Aside0.mk (Kd.R_below (by (with_reducible repeat (first | apply rA_ | apply rN_ | apply rD_)); exact HO_17.out) hb); have n1_ := Aside0.mk (Kd.S_below (by (with_reducible repeat (first | apply Kd.S_alloc | apply Kd.S_drewN | apply Kd.S_drew)); exact HO_244.out) hb); have n2_ := Aside0.mk (below_step (by repeat (first | (with_reducible first | exact HB.out | apply lA_ | apply lN_ | apply lD_) | exact HB.out)) hb); clear HO_17; clear HO_244; clear HB; have HO_17 := n0_; have HO_244 := n1_; have HB := n2_; clear n0_ n1_ n2_; (try clear hb)) | (go_at_call 42; (with_reducible refine (impl_MatchesGloss.calls k4 t474 t474 t503 t504 _ A143.out).mono ?_); rintro e w152 ⟨rfl, hb⟩; have n0_ := Aside0.mk (Kd.R_below (by (with_reducible repeat (first | apply rA_ | apply rN_ | apply rD_)); exact HO_17.out) hb); have n1_ := Aside0.mk (Kd.S_below (by (with_reducible repeat (first | apply Kd.S_alloc | apply Kd.S_drewN | apply Kd.S_drew)); exact HO_244.out) hb); have n2_ := Aside0.mk (below_step (by repeat (first | (with_reducible first | exact HB.out | apply lA_ | apply lN_ | apply lD_) | exact HB.out)) hb); clear HO_17; clear HO_244; clear HB; have HO_17 := n0_; have HO_244 := n1_; have HB := n2_; clear n0_ n1_ n2_; (try clear hb)) | (go_quiet (fail)))
            go_ret
            exact ⟨by first | rfl | (simp [errW_none, errW_some] <;> rfl) | (simp [*, errW_none, errW_some] <;> rfl), by repeat (first | (with_reducible first | exact HB.out | apply lA_ | apply lN_ | apply lD_) | exact HB.out)⟩
          subst c145
          have H1 : (if t504 = true then (some t503) else (some false)) = some r := by rw [if_pos rfl] at H; exact H
          clear H
          have H := H1
          clear H1
          by_cases c146 : t504 = true
          ·subst c146
           have H1 : (some t503) = some r := by rw [if_pos rfl] at H; exact H
           clear H
           have H := H1
           clear H1
           as_aux_lemma =>
            obtain rfl := Option.some.inj H
            go_wp2_with (first | (go_at_call 42; (with_reducible refine (impl_MatchesGloss.calls k4 (⟨#[42]⟩ : ByteArray) t474 true true _ A142.out).mono ?_); rintro e w147 ⟨rfl, hb⟩; have n0_ := Aside0.mk (Kd.R_below (by (with_reducible repeat (first | apply rA_ | apply rN_ | apply rD_)); exact HO_17.out) hb); have n1_ := Aside0.mk (Kd.S_below (by (with_reducible repeat (first | apply Kd.S_alloc | apply Kd.S_drewN | apply Kd.S_drew)); exact HO_244.out) hb); have n2_ := Aside0.mk (below_step (by repeat (first | (with_reducible first | exact HB.out | apply lA_ | apply lN_ | apply lD_) | exact HB.out)) hb); clear HO_17; clear HO_244; clear HB; have HO_17 := n0_; have HO_244 := n1_; have HB := n2_; clear n0_ n1_ n2_; (try clear hb)) | (go_at_call 42; (with_reducible refine (impl_MatchesGloss.calls k4 t474 t474 t503 true _ A143.out).mono ?_); rintro e w148 ⟨rfl, hb⟩; have n0_ := Aside0.mk (Kd.R_below (by (with_reducible repeat (first | apply rA_ | apply rN_ | apply rD_)); exact HO_17.out) hb); have n1_ := Aside0.mk (Kd.S_below (by (with_reducible repeat (first | apply Kd.S_alloc | apply Kd.S_drewN | apply Kd.S_drew)); exact HO_244.out) hb); have n2_ := Aside0.mk (below_step (by repeat (first | (with_reducible first | exact HB.out | apply lA_ | apply lN_ | apply lD_) | exact HB.out)) hb); clear HO_17; clear HO_244; clear HB; have HO_17 := n0_; have HO_244 := n1_; have HB := n2_; clear n0_ n1_ n2_; (try clear hb)) | (go_quiet (fail)))
            go_ret
            exact ⟨by first | rfl | (simp [errW_none, errW_some] <;> rfl) | (simp [*, errW_none, errW_some] <;> rfl), by repeat (first | (with_reducible first | exact HB.out | apply lA_ | apply lN_ | apply lD_) | exact HB.out)⟩
          replace c146 := Bool.eq_false_iff.mpr c146
          subst c146
          have H1 : (some false) = some r := by rw [if_neg (show ¬ (false = true) by decide)] at H; exact H
          clear H
          have H := H1
          clear H1
          as_aux_lemma =>
           obtain rfl := Option.some.inj H
           go_wp2_with (first | (go_at_call 42; (with_reducible refine (impl_MatchesGloss.calls k4 (⟨#[42]⟩ : ByteArray) t474 true true _ A142.out).mono ?_); rintro e w149 ⟨rfl, hb⟩; have n0_ := Aside0.mk (Kd.R_below (by (with_reducible repeat (first | apply rA_ | apply rN_ | apply rD_)); exact HO_17.out) hb); have n1_ := Aside0.mk (Kd.S_below (by (with_reducible repeat (first | apply Kd.S_alloc | apply Kd.S_drewN | apply Kd.S_drew)); exact HO_244.out) hb); have n2_ := Aside0.mk (below_step (by repeat (first | (with_reducible first | exact HB.out | apply lA_ | apply lN_ | apply lD_) | exact HB.out)) hb); clear HO_17; clear HO_244; clear HB; have HO_17 := n0_; have HO_244 := n1_; have HB := n2_; clear n0_ n1_ n2_; (try clear hb)) | (go_at_call 42; (with_reducible refine (impl_MatchesGloss.calls k4 t474 t474 t503 false _ A143.out).mono ?_); rintro e w150 ⟨rfl, hb⟩; have n0_ := Aside0.mk (Kd.R_below (by (with_reducible repeat (first | apply rA_ | apply rN_ | apply rD_)); exact HO_17.out) hb); have n1_ := Aside0.mk (Kd.S_below (by (with_reducible repeat (first | apply Kd.S_alloc | apply Kd.S_drewN | apply Kd.S_drew)); exact HO_244.out) hb); have n2_ := Aside0.mk (below_step (by repeat (first | (with_reducible first | exact HB.out | apply lA_ | apply lN_ | apply lD_) | exact HB.out)) hb); clear HO_17; clear HO_244; clear HB; have HO_17 := n0_; have HO_244 := n1_; have HB := n2_; clear n0_ n1_ n2_; (try clear hb)) | (go_quiet (fail)))
           go_ret
           exact ⟨by first | rfl | (simp [errW_none, errW_some] <;> rfl) | (simp [*, errW_none, errW_some] <;> rfl), by repeat (first | (with_reducible first | exact HB.out | apply lA_ | apply lN_ | apply lD_) | exact HB.out)⟩
         rw [if_pos c130] at H
         have c130b0 : decide (x246_4 < (t469.length : Int)) = true := decide_eq_true c130
         clear c130
         by_cases c131 : 0 ≤ x246_4
         rotate_left
         ·rw [if_neg c131] at H
          exact absurd H (by simp)
         rw [if_pos c131] at H
         have c131b0 : decide (0 ≤ x246_4) = true := decide_eq_true c131
         clear c131
         by_cases c132 : x246_4 < (t469.length : Int)
         rotate_left
         ·rw [if_neg c132] at H
          exact absurd H (by simp)
         rw [if_pos c132] at H
         have c132b0 : decide (x246_4 < (t469.length : Int)) = true := decide_eq_true c132
         clear c132
         by_cases c133 : 0 < ((rd_L4 t469 x246_4).length : Int)
         rotate_left
         ·rw [if_neg c133] at H
          exact absurd H (by simp)
         rw [if_pos c133] at H
         have c133b0 : decide (0 < ((rd_L4 t469 x246_4).length : Int)) = true := decide_eq_true c133
         have c133b1 : decide (0 < (rd_L4 t469 x246_4).length) = true := decide_eq_true (by omega)
         clear c133
         by_cases c134 : 1 < ((rd_L4 t469 x246_4).length : Int)
         rotate_left
         ·rw [if_neg c134] at H
          exact absurd H (by simp)
         rw [if_pos c134] at H
         have c134b0 : decide (1 < ((rd_L4 t469 x246_4).length : Int)) = true := decide_eq_true c134
         have c134b1 : decide (1 < (rd_L4 t469 x246_4).length) = true := decide_eq_true (by omega)
         clear c134
         by_cases c135 : (rd (rd_L4 t469 x246_4) 0) ≥ (rd (rd_L4 t469 x246_4) 1)
         ·rw [if_pos c135] at H
          have c135b0 : decide ((rd (rd_L4 t469 x246_4) 1) ≤ (rd (rd_L4 t469 x246_4) 0)) = true := decide_eq_true c135
          clear c135
          as_aux_lemma =>
           obtain rfl := Option.some.inj H
           have p494 : 0 ≤ (x246_4 : Int) := ode_
           have q494 : x246_4 < (t469.length : Int) := ode_
           obtain ⟨ad494, A494_0, c494_0, e494, hx494_0, hl494_0, hi494_0⟩ := at_L4 (Kd.S_reads' HO_244.out).2.2 x246_4 p494 q494
           cases e494
           obtain ⟨ce494, hce494, hMe494, hcc494⟩ := Kd.S_get HO_244.out [] x246_4 p494 (by first | exact q494 | exact ode_ | (have e_ := (Kd.S_reads' HO_244.out).1; omega))
           obtain ⟨ve494_0, rfl, ge494_0⟩ := hMe494
           have hv494_0 := hcc494 0 _ rfl
           rw [Nat.add_zero, show ((Kd.slice 3 (Kd.int .i64))).sz = 1 from rfl, Nat.mul_one] at hv494_0
           replace hv494_0 := Option.some.inj (hv494_0.symm.trans hx494_0)
           rw [hv494_0] at ge494_0
           have HL494_0 := Aside0.mk (show Kd.R (Kd.int .i64) 3 _ _ _ _ (rd_L4 t469 x246_4) from ge494_0)
           clear hv494_0 ge494_0
           clear hcc494 hce494
           have HR494_0 := Aside0.mk hi494_0
           have HC494_0 := Aside0.mk hl494_0
           clear hi494_0 hl494_0
           replace p494 := eq_true p494
           replace q494 := eq_true q494
           have p495 : 0 ≤ (0 : Int) := (by omega)
           have q495 : 0 < ((rd_L4 t469 x246_4).length : Int) := ode_
           obtain ⟨ad495, e495, hx495_0⟩ := Kd.at_int (by repeat (first | (with_reducible exact HR494_0.out) | (with_reducible first | apply cA_ | apply cN_ | apply cD_) | exact HR494_0.out)) 0 p495 q495
           cases e495
           have qi495 : (0 < (rd_L4 t469 x246_4).length) = True := eq_true (by omega)
           (try rw [show ((0 : Int)).toNat = 0 from rfl] at hx495_0)
           (try rw [Addr.add_zero'] at hx495_0)
           replace p495 := eq_true p495
           replace q495 := eq_true q495
           have p496 : 0 ≤ (1 : Int) := (by omega)
           have q496 : 1 < ((rd_L4 t469 x246_4).length : Int) := ode_
           obtain ⟨ad496, e496, hx496_0⟩ := Kd.at_int (by repeat (first | (with_reducible exact HR494_0.out) | (with_reducible first | apply cA_ | apply cN_ | apply cD_) | exact HR494_0.out)) 1 p496 q496
           obtain rfl : ad495 = ad496 := (by injection e496)
           (try simp only [show (1 : Int).toNat = 1 from rfl, Nat.reduceMul, Nat.reduceEqDiff, Go.Addr.add, ↓reduceIte] at hx496_0)
           have qi496 : (1 < (rd_L4 t469 x246_4).length) = True := eq_true (by omega)
           (try rw [show ((1 : Int)).toNat = 1 from rfl] at hx496_0)
           replace p496 := eq_true p496
           replace q496 := eq_true q496
           go_wp2
           repeat (go_quiet (fail); try go_wp2)
           go_ret
           exact ⟨by first | rfl | (simp [errW_none, errW_some] <;> rfl) | (simp [*, errW_none, errW_some] <;> rfl), by repeat (first | (with_reducible first | exact HB.out | apply lA_ | apply lN_ | apply lD_) | exact HB.out)⟩
         rw [if_neg c135] at H
         have c135b0 : decide ((rd (rd_L4 t469 x246_4) 1) ≤ (rd (rd_L4 t469 x246_4) 0)) = false := decide_eq_false c135
         clear c135
         by_cases c136 : 0 ≤ (rd (rd_L4 t469 x246_4) 1)
         rotate_left
         ·rw [if_neg c136] at H
          exact absurd H (by simp)
         rw [if_pos c136] at H
         have c136b0 : decide (0 ≤ (rd (rd_L4 t469 x246_4) 1)) = true := decide_eq_true c136
         clear c136
         by_cases c137 : (rd (rd_L4 t469 x246_4) 1) < (t459.length : Int)
         rotate_left
         ·rw [if_neg c137] at H
          exact absurd H (by simp)
         rw [if_pos c137] at H
         have c137b0 : decide ((rd (rd_L4 t469 x246_4) 1) < (t459.length : Int)) = true := decide_eq_true c137
         clear c137
         by_cases c138 : 0 ≤ (rd (rd_L4 t469 x246_4) 0)
         rotate_left
         ·rw [if_neg c138] at H
          exact absurd H (by simp)
         rw [if_pos c138] at H
         have c138b0 : decide (0 ≤ (rd (rd_L4 t469 x246_4) 0)) = true := decide_eq_true c138
         clear c138
         by_cases c139 : (rd (rd_L4 t469 x246_4) 0) < (t459.length : Int)
         rotate_left
         ·rw [if_neg c139] at H
          exact absurd H (by simp)
         rw [if_pos c139] at H
         have c139b0 : decide ((rd (rd_L4 t469 x246_4) 0) < (t459.length : Int)) = true := decide_eq_true c139
         clear c139
         by_cases c140 : (wrap64 (((rd_T66 t459 (rd (rd_L4 t469 x246_4) 1)).f0) - ((rd_T66 t459 (rd (rd_L4 t469 x246_4) 0)).f1))) > t462
         ·rw [if_pos c140] at H
          have c140b0 : decide (t462 < (wrap64 (((rd_T66 t459 (rd (rd_L4 t469 x246_4) 1)).f0) - ((rd_T66 t459 (rd (rd_L4 t469 x246_4) 0)).f1)))) = true := decide_eq_true c140
          clear c140
          as_aux_lemma =>
           obtain rfl := Option.some.inj H
           have p494 : 0 ≤ (x246_4 : Int) := ode_
           have q494 : x246_4 < (t469.length : Int) := ode_
           obtain ⟨ad494, A494_0, c494_0, e494, hx494_0, hl494_0, hi494_0⟩ := at_L4 (Kd.S_reads' HO_244.out).2.2 x246_4 p494 q494
           cases e494
           obtain ⟨ce494, hce494, hMe494, hcc494⟩ := Kd.S_get HO_244.out [] x246_4 p494 (by first | exact q494 | exact ode_ | (have e_ := (Kd.S_reads' HO_244.out).1; omega))
           obtain ⟨ve494_0, rfl, ge494_0⟩ := hMe494
           have hv494_0 := hcc494 0 _ rfl
           rw [Nat.add_zero, show ((Kd.slice 3 (Kd.int .i64))).sz = 1 from rfl, Nat.mul_one] at hv494_0
           replace hv494_0 := Option.some.inj (hv494_0.symm.trans hx494_0)
           rw [hv494_0] at ge494_0
           have HL494_0 := Aside0.mk (show Kd.R (Kd.int .i64) 3 _ _ _ _ (rd_L4 t469 x246_4) from ge494_0)
           clear hv494_0 ge494_0
           clear hcc494 hce494
           have HR494_0 := Aside0.mk hi494_0
           have HC494_0 := Aside0.mk hl494_0
           clear hi494_0 hl494_0
           replace p494 := eq_true p494
           replace q494 := eq_true q494
           have p495 : 0 ≤ (0 : Int) := (by omega)
           have q495 : 0 < ((rd_L4 t469 x246_4).length : Int) := ode_
           obtain ⟨ad495, e495, hx495_0⟩ := Kd.at_int (by repeat (first | (with_reducible exact HR494_0.out) | (with_reducible first | apply cA_ | apply cN_ | apply cD_) | exact HR494_0.out)) 0 p495 q495
           cases e495
           have qi495 : (0 < (rd_L4 t469 x246_4).length) = True := eq_true (by omega)
           (try rw [show ((0 : Int)).toNat = 0 from rfl] at hx495_0)
           (try rw [Addr.add_zero'] at hx495_0)
           replace p495 := eq_true p495
           replace q495 := eq_true q495
           have p496 : 0 ≤ (1 : Int) := (by omega)
           have q496 : 1 < ((rd_L4 t469 x246_4).length : Int) := ode_
           obtain ⟨ad496, e496, hx496_0⟩ := Kd.at_int (by repeat (first | (with_reducible exact HR494_0.out) | (with_reducible first | apply cA_ | apply cN_ | apply cD_) | exact HR494_0.out)) 1 p496 q496
           obtain rfl : ad495 = ad496 := (by injection e496)
           (try simp only [show (1 : Int).toNat = 1 from rfl, Nat.reduceMul, Nat.reduceEqDiff, Go.Addr.add, ↓reduceIte] at hx496_0)
           have qi496 : (1 < (rd_L4 t469 x246_4).length) = True := eq_true (by omega)
           (try rw [show ((1 : Int)).toNat = 1 from rfl] at hx496_0)
           replace p496 := eq_true p496
           replace q496 := eq_true q496
           have p497 : 0 ≤ (1 : Int) := (by omega)
           have q497 : 1 < ((rd_L4 t469 x246_4).length : Int) := ode_
           obtain ⟨ad497, e497, hx497_0⟩ := Kd.at_int (by repeat (first | (with_reducible exact HR494_0.out) | (with_reducible first | apply cA_ | apply cN_ | apply cD_) | exact HR494_0.out)) 1 p497 q497
           obtain rfl : ad495 = ad497 := (by injection e497)
           (try simp only [show (1 : Int).toNat = 1 from rfl, Nat.reduceMul, Nat.reduceEqDiff, Go.Addr.add, ↓reduceIte] at hx497_0)
           have qi497 : (1 < (rd_L4 t469 x246_4).length) = True := eq_true (by omega)
           (try rw [show ((1 : Int)).toNat = 1 from rfl] at hx497_0)
           replace p497 := eq_true p497
           replace q497 := eq_true q497
           have p498 : 0 ≤ ((rd (rd_L4 t469 x246_4) 1) : Int) := ode_
           have q498 : (rd (rd_L4 t469 x246_4) 1) < (t459.length : Int) := ode_
           obtain ⟨ad498, e498, hx498_0, hx498_1, hx498_2⟩ := at_T66 (Kd.R_reads' HO_17.out).2.2 (rd (rd_L4 t469 x246_4) 1) p498 q498
           cases e498
           replace p498 := eq_true p498
           replace q498 := eq_true q498
           have p499 : 0 ≤ (0 : Int) := (by omega)
           have q499 : 0 < ((rd_L4 t469 x246_4).length : Int) := ode_
           obtain ⟨ad499, e499, hx499_0⟩ := Kd.at_int (by repeat (first | (with_reducible exact HR494_0.out) | (with_reducible first | apply cA_ | apply cN_ | apply cD_) | exact HR494_0.out)) 0 p499 q499
           obtain rfl : ad495 = ad499 := (by injection e499)
           have qi499 : (0 < (rd_L4 t469 x246_4).length) = True := eq_true (by omega)
           (try rw [show ((0 : Int)).toNat = 0 from rfl] at hx499_0)
           (try rw [Addr.add_zero'] at hx499_0)
           replace p499 := eq_true p499
           replace q499 := eq_true q499
           have p500 : 0 ≤ ((rd (rd_L4 t469 x246_4) 0) : Int) := ode_
           have q500 : (rd (rd_L4 t469 x246_4) 0) < (t459.length : Int) := ode_
           obtain ⟨ad500, e500, hx500_0, hx500_1, hx500_2⟩ := at_T66 (Kd.R_reads' HO_17.out).2.2 (rd (rd_L4 t469 x246_4) 0) p500 q500
           obtain rfl : ad498 = ad500 := (by injection e500)
           replace p500 := eq_true p500
           replace q500 := eq_true q500
           go_wp2
           repeat (go_quiet (fail); try go_wp2)
           go_ret
           exact ⟨by first | rfl | (simp [errW_none, errW_some] <;> rfl) | (simp [*, errW_none, errW_some] <;> rfl), by repeat (first | (with_reducible first | exact HB.out | apply lA_ | apply lN_ | apply lD_) | exact HB.out)⟩
         rw [if_neg c140] at H
         have c140b0 : decide (t462 < (wrap64 (((rd_T66 t459 (rd (rd_L4 t469 x246_4) 1)).f0) - ((rd_T66 t459 (rd (rd_L4 t469 x246_4) 0)).f1)))) = false := decide_eq_false c140
         clear c140
         as_aux_lemma =>
          have H' := Aside0.mk H
          clear H
          have p494 : 0 ≤ (x246_4 : Int) := ode_
          have q494 : x246_4 < (t469.length : Int) := ode_
          obtain ⟨ad494, A494_0, c494_0, e494, hx494_0, hl494_0, hi494_0⟩ := at_L4 (Kd.S_reads' HO_244.out).2.2 x246_4 p494 q494
          cases e494
          obtain ⟨ce494, hce494, hMe494, hcc494⟩ := Kd.S_get HO_244.out [] x246_4 p494 (by first | exact q494 | exact ode_ | (have e_ := (Kd.S_reads' HO_244.out).1; omega))
          obtain ⟨ve494_0, rfl, ge494_0⟩ := hMe494
          have hv494_0 := hcc494 0 _ rfl
          rw [Nat.add_zero, show ((Kd.slice 3 (Kd.int .i64))).sz = 1 from rfl, Nat.mul_one] at hv494_0
          replace hv494_0 := Option.some.inj (hv494_0.symm.trans hx494_0)
          rw [hv494_0] at ge494_0
          have HL494_0 := Aside0.mk (show Kd.R (Kd.int .i64) 3 _ _ _ _ (rd_L4 t469 x246_4) from ge494_0)
          clear hv494_0 ge494_0
          clear hcc494 hce494
          have HR494_0 := Aside0.mk hi494_0
          have HC494_0 := Aside0.mk hl494_0
          clear hi494_0 hl494_0
          replace p494 := eq_true p494
          replace q494 := eq_true q494
          have p495 : 0 ≤ (0 : Int) := (by omega)
          have q495 : 0 < ((rd_L4 t469 x246_4).length : Int) := ode_
          obtain ⟨ad495, e495, hx495_0⟩ := Kd.at_int (by repeat (first | (with_reducible exact HR494_0.out) | (with_reducible first | apply cA_ | apply cN_ | apply cD_) | exact HR494_0.out)) 0 p495 q495
          cases e495
          have qi495 : (0 < (rd_L4 t469 x246_4).length) = True := eq_true (by omega)
          (try rw [show ((0 : Int)).toNat = 0 from rfl] at hx495_0)
          (try rw [Addr.add_zero'] at hx495_0)
          replace p495 := eq_true p495
          replace q495 := eq_true q495
          have p496 : 0 ≤ (1 : Int) := (by omega)
          have q496 : 1 < ((rd_L4 t469 x246_4).length : Int) := ode_
          obtain ⟨ad496, e496, hx496_0⟩ := Kd.at_int (by repeat (first | (with_reducible exact HR494_0.out) | (with_reducible first | apply cA_ | apply cN_ | apply cD_) | exact HR494_0.out)) 1 p496 q496
          obtain rfl : ad495 = ad496 := (by injection e496)
          (try simp only [show (1 : Int).toNat = 1 from rfl, Nat.reduceMul, Nat.reduceEqDiff, Go.Addr.add, ↓reduceIte] at hx496_0)
          have qi496 : (1 < (rd_L4 t469 x246_4).length) = True := eq_true (by omega)
          (try rw [show ((1 : Int)).toNat = 1 from rfl] at hx496_0)
          replace p496 := eq_true p496
          replace q496 := eq_true q496
          have p497 : 0 ≤ (1 : Int) := (by omega)
          have q497 : 1 < ((rd_L4 t469 x246_4).length : Int) := ode_
          obtain ⟨ad497, e497, hx497_0⟩ := Kd.at_int (by repeat (first | (with_reducible exact HR494_0.out) | (with_reducible first | apply cA_ | apply cN_ | apply cD_) | exact HR494_0.out)) 1 p497 q497
          obtain rfl : ad495 = ad497 := (by injection e497)
          (try simp only [show (1 : Int).toNat = 1 from rfl, Nat.reduceMul, Nat.reduceEqDiff, Go.Addr.add, ↓reduceIte] at hx497_0)
          have qi497 : (1 < (rd_L4 t469 x246_4).length) = True := eq_true (by omega)
          (try rw [show ((1 : Int)).toNat = 1 from rfl] at hx497_0)
          replace p497 := eq_true p497
          replace q497 := eq_true q497
          have p498 : 0 ≤ ((rd (rd_L4 t469 x246_4) 1) : Int) := ode_
          have q498 : (rd (rd_L4 t469 x246_4) 1) < (t459.length : Int) := ode_
          obtain ⟨ad498, e498, hx498_0, hx498_1, hx498_2⟩ := at_T66 (Kd.R_reads' HO_17.out).2.2 (rd (rd_L4 t469 x246_4) 1) p498 q498
          cases e498
          replace p498 := eq_true p498
          replace q498 := eq_true q498
          have p499 : 0 ≤ (0 : Int) := (by omega)
          have q499 : 0 < ((rd_L4 t469 x246_4).length : Int) := ode_
          obtain ⟨ad499, e499, hx499_0⟩ := Kd.at_int (by repeat (first | (with_reducible exact HR494_0.out) | (with_reducible first | apply cA_ | apply cN_ | apply cD_) | exact HR494_0.out)) 0 p499 q499
          obtain rfl : ad495 = ad499 := (by injection e499)
          have qi499 : (0 < (rd_L4 t469 x246_4).length) = True := eq_true (by omega)
          (try rw [show ((0 : Int)).toNat = 0 from rfl] at hx499_0)
          (try rw [Addr.add_zero'] at hx499_0)
          replace p499 := eq_true p499
          replace q499 := eq_true q499
          have p500 : 0 ≤ ((rd (rd_L4 t469 x246_4) 0) : Int) := ode_
          have q500 : (rd (rd_L4 t469 x246_4) 0) < (t459.length : Int) := ode_
          obtain ⟨ad500, e500, hx500_0, hx500_1, hx500_2⟩ := at_T66 (Kd.R_reads' HO_17.out).2.2 (rd (rd_L4 t469 x246_4) 0) p500 q500
          obtain rfl : ad498 = ad500 := (by injection e500)
          replace p500 := eq_true p500
          replace q500 := eq_true q500
          go_wp2
          repeat (go_quiet (fail); try go_wp2)
          go_roundg k4
          case measure => have := HJ15.out; have := HK2.out; have := HJ89.out; have := HK4.out; omega
          case rel => exact ⟨(wrap64 (x246_4 + 1)), (by first | rfl | (simp; done) | (simp [*]; done)), H', ⟨by have := HJ15.out; have := HK2.out; have := HJ89.out; have := HK4.out; omega⟩, ⟨by (with_reducible repeat (first | apply rA_ | apply rN_ | apply rD_)); exact HO_17.out⟩, ⟨by (with_reducible repeat (first | apply Kd.S_alloc | apply Kd.S_drewN | apply Kd.S_drew)); exact HO_244.out⟩, ⟨by repeat (first | (with_reducible first | exact HB.out | apply lA_ | apply lN_ | apply lD_) | exact HB.out)⟩⟩

/-- THE ONE PURE STATEMENT of laws_FnQueries: yours. -/
theorem laws_FnQueries.walk (P : laws_FnQueries.Pure) (a0 : Option Addr) (len0 cap0 : Nat) (z0 : List Int) (a1 : Option Addr) (len1 cap1 : Nat) (z1 : List Int) (w : World) (w0 : (a0 = none ∧ len0 = 0 ∧ cap0 = 0 ∧ z0 = []) ∨ ∃ x, a0 = some x ∧ len0 ≤ cap0 ∧ cap0 ≤ maxLen ∧ z0.length = cap0 ∧ (∀ i, i < z0.length → w.cell? (x.add i) = some (.int .u8 (z0.getD i 0))) ∧ ∀ n ∈ z0, (Lit.int .u8 n).wf = true) (y0 : len0 * 1 ≤ 140737488351232) (w1 : (a1 = none ∧ len1 = 0 ∧ cap1 = 0 ∧ z1 = []) ∨ ∃ x, a1 = some x ∧ len1 ≤ cap1 ∧ cap1 ≤ maxLen ∧ z1.length = cap1 ∧ (∀ i, i < z1.length → w.cell? (x.add i) = some (.int .u8 (z1.getD i 0))) ∧ ∀ n ∈ z1, (Lit.int .u8 n).wf = true) (y1 : len1 * 1 ≤ 140737488351232) :
 Calls Try.prog 9 #[.slice a0 len0 cap0, .slice a1 len1 cap1] w fun e w' => e = .returned (.bool true) ∧ Below w.heap.size w w' := by
 obtain ⟨l0, rfl, hr0, hm0, hw0, hc0⟩ := ReadsInt.ofRowC w0
 obtain ⟨l1, rfl, hr1, hm1, hw1, hc1⟩ := ReadsInt.ofRowC w1
 obtain ⟨k, h⟩ := P l0 l1 hm0 y0 hw0 hm1 y1 hw1
 refine (laws_FnQueries.calls k _ _ l0 _ _ l1 true w (Kd.C_of_reads (d := (0 : Int)) (h1 := fun _ => rfl) hr0) hc0 (Kd.C_of_reads (d := (0 : Int)) (h1 := fun _ => rfl) hr1) hc1 h).mono ?_
 rintro e w' ⟨rfl, hd⟩
 exact ⟨rfl, hd⟩

end Go.Proofs.Ytnmgcphajacdnaa.PFnQueries
