/- Printed for this claim: functions of the program as Lean functions, and that the calls answer so. -/
import Derived.Test.YtbfkpgmdbafmhaaPFnTierCountsx0
import Derived.Test.YtbfkpgmdbafmhaaPFnTierCountsx1
import Derived.Test.YtbfkpgmdbafmhaaPFnTierCountsx4
import Derived.Test.YtbfkpgmdbafmhaaPFnTierCountsx6
import Derived.Test.YtbfkpgmdbafmhaaPFnTierCountsx7
import Derived.Test.YtbfkpgmdbafmhaaPFnTierCountsx9
import Derived.Test.YtbfkpgmdbafmhaaPFnTierCountsx11
import Derived.Test.YtbfkpgmdbafmhaaPFnTierCountsx13
import Derived.Test.YtbfkpgmdbafmhaaPFnTierCountsx14
import Derived.Test.YtbfkpgmdbafmhaaPFnTierCountsx15
import Derived.Test.YtbfkpgmdbafmhaaPFnTierCountsxD0
import Derived.Test.YtbfkpgmdbafmhaaPFnTierCountsxD1
namespace Go.Proofs.Ytbfkpgmdbafmhaa.PFnTierCounts
open Go.RowKit Go.Proofs.YtbfkpgmdbafmhaaW.PrintWords Go.Proofs.YtbfkpgmdbafmhaaW.PrintLast Go.Proofs.YtbfkpgmdbafmhaaW.PrintMore
attribute [local go_sem] max2_int min2_int max_two min_two max_three min_three max_four min_four isSome_setCell   -- for this text's walks alone
attribute [local go_sem high] gtr_lt
set_option linter.unusedVariables false
set_option linter.unusedSimpArgs false

theorem z16_0_ {p : Prop} (h : p := by repeat (first | exact (Kd.C_below HR1.out HB.out) | (with_reducible first | apply cA_ | apply cN_ | apply cD_))) : p := h
theorem z16_1_ {p : Prop} (h : p := by first | rfl | (simp; done) | (simp [*]; done)) : p := h
theorem z16_2_ {p : Prop} (h : p := by (with_reducible repeat (first | apply Kd.S_alloc | apply Kd.S_drewN | apply Kd.S_drew)); exact Kd.S_mono HO671.out (fun _ hk => ⟨hk.1.1.1.2, hk.2⟩)) : p := h
theorem z16_3_ {p : Prop} (h : p := by repeat (first | exact (Kd.S_reads' HO667.out).2.2 | (with_reducible first | apply cA_ | apply cN_ | apply cD_))) : p := h
theorem z16_4_ {p : Prop} (h : p := by repeat (first | exact (Kd.S_reads' HO671.out).2.2 | (with_reducible first | apply cA_ | apply cN_ | apply cD_))) : p := h
theorem z16_5_ {p : Prop} (h : p := by have := HJ18.out; have := HJ118.out; first | omega | exact Nat.le_refl _) : p := h
theorem z16_6_ {p : Prop} (h : p := by have := HJ18.out; have := HJ118.out; have := HJ142.out; first | omega | exact Nat.le_refl _) : p := h
theorem z16_7_ {p : Prop} (h : p := by have := HJ18.out; have := HJ118.out; have := HJ142.out; have := HJ147.out; first | omega | exact Nat.le_refl _) : p := h
theorem z16_8_ {p : Prop} (h : p := by first | exact q708 | exact ode_ | (have e_ := (Kd.S_reads' HO_287.out).1; omega)) : p := h
/-! ### laws_FnTierCounts: function 3 -/
set_option maxHeartbeats 8000000 in
set_option maxRecDepth 100000 in
theorem laws_FnTierCounts.calls (k : Nat) (A0 : Option Addr) (c0 : Nat) (l0 : List Int) (A1 : Option Addr) (c1 : Nat) (l1 : List Int) (r : Bool) (w : World) (hr0 : Kd.C (Kd.int .u8) w A0 l0.length l0) (hc0 : l0.length ≤ c0) (hr1 : Kd.C (Kd.int .u8) w A1 l1.length l1) (hc1 : l1.length ≤ c1) (h : laws_FnTierCounts.f k l0 l1 = some r) :
 Calls Try.prog 3 #[.slice A0 l0.length c0, .slice A1 l1.length c1] w fun e w' => e = .returned (.bool r) ∧ Below w.heap.size w w' := by
 have hu50 := Try.underlying50
 have HR0 := Aside0.mk hr0
 have HC0 := Aside0.mk hc0
 clear hr0 hc0
 have HR1 := Aside0.mk hr1
 have HC1 := Aside0.mk hc1
 clear hr1 hc1
 have HB := Aside0.mk (Below.refl w.heap.size w)
 have H : (if (wrap64 ((l0.length : Int) + (l1.length : Int))) > 1048576 then (some true) else ((spec_DrawCountGlosses.f k l0).bind fun t632 => ((impl_CountGlosses.f k t632).bind fun bt635 => ((spec_CountGlosses.f k t632).bind fun bt642 => ((spec_DrawNearestLike.f k l1).bind fun bt649 => ((impl_NearestLike.f k bt649.1 bt649.2.1 bt649.2.2).bind fun bt654 => ((spec_NearestLike.f k bt649.1 bt649.2.1 bt649.2.2).bind fun bt656 => ((spec_DrawNotesInside.f k l1).bind fun bt658 => ((impl_NotesInside.f k bt658.1 bt658.2).bind fun bt664 => ((spec_NotesInside.f k bt658.1 bt658.2).bind fun bt668 => ((spec_DrawLongNotes.f k l1).bind fun bt672 => ((impl_LongNotes.f k bt672.1 bt672.2).bind fun bt676 => ((spec_LongNotes.f k bt672.1 bt672.2).bind fun bt680 => ((spec_DrawLongestGap.f k l1).bind fun t684 => ((impl_LongestGap.f k t684).bind fun bt687 => ((spec_LongestGap.f k t684).bind fun bt690 => (if (bt635.2.2 != bt642.2.2) = true then (laws_FnTierCounts.j0 k t632 bt635.2.2 bt642.1 bt642.2.1 bt649.1 bt649.2.1 bt649.2.2 bt654.2 bt656.1 bt658.1 bt658.2 bt668.1 bt672.1 bt672.2 bt676.2 bt680.1 t684 bt687.2.2 bt690.2.1 true) else ((laws_qTexts.f k bt635.1 bt642.1).bind fun t693 => (if t693 = true then ((laws_qInts.f k bt635.2.1 bt642.2.1).bind fun t694 => (if t694 = true then (if (bt654.2 != bt656.2) = true then (laws_FnTierCounts.j0 k t632 bt635.2.2 bt642.1 bt642.2.1 bt649.1 bt649.2.1 bt649.2.2 bt654.2 bt656.1 bt658.1 bt658.2 bt668.1 bt672.1 bt672.2 bt676.2 bt680.1 t684 bt687.2.2 bt690.2.1 true) else (if bt654.1 = bt656.1 then (if (bt664.2 != bt668.2) = true then (laws_FnTierCounts.j0 k t632 bt635.2.2 bt642.1 bt642.2.1 bt649.1 bt649.2.1 bt649.2.2 bt654.2 bt656.1 bt658.1 bt658.2 bt668.1 bt672.1 bt672.2 bt676.2 bt680.1 t684 bt687.2.2 bt690.2.1 true) else ((laws_qLists.f k bt664.1 bt668.1).bind fun t695 => (if t695 = true then (if (bt676.2 != bt680.2) = true then (laws_FnTierCounts.j0 k t632 bt635.2.2 bt642.1 bt642.2.1 bt649.1 bt649.2.1 bt649.2.2 bt654.2 bt656.1 bt658.1 bt658.2 bt668.1 bt672.1 bt672.2 bt676.2 bt680.1 t684 bt687.2.2 bt690.2.1 true) else ((laws_qInts.f k bt676.1 bt680.1).bind fun t696 => (if t696 = true then (if (bt687.2.2 != bt690.2.2) = true then (laws_FnTierCounts.j0 k t632 bt635.2.2 bt642.1 bt642.2.1 bt649.1 bt649.2.1 bt649.2.2 bt654.2 bt656.1 bt658.1 bt658.2 bt668.1 bt672.1 bt672.2 bt676.2 bt680.1 t684 bt687.2.2 bt690.2.1 true) else (if bt687.1 = bt690.1 then (laws_FnTierCounts.j0 k t632 bt635.2.2 bt642.1 bt642.2.1 bt649.1 bt649.2.1 bt649.2.2 bt654.2 bt656.1 bt658.1 bt658.2 bt668.1 bt672.1 bt672.2 bt676.2 bt680.1 t684 bt687.2.2 bt690.2.1 (bt687.2.1 != bt690.2.1)) else (laws_FnTierCounts.j0 k t632 bt635.2.2 bt642.1 bt642.2.1 bt649.1 bt649.2.1 bt649.2.2 bt654.2 bt656.1 bt658.1 bt658.2 bt668.1 bt672.1 bt672.2 bt676.2 bt680.1 t684 bt687.2.2 bt690.2.1 true))) else (laws_FnTierCounts.j0 k t632 bt635.2.2 bt642.1 bt642.2.1 bt649.1 bt649.2.1 bt649.2.2 bt654.2 bt656.1 bt658.1 bt658.2 bt668.1 bt672.1 bt672.2 bt676.2 bt680.1 t684 bt687.2.2 bt690.2.1 true)))) else (laws_FnTierCounts.j0 k t632 bt635.2.2 bt642.1 bt642.2.1 bt649.1 bt649.2.1 bt649.2.2 bt654.2 bt656.1 bt658.1 bt658.2 bt668.1 bt672.1 bt672.2 bt676.2 bt680.1 t684 bt687.2.2 bt690.2.1 true)))) else (laws_FnTierCounts.j0 k t632 bt635.2.2 bt642.1 bt642.2.1 bt649.1 bt649.2.1 bt649.2.2 bt654.2 bt656.1 bt658.1 bt658.2 bt668.1 bt672.1 bt672.2 bt676.2 bt680.1 t684 bt687.2.2 bt690.2.1 true))) else (laws_FnTierCounts.j0 k t632 bt635.2.2 bt642.1 bt642.2.1 bt649.1 bt649.2.1 bt649.2.2 bt654.2 bt656.1 bt658.1 bt658.2 bt668.1 bt672.1 bt672.2 bt676.2 bt680.1 t684 bt687.2.2 bt690.2.1 true))) else (laws_FnTierCounts.j0 k t632 bt635.2.2 bt642.1 bt642.2.1 bt649.1 bt649.2.1 bt649.2.2 bt654.2 bt656.1 bt658.1 bt658.2 bt668.1 bt672.1 bt672.2 bt676.2 bt680.1 t684 bt687.2.2 bt690.2.1 true)))))))))))))))))))) = some r := h
 clear h
 by_cases c3 : (wrap64 ((l0.length : Int) + (l1.length : Int))) > 1048576
 ·rw [if_pos c3] at H
  have c3b0 : decide (1048576 < (wrap64 ((l0.length : Int) + (l1.length : Int)))) = true := decide_eq_true c3
  clear c3
  as_aux_lemma =>
   obtain rfl := Option.some.inj H
   go_enter Try.func3, Try.ntmps3
   go_wp2
   repeat (go_quiet (fail); try go_wp2)
   go_ret
   exact ⟨rT_, hB_⟩
 rw [if_neg c3] at H
 have c3b0 : decide (1048576 < (wrap64 ((l0.length : Int) + (l1.length : Int)))) = false := decide_eq_false c3
 clear c3
 replace H := ob_ H; obtain ⟨t632, A4, H⟩ := H; try dsimp only at H
 replace H := ob_ H; obtain ⟨⟨t635, t636, t637⟩, A5, H⟩ := H; try dsimp only at H
 replace H := ob_ H; obtain ⟨⟨t642, t643, t644⟩, A6, H⟩ := H; try dsimp only at H
 replace H := ob_ H; obtain ⟨⟨t649, t650, t651⟩, A7, H⟩ := H; try dsimp only at H
 replace H := ob_ H; obtain ⟨⟨t654, t655⟩, A8, H⟩ := H; try dsimp only at H
 replace H := ob_ H; obtain ⟨⟨t656, t657⟩, A9, H⟩ := H; try dsimp only at H
 replace H := ob_ H; obtain ⟨⟨t658, t659⟩, A10, H⟩ := H; try dsimp only at H
 replace H := ob_ H; obtain ⟨⟨t664, t665⟩, A11, H⟩ := H; try dsimp only at H
 replace H := ob_ H; obtain ⟨⟨t668, t669⟩, A12, H⟩ := H; try dsimp only at H
 replace H := ob_ H; obtain ⟨⟨t672, t673⟩, A13, H⟩ := H; try dsimp only at H
 replace H := ob_ H; obtain ⟨⟨t676, t677⟩, A14, H⟩ := H; try dsimp only at H
 replace H := ob_ H; obtain ⟨⟨t680, t681⟩, A15, H⟩ := H; try dsimp only at H
 replace H := ob_ H; obtain ⟨t684, A16, H⟩ := H; try dsimp only at H
 replace H := ob_ H; obtain ⟨⟨t687, t688, t689⟩, A17, H⟩ := H; try dsimp only at H
 replace H := ob_ H; obtain ⟨⟨t690, t691, t692⟩, A18, H⟩ := H; try dsimp only at H
 have HC19 := Aside0.mk H
 clear H
 go_enter Try.func3, Try.ntmps3
 go_upto_region 18 with (first | (go_at_call 4; (with_reducible refine (spec_DrawCountGlosses.calls k _ _ l0 t632 _ ?side1 ?side2 A4.out).mono ?_); (case side1 => exact cC_ HR0); (case side2 => exact HC0.out); rintro e w20 ⟨v633, rfl, ho0, hb⟩; have HO634 := aM_ (Kd.R_lower ho0 (below_size hB_)); replace HB := aM_ (below_step hB_ hb); (try clear hb); (try clear ho0); obtain ⟨Ao21, co21, eo21⟩ := Kd.R_slice HO634.out; subst eo21) | (go_at_call 5; (with_reducible refine (impl_CountGlosses.calls k _ _ t632 t635 t636 t637 _ ?side1 ?side2 A5.out).mono ?_); (case side1 => exact cR_ HO634); (case side2 => exact (Kd.R_reads' HO634.out).2.1); rintro e w22 ⟨v638, v640, rfl, ho0, ho1, hb⟩; have HO639 := aM_ (Kd.R_lower ho0 (below_size hB_)); have HO641 := aM_ (Kd.R_lower ho1 (below_size hB_)); replace HO634 := aM_ (Kd.R_below (rR_ HO634) hb); replace HB := aM_ (below_step hB_ hb); (try clear hb); (try clear ho0); (try clear ho1)) | (go_at_call 6; (with_reducible refine (spec_CountGlosses.calls k _ _ t632 t642 t643 t644 _ ?side1 ?side2 A6.out).mono ?_); (case side1 => exact cR_ HO634); (case side2 => exact (Kd.R_reads' HO634.out).2.1); rintro e w23 ⟨v645, v647, rfl, ho0, ho1, hb⟩; have HO646 := aM_ (Kd.R_lower (Kd.R_new' ho0 (Kd.R_lt (rR_ HO639))) (below_size hB_)); have HO648 := aM_ (Kd.R_lower (Kd.R_new' ho1 (Kd.R_lt (rR_ HO641))) (below_size hB_)); replace HO634 := aM_ (Kd.R_below (rR_ HO634) hb); replace HO639 := aM_ (Kd.R_elder' (rR_ HO639) (Kd.R_base ho0) hb); replace HO641 := aM_ (Kd.R_elder' (rR_ HO641) (Kd.R_base ho1) hb); replace HB := aM_ (below_step hB_ hb); (try clear hb); (try clear ho0); (try clear ho1)) | (go_at_call 7; (with_reducible refine (spec_DrawNearestLike.calls k _ _ l1 t649 t650 t651 _ ?side1 ?side2 A7.out).mono ?_); (case side1 => exact z16_0_); (case side2 => exact HC1.out); rintro e w24 ⟨v652, rfl, ho0, hb⟩; have HO653 := aM_ (Kd.R_lower (Kd.R_new' ho0 (Kd.R_lt (rR_ HO634))) (below_size hB_)); replace HO634 := aM_ (Kd.R_elder' (rR_ HO634) (Kd.R_base ho0) hb); replace HO639 := aM_ (Kd.R_below (rR_ HO639) hb); replace HO641 := aM_ (Kd.R_below (rR_ HO641) hb); replace HO646 := aM_ (Kd.R_below (rR_ HO646) hb); replace HO648 := aM_ (Kd.R_below (rR_ HO648) hb); replace HB := aM_ (below_step hB_ hb); (try clear hb); (try clear ho0); obtain ⟨Ao25, co25, eo25⟩ := Kd.R_slice HO653.out; subst eo25) | (go_at_call 8; (with_reducible refine (impl_NearestLike.calls k _ _ t649 t650 t651 t654 t655 _ ?side1 ?side2 A8.out).mono ?_); (case side1 => exact cR_ HO653); (case side2 => exact (Kd.R_reads' HO653.out).2.1); rintro e w26 ⟨rfl, hb⟩; replace HO634 := aM_ (Kd.R_below (rR_ HO634) hb); replace HO639 := aM_ (Kd.R_below (rR_ HO639) hb); replace HO641 := aM_ (Kd.R_below (rR_ HO641) hb); replace HO646 := aM_ (Kd.R_below (rR_ HO646) hb); replace HO648 := aM_ (Kd.R_below (rR_ HO648) hb); replace HO653 := aM_ (Kd.R_below (rR_ HO653) hb); replace HB := aM_ (below_step hB_ hb); (try clear hb)) | (go_at_call 9; (with_reducible refine (spec_NearestLike.calls k _ _ t649 t650 t651 t656 t657 _ ?side1 ?side2 A9.out).mono ?_); (case side1 => exact cR_ HO653); (case side2 => exact (Kd.R_reads' HO653.out).2.1); rintro e w27 ⟨rfl, hb⟩; replace HO634 := aM_ (Kd.R_below (rR_ HO634) hb); replace HO639 := aM_ (Kd.R_below (rR_ HO639) hb); replace HO641 := aM_ (Kd.R_below (rR_ HO641) hb); replace HO646 := aM_ (Kd.R_below (rR_ HO646) hb); replace HO648 := aM_ (Kd.R_below (rR_ HO648) hb); replace HO653 := aM_ (Kd.R_below (rR_ HO653) hb); replace HB := aM_ (below_step hB_ hb); (try clear hb)) | (go_at_call 10; (with_reducible refine (spec_DrawNotesInside.calls k _ _ l1 t658 t659 _ ?side1 ?side2 A10.out).mono ?_); (case side1 => exact z16_0_); (case side2 => exact HC1.out); rintro e w28 ⟨v660, v662, rfl, ho0, ho1, hb⟩; have HO661 := aM_ (Kd.R_lower (Kd.R_new' (Kd.R_new' ho0 (Kd.R_lt (rR_ HO634))) (Kd.R_lt (rR_ HO653))) (below_size hB_)); have HO663 := aM_ (Kd.R_lower (Kd.R_new' (Kd.R_new' ho1 (Kd.R_lt (rR_ HO634))) (Kd.R_lt (rR_ HO653))) (below_size hB_)); replace HO634 := aM_ (Kd.R_mono (Kd.R_told (Kd.R_told (Kd.R_old (rR_ HO634) hb) (Kd.R_base ho0)) (Kd.R_base ho1)) (fun _ h_ => h_.1)); replace HO639 := aM_ (Kd.R_below (rR_ HO639) hb); replace HO641 := aM_ (Kd.R_below (rR_ HO641) hb); replace HO646 := aM_ (Kd.R_below (rR_ HO646) hb); replace HO648 := aM_ (Kd.R_below (rR_ HO648) hb); replace HO653 := aM_ (Kd.R_mono (Kd.R_told (Kd.R_told (Kd.R_old (rR_ HO653) hb) (Kd.R_base ho0)) (Kd.R_base ho1)) (fun _ h_ => h_.1)); replace HB := aM_ (below_step hB_ hb); (try clear hb); (try clear ho0); (try clear ho1); obtain ⟨Ao29, co29, eo29⟩ := Kd.R_slice HO661.out; subst eo29; obtain ⟨Ao30, co30, eo30⟩ := Kd.R_slice HO663.out; subst eo30) | (go_at_call 11; (with_reducible refine (impl_NotesInside.calls k _ _ t658 _ _ t659 t664 t665 _ ?side1 ?side2 ?side3 ?side4 A11.out).mono ?_); (case side1 => exact cR_ HO661); (case side2 => exact (Kd.R_reads' HO661.out).2.1); (case side3 => exact cR_ HO663); (case side4 => exact (Kd.R_reads' HO663.out).2.1); rintro e w31 ⟨v666, rfl, ho0, hb⟩; have HO667 := aM_ (Kd.S_lower (Kd.S_new' (Kd.S_new' ho0 (Kd.R_lt (rR_ HO641))) (Kd.R_lt (rR_ HO648))) (below_size hB_)); replace HO634 := aM_ (Kd.R_below (rR_ HO634) hb); replace HO639 := aM_ (Kd.R_below (rR_ HO639) hb); replace HO641 := aM_ (Kd.R_below (rR_ HO641) hb); replace HO646 := aM_ (Kd.R_below (rR_ HO646) hb); replace HO648 := aM_ (Kd.R_below (rR_ HO648) hb); replace HO653 := aM_ (Kd.R_below (rR_ HO653) hb); replace HO661 := aM_ (Kd.R_below (rR_ HO661) hb); replace HO663 := aM_ (Kd.R_below (rR_ HO663) hb); replace HB := aM_ (below_step hB_ hb); (try clear hb); (try clear ho0)) | (go_at_call 12; (with_reducible refine (spec_NotesInside.calls k _ _ t658 _ _ t659 t668 t669 _ ?side1 ?side2 ?side3 ?side4 A12.out).mono ?_); (case side1 => exact cR_ HO661); (case side2 => exact (Kd.R_reads' HO661.out).2.1); (case side3 => exact cR_ HO663); (case side4 => exact (Kd.R_reads' HO663.out).2.1); rintro e w32 ⟨v670, rfl, ho0, hb⟩; have HO671 := aM_ (Kd.S_lower (Kd.S_new' (Kd.S_new' (Kd.S_new' ho0 (Kd.R_lt (rR_ HO641))) (Kd.R_lt (rR_ HO648))) (Kd.S_lt (sR_ HO667))) (below_size hB_)); replace HO634 := aM_ (Kd.R_below (rR_ HO634) hb); replace HO639 := aM_ (Kd.R_below (rR_ HO639) hb); replace HO641 := aM_ (Kd.R_below (rR_ HO641) hb); replace HO646 := aM_ (Kd.R_below (rR_ HO646) hb); replace HO648 := aM_ (Kd.R_below (rR_ HO648) hb); replace HO653 := aM_ (Kd.R_below (rR_ HO653) hb); replace HO661 := aM_ (Kd.R_below (rR_ HO661) hb); replace HO663 := aM_ (Kd.R_below (rR_ HO663) hb); replace HO667 := aM_ (Kd.S_elder' (sR_ HO667) (Kd.S_base ho0) hb); replace HB := aM_ (below_step hB_ hb); (try clear hb); (try clear ho0)) | (go_at_call 13; (with_reducible refine (spec_DrawLongNotes.calls k _ _ l1 t672 t673 _ ?side1 ?side2 A13.out).mono ?_); (case side1 => exact z16_0_); (case side2 => exact HC1.out); rintro e w33 ⟨v674, rfl, ho0, hb⟩; have HO675 := aM_ (Kd.R_lower (Kd.R_new' (Kd.R_new' (Kd.R_new' (Kd.R_new' ho0 (Kd.R_lt (rR_ HO634))) (Kd.R_lt (rR_ HO653))) (Kd.R_lt (rR_ HO661))) (Kd.R_lt (rR_ HO663))) (below_size hB_)); replace HO634 := aM_ (Kd.R_elder' (rR_ HO634) (Kd.R_base ho0) hb); replace HO639 := aM_ (Kd.R_below (rR_ HO639) hb); replace HO641 := aM_ (Kd.R_below (rR_ HO641) hb); replace HO646 := aM_ (Kd.R_below (rR_ HO646) hb); replace HO648 := aM_ (Kd.R_below (rR_ HO648) hb); replace HO653 := aM_ (Kd.R_elder' (rR_ HO653) (Kd.R_base ho0) hb); replace HO661 := aM_ (Kd.R_elder' (rR_ HO661) (Kd.R_base ho0) hb); replace HO663 := aM_ (Kd.R_elder' (rR_ HO663) (Kd.R_base ho0) hb); replace HO667 := aM_ (Kd.S_below (sR_ HO667) hb); replace HO671 := aM_ (Kd.S_below (sR_ HO671) hb); replace HB := aM_ (below_step hB_ hb); (try clear hb); (try clear ho0); obtain ⟨Ao34, co34, eo34⟩ := Kd.R_slice HO675.out; subst eo34) | (go_at_call 14; (with_reducible refine (impl_LongNotes.calls k _ _ t672 t673 t676 t677 _ ?side1 ?side2 A14.out).mono ?_); (case side1 => exact cR_ HO675); (case side2 => exact (Kd.R_reads' HO675.out).2.1); rintro e w35 ⟨v678, rfl, ho0, hb⟩; have HO679 := aM_ (Kd.R_lower (Kd.R_new' (Kd.R_new' ho0 (Kd.R_lt (rR_ HO641))) (Kd.R_lt (rR_ HO648))) (below_size hB_)); replace HO634 := aM_ (Kd.R_below (rR_ HO634) hb); replace HO639 := aM_ (Kd.R_below (rR_ HO639) hb); replace HO641 := aM_ (Kd.R_elder' (rR_ HO641) (Kd.R_base ho0) hb); replace HO646 := aM_ (Kd.R_below (rR_ HO646) hb); replace HO648 := aM_ (Kd.R_elder' (rR_ HO648) (Kd.R_base ho0) hb); replace HO653 := aM_ (Kd.R_below (rR_ HO653) hb); replace HO661 := aM_ (Kd.R_below (rR_ HO661) hb); replace HO663 := aM_ (Kd.R_below (rR_ HO663) hb); replace HO667 := aM_ (Kd.S_elder' (sR_ HO667) (Kd.R_base ho0) hb); replace HO671 := aM_ (Kd.S_elder' (sR_ HO671) (Kd.R_base ho0) hb); replace HO675 := aM_ (Kd.R_below (rR_ HO675) hb); replace HB := aM_ (below_step hB_ hb); (try clear hb); (try clear ho0)) | (go_at_call 15; (with_reducible refine (spec_LongNotes.calls k _ _ t672 t673 t680 t681 _ ?side1 ?side2 A15.out).mono ?_); (case side1 => exact cR_ HO675); (case side2 => exact (Kd.R_reads' HO675.out).2.1); rintro e w36 ⟨v682, rfl, ho0, hb⟩; have HO683 := aM_ (Kd.R_lower (Kd.R_new' (Kd.R_new' (Kd.R_new' ho0 (Kd.R_lt (rR_ HO641))) (Kd.R_lt (rR_ HO648))) (Kd.R_lt (rR_ HO679))) (below_size hB_)); replace HO634 := aM_ (Kd.R_below (rR_ HO634) hb); replace HO639 := aM_ (Kd.R_below (rR_ HO639) hb); replace HO641 := aM_ (Kd.R_elder' (rR_ HO641) (Kd.R_base ho0) hb); replace HO646 := aM_ (Kd.R_below (rR_ HO646) hb); replace HO648 := aM_ (Kd.R_elder' (rR_ HO648) (Kd.R_base ho0) hb); replace HO653 := aM_ (Kd.R_below (rR_ HO653) hb); replace HO661 := aM_ (Kd.R_below (rR_ HO661) hb); replace HO663 := aM_ (Kd.R_below (rR_ HO663) hb); replace HO667 := aM_ (Kd.S_elder' (sR_ HO667) (Kd.R_base ho0) hb); replace HO671 := aM_ (Kd.S_elder' (sR_ HO671) (Kd.R_base ho0) hb); replace HO675 := aM_ (Kd.R_below (rR_ HO675) hb); replace HO679 := aM_ (Kd.R_elder' (rR_ HO679) (Kd.R_base ho0) hb); replace HB := aM_ (below_step hB_ hb); (try clear hb); (try clear ho0)) | (go_at_call 16; (with_reducible refine (spec_DrawLongestGap.calls k _ _ l1 t684 _ ?side1 ?side2 A16.out).mono ?_); (case side1 => exact z16_0_); (case side2 => exact HC1.out); rintro e w37 ⟨v685, rfl, ho0, hb⟩; have HO686 := aM_ (Kd.R_lower (Kd.R_new' (Kd.R_new' (Kd.R_new' (Kd.R_new' (Kd.R_new' ho0 (Kd.R_lt (rR_ HO634))) (Kd.R_lt (rR_ HO653))) (Kd.R_lt (rR_ HO661))) (Kd.R_lt (rR_ HO663))) (Kd.R_lt (rR_ HO675))) (below_size hB_)); replace HO634 := aM_ (Kd.R_elder' (rR_ HO634) (Kd.R_base ho0) hb); replace HO639 := aM_ (Kd.R_below (rR_ HO639) hb); replace HO641 := aM_ (Kd.R_below (rR_ HO641) hb); replace HO646 := aM_ (Kd.R_below (rR_ HO646) hb); replace HO648 := aM_ (Kd.R_below (rR_ HO648) hb); replace HO653 := aM_ (Kd.R_elder' (rR_ HO653) (Kd.R_base ho0) hb); replace HO661 := aM_ (Kd.R_elder' (rR_ HO661) (Kd.R_base ho0) hb); replace HO663 := aM_ (Kd.R_elder' (rR_ HO663) (Kd.R_base ho0) hb); replace HO667 := aM_ (Kd.S_below (sR_ HO667) hb); replace HO671 := aM_ (Kd.S_below (sR_ HO671) hb); replace HO675 := aM_ (Kd.R_elder' (rR_ HO675) (Kd.R_base ho0) hb); replace HO679 := aM_ (Kd.R_below (rR_ HO679) hb); replace HO683 := aM_ (Kd.R_below (rR_ HO683) hb); replace HB := aM_ (below_step hB_ hb); (try clear hb); (try clear ho0); obtain ⟨Ao38, co38, eo38⟩ := Kd.R_slice HO686.out; subst eo38) | (go_at_call 17; (with_reducible refine (impl_LongestGap.calls k _ _ t684 t687 t688 t689 _ ?side1 ?side2 A17.out).mono ?_); (case side1 => exact cR_ HO686); (case side2 => exact (Kd.R_reads' HO686.out).2.1); rintro e w39 ⟨rfl, hb⟩; replace HO634 := aM_ (Kd.R_below (rR_ HO634) hb); replace HO639 := aM_ (Kd.R_below (rR_ HO639) hb); replace HO641 := aM_ (Kd.R_below (rR_ HO641) hb); replace HO646 := aM_ (Kd.R_below (rR_ HO646) hb); replace HO648 := aM_ (Kd.R_below (rR_ HO648) hb); replace HO653 := aM_ (Kd.R_below (rR_ HO653) hb); replace HO661 := aM_ (Kd.R_below (rR_ HO661) hb); replace HO663 := aM_ (Kd.R_below (rR_ HO663) hb); replace HO667 := aM_ (Kd.S_below (sR_ HO667) hb); replace HO671 := aM_ (Kd.S_below (sR_ HO671) hb); replace HO675 := aM_ (Kd.R_below (rR_ HO675) hb); replace HO679 := aM_ (Kd.R_below (rR_ HO679) hb); replace HO683 := aM_ (Kd.R_below (rR_ HO683) hb); replace HO686 := aM_ (Kd.R_below (rR_ HO686) hb); replace HB := aM_ (below_step hB_ hb); (try clear hb)) | (go_at_call 18; (with_reducible refine (spec_LongestGap.calls k _ _ t684 t690 t691 t692 _ ?side1 ?side2 A18.out).mono ?_); (case side1 => exact cR_ HO686); (case side2 => exact (Kd.R_reads' HO686.out).2.1); rintro e w40 ⟨rfl, hb⟩; replace HO634 := aM_ (Kd.R_below (rR_ HO634) hb); replace HO639 := aM_ (Kd.R_below (rR_ HO639) hb); replace HO641 := aM_ (Kd.R_below (rR_ HO641) hb); replace HO646 := aM_ (Kd.R_below (rR_ HO646) hb); replace HO648 := aM_ (Kd.R_below (rR_ HO648) hb); replace HO653 := aM_ (Kd.R_below (rR_ HO653) hb); replace HO661 := aM_ (Kd.R_below (rR_ HO661) hb); replace HO663 := aM_ (Kd.R_below (rR_ HO663) hb); replace HO667 := aM_ (Kd.S_below (sR_ HO667) hb); replace HO671 := aM_ (Kd.S_below (sR_ HO671) hb); replace HO675 := aM_ (Kd.R_below (rR_ HO675) hb); replace HO679 := aM_ (Kd.R_below (rR_ HO679) hb); replace HO683 := aM_ (Kd.R_below (rR_ HO683) hb); replace HO686 := aM_ (Kd.R_below (rR_ HO686) hb); replace HB := aM_ (below_step hB_ hb); (try clear hb)) | (go_quiet (fail)))
 (try simp only [Act.put, List.setIfInBounds_toArray, List.set_cons_zero, List.set_cons_succ])
 go_cut [201] (fun v201 wc => ∃ (kq : Nat) (x201_18 : Bool), v201 = .bool x201_18 ∧ Aside0 (laws_FnTierCounts.j0 kq t632 t637 t642 t643 t649 t650 t651 t655 t656 t658 t659 t668 t672 t673 t677 t680 t684 t689 t691 x201_18 = some r) ∧ Aside0 (kq ≤ k) ∧ Aside0 (Kd.R k50 50 wc w.heap.size (fun k_ => some k_ ≠ ((.slice Ao25 t649.length co25) : Value).ownBlock ∧ some k_ ≠ ((.slice Ao29 t658.length co29) : Value).ownBlock ∧ some k_ ≠ ((.slice Ao30 t659.length co30) : Value).ownBlock ∧ some k_ ≠ ((.slice Ao34 t672.length co34) : Value).ownBlock ∧ some k_ ≠ ((.slice Ao38 t684.length co38) : Value).ownBlock) (.slice Ao21 t632.length co21) t632) ∧ Aside0 (Kd.R Kd.string 9 wc w.heap.size (fun _ => True) v645 t642) ∧ Aside0 (Kd.R (Kd.int .i64) 3 wc w.heap.size (fun k_ => some k_ ≠ (v682 : Value).ownBlock) v647 t643) ∧ Aside0 (Kd.R k50 50 wc w.heap.size (fun k_ => some k_ ≠ ((.slice Ao21 t632.length co21) : Value).ownBlock ∧ some k_ ≠ ((.slice Ao29 t658.length co29) : Value).ownBlock ∧ some k_ ≠ ((.slice Ao30 t659.length co30) : Value).ownBlock ∧ some k_ ≠ ((.slice Ao34 t672.length co34) : Value).ownBlock ∧ some k_ ≠ ((.slice Ao38 t684.length co38) : Value).ownBlock) (.slice Ao25 t649.length co25) t649) ∧ Aside0 (Kd.R k50 50 wc w.heap.size (fun k_ => some k_ ≠ ((.slice Ao21 t632.length co21) : Value).ownBlock ∧ some k_ ≠ ((.slice Ao25 t649.length co25) : Value).ownBlock ∧ some k_ ≠ ((.slice Ao30 t659.length co30) : Value).ownBlock ∧ some k_ ≠ ((.slice Ao34 t672.length co34) : Value).ownBlock ∧ some k_ ≠ ((.slice Ao38 t684.length co38) : Value).ownBlock) (.slice Ao29 t658.length co29) t658) ∧ Aside0 (Kd.R k50 50 wc w.heap.size (fun k_ => some k_ ≠ ((.slice Ao21 t632.length co21) : Value).ownBlock ∧ some k_ ≠ ((.slice Ao25 t649.length co25) : Value).ownBlock ∧ some k_ ≠ ((.slice Ao29 t658.length co29) : Value).ownBlock ∧ some k_ ≠ ((.slice Ao34 t672.length co34) : Value).ownBlock ∧ some k_ ≠ ((.slice Ao38 t684.length co38) : Value).ownBlock) (.slice Ao30 t659.length co30) t659) ∧ Aside0 (Kd.S (Kd.slice 3 (Kd.int .i64)) 26 wc w.heap.size (fun k_ => some k_ ≠ (v647 : Value).ownBlock ∧ some k_ ≠ (v682 : Value).ownBlock) v670 t668) ∧ Aside0 (Kd.R k50 50 wc w.heap.size (fun k_ => some k_ ≠ ((.slice Ao21 t632.length co21) : Value).ownBlock ∧ some k_ ≠ ((.slice Ao25 t649.length co25) : Value).ownBlock ∧ some k_ ≠ ((.slice Ao29 t658.length co29) : Value).ownBlock ∧ some k_ ≠ ((.slice Ao30 t659.length co30) : Value).ownBlock ∧ some k_ ≠ ((.slice Ao38 t684.length co38) : Value).ownBlock) (.slice Ao34 t672.length co34) t672) ∧ Aside0 (Kd.R (Kd.int .i64) 3 wc w.heap.size (fun k_ => some k_ ≠ (v647 : Value).ownBlock) v682 t680) ∧ Aside0 (Kd.R k50 50 wc w.heap.size (fun k_ => some k_ ≠ ((.slice Ao21 t632.length co21) : Value).ownBlock ∧ some k_ ≠ ((.slice Ao25 t649.length co25) : Value).ownBlock ∧ some k_ ≠ ((.slice Ao29 t658.length co29) : Value).ownBlock ∧ some k_ ≠ ((.slice Ao30 t659.length co30) : Value).ownBlock ∧ some k_ ≠ ((.slice Ao34 t672.length co34) : Value).ownBlock) (.slice Ao38 t684.length co38) t684) ∧ Aside0 (Below w.heap.size w wc))
 case first =>
  as_aux_lemma =>
   have H := HC19.out
   clear HC19
   by_cases c41 : (t637 != t644) = true
   ·rw [if_pos c41] at H
    have c41b0 : (t637 != t644) = true := c41
    (try (have c41b1 : decide (t637 = t644) = false := by simpa using c41))
    (try (have c41b2 : (t637 == t644) = false := by simpa using c41))
    (try (have c41b3 : ¬ (t637 = t644) := by simpa using c41))
    clear c41
    (first | rw [c41b0] | (simp only [i64_w, i32_w]; rw [c41b0]) | skip)
    as_aux_lemma =>
     have H' := Aside0.mk H
     clear H
     go_wp2
     repeat (go_quiet (fail); try go_wp2)
     go_meet
     case rel => exact ⟨_, (true), z16_1_, H', ⟨oR_⟩, ⟨(rM_ HO634 (fun _ hk => ⟨hk.1.1.1.1.2, ⟨hk.1.1.1.2, ⟨hk.1.1.2, ⟨hk.1.2, hk.2⟩⟩⟩⟩))⟩, ⟨(rT1_ HO646)⟩, ⟨(rM_ HO648 (fun _ hk => hk.2))⟩, ⟨(rM_ HO653 (fun _ hk => ⟨hk.1.1.1.1.2, ⟨hk.1.1.1.2, ⟨hk.1.1.2, ⟨hk.1.2, hk.2⟩⟩⟩⟩))⟩, ⟨(rM_ HO661 (fun _ hk => ⟨hk.1.1.1.2, ⟨hk.1.1.2, ⟨hk.1.1.1.1, ⟨hk.1.2, hk.2⟩⟩⟩⟩))⟩, ⟨(rM_ HO663 (fun _ hk => ⟨hk.1.1.1.2, ⟨hk.1.1.2, ⟨hk.1.1.1.1, ⟨hk.1.2, hk.2⟩⟩⟩⟩))⟩, ⟨z16_2_⟩, ⟨(rM_ HO675 (fun _ hk => ⟨hk.1.1.1.1.2, ⟨hk.1.1.1.2, ⟨hk.1.1.2, ⟨hk.1.2, hk.2⟩⟩⟩⟩))⟩, ⟨(rM_ HO683 (fun _ hk => hk.1.2))⟩, ⟨(rM_ HO686 (fun _ hk => ⟨hk.1.1.1.1.2, ⟨hk.1.1.1.2, ⟨hk.1.1.2, ⟨hk.1.2, hk.2⟩⟩⟩⟩))⟩, ⟨hB_⟩⟩
   rw [if_neg c41] at H
   have c41b0 : (t637 != t644) = false := by simpa using c41
   (try (have c41b1 : decide (t637 = t644) = true := by simpa using c41))
   (try (have c41b2 : (t637 == t644) = true := by simpa using c41))
   clear c41
   (first | rw [c41b0] | (simp only [i64_w, i32_w]; rw [c41b0]) | skip)
   replace H := ob_ H; obtain ⟨t693, A42, H⟩ := H; try dsimp only at H
   by_cases c43 : t693 = true
   rotate_left
   ·replace c43 := Bool.eq_false_iff.mpr c43
    subst c43
    replace H := in_ H (show ¬ (false = true) by decide)
    as_aux_lemma =>
     have H' := Aside0.mk H
     clear H
     obtain ⟨Ao116, co116, eo116⟩ := Kd.R_slice HO639.out
     subst eo116
     obtain ⟨Ao117, co117, eo117⟩ := Kd.R_slice HO646.out
     subst eo117
     go_wp2_with (first | (go_at_call 19; (with_reducible refine (laws_qTexts.calls k _ _ t635 _ _ t642 false _ ?side1 ?side2 ?side3 ?side4 A42.out).mono ?_); (case side1 => exact cR_ HO639); (case side2 => exact (Kd.R_reads' HO639.out).2.1); (case side3 => exact cR_ HO646); (case side4 => exact (Kd.R_reads' HO646.out).2.1); rintro e w' ⟨rfl, ⟨nd, rfl⟩⟩; (try exact dd_)) | (go_quiet (first | (go_at_call 19; (with_reducible refine (laws_qTexts.calls k _ _ t635 _ _ t642 false _ ?side1 ?side2 ?side3 ?side4 A42.out).mono ?_); (case side1 => exact cR_ HO639); (case side2 => exact (Kd.R_reads' HO639.out).2.1); (case side3 => exact cR_ HO646); (case side4 => exact (Kd.R_reads' HO646.out).2.1); rintro e w' ⟨rfl, ⟨nd, rfl⟩⟩; (try exact dd_)))))
     go_meet
     case rel => exact ⟨_, (true), z16_1_, H', ⟨oR_⟩, ⟨(rM_ HO634 (fun _ hk => ⟨hk.1.1.1.1.2, ⟨hk.1.1.1.2, ⟨hk.1.1.2, ⟨hk.1.2, hk.2⟩⟩⟩⟩))⟩, ⟨(rT1_ HO646)⟩, ⟨(rM_ HO648 (fun _ hk => hk.2))⟩, ⟨(rM_ HO653 (fun _ hk => ⟨hk.1.1.1.1.2, ⟨hk.1.1.1.2, ⟨hk.1.1.2, ⟨hk.1.2, hk.2⟩⟩⟩⟩))⟩, ⟨(rM_ HO661 (fun _ hk => ⟨hk.1.1.1.2, ⟨hk.1.1.2, ⟨hk.1.1.1.1, ⟨hk.1.2, hk.2⟩⟩⟩⟩))⟩, ⟨(rM_ HO663 (fun _ hk => ⟨hk.1.1.1.2, ⟨hk.1.1.2, ⟨hk.1.1.1.1, ⟨hk.1.2, hk.2⟩⟩⟩⟩))⟩, ⟨z16_2_⟩, ⟨(rM_ HO675 (fun _ hk => ⟨hk.1.1.1.1.2, ⟨hk.1.1.1.2, ⟨hk.1.1.2, ⟨hk.1.2, hk.2⟩⟩⟩⟩))⟩, ⟨(rM_ HO683 (fun _ hk => hk.1.2))⟩, ⟨(rM_ HO686 (fun _ hk => ⟨hk.1.1.1.1.2, ⟨hk.1.1.1.2, ⟨hk.1.1.2, ⟨hk.1.2, hk.2⟩⟩⟩⟩))⟩, ⟨hB_⟩⟩
   subst c43
   replace H := ip_ H rfl
   replace H := ob_ H; obtain ⟨t694, A44, H⟩ := H; try dsimp only at H
   by_cases c45 : t694 = true
   rotate_left
   ·replace c45 := Bool.eq_false_iff.mpr c45
    subst c45
    replace H := in_ H (show ¬ (false = true) by decide)
    as_aux_lemma =>
     have H' := Aside0.mk H
     clear H
     obtain ⟨Ao112, co112, eo112⟩ := Kd.R_slice HO639.out
     subst eo112
     obtain ⟨Ao113, co113, eo113⟩ := Kd.R_slice HO646.out
     subst eo113
     go_wp2_with (first | (go_at_call 19; (with_reducible refine (laws_qTexts.calls k _ _ t635 _ _ t642 true _ ?side1 ?side2 ?side3 ?side4 A42.out).mono ?_); (case side1 => exact cR_ HO639); (case side2 => exact (Kd.R_reads' HO639.out).2.1); (case side3 => exact cR_ HO646); (case side4 => exact (Kd.R_reads' HO646.out).2.1); rintro e w' ⟨rfl, ⟨nd, rfl⟩⟩; (try exact dd_); obtain ⟨Ao114, co114, eo114⟩ := Kd.R_slice HO641.out; subst eo114; obtain ⟨Ao115, co115, eo115⟩ := Kd.R_slice HO648.out; subst eo115) | (go_at_call 20; (with_reducible refine (laws_qInts.calls k _ _ t636 _ _ t643 false _ ?side1 ?side2 ?side3 ?side4 A44.out).mono ?_); (case side1 => exact cR_ HO641); (case side2 => exact (Kd.R_reads' HO641.out).2.1); (case side3 => exact cR_ HO648); (case side4 => exact (Kd.R_reads' HO648.out).2.1); rintro e w' ⟨rfl, ⟨nd, rfl⟩⟩; (try exact dd_)) | (go_quiet (first | (go_at_call 19; (with_reducible refine (laws_qTexts.calls k _ _ t635 _ _ t642 true _ ?side1 ?side2 ?side3 ?side4 A42.out).mono ?_); (case side1 => exact cR_ HO639); (case side2 => exact (Kd.R_reads' HO639.out).2.1); (case side3 => exact cR_ HO646); (case side4 => exact (Kd.R_reads' HO646.out).2.1); rintro e w' ⟨rfl, ⟨nd, rfl⟩⟩; (try exact dd_); obtain ⟨Ao114, co114, eo114⟩ := Kd.R_slice HO641.out; subst eo114; obtain ⟨Ao115, co115, eo115⟩ := Kd.R_slice HO648.out; subst eo115) | (go_at_call 20; (with_reducible refine (laws_qInts.calls k _ _ t636 _ _ t643 false _ ?side1 ?side2 ?side3 ?side4 A44.out).mono ?_); (case side1 => exact cR_ HO641); (case side2 => exact (Kd.R_reads' HO641.out).2.1); (case side3 => exact cR_ HO648); (case side4 => exact (Kd.R_reads' HO648.out).2.1); rintro e w' ⟨rfl, ⟨nd, rfl⟩⟩; (try exact dd_)))))
     go_meet
     case rel => exact ⟨_, (true), z16_1_, H', ⟨oR_⟩, ⟨(rM_ HO634 (fun _ hk => ⟨hk.1.1.1.1.2, ⟨hk.1.1.1.2, ⟨hk.1.1.2, ⟨hk.1.2, hk.2⟩⟩⟩⟩))⟩, ⟨(rT1_ HO646)⟩, ⟨(rM_ HO648 (fun _ hk => hk.2))⟩, ⟨(rM_ HO653 (fun _ hk => ⟨hk.1.1.1.1.2, ⟨hk.1.1.1.2, ⟨hk.1.1.2, ⟨hk.1.2, hk.2⟩⟩⟩⟩))⟩, ⟨(rM_ HO661 (fun _ hk => ⟨hk.1.1.1.2, ⟨hk.1.1.2, ⟨hk.1.1.1.1, ⟨hk.1.2, hk.2⟩⟩⟩⟩))⟩, ⟨(rM_ HO663 (fun _ hk => ⟨hk.1.1.1.2, ⟨hk.1.1.2, ⟨hk.1.1.1.1, ⟨hk.1.2, hk.2⟩⟩⟩⟩))⟩, ⟨z16_2_⟩, ⟨(rM_ HO675 (fun _ hk => ⟨hk.1.1.1.1.2, ⟨hk.1.1.1.2, ⟨hk.1.1.2, ⟨hk.1.2, hk.2⟩⟩⟩⟩))⟩, ⟨(rM_ HO683 (fun _ hk => hk.1.2))⟩, ⟨(rM_ HO686 (fun _ hk => ⟨hk.1.1.1.1.2, ⟨hk.1.1.1.2, ⟨hk.1.1.2, ⟨hk.1.2, hk.2⟩⟩⟩⟩))⟩, ⟨hB_⟩⟩
   subst c45
   replace H := ip_ H rfl
   by_cases c46 : (t655 != t657) = true
   ·rw [if_pos c46] at H
    have c46b0 : (t655 != t657) = true := c46
    (try (have c46b1 : decide (t655 = t657) = false := by simpa using c46))
    (try (have c46b2 : (t655 == t657) = false := by simpa using c46))
    (try (have c46b3 : ¬ (t655 = t657) := by simpa using c46))
    clear c46
    as_aux_lemma =>
     have H' := Aside0.mk H
     clear H
     obtain ⟨Ao47, co47, eo47⟩ := Kd.R_slice HO639.out
     subst eo47
     obtain ⟨Ao48, co48, eo48⟩ := Kd.R_slice HO646.out
     subst eo48
     go_wp2_with (first | (go_at_call 19; (with_reducible refine (laws_qTexts.calls k _ _ t635 _ _ t642 true _ ?side1 ?side2 ?side3 ?side4 A42.out).mono ?_); (case side1 => exact cR_ HO639); (case side2 => exact (Kd.R_reads' HO639.out).2.1); (case side3 => exact cR_ HO646); (case side4 => exact (Kd.R_reads' HO646.out).2.1); rintro e w' ⟨rfl, ⟨nd, rfl⟩⟩; (try exact dd_); obtain ⟨Ao49, co49, eo49⟩ := Kd.R_slice HO641.out; subst eo49; obtain ⟨Ao50, co50, eo50⟩ := Kd.R_slice HO648.out; subst eo50) | (go_at_call 20; (with_reducible refine (laws_qInts.calls k _ _ t636 _ _ t643 true _ ?side1 ?side2 ?side3 ?side4 A44.out).mono ?_); (case side1 => exact cR_ HO641); (case side2 => exact (Kd.R_reads' HO641.out).2.1); (case side3 => exact cR_ HO648); (case side4 => exact (Kd.R_reads' HO648.out).2.1); rintro e w' ⟨rfl, ⟨nd, rfl⟩⟩; (try exact dd_)) | (go_quiet (first | (go_at_call 19; (with_reducible refine (laws_qTexts.calls k _ _ t635 _ _ t642 true _ ?side1 ?side2 ?side3 ?side4 A42.out).mono ?_); (case side1 => exact cR_ HO639); (case side2 => exact (Kd.R_reads' HO639.out).2.1); (case side3 => exact cR_ HO646); (case side4 => exact (Kd.R_reads' HO646.out).2.1); rintro e w' ⟨rfl, ⟨nd, rfl⟩⟩; (try exact dd_); obtain ⟨Ao49, co49, eo49⟩ := Kd.R_slice HO641.out; subst eo49; obtain ⟨Ao50, co50, eo50⟩ := Kd.R_slice HO648.out; subst eo50) | (go_at_call 20; (with_reducible refine (laws_qInts.calls k _ _ t636 _ _ t643 true _ ?side1 ?side2 ?side3 ?side4 A44.out).mono ?_); (case side1 => exact cR_ HO641); (case side2 => exact (Kd.R_reads' HO641.out).2.1); (case side3 => exact cR_ HO648); (case side4 => exact (Kd.R_reads' HO648.out).2.1); rintro e w' ⟨rfl, ⟨nd, rfl⟩⟩; (try exact dd_)))))
     go_meet
     case rel => exact ⟨_, (true), z16_1_, H', ⟨oR_⟩, ⟨(rM_ HO634 (fun _ hk => ⟨hk.1.1.1.1.2, ⟨hk.1.1.1.2, ⟨hk.1.1.2, ⟨hk.1.2, hk.2⟩⟩⟩⟩))⟩, ⟨(rT1_ HO646)⟩, ⟨(rM_ HO648 (fun _ hk => hk.2))⟩, ⟨(rM_ HO653 (fun _ hk => ⟨hk.1.1.1.1.2, ⟨hk.1.1.1.2, ⟨hk.1.1.2, ⟨hk.1.2, hk.2⟩⟩⟩⟩))⟩, ⟨(rM_ HO661 (fun _ hk => ⟨hk.1.1.1.2, ⟨hk.1.1.2, ⟨hk.1.1.1.1, ⟨hk.1.2, hk.2⟩⟩⟩⟩))⟩, ⟨(rM_ HO663 (fun _ hk => ⟨hk.1.1.1.2, ⟨hk.1.1.2, ⟨hk.1.1.1.1, ⟨hk.1.2, hk.2⟩⟩⟩⟩))⟩, ⟨z16_2_⟩, ⟨(rM_ HO675 (fun _ hk => ⟨hk.1.1.1.1.2, ⟨hk.1.1.1.2, ⟨hk.1.1.2, ⟨hk.1.2, hk.2⟩⟩⟩⟩))⟩, ⟨(rM_ HO683 (fun _ hk => hk.1.2))⟩, ⟨(rM_ HO686 (fun _ hk => ⟨hk.1.1.1.1.2, ⟨hk.1.1.1.2, ⟨hk.1.1.2, ⟨hk.1.2, hk.2⟩⟩⟩⟩))⟩, ⟨hB_⟩⟩
   rw [if_neg c46] at H
   have c46b0 : (t655 != t657) = false := by simpa using c46
   (try (have c46b1 : decide (t655 = t657) = true := by simpa using c46))
   (try (have c46b2 : (t655 == t657) = true := by simpa using c46))
   clear c46
   by_cases c51 : t654 = t656
   rotate_left
   ·rw [if_neg c51] at H
    have c51b0 : (t654 == t656) = false := beq_eq_false_iff_ne.mpr c51
    have c51b1 : (t654 != t656) = true := bne_iff_ne.mpr c51
    as_aux_lemma =>
     have H' := Aside0.mk H
     clear H
     obtain ⟨Ao108, co108, eo108⟩ := Kd.R_slice HO639.out
     subst eo108
     obtain ⟨Ao109, co109, eo109⟩ := Kd.R_slice HO646.out
     subst eo109
     go_wp2_with (first | (go_at_call 19; (with_reducible refine (laws_qTexts.calls k _ _ t635 _ _ t642 true _ ?side1 ?side2 ?side3 ?side4 A42.out).mono ?_); (case side1 => exact cR_ HO639); (case side2 => exact (Kd.R_reads' HO639.out).2.1); (case side3 => exact cR_ HO646); (case side4 => exact (Kd.R_reads' HO646.out).2.1); rintro e w' ⟨rfl, ⟨nd, rfl⟩⟩; (try exact dd_); obtain ⟨Ao110, co110, eo110⟩ := Kd.R_slice HO641.out; subst eo110; obtain ⟨Ao111, co111, eo111⟩ := Kd.R_slice HO648.out; subst eo111) | (go_at_call 20; (with_reducible refine (laws_qInts.calls k _ _ t636 _ _ t643 true _ ?side1 ?side2 ?side3 ?side4 A44.out).mono ?_); (case side1 => exact cR_ HO641); (case side2 => exact (Kd.R_reads' HO641.out).2.1); (case side3 => exact cR_ HO648); (case side4 => exact (Kd.R_reads' HO648.out).2.1); rintro e w' ⟨rfl, ⟨nd, rfl⟩⟩; (try exact dd_)) | (go_quiet (first | (go_at_call 19; (with_reducible refine (laws_qTexts.calls k _ _ t635 _ _ t642 true _ ?side1 ?side2 ?side3 ?side4 A42.out).mono ?_); (case side1 => exact cR_ HO639); (case side2 => exact (Kd.R_reads' HO639.out).2.1); (case side3 => exact cR_ HO646); (case side4 => exact (Kd.R_reads' HO646.out).2.1); rintro e w' ⟨rfl, ⟨nd, rfl⟩⟩; (try exact dd_); obtain ⟨Ao110, co110, eo110⟩ := Kd.R_slice HO641.out; subst eo110; obtain ⟨Ao111, co111, eo111⟩ := Kd.R_slice HO648.out; subst eo111) | (go_at_call 20; (with_reducible refine (laws_qInts.calls k _ _ t636 _ _ t643 true _ ?side1 ?side2 ?side3 ?side4 A44.out).mono ?_); (case side1 => exact cR_ HO641); (case side2 => exact (Kd.R_reads' HO641.out).2.1); (case side3 => exact cR_ HO648); (case side4 => exact (Kd.R_reads' HO648.out).2.1); rintro e w' ⟨rfl, ⟨nd, rfl⟩⟩; (try exact dd_)))))
     go_meet
     case rel => exact ⟨_, (true), z16_1_, H', ⟨oR_⟩, ⟨(rM_ HO634 (fun _ hk => ⟨hk.1.1.1.1.2, ⟨hk.1.1.1.2, ⟨hk.1.1.2, ⟨hk.1.2, hk.2⟩⟩⟩⟩))⟩, ⟨(rT1_ HO646)⟩, ⟨(rM_ HO648 (fun _ hk => hk.2))⟩, ⟨(rM_ HO653 (fun _ hk => ⟨hk.1.1.1.1.2, ⟨hk.1.1.1.2, ⟨hk.1.1.2, ⟨hk.1.2, hk.2⟩⟩⟩⟩))⟩, ⟨(rM_ HO661 (fun _ hk => ⟨hk.1.1.1.2, ⟨hk.1.1.2, ⟨hk.1.1.1.1, ⟨hk.1.2, hk.2⟩⟩⟩⟩))⟩, ⟨(rM_ HO663 (fun _ hk => ⟨hk.1.1.1.2, ⟨hk.1.1.2, ⟨hk.1.1.1.1, ⟨hk.1.2, hk.2⟩⟩⟩⟩))⟩, ⟨z16_2_⟩, ⟨(rM_ HO675 (fun _ hk => ⟨hk.1.1.1.1.2, ⟨hk.1.1.1.2, ⟨hk.1.1.2, ⟨hk.1.2, hk.2⟩⟩⟩⟩))⟩, ⟨(rM_ HO683 (fun _ hk => hk.1.2))⟩, ⟨(rM_ HO686 (fun _ hk => ⟨hk.1.1.1.1.2, ⟨hk.1.1.1.2, ⟨hk.1.1.2, ⟨hk.1.2, hk.2⟩⟩⟩⟩))⟩, ⟨hB_⟩⟩
   rw [if_pos c51] at H
   have c51b0 : (t654 == t656) = true := beq_iff_eq.mpr c51
   have c51b1 : (t654 != t656) = false := bne_eq_false_iff_eq.mpr c51
   clear c51
   by_cases c52 : (t665 != t669) = true
   ·rw [if_pos c52] at H
    have c52b0 : (t665 != t669) = true := c52
    (try (have c52b1 : decide (t665 = t669) = false := by simpa using c52))
    (try (have c52b2 : (t665 == t669) = false := by simpa using c52))
    (try (have c52b3 : ¬ (t665 = t669) := by simpa using c52))
    clear c52
    as_aux_lemma =>
     have H' := Aside0.mk H
     clear H
     obtain ⟨Ao53, co53, eo53⟩ := Kd.R_slice HO639.out
     subst eo53
     obtain ⟨Ao54, co54, eo54⟩ := Kd.R_slice HO646.out
     subst eo54
     go_wp2_with (first | (go_at_call 19; (with_reducible refine (laws_qTexts.calls k _ _ t635 _ _ t642 true _ ?side1 ?side2 ?side3 ?side4 A42.out).mono ?_); (case side1 => exact cR_ HO639); (case side2 => exact (Kd.R_reads' HO639.out).2.1); (case side3 => exact cR_ HO646); (case side4 => exact (Kd.R_reads' HO646.out).2.1); rintro e w' ⟨rfl, ⟨nd, rfl⟩⟩; (try exact dd_); obtain ⟨Ao55, co55, eo55⟩ := Kd.R_slice HO641.out; subst eo55; obtain ⟨Ao56, co56, eo56⟩ := Kd.R_slice HO648.out; subst eo56) | (go_at_call 20; (with_reducible refine (laws_qInts.calls k _ _ t636 _ _ t643 true _ ?side1 ?side2 ?side3 ?side4 A44.out).mono ?_); (case side1 => exact cR_ HO641); (case side2 => exact (Kd.R_reads' HO641.out).2.1); (case side3 => exact cR_ HO648); (case side4 => exact (Kd.R_reads' HO648.out).2.1); rintro e w' ⟨rfl, ⟨nd, rfl⟩⟩; (try exact dd_)) | (go_quiet (first | (go_at_call 19; (with_reducible refine (laws_qTexts.calls k _ _ t635 _ _ t642 true _ ?side1 ?side2 ?side3 ?side4 A42.out).mono ?_); (case side1 => exact cR_ HO639); (case side2 => exact (Kd.R_reads' HO639.out).2.1); (case side3 => exact cR_ HO646); (case side4 => exact (Kd.R_reads' HO646.out).2.1); rintro e w' ⟨rfl, ⟨nd, rfl⟩⟩; (try exact dd_); obtain ⟨Ao55, co55, eo55⟩ := Kd.R_slice HO641.out; subst eo55; obtain ⟨Ao56, co56, eo56⟩ := Kd.R_slice HO648.out; subst eo56) | (go_at_call 20; (with_reducible refine (laws_qInts.calls k _ _ t636 _ _ t643 true _ ?side1 ?side2 ?side3 ?side4 A44.out).mono ?_); (case side1 => exact cR_ HO641); (case side2 => exact (Kd.R_reads' HO641.out).2.1); (case side3 => exact cR_ HO648); (case side4 => exact (Kd.R_reads' HO648.out).2.1); rintro e w' ⟨rfl, ⟨nd, rfl⟩⟩; (try exact dd_)))))
     go_meet
     case rel => exact ⟨_, (true), z16_1_, H', ⟨oR_⟩, ⟨(rM_ HO634 (fun _ hk => ⟨hk.1.1.1.1.2, ⟨hk.1.1.1.2, ⟨hk.1.1.2, ⟨hk.1.2, hk.2⟩⟩⟩⟩))⟩, ⟨(rT1_ HO646)⟩, ⟨(rM_ HO648 (fun _ hk => hk.2))⟩, ⟨(rM_ HO653 (fun _ hk => ⟨hk.1.1.1.1.2, ⟨hk.1.1.1.2, ⟨hk.1.1.2, ⟨hk.1.2, hk.2⟩⟩⟩⟩))⟩, ⟨(rM_ HO661 (fun _ hk => ⟨hk.1.1.1.2, ⟨hk.1.1.2, ⟨hk.1.1.1.1, ⟨hk.1.2, hk.2⟩⟩⟩⟩))⟩, ⟨(rM_ HO663 (fun _ hk => ⟨hk.1.1.1.2, ⟨hk.1.1.2, ⟨hk.1.1.1.1, ⟨hk.1.2, hk.2⟩⟩⟩⟩))⟩, ⟨z16_2_⟩, ⟨(rM_ HO675 (fun _ hk => ⟨hk.1.1.1.1.2, ⟨hk.1.1.1.2, ⟨hk.1.1.2, ⟨hk.1.2, hk.2⟩⟩⟩⟩))⟩, ⟨(rM_ HO683 (fun _ hk => hk.1.2))⟩, ⟨(rM_ HO686 (fun _ hk => ⟨hk.1.1.1.1.2, ⟨hk.1.1.1.2, ⟨hk.1.1.2, ⟨hk.1.2, hk.2⟩⟩⟩⟩))⟩, ⟨hB_⟩⟩
   rw [if_neg c52] at H
   have c52b0 : (t665 != t669) = false := by simpa using c52
   (try (have c52b1 : decide (t665 = t669) = true := by simpa using c52))
   (try (have c52b2 : (t665 == t669) = true := by simpa using c52))
   clear c52
   replace H := ob_ H; obtain ⟨t695, A57, H⟩ := H; try dsimp only at H
   by_cases c58 : t695 = true
   rotate_left
   ·replace c58 := Bool.eq_false_iff.mpr c58
    subst c58
    replace H := in_ H (show ¬ (false = true) by decide)
    as_aux_lemma =>
     have H' := Aside0.mk H
     clear H
     obtain ⟨Ao102, co102, eo102⟩ := Kd.R_slice HO639.out
     subst eo102
     obtain ⟨Ao103, co103, eo103⟩ := Kd.R_slice HO646.out
     subst eo103
     go_wp2_with (first | (go_at_call 19; (with_reducible refine (laws_qTexts.calls k _ _ t635 _ _ t642 true _ ?side1 ?side2 ?side3 ?side4 A42.out).mono ?_); (case side1 => exact cR_ HO639); (case side2 => exact (Kd.R_reads' HO639.out).2.1); (case side3 => exact cR_ HO646); (case side4 => exact (Kd.R_reads' HO646.out).2.1); rintro e w' ⟨rfl, ⟨nd, rfl⟩⟩; (try exact dd_); obtain ⟨Ao104, co104, eo104⟩ := Kd.R_slice HO641.out; subst eo104; obtain ⟨Ao105, co105, eo105⟩ := Kd.R_slice HO648.out; subst eo105) | (go_at_call 20; (with_reducible refine (laws_qInts.calls k _ _ t636 _ _ t643 true _ ?side1 ?side2 ?side3 ?side4 A44.out).mono ?_); (case side1 => exact cR_ HO641); (case side2 => exact (Kd.R_reads' HO641.out).2.1); (case side3 => exact cR_ HO648); (case side4 => exact (Kd.R_reads' HO648.out).2.1); rintro e w' ⟨rfl, ⟨nd, rfl⟩⟩; (try exact dd_); obtain ⟨Ao106, co106, eo106⟩ := Kd.S_slice HO667.out; subst eo106; obtain ⟨Ao107, co107, eo107⟩ := Kd.S_slice HO671.out; subst eo107) | (go_at_call 21; (with_reducible refine (laws_qLists.calls k _ _ t664 _ _ t668 false _ ?side1 ?side2 ?side3 ?side4 A57.out).mono ?_); (case side1 => exact z16_3_); (case side2 => exact (Kd.S_reads' HO667.out).2.1); (case side3 => exact z16_4_); (case side4 => exact (Kd.S_reads' HO671.out).2.1); rintro e w' ⟨rfl, ⟨nd, rfl⟩⟩; (try exact dd_)) | (go_quiet (first | (go_at_call 19; (with_reducible refine (laws_qTexts.calls k _ _ t635 _ _ t642 true _ ?side1 ?side2 ?side3 ?side4 A42.out).mono ?_); (case side1 => exact cR_ HO639); (case side2 => exact (Kd.R_reads' HO639.out).2.1); (case side3 => exact cR_ HO646); (case side4 => exact (Kd.R_reads' HO646.out).2.1); rintro e w' ⟨rfl, ⟨nd, rfl⟩⟩; (try exact dd_); obtain ⟨Ao104, co104, eo104⟩ := Kd.R_slice HO641.out; subst eo104; obtain ⟨Ao105, co105, eo105⟩ := Kd.R_slice HO648.out; subst eo105) | (go_at_call 20; (with_reducible refine (laws_qInts.calls k _ _ t636 _ _ t643 true _ ?side1 ?side2 ?side3 ?side4 A44.out).mono ?_); (case side1 => exact cR_ HO641); (case side2 => exact (Kd.R_reads' HO641.out).2.1); (case side3 => exact cR_ HO648); (case side4 => exact (Kd.R_reads' HO648.out).2.1); rintro e w' ⟨rfl, ⟨nd, rfl⟩⟩; (try exact dd_); obtain ⟨Ao106, co106, eo106⟩ := Kd.S_slice HO667.out; subst eo106; obtain ⟨Ao107, co107, eo107⟩ := Kd.S_slice HO671.out; subst eo107) | (go_at_call 21; (with_reducible refine (laws_qLists.calls k _ _ t664 _ _ t668 false _ ?side1 ?side2 ?side3 ?side4 A57.out).mono ?_); (case side1 => exact z16_3_); (case side2 => exact (Kd.S_reads' HO667.out).2.1); (case side3 => exact z16_4_); (case side4 => exact (Kd.S_reads' HO671.out).2.1); rintro e w' ⟨rfl, ⟨nd, rfl⟩⟩; (try exact dd_)))))
     go_meet
     case rel => exact ⟨_, (true), z16_1_, H', ⟨oR_⟩, ⟨(rM_ HO634 (fun _ hk => ⟨hk.1.1.1.1.2, ⟨hk.1.1.1.2, ⟨hk.1.1.2, ⟨hk.1.2, hk.2⟩⟩⟩⟩))⟩, ⟨(rT1_ HO646)⟩, ⟨(rM_ HO648 (fun _ hk => hk.2))⟩, ⟨(rM_ HO653 (fun _ hk => ⟨hk.1.1.1.1.2, ⟨hk.1.1.1.2, ⟨hk.1.1.2, ⟨hk.1.2, hk.2⟩⟩⟩⟩))⟩, ⟨(rM_ HO661 (fun _ hk => ⟨hk.1.1.1.2, ⟨hk.1.1.2, ⟨hk.1.1.1.1, ⟨hk.1.2, hk.2⟩⟩⟩⟩))⟩, ⟨(rM_ HO663 (fun _ hk => ⟨hk.1.1.1.2, ⟨hk.1.1.2, ⟨hk.1.1.1.1, ⟨hk.1.2, hk.2⟩⟩⟩⟩))⟩, ⟨z16_2_⟩, ⟨(rM_ HO675 (fun _ hk => ⟨hk.1.1.1.1.2, ⟨hk.1.1.1.2, ⟨hk.1.1.2, ⟨hk.1.2, hk.2⟩⟩⟩⟩))⟩, ⟨(rM_ HO683 (fun _ hk => hk.1.2))⟩, ⟨(rM_ HO686 (fun _ hk => ⟨hk.1.1.1.1.2, ⟨hk.1.1.1.2, ⟨hk.1.1.2, ⟨hk.1.2, hk.2⟩⟩⟩⟩))⟩, ⟨hB_⟩⟩
   subst c58
   replace H := ip_ H rfl
   by_cases c59 : (t677 != t681) = true
   ·rw [if_pos c59] at H
    have c59b0 : (t677 != t681) = true := c59
    (try (have c59b1 : decide (t677 = t681) = false := by simpa using c59))
    (try (have c59b2 : (t677 == t681) = false := by simpa using c59))
    (try (have c59b3 : ¬ (t677 = t681) := by simpa using c59))
    clear c59
    as_aux_lemma =>
     have H' := Aside0.mk H
     clear H
     obtain ⟨Ao60, co60, eo60⟩ := Kd.R_slice HO639.out
     subst eo60
     obtain ⟨Ao61, co61, eo61⟩ := Kd.R_slice HO646.out
     subst eo61
     go_wp2_with (first | (go_at_call 19; (with_reducible refine (laws_qTexts.calls k _ _ t635 _ _ t642 true _ ?side1 ?side2 ?side3 ?side4 A42.out).mono ?_); (case side1 => exact cR_ HO639); (case side2 => exact (Kd.R_reads' HO639.out).2.1); (case side3 => exact cR_ HO646); (case side4 => exact (Kd.R_reads' HO646.out).2.1); rintro e w' ⟨rfl, ⟨nd, rfl⟩⟩; (try exact dd_); obtain ⟨Ao62, co62, eo62⟩ := Kd.R_slice HO641.out; subst eo62; obtain ⟨Ao63, co63, eo63⟩ := Kd.R_slice HO648.out; subst eo63) | (go_at_call 20; (with_reducible refine (laws_qInts.calls k _ _ t636 _ _ t643 true _ ?side1 ?side2 ?side3 ?side4 A44.out).mono ?_); (case side1 => exact cR_ HO641); (case side2 => exact (Kd.R_reads' HO641.out).2.1); (case side3 => exact cR_ HO648); (case side4 => exact (Kd.R_reads' HO648.out).2.1); rintro e w' ⟨rfl, ⟨nd, rfl⟩⟩; (try exact dd_); obtain ⟨Ao64, co64, eo64⟩ := Kd.S_slice HO667.out; subst eo64; obtain ⟨Ao65, co65, eo65⟩ := Kd.S_slice HO671.out; subst eo65) | (go_at_call 21; (with_reducible refine (laws_qLists.calls k _ _ t664 _ _ t668 true _ ?side1 ?side2 ?side3 ?side4 A57.out).mono ?_); (case side1 => exact z16_3_); (case side2 => exact (Kd.S_reads' HO667.out).2.1); (case side3 => exact z16_4_); (case side4 => exact (Kd.S_reads' HO671.out).2.1); rintro e w' ⟨rfl, ⟨nd, rfl⟩⟩; (try exact dd_)) | (go_quiet (first | (go_at_call 19; (with_reducible refine (laws_qTexts.calls k _ _ t635 _ _ t642 true _ ?side1 ?side2 ?side3 ?side4 A42.out).mono ?_); (case side1 => exact cR_ HO639); (case side2 => exact (Kd.R_reads' HO639.out).2.1); (case side3 => exact cR_ HO646); (case side4 => exact (Kd.R_reads' HO646.out).2.1); rintro e w' ⟨rfl, ⟨nd, rfl⟩⟩; (try exact dd_); obtain ⟨Ao62, co62, eo62⟩ := Kd.R_slice HO641.out; subst eo62; obtain ⟨Ao63, co63, eo63⟩ := Kd.R_slice HO648.out; subst eo63) | (go_at_call 20; (with_reducible refine (laws_qInts.calls k _ _ t636 _ _ t643 true _ ?side1 ?side2 ?side3 ?side4 A44.out).mono ?_); (case side1 => exact cR_ HO641); (case side2 => exact (Kd.R_reads' HO641.out).2.1); (case side3 => exact cR_ HO648); (case side4 => exact (Kd.R_reads' HO648.out).2.1); rintro e w' ⟨rfl, ⟨nd, rfl⟩⟩; (try exact dd_); obtain ⟨Ao64, co64, eo64⟩ := Kd.S_slice HO667.out; subst eo64; obtain ⟨Ao65, co65, eo65⟩ := Kd.S_slice HO671.out; subst eo65) | (go_at_call 21; (with_reducible refine (laws_qLists.calls k _ _ t664 _ _ t668 true _ ?side1 ?side2 ?side3 ?side4 A57.out).mono ?_); (case side1 => exact z16_3_); (case side2 => exact (Kd.S_reads' HO667.out).2.1); (case side3 => exact z16_4_); (case side4 => exact (Kd.S_reads' HO671.out).2.1); rintro e w' ⟨rfl, ⟨nd, rfl⟩⟩; (try exact dd_)))))
     go_meet
     case rel => exact ⟨_, (true), z16_1_, H', ⟨oR_⟩, ⟨(rM_ HO634 (fun _ hk => ⟨hk.1.1.1.1.2, ⟨hk.1.1.1.2, ⟨hk.1.1.2, ⟨hk.1.2, hk.2⟩⟩⟩⟩))⟩, ⟨(rT1_ HO646)⟩, ⟨(rM_ HO648 (fun _ hk => hk.2))⟩, ⟨(rM_ HO653 (fun _ hk => ⟨hk.1.1.1.1.2, ⟨hk.1.1.1.2, ⟨hk.1.1.2, ⟨hk.1.2, hk.2⟩⟩⟩⟩))⟩, ⟨(rM_ HO661 (fun _ hk => ⟨hk.1.1.1.2, ⟨hk.1.1.2, ⟨hk.1.1.1.1, ⟨hk.1.2, hk.2⟩⟩⟩⟩))⟩, ⟨(rM_ HO663 (fun _ hk => ⟨hk.1.1.1.2, ⟨hk.1.1.2, ⟨hk.1.1.1.1, ⟨hk.1.2, hk.2⟩⟩⟩⟩))⟩, ⟨z16_2_⟩, ⟨(rM_ HO675 (fun _ hk => ⟨hk.1.1.1.1.2, ⟨hk.1.1.1.2, ⟨hk.1.1.2, ⟨hk.1.2, hk.2⟩⟩⟩⟩))⟩, ⟨(rM_ HO683 (fun _ hk => hk.1.2))⟩, ⟨(rM_ HO686 (fun _ hk => ⟨hk.1.1.1.1.2, ⟨hk.1.1.1.2, ⟨hk.1.1.2, ⟨hk.1.2, hk.2⟩⟩⟩⟩))⟩, ⟨hB_⟩⟩
   rw [if_neg c59] at H
   have c59b0 : (t677 != t681) = false := by simpa using c59
   (try (have c59b1 : decide (t677 = t681) = true := by simpa using c59))
   (try (have c59b2 : (t677 == t681) = true := by simpa using c59))
   clear c59
   replace H := ob_ H; obtain ⟨t696, A66, H⟩ := H; try dsimp only at H
   by_cases c67 : t696 = true
   rotate_left
   ·replace c67 := Bool.eq_false_iff.mpr c67
    subst c67
    replace H := in_ H (show ¬ (false = true) by decide)
    as_aux_lemma =>
     have H' := Aside0.mk H
     clear H
     obtain ⟨Ao94, co94, eo94⟩ := Kd.R_slice HO639.out
     subst eo94
     obtain ⟨Ao95, co95, eo95⟩ := Kd.R_slice HO646.out
     subst eo95
     go_wp2_with (first | (go_at_call 19; (with_reducible refine (laws_qTexts.calls k _ _ t635 _ _ t642 true _ ?side1 ?side2 ?side3 ?side4 A42.out).mono ?_); (case side1 => exact cR_ HO639); (case side2 => exact (Kd.R_reads' HO639.out).2.1); (case side3 => exact cR_ HO646); (case side4 => exact (Kd.R_reads' HO646.out).2.1); rintro e w' ⟨rfl, ⟨nd, rfl⟩⟩; (try exact dd_); obtain ⟨Ao96, co96, eo96⟩ := Kd.R_slice HO641.out; subst eo96; obtain ⟨Ao97, co97, eo97⟩ := Kd.R_slice HO648.out; subst eo97) | (go_at_call 20; (with_reducible refine (laws_qInts.calls k _ _ t636 _ _ t643 true _ ?side1 ?side2 ?side3 ?side4 A44.out).mono ?_); (case side1 => exact cR_ HO641); (case side2 => exact (Kd.R_reads' HO641.out).2.1); (case side3 => exact cR_ HO648); (case side4 => exact (Kd.R_reads' HO648.out).2.1); rintro e w' ⟨rfl, ⟨nd, rfl⟩⟩; (try exact dd_); obtain ⟨Ao98, co98, eo98⟩ := Kd.S_slice HO667.out; subst eo98; obtain ⟨Ao99, co99, eo99⟩ := Kd.S_slice HO671.out; subst eo99) | (go_at_call 21; (with_reducible refine (laws_qLists.calls k _ _ t664 _ _ t668 true _ ?side1 ?side2 ?side3 ?side4 A57.out).mono ?_); (case side1 => exact z16_3_); (case side2 => exact (Kd.S_reads' HO667.out).2.1); (case side3 => exact z16_4_); (case side4 => exact (Kd.S_reads' HO671.out).2.1); rintro e w' ⟨rfl, ⟨nd, rfl⟩⟩; (try exact dd_); obtain ⟨Ao100, co100, eo100⟩ := Kd.R_slice HO679.out; subst eo100; obtain ⟨Ao101, co101, eo101⟩ := Kd.R_slice HO683.out; subst eo101) | (go_at_call 20; (with_reducible refine (laws_qInts.calls k _ _ t676 _ _ t680 false _ ?side1 ?side2 ?side3 ?side4 A66.out).mono ?_); (case side1 => exact cR_ HO679); (case side2 => exact (Kd.R_reads' HO679.out).2.1); (case side3 => exact cR_ HO683); (case side4 => exact (Kd.R_reads' HO683.out).2.1); rintro e w' ⟨rfl, ⟨nd, rfl⟩⟩; (try exact dd_)) | (go_quiet (first | (go_at_call 19; (with_reducible refine (laws_qTexts.calls k _ _ t635 _ _ t642 true _ ?side1 ?side2 ?side3 ?side4 A42.out).mono ?_); (case side1 => exact cR_ HO639); (case side2 => exact (Kd.R_reads' HO639.out).2.1); (case side3 => exact cR_ HO646); (case side4 => exact (Kd.R_reads' HO646.out).2.1); rintro e w' ⟨rfl, ⟨nd, rfl⟩⟩; (try exact dd_); obtain ⟨Ao96, co96, eo96⟩ := Kd.R_slice HO641.out; subst eo96; obtain ⟨Ao97, co97, eo97⟩ := Kd.R_slice HO648.out; subst eo97) | (go_at_call 20; (with_reducible refine (laws_qInts.calls k _ _ t636 _ _ t643 true _ ?side1 ?side2 ?side3 ?side4 A44.out).mono ?_); (case side1 => exact cR_ HO641); (case side2 => exact (Kd.R_reads' HO641.out).2.1); (case side3 => exact cR_ HO648); (case side4 => exact (Kd.R_reads' HO648.out).2.1); rintro e w' ⟨rfl, ⟨nd, rfl⟩⟩; (try exact dd_); obtain ⟨Ao98, co98, eo98⟩ := Kd.S_slice HO667.out; subst eo98; obtain ⟨Ao99, co99, eo99⟩ := Kd.S_slice HO671.out; subst eo99) | (go_at_call 21; (with_reducible refine (laws_qLists.calls k _ _ t664 _ _ t668 true _ ?side1 ?side2 ?side3 ?side4 A57.out).mono ?_); (case side1 => exact z16_3_); (case side2 => exact (Kd.S_reads' HO667.out).2.1); (case side3 => exact z16_4_); (case side4 => exact (Kd.S_reads' HO671.out).2.1); rintro e w' ⟨rfl, ⟨nd, rfl⟩⟩; (try exact dd_); obtain ⟨Ao100, co100, eo100⟩ := Kd.R_slice HO679.out; subst eo100; obtain ⟨Ao101, co101, eo101⟩ := Kd.R_slice HO683.out; subst eo101) | (go_at_call 20; (with_reducible refine (laws_qInts.calls k _ _ t676 _ _ t680 false _ ?side1 ?side2 ?side3 ?side4 A66.out).mono ?_); (case side1 => exact cR_ HO679); (case side2 => exact (Kd.R_reads' HO679.out).2.1); (case side3 => exact cR_ HO683); (case side4 => exact (Kd.R_reads' HO683.out).2.1); rintro e w' ⟨rfl, ⟨nd, rfl⟩⟩; (try exact dd_)))))
     go_meet
     case rel => exact ⟨_, (true), z16_1_, H', ⟨oR_⟩, ⟨(rM_ HO634 (fun _ hk => ⟨hk.1.1.1.1.2, ⟨hk.1.1.1.2, ⟨hk.1.1.2, ⟨hk.1.2, hk.2⟩⟩⟩⟩))⟩, ⟨(rT1_ HO646)⟩, ⟨(rM_ HO648 (fun _ hk => hk.2))⟩, ⟨(rM_ HO653 (fun _ hk => ⟨hk.1.1.1.1.2, ⟨hk.1.1.1.2, ⟨hk.1.1.2, ⟨hk.1.2, hk.2⟩⟩⟩⟩))⟩, ⟨(rM_ HO661 (fun _ hk => ⟨hk.1.1.1.2, ⟨hk.1.1.2, ⟨hk.1.1.1.1, ⟨hk.1.2, hk.2⟩⟩⟩⟩))⟩, ⟨(rM_ HO663 (fun _ hk => ⟨hk.1.1.1.2, ⟨hk.1.1.2, ⟨hk.1.1.1.1, ⟨hk.1.2, hk.2⟩⟩⟩⟩))⟩, ⟨z16_2_⟩, ⟨(rM_ HO675 (fun _ hk => ⟨hk.1.1.1.1.2, ⟨hk.1.1.1.2, ⟨hk.1.1.2, ⟨hk.1.2, hk.2⟩⟩⟩⟩))⟩, ⟨(rM_ HO683 (fun _ hk => hk.1.2))⟩, ⟨(rM_ HO686 (fun _ hk => ⟨hk.1.1.1.1.2, ⟨hk.1.1.1.2, ⟨hk.1.1.2, ⟨hk.1.2, hk.2⟩⟩⟩⟩))⟩, ⟨hB_⟩⟩
   subst c67
   replace H := ip_ H rfl
   by_cases c68 : (t689 != t692) = true
   ·rw [if_pos c68] at H
    have c68b0 : (t689 != t692) = true := c68
    (try (have c68b1 : decide (t689 = t692) = false := by simpa using c68))
    (try (have c68b2 : (t689 == t692) = false := by simpa using c68))
    (try (have c68b3 : ¬ (t689 = t692) := by simpa using c68))
    clear c68
    as_aux_lemma =>
     have H' := Aside0.mk H
     clear H
     obtain ⟨Ao69, co69, eo69⟩ := Kd.R_slice HO639.out
     subst eo69
     obtain ⟨Ao70, co70, eo70⟩ := Kd.R_slice HO646.out
     subst eo70
     go_wp2_with (first | (go_at_call 19; (with_reducible refine (laws_qTexts.calls k _ _ t635 _ _ t642 true _ ?side1 ?side2 ?side3 ?side4 A42.out).mono ?_); (case side1 => exact cR_ HO639); (case side2 => exact (Kd.R_reads' HO639.out).2.1); (case side3 => exact cR_ HO646); (case side4 => exact (Kd.R_reads' HO646.out).2.1); rintro e w' ⟨rfl, ⟨nd, rfl⟩⟩; (try exact dd_); obtain ⟨Ao71, co71, eo71⟩ := Kd.R_slice HO641.out; subst eo71; obtain ⟨Ao72, co72, eo72⟩ := Kd.R_slice HO648.out; subst eo72) | (go_at_call 20; (with_reducible refine (laws_qInts.calls k _ _ t636 _ _ t643 true _ ?side1 ?side2 ?side3 ?side4 A44.out).mono ?_); (case side1 => exact cR_ HO641); (case side2 => exact (Kd.R_reads' HO641.out).2.1); (case side3 => exact cR_ HO648); (case side4 => exact (Kd.R_reads' HO648.out).2.1); rintro e w' ⟨rfl, ⟨nd, rfl⟩⟩; (try exact dd_); obtain ⟨Ao73, co73, eo73⟩ := Kd.S_slice HO667.out; subst eo73; obtain ⟨Ao74, co74, eo74⟩ := Kd.S_slice HO671.out; subst eo74) | (go_at_call 21; (with_reducible refine (laws_qLists.calls k _ _ t664 _ _ t668 true _ ?side1 ?side2 ?side3 ?side4 A57.out).mono ?_); (case side1 => exact z16_3_); (case side2 => exact (Kd.S_reads' HO667.out).2.1); (case side3 => exact z16_4_); (case side4 => exact (Kd.S_reads' HO671.out).2.1); rintro e w' ⟨rfl, ⟨nd, rfl⟩⟩; (try exact dd_); obtain ⟨Ao75, co75, eo75⟩ := Kd.R_slice HO679.out; subst eo75; obtain ⟨Ao76, co76, eo76⟩ := Kd.R_slice HO683.out; subst eo76) | (go_at_call 20; (with_reducible refine (laws_qInts.calls k _ _ t676 _ _ t680 true _ ?side1 ?side2 ?side3 ?side4 A66.out).mono ?_); (case side1 => exact cR_ HO679); (case side2 => exact (Kd.R_reads' HO679.out).2.1); (case side3 => exact cR_ HO683); (case side4 => exact (Kd.R_reads' HO683.out).2.1); rintro e w' ⟨rfl, ⟨nd, rfl⟩⟩; (try exact dd_)) | (go_quiet (first | (go_at_call 19; (with_reducible refine (laws_qTexts.calls k _ _ t635 _ _ t642 true _ ?side1 ?side2 ?side3 ?side4 A42.out).mono ?_); (case side1 => exact cR_ HO639); (case side2 => exact (Kd.R_reads' HO639.out).2.1); (case side3 => exact cR_ HO646); (case side4 => exact (Kd.R_reads' HO646.out).2.1); rintro e w' ⟨rfl, ⟨nd, rfl⟩⟩; (try exact dd_); obtain ⟨Ao71, co71, eo71⟩ := Kd.R_slice HO641.out; subst eo71; obtain ⟨Ao72, co72, eo72⟩ := Kd.R_slice HO648.out; subst eo72) | (go_at_call 20; (with_reducible refine (laws_qInts.calls k _ _ t636 _ _ t643 true _ ?side1 ?side2 ?side3 ?side4 A44.out).mono ?_); (case side1 => exact cR_ HO641); (case side2 => exact (Kd.R_reads' HO641.out).2.1); (case side3 => exact cR_ HO648); (case side4 => exact (Kd.R_reads' HO648.out).2.1); rintro e w' ⟨rfl, ⟨nd, rfl⟩⟩; (try exact dd_); obtain ⟨Ao73, co73, eo73⟩ := Kd.S_slice HO667.out; subst eo73; obtain ⟨Ao74, co74, eo74⟩ := Kd.S_slice HO671.out; subst eo74) | (go_at_call 21; (with_reducible refine (laws_qLists.calls k _ _ t664 _ _ t668 true _ ?side1 ?side2 ?side3 ?side4 A57.out).mono ?_); (case side1 => exact z16_3_); (case side2 => exact (Kd.S_reads' HO667.out).2.1); (case side3 => exact z16_4_); (case side4 => exact (Kd.S_reads' HO671.out).2.1); rintro e w' ⟨rfl, ⟨nd, rfl⟩⟩; (try exact dd_); obtain ⟨Ao75, co75, eo75⟩ := Kd.R_slice HO679.out; subst eo75; obtain ⟨Ao76, co76, eo76⟩ := Kd.R_slice HO683.out; subst eo76) | (go_at_call 20; (with_reducible refine (laws_qInts.calls k _ _ t676 _ _ t680 true _ ?side1 ?side2 ?side3 ?side4 A66.out).mono ?_); (case side1 => exact cR_ HO679); (case side2 => exact (Kd.R_reads' HO679.out).2.1); (case side3 => exact cR_ HO683); (case side4 => exact (Kd.R_reads' HO683.out).2.1); rintro e w' ⟨rfl, ⟨nd, rfl⟩⟩; (try exact dd_)))))
     go_meet
     case rel => exact ⟨_, (true), z16_1_, H', ⟨oR_⟩, ⟨(rM_ HO634 (fun _ hk => ⟨hk.1.1.1.1.2, ⟨hk.1.1.1.2, ⟨hk.1.1.2, ⟨hk.1.2, hk.2⟩⟩⟩⟩))⟩, ⟨(rT1_ HO646)⟩, ⟨(rM_ HO648 (fun _ hk => hk.2))⟩, ⟨(rM_ HO653 (fun _ hk => ⟨hk.1.1.1.1.2, ⟨hk.1.1.1.2, ⟨hk.1.1.2, ⟨hk.1.2, hk.2⟩⟩⟩⟩))⟩, ⟨(rM_ HO661 (fun _ hk => ⟨hk.1.1.1.2, ⟨hk.1.1.2, ⟨hk.1.1.1.1, ⟨hk.1.2, hk.2⟩⟩⟩⟩))⟩, ⟨(rM_ HO663 (fun _ hk => ⟨hk.1.1.1.2, ⟨hk.1.1.2, ⟨hk.1.1.1.1, ⟨hk.1.2, hk.2⟩⟩⟩⟩))⟩, ⟨z16_2_⟩, ⟨(rM_ HO675 (fun _ hk => ⟨hk.1.1.1.1.2, ⟨hk.1.1.1.2, ⟨hk.1.1.2, ⟨hk.1.2, hk.2⟩⟩⟩⟩))⟩, ⟨(rM_ HO683 (fun _ hk => hk.1.2))⟩, ⟨(rM_ HO686 (fun _ hk => ⟨hk.1.1.1.1.2, ⟨hk.1.1.1.2, ⟨hk.1.1.2, ⟨hk.1.2, hk.2⟩⟩⟩⟩))⟩, ⟨hB_⟩⟩
   rw [if_neg c68] at H
   have c68b0 : (t689 != t692) = false := by simpa using c68
   (try (have c68b1 : decide (t689 = t692) = true := by simpa using c68))
   (try (have c68b2 : (t689 == t692) = true := by simpa using c68))
   clear c68
   by_cases c77 : t687 = t690
   rotate_left
   ·rw [if_neg c77] at H
    have c77b0 : (t687 == t690) = false := beq_eq_false_iff_ne.mpr c77
    have c77b1 : (t687 != t690) = true := bne_iff_ne.mpr c77
    as_aux_lemma =>
     have H' := Aside0.mk H
     clear H
     obtain ⟨Ao86, co86, eo86⟩ := Kd.R_slice HO639.out
     subst eo86
     obtain ⟨Ao87, co87, eo87⟩ := Kd.R_slice HO646.out
     subst eo87
     go_wp2_with (first | (go_at_call 19; (with_reducible refine (laws_qTexts.calls k _ _ t635 _ _ t642 true _ ?side1 ?side2 ?side3 ?side4 A42.out).mono ?_); (case side1 => exact cR_ HO639); (case side2 => exact (Kd.R_reads' HO639.out).2.1); (case side3 => exact cR_ HO646); (case side4 => exact (Kd.R_reads' HO646.out).2.1); rintro e w' ⟨rfl, ⟨nd, rfl⟩⟩; (try exact dd_); obtain ⟨Ao88, co88, eo88⟩ := Kd.R_slice HO641.out; subst eo88; obtain ⟨Ao89, co89, eo89⟩ := Kd.R_slice HO648.out; subst eo89) | (go_at_call 20; (with_reducible refine (laws_qInts.calls k _ _ t636 _ _ t643 true _ ?side1 ?side2 ?side3 ?side4 A44.out).mono ?_); (case side1 => exact cR_ HO641); (case side2 => exact (Kd.R_reads' HO641.out).2.1); (case side3 => exact cR_ HO648); (case side4 => exact (Kd.R_reads' HO648.out).2.1); rintro e w' ⟨rfl, ⟨nd, rfl⟩⟩; (try exact dd_); obtain ⟨Ao90, co90, eo90⟩ := Kd.S_slice HO667.out; subst eo90; obtain ⟨Ao91, co91, eo91⟩ := Kd.S_slice HO671.out; subst eo91) | (go_at_call 21; (with_reducible refine (laws_qLists.calls k _ _ t664 _ _ t668 true _ ?side1 ?side2 ?side3 ?side4 A57.out).mono ?_); (case side1 => exact z16_3_); (case side2 => exact (Kd.S_reads' HO667.out).2.1); (case side3 => exact z16_4_); (case side4 => exact (Kd.S_reads' HO671.out).2.1); rintro e w' ⟨rfl, ⟨nd, rfl⟩⟩; (try exact dd_); obtain ⟨Ao92, co92, eo92⟩ := Kd.R_slice HO679.out; subst eo92; obtain ⟨Ao93, co93, eo93⟩ := Kd.R_slice HO683.out; subst eo93) | (go_at_call 20; (with_reducible refine (laws_qInts.calls k _ _ t676 _ _ t680 true _ ?side1 ?side2 ?side3 ?side4 A66.out).mono ?_); (case side1 => exact cR_ HO679); (case side2 => exact (Kd.R_reads' HO679.out).2.1); (case side3 => exact cR_ HO683); (case side4 => exact (Kd.R_reads' HO683.out).2.1); rintro e w' ⟨rfl, ⟨nd, rfl⟩⟩; (try exact dd_)) | (go_quiet (first | (go_at_call 19; (with_reducible refine (laws_qTexts.calls k _ _ t635 _ _ t642 true _ ?side1 ?side2 ?side3 ?side4 A42.out).mono ?_); (case side1 => exact cR_ HO639); (case side2 => exact (Kd.R_reads' HO639.out).2.1); (case side3 => exact cR_ HO646); (case side4 => exact (Kd.R_reads' HO646.out).2.1); rintro e w' ⟨rfl, ⟨nd, rfl⟩⟩; (try exact dd_); obtain ⟨Ao88, co88, eo88⟩ := Kd.R_slice HO641.out; subst eo88; obtain ⟨Ao89, co89, eo89⟩ := Kd.R_slice HO648.out; subst eo89) | (go_at_call 20; (with_reducible refine (laws_qInts.calls k _ _ t636 _ _ t643 true _ ?side1 ?side2 ?side3 ?side4 A44.out).mono ?_); (case side1 => exact cR_ HO641); (case side2 => exact (Kd.R_reads' HO641.out).2.1); (case side3 => exact cR_ HO648); (case side4 => exact (Kd.R_reads' HO648.out).2.1); rintro e w' ⟨rfl, ⟨nd, rfl⟩⟩; (try exact dd_); obtain ⟨Ao90, co90, eo90⟩ := Kd.S_slice HO667.out; subst eo90; obtain ⟨Ao91, co91, eo91⟩ := Kd.S_slice HO671.out; subst eo91) | (go_at_call 21; (with_reducible refine (laws_qLists.calls k _ _ t664 _ _ t668 true _ ?side1 ?side2 ?side3 ?side4 A57.out).mono ?_); (case side1 => exact z16_3_); (case side2 => exact (Kd.S_reads' HO667.out).2.1); (case side3 => exact z16_4_); (case side4 => exact (Kd.S_reads' HO671.out).2.1); rintro e w' ⟨rfl, ⟨nd, rfl⟩⟩; (try exact dd_); obtain ⟨Ao92, co92, eo92⟩ := Kd.R_slice HO679.out; subst eo92; obtain ⟨Ao93, co93, eo93⟩ := Kd.R_slice HO683.out; subst eo93) | (go_at_call 20; (with_reducible refine (laws_qInts.calls k _ _ t676 _ _ t680 true _ ?side1 ?side2 ?side3 ?side4 A66.out).mono ?_); (case side1 => exact cR_ HO679); (case side2 => exact (Kd.R_reads' HO679.out).2.1); (case side3 => exact cR_ HO683); (case side4 => exact (Kd.R_reads' HO683.out).2.1); rintro e w' ⟨rfl, ⟨nd, rfl⟩⟩; (try exact dd_)))))
     go_meet
     case rel => exact ⟨_, (true), z16_1_, H', ⟨oR_⟩, ⟨(rM_ HO634 (fun _ hk => ⟨hk.1.1.1.1.2, ⟨hk.1.1.1.2, ⟨hk.1.1.2, ⟨hk.1.2, hk.2⟩⟩⟩⟩))⟩, ⟨(rT1_ HO646)⟩, ⟨(rM_ HO648 (fun _ hk => hk.2))⟩, ⟨(rM_ HO653 (fun _ hk => ⟨hk.1.1.1.1.2, ⟨hk.1.1.1.2, ⟨hk.1.1.2, ⟨hk.1.2, hk.2⟩⟩⟩⟩))⟩, ⟨(rM_ HO661 (fun _ hk => ⟨hk.1.1.1.2, ⟨hk.1.1.2, ⟨hk.1.1.1.1, ⟨hk.1.2, hk.2⟩⟩⟩⟩))⟩, ⟨(rM_ HO663 (fun _ hk => ⟨hk.1.1.1.2, ⟨hk.1.1.2, ⟨hk.1.1.1.1, ⟨hk.1.2, hk.2⟩⟩⟩⟩))⟩, ⟨z16_2_⟩, ⟨(rM_ HO675 (fun _ hk => ⟨hk.1.1.1.1.2, ⟨hk.1.1.1.2, ⟨hk.1.1.2, ⟨hk.1.2, hk.2⟩⟩⟩⟩))⟩, ⟨(rM_ HO683 (fun _ hk => hk.1.2))⟩, ⟨(rM_ HO686 (fun _ hk => ⟨hk.1.1.1.1.2, ⟨hk.1.1.1.2, ⟨hk.1.1.2, ⟨hk.1.2, hk.2⟩⟩⟩⟩))⟩, ⟨hB_⟩⟩
   rw [if_pos c77] at H
   have c77b0 : (t687 == t690) = true := beq_iff_eq.mpr c77
   have c77b1 : (t687 != t690) = false := bne_eq_false_iff_eq.mpr c77
   clear c77
   as_aux_lemma =>
    have H' := Aside0.mk H
    clear H
    obtain ⟨Ao78, co78, eo78⟩ := Kd.R_slice HO639.out
    subst eo78
    obtain ⟨Ao79, co79, eo79⟩ := Kd.R_slice HO646.out
    subst eo79
    go_wp2_with (first | (go_at_call 19; (with_reducible refine (laws_qTexts.calls k _ _ t635 _ _ t642 true _ ?side1 ?side2 ?side3 ?side4 A42.out).mono ?_); (case side1 => exact cR_ HO639); (case side2 => exact (Kd.R_reads' HO639.out).2.1); (case side3 => exact cR_ HO646); (case side4 => exact (Kd.R_reads' HO646.out).2.1); rintro e w' ⟨rfl, ⟨nd, rfl⟩⟩; (try exact dd_); obtain ⟨Ao80, co80, eo80⟩ := Kd.R_slice HO641.out; subst eo80; obtain ⟨Ao81, co81, eo81⟩ := Kd.R_slice HO648.out; subst eo81) | (go_at_call 20; (with_reducible refine (laws_qInts.calls k _ _ t636 _ _ t643 true _ ?side1 ?side2 ?side3 ?side4 A44.out).mono ?_); (case side1 => exact cR_ HO641); (case side2 => exact (Kd.R_reads' HO641.out).2.1); (case side3 => exact cR_ HO648); (case side4 => exact (Kd.R_reads' HO648.out).2.1); rintro e w' ⟨rfl, ⟨nd, rfl⟩⟩; (try exact dd_); obtain ⟨Ao82, co82, eo82⟩ := Kd.S_slice HO667.out; subst eo82; obtain ⟨Ao83, co83, eo83⟩ := Kd.S_slice HO671.out; subst eo83) | (go_at_call 21; (with_reducible refine (laws_qLists.calls k _ _ t664 _ _ t668 true _ ?side1 ?side2 ?side3 ?side4 A57.out).mono ?_); (case side1 => exact z16_3_); (case side2 => exact (Kd.S_reads' HO667.out).2.1); (case side3 => exact z16_4_); (case side4 => exact (Kd.S_reads' HO671.out).2.1); rintro e w' ⟨rfl, ⟨nd, rfl⟩⟩; (try exact dd_); obtain ⟨Ao84, co84, eo84⟩ := Kd.R_slice HO679.out; subst eo84; obtain ⟨Ao85, co85, eo85⟩ := Kd.R_slice HO683.out; subst eo85) | (go_at_call 20; (with_reducible refine (laws_qInts.calls k _ _ t676 _ _ t680 true _ ?side1 ?side2 ?side3 ?side4 A66.out).mono ?_); (case side1 => exact cR_ HO679); (case side2 => exact (Kd.R_reads' HO679.out).2.1); (case side3 => exact cR_ HO683); (case side4 => exact (Kd.R_reads' HO683.out).2.1); rintro e w' ⟨rfl, ⟨nd, rfl⟩⟩; (try exact dd_)) | (go_quiet (first | (go_at_call 19; (with_reducible refine (laws_qTexts.calls k _ _ t635 _ _ t642 true _ ?side1 ?side2 ?side3 ?side4 A42.out).mono ?_); (case side1 => exact cR_ HO639); (case side2 => exact (Kd.R_reads' HO639.out).2.1); (case side3 => exact cR_ HO646); (case side4 => exact (Kd.R_reads' HO646.out).2.1); rintro e w' ⟨rfl, ⟨nd, rfl⟩⟩; (try exact dd_); obtain ⟨Ao80, co80, eo80⟩ := Kd.R_slice HO641.out; subst eo80; obtain ⟨Ao81, co81, eo81⟩ := Kd.R_slice HO648.out; subst eo81) | (go_at_call 20; (with_reducible refine (laws_qInts.calls k _ _ t636 _ _ t643 true _ ?side1 ?side2 ?side3 ?side4 A44.out).mono ?_); (case side1 => exact cR_ HO641); (case side2 => exact (Kd.R_reads' HO641.out).2.1); (case side3 => exact cR_ HO648); (case side4 => exact (Kd.R_reads' HO648.out).2.1); rintro e w' ⟨rfl, ⟨nd, rfl⟩⟩; (try exact dd_); obtain ⟨Ao82, co82, eo82⟩ := Kd.S_slice HO667.out; subst eo82; obtain ⟨Ao83, co83, eo83⟩ := Kd.S_slice HO671.out; subst eo83) | (go_at_call 21; (with_reducible refine (laws_qLists.calls k _ _ t664 _ _ t668 true _ ?side1 ?side2 ?side3 ?side4 A57.out).mono ?_); (case side1 => exact z16_3_); (case side2 => exact (Kd.S_reads' HO667.out).2.1); (case side3 => exact z16_4_); (case side4 => exact (Kd.S_reads' HO671.out).2.1); rintro e w' ⟨rfl, ⟨nd, rfl⟩⟩; (try exact dd_); obtain ⟨Ao84, co84, eo84⟩ := Kd.R_slice HO679.out; subst eo84; obtain ⟨Ao85, co85, eo85⟩ := Kd.R_slice HO683.out; subst eo85) | (go_at_call 20; (with_reducible refine (laws_qInts.calls k _ _ t676 _ _ t680 true _ ?side1 ?side2 ?side3 ?side4 A66.out).mono ?_); (case side1 => exact cR_ HO679); (case side2 => exact (Kd.R_reads' HO679.out).2.1); (case side3 => exact cR_ HO683); (case side4 => exact (Kd.R_reads' HO683.out).2.1); rintro e w' ⟨rfl, ⟨nd, rfl⟩⟩; (try exact dd_)))))
    go_meet
    case rel => exact ⟨_, ((t688 != t691)), z16_1_, H', ⟨oR_⟩, ⟨(rM_ HO634 (fun _ hk => ⟨hk.1.1.1.1.2, ⟨hk.1.1.1.2, ⟨hk.1.1.2, ⟨hk.1.2, hk.2⟩⟩⟩⟩))⟩, ⟨(rT1_ HO646)⟩, ⟨(rM_ HO648 (fun _ hk => hk.2))⟩, ⟨(rM_ HO653 (fun _ hk => ⟨hk.1.1.1.1.2, ⟨hk.1.1.1.2, ⟨hk.1.1.2, ⟨hk.1.2, hk.2⟩⟩⟩⟩))⟩, ⟨(rM_ HO661 (fun _ hk => ⟨hk.1.1.1.2, ⟨hk.1.1.2, ⟨hk.1.1.1.1, ⟨hk.1.2, hk.2⟩⟩⟩⟩))⟩, ⟨(rM_ HO663 (fun _ hk => ⟨hk.1.1.1.2, ⟨hk.1.1.2, ⟨hk.1.1.1.1, ⟨hk.1.2, hk.2⟩⟩⟩⟩))⟩, ⟨z16_2_⟩, ⟨(rM_ HO675 (fun _ hk => ⟨hk.1.1.1.1.2, ⟨hk.1.1.1.2, ⟨hk.1.1.2, ⟨hk.1.2, hk.2⟩⟩⟩⟩))⟩, ⟨(rM_ HO683 (fun _ hk => hk.1.2))⟩, ⟨(rM_ HO686 (fun _ hk => ⟨hk.1.1.1.1.2, ⟨hk.1.1.1.2, ⟨hk.1.1.2, ⟨hk.1.2, hk.2⟩⟩⟩⟩))⟩, ⟨hB_⟩⟩
 case rest =>
  as_aux_lemma =>
   clear HC19
   (try clear c1);(try clear c3);(try clear c3b0)
   obtain ⟨kq, x201_18, rfl, HA, HJ18, HO_5, HO_9, HO_10, HO_12, HO_19, HO_20, HO_23, HO_25, HO_29, HO_31, HB⟩ := hcut
   cases kq with
   | zero => exact absurd HA.out (by simp [laws_FnTierCounts.j0])
   | succ kj18 =>
    as_aux_lemma =>
     have H := HA.out
     clear HA
     simp only [laws_FnTierCounts.j0] at H
     by_cases c118 : x201_18 = true
     ·subst c118
      replace H := ip_ H rfl
      as_aux_lemma =>
       obtain rfl := Option.some.inj H
       go_wp2
       repeat (go_quiet (fail); try go_wp2)
       go_ret
       exact ⟨rT_, hB_⟩
     replace c118 := Bool.eq_false_iff.mpr c118
     subst c118
     replace H := in_ H (show ¬ (false = true) by decide)
     have HC119 := Aside0.mk H
     clear H
     go_upto_if 202 with (fail)
     repeat (go_quiet (fail); go_upto_if 202 with (fail))
     go_cut [] (fun wc => ∃ (kq : Nat), Aside0 (laws_FnTierCounts.j2 kq t649 t650 t651 t655 t656 t658 t659 t668 t672 t673 t677 t680 t684 t689 t691 = some r) ∧ Aside0 (kq ≤ kj18) ∧ Aside0 (Kd.R k50 50 wc w.heap.size (fun k_ => some k_ ≠ ((.slice Ao29 t658.length co29) : Value).ownBlock ∧ some k_ ≠ ((.slice Ao30 t659.length co30) : Value).ownBlock ∧ some k_ ≠ ((.slice Ao34 t672.length co34) : Value).ownBlock ∧ some k_ ≠ ((.slice Ao38 t684.length co38) : Value).ownBlock) (.slice Ao25 t649.length co25) t649) ∧ Aside0 (Kd.R k50 50 wc w.heap.size (fun k_ => some k_ ≠ ((.slice Ao25 t649.length co25) : Value).ownBlock ∧ some k_ ≠ ((.slice Ao30 t659.length co30) : Value).ownBlock ∧ some k_ ≠ ((.slice Ao34 t672.length co34) : Value).ownBlock ∧ some k_ ≠ ((.slice Ao38 t684.length co38) : Value).ownBlock) (.slice Ao29 t658.length co29) t658) ∧ Aside0 (Kd.R k50 50 wc w.heap.size (fun k_ => some k_ ≠ ((.slice Ao25 t649.length co25) : Value).ownBlock ∧ some k_ ≠ ((.slice Ao29 t658.length co29) : Value).ownBlock ∧ some k_ ≠ ((.slice Ao34 t672.length co34) : Value).ownBlock ∧ some k_ ≠ ((.slice Ao38 t684.length co38) : Value).ownBlock) (.slice Ao30 t659.length co30) t659) ∧ Aside0 (Kd.S (Kd.slice 3 (Kd.int .i64)) 26 wc w.heap.size (fun k_ => some k_ ≠ (v682 : Value).ownBlock) v670 t668) ∧ Aside0 (Kd.R k50 50 wc w.heap.size (fun k_ => some k_ ≠ ((.slice Ao25 t649.length co25) : Value).ownBlock ∧ some k_ ≠ ((.slice Ao29 t658.length co29) : Value).ownBlock ∧ some k_ ≠ ((.slice Ao30 t659.length co30) : Value).ownBlock ∧ some k_ ≠ ((.slice Ao38 t684.length co38) : Value).ownBlock) (.slice Ao34 t672.length co34) t672) ∧ Aside0 (Kd.R (Kd.int .i64) 3 wc w.heap.size (fun _ => True) v682 t680) ∧ Aside0 (Kd.R k50 50 wc w.heap.size (fun k_ => some k_ ≠ ((.slice Ao25 t649.length co25) : Value).ownBlock ∧ some k_ ≠ ((.slice Ao29 t658.length co29) : Value).ownBlock ∧ some k_ ≠ ((.slice Ao30 t659.length co30) : Value).ownBlock ∧ some k_ ≠ ((.slice Ao34 t672.length co34) : Value).ownBlock) (.slice Ao38 t684.length co38) t684) ∧ Aside0 (Below w.heap.size w wc))
     case first =>
      as_aux_lemma =>
       have H := HC119.out
       clear HC119
       by_cases c120 : t637 = true
       rotate_left
       ·replace c120 := Bool.eq_false_iff.mpr c120
        subst c120
        replace H := in_ H (show ¬ (false = true) by decide)
        as_aux_lemma =>
         have H' := Aside0.mk H
         clear H
         go_wp2
         repeat (go_quiet (fail); try go_wp2)
         go_meet
         case rel => exact ⟨_, H', ⟨by have := HJ18.out; first | omega | exact Nat.le_refl _⟩, ⟨(rM_ HO_12 (fun _ hk => ⟨hk.2.1, ⟨hk.2.2.1, ⟨hk.2.2.2.1, hk.2.2.2.2⟩⟩⟩))⟩, ⟨(rM_ HO_19 (fun _ hk => ⟨hk.2.1, ⟨hk.2.2.1, ⟨hk.2.2.2.1, hk.2.2.2.2⟩⟩⟩))⟩, ⟨(rM_ HO_20 (fun _ hk => ⟨hk.2.1, ⟨hk.2.2.1, ⟨hk.2.2.2.1, hk.2.2.2.2⟩⟩⟩))⟩, ⟨by (with_reducible repeat (first | apply Kd.S_alloc | apply Kd.S_drewN | apply Kd.S_drew)); exact Kd.S_mono HO_23.out (fun _ hk => hk.2)⟩, ⟨(rM_ HO_25 (fun _ hk => ⟨hk.2.1, ⟨hk.2.2.1, ⟨hk.2.2.2.1, hk.2.2.2.2⟩⟩⟩))⟩, ⟨(rT1_ HO_29)⟩, ⟨(rM_ HO_31 (fun _ hk => ⟨hk.2.1, ⟨hk.2.2.1, ⟨hk.2.2.2.1, hk.2.2.2.2⟩⟩⟩))⟩, ⟨hB_⟩⟩
       subst c120
       replace H := ip_ H rfl
       have H' := Aside0.mk H
       clear H
       obtain ⟨Ao121, co121, eo121⟩ := Kd.R_slice HO_10.out
       subst eo121
       go_wp2
       repeat (go_quiet (fail); try go_wp2)
       go_loopg [38, 205] kj18 (fun kq v38 v205 w' => ∃ (x38_2 : Int) (x205_2 : Int), v38 = .int .i64 x38_2 ∧ v205 = .int .i64 x205_2 ∧ Aside0 (laws_FnTierCounts.l0 kq t632 t642 t643 t649 t650 t651 t655 t656 t658 t659 t668 t672 t673 t677 t680 t684 t689 t691 x38_2 t643 (t643.length : Int) x205_2 = some r) ∧ Aside0 (kq ≤ kj18) ∧ Aside0 (Kd.R k50 50 w' w.heap.size (fun k_ => some k_ ≠ ((.slice Ao25 t649.length co25) : Value).ownBlock ∧ some k_ ≠ ((.slice Ao29 t658.length co29) : Value).ownBlock ∧ some k_ ≠ ((.slice Ao30 t659.length co30) : Value).ownBlock ∧ some k_ ≠ ((.slice Ao34 t672.length co34) : Value).ownBlock ∧ some k_ ≠ ((.slice Ao38 t684.length co38) : Value).ownBlock) (.slice Ao21 t632.length co21) t632) ∧ Aside0 (Kd.R Kd.string 9 w' w.heap.size (fun _ => True) v645 t642) ∧ Aside0 (Kd.R (Kd.int .i64) 3 w' w.heap.size (fun k_ => some k_ ≠ (v682 : Value).ownBlock) (.slice Ao121 t643.length co121) t643) ∧ Aside0 (Kd.R k50 50 w' w.heap.size (fun k_ => some k_ ≠ ((.slice Ao21 t632.length co21) : Value).ownBlock ∧ some k_ ≠ ((.slice Ao29 t658.length co29) : Value).ownBlock ∧ some k_ ≠ ((.slice Ao30 t659.length co30) : Value).ownBlock ∧ some k_ ≠ ((.slice Ao34 t672.length co34) : Value).ownBlock ∧ some k_ ≠ ((.slice Ao38 t684.length co38) : Value).ownBlock) (.slice Ao25 t649.length co25) t649) ∧ Aside0 (Kd.R k50 50 w' w.heap.size (fun k_ => some k_ ≠ ((.slice Ao21 t632.length co21) : Value).ownBlock ∧ some k_ ≠ ((.slice Ao25 t649.length co25) : Value).ownBlock ∧ some k_ ≠ ((.slice Ao30 t659.length co30) : Value).ownBlock ∧ some k_ ≠ ((.slice Ao34 t672.length co34) : Value).ownBlock ∧ some k_ ≠ ((.slice Ao38 t684.length co38) : Value).ownBlock) (.slice Ao29 t658.length co29) t658) ∧ Aside0 (Kd.R k50 50 w' w.heap.size (fun k_ => some k_ ≠ ((.slice Ao21 t632.length co21) : Value).ownBlock ∧ some k_ ≠ ((.slice Ao25 t649.length co25) : Value).ownBlock ∧ some k_ ≠ ((.slice Ao29 t658.length co29) : Value).ownBlock ∧ some k_ ≠ ((.slice Ao34 t672.length co34) : Value).ownBlock ∧ some k_ ≠ ((.slice Ao38 t684.length co38) : Value).ownBlock) (.slice Ao30 t659.length co30) t659) ∧ Aside0 (Kd.S (Kd.slice 3 (Kd.int .i64)) 26 w' w.heap.size (fun k_ => some k_ ≠ ((.slice Ao121 t643.length co121) : Value).ownBlock ∧ some k_ ≠ (v682 : Value).ownBlock ∧ some k_ ≠ ((.slice Ao121 t643.length co121) : Value).ownBlock) v670 t668) ∧ Aside0 (Kd.R k50 50 w' w.heap.size (fun k_ => some k_ ≠ ((.slice Ao21 t632.length co21) : Value).ownBlock ∧ some k_ ≠ ((.slice Ao25 t649.length co25) : Value).ownBlock ∧ some k_ ≠ ((.slice Ao29 t658.length co29) : Value).ownBlock ∧ some k_ ≠ ((.slice Ao30 t659.length co30) : Value).ownBlock ∧ some k_ ≠ ((.slice Ao38 t684.length co38) : Value).ownBlock) (.slice Ao34 t672.length co34) t672) ∧ Aside0 (Kd.R (Kd.int .i64) 3 w' w.heap.size (fun k_ => some k_ ≠ ((.slice Ao121 t643.length co121) : Value).ownBlock ∧ some k_ ≠ ((.slice Ao121 t643.length co121) : Value).ownBlock) v682 t680) ∧ Aside0 (Kd.R k50 50 w' w.heap.size (fun k_ => some k_ ≠ ((.slice Ao21 t632.length co21) : Value).ownBlock ∧ some k_ ≠ ((.slice Ao25 t649.length co25) : Value).ownBlock ∧ some k_ ≠ ((.slice Ao29 t658.length co29) : Value).ownBlock ∧ some k_ ≠ ((.slice Ao30 t659.length co30) : Value).ownBlock ∧ some k_ ≠ ((.slice Ao34 t672.length co34) : Value).ownBlock) (.slice Ao38 t684.length co38) t684) ∧ Aside0 (Kd.R (Kd.int .i64) 3 w' w.heap.size (fun k_ => some k_ ≠ (v682 : Value).ownBlock) (.slice Ao121 t643.length co121) t643) ∧ Aside0 (Below w.heap.size w w'))
       case atStart => exact ⟨(0), (0), z16_1_, z16_1_, H', ⟨Nat.le_refl _⟩, ⟨(rR_ HO_5)⟩, ⟨(rR_ HO_9)⟩, ⟨(rR_ HO_10)⟩, ⟨(rR_ HO_12)⟩, ⟨(rR_ HO_19)⟩, ⟨(rR_ HO_20)⟩, ⟨by (with_reducible repeat (first | apply Kd.S_alloc | apply Kd.S_drewN | apply Kd.S_drew)); exact Kd.S_mono HO_23.out (fun _ hk => ⟨hk.1, ⟨hk.2, hk.1⟩⟩)⟩, ⟨(rR_ HO_25)⟩, ⟨rM_ HO_29 (fun _ hk => ⟨hk, hk⟩)⟩, ⟨(rR_ HO_31)⟩, ⟨(rR_ HO_10)⟩, ⟨hB_⟩⟩
       case round =>
        as_aux_lemma =>
         clear H'
         (try clear c1);(try clear c3);(try clear c3b0);(try clear c118);(try clear c120)
         obtain ⟨x38_2, x205_2, rfl, rfl, HA, HK2, HO_5, HO_9, HO_10, HO_12, HO_19, HO_20, HO_23, HO_25, HO_29, HO_31, HO_203, HB⟩ := hrel
         cases gk with
         | zero => exact absurd HA.out (by simp [laws_FnTierCounts.l0])
         | succ k2 =>
          as_aux_lemma =>
           have H := HA.out
           clear HA
           simp only [laws_FnTierCounts.l0] at H
           replace H := iF_ H; obtain ⟨c122b0, H⟩ | ⟨c122b0, H⟩ := H
           ·(first | rw [c122b0] | (simp only [i64_w, i32_w]; rw [c122b0]) | skip)
            by_cases c134 : x38_2 = (t632.length : Int)
            rotate_left
            ·rw [if_neg c134] at H
             have c134b0 : (x38_2 == (t632.length : Int)) = false := beq_eq_false_iff_ne.mpr c134
             have c134b1 : (x38_2 != (t632.length : Int)) = true := bne_iff_ne.mpr c134
             as_aux_lemma =>
              obtain rfl := Option.some.inj H
              go_wp2
              repeat (go_quiet (fail); try go_wp2)
              go_ret
              exact ⟨rT_, hB_⟩
            rw [if_pos c134] at H
            have c134b0 : (x38_2 == (t632.length : Int)) = true := beq_iff_eq.mpr c134
            have c134b1 : (x38_2 != (t632.length : Int)) = false := bne_eq_false_iff_eq.mpr c134
            clear c134
            by_cases c135 : (t642.length : Int) = (t643.length : Int)
            rotate_left
            ·rw [if_neg c135] at H
             have c135b0 : ((t642.length : Int) == (t643.length : Int)) = false := beq_eq_false_iff_ne.mpr c135
             have c135b1 : ((t642.length : Int) != (t643.length : Int)) = true := bne_iff_ne.mpr c135
             have c135b2 : (t642.length == t643.length) = false := by first | simpa using c135 | (simp at c135 ⊢; omega)
             as_aux_lemma =>
              obtain rfl := Option.some.inj H
              obtain ⟨Ao137, co137, eo137⟩ := Kd.R_slice HO_9.out
              subst eo137
              go_wp2
              repeat (go_quiet (fail); try go_wp2)
              go_ret
              exact ⟨rT_, hB_⟩
            rw [if_pos c135] at H
            have c135b0 : ((t642.length : Int) == (t643.length : Int)) = true := beq_iff_eq.mpr c135
            have c135b1 : ((t642.length : Int) != (t643.length : Int)) = false := bne_eq_false_iff_eq.mpr c135
            have c135b2 : (t642.length == t643.length) = true := by first | simpa using c135 | (simp at c135 ⊢; omega)
            clear c135
            as_aux_lemma =>
             have H' := Aside0.mk H
             clear H
             obtain ⟨Ao136, co136, eo136⟩ := Kd.R_slice HO_9.out
             subst eo136
             go_wp2
             repeat (go_quiet (fail); try go_wp2)
             go_meet
             case rel => exact ⟨_, H', ⟨by have := HJ18.out; have := HK2.out; first | omega | exact Nat.le_refl _⟩, ⟨(rM_ HO_12 (fun _ hk => ⟨hk.2.1, ⟨hk.2.2.1, ⟨hk.2.2.2.1, hk.2.2.2.2⟩⟩⟩))⟩, ⟨(rM_ HO_19 (fun _ hk => ⟨hk.2.1, ⟨hk.2.2.1, ⟨hk.2.2.2.1, hk.2.2.2.2⟩⟩⟩))⟩, ⟨(rM_ HO_20 (fun _ hk => ⟨hk.2.1, ⟨hk.2.2.1, ⟨hk.2.2.2.1, hk.2.2.2.2⟩⟩⟩))⟩, ⟨by (with_reducible repeat (first | apply Kd.S_alloc | apply Kd.S_drewN | apply Kd.S_drew)); exact Kd.S_mono HO_23.out (fun _ hk => hk.2.1)⟩, ⟨(rM_ HO_25 (fun _ hk => ⟨hk.2.1, ⟨hk.2.2.1, ⟨hk.2.2.2.1, hk.2.2.2.2⟩⟩⟩))⟩, ⟨(rT1_ HO_29)⟩, ⟨(rM_ HO_31 (fun _ hk => ⟨hk.2.1, ⟨hk.2.2.1, ⟨hk.2.2.2.1, hk.2.2.2.2⟩⟩⟩))⟩, ⟨hB_⟩⟩
           (first | rw [c122b0] | (simp only [i64_w, i32_w]; rw [c122b0]) | skip)
           replace H := ig_ H; obtain ⟨c123b0, H⟩ := H
           replace H := ig_ H; obtain ⟨c124b0, H⟩ := H
           replace H := iT_ H; obtain ⟨c125b0, H⟩ | ⟨c125b0, H⟩ := H
           ·as_aux_lemma =>
             obtain rfl := Option.some.inj H
             obtain ⟨⟨ad697, e697, hx697_0⟩, p697, q697⟩ := at2_ (Kd.at_int (Kd.R_reads' HO_203.out).2.2 x205_2); cases e697
             go_wp2
             repeat (go_quiet (fail); try go_wp2)
             go_ret
             exact ⟨rT_, hB_⟩
           by_cases c126 : x205_2 > 0
           rotate_left
           ·rw [if_neg c126] at H
            have c126b0 : decide (0 < x205_2) = false := decide_eq_false c126
            clear c126
            as_aux_lemma =>
             have H' := Aside0.mk H
             clear H
             obtain ⟨⟨ad697, e697, hx697_0⟩, p697, q697⟩ := at2_ (Kd.at_int (Kd.R_reads' HO_203.out).2.2 x205_2); cases e697
             go_wp2
             repeat (go_quiet (fail); try go_wp2)
             go_roundg k2
             case measure => have := HJ18.out; have := HK2.out; omega
             case rel => exact ⟨(wrap64 (x38_2 + (rd t643 x205_2))), (wrap64 (x205_2 + 1)), z16_1_, z16_1_, H', ⟨by have := HJ18.out; have := HK2.out; omega⟩, ⟨(rR_ HO_5)⟩, ⟨(rR_ HO_9)⟩, ⟨(rR_ HO_10)⟩, ⟨(rR_ HO_12)⟩, ⟨(rR_ HO_19)⟩, ⟨(rR_ HO_20)⟩, ⟨(sR_ HO_23)⟩, ⟨(rR_ HO_25)⟩, ⟨(rR_ HO_29)⟩, ⟨(rR_ HO_31)⟩, ⟨(rR_ HO_203)⟩, ⟨hB_⟩⟩
           rw [if_pos c126] at H
           have c126b0 : decide (0 < x205_2) = true := decide_eq_true c126
           clear c126
           obtain ⟨ji127, hji127⟩ : ∃ j_ : Int, (wrap64 (x205_2 - 1)) = j_ := ⟨_, rfl⟩
           replace H : (if 0 ≤ (ji127) then (if (ji127) < (t642.length : Int) then (if x205_2 < (t642.length : Int) then (if ((Op.bytesLess ((rdOf ByteArray.empty t642 (ji127)).toList) ((rdOf ByteArray.empty t642 x205_2).toList)) = true) then (laws_FnTierCounts.l0 k2 t632 t642 t643 t649 t650 t651 t655 t656 t658 t659 t668 t672 t673 t677 t680 t684 t689 t691 (wrap64 (x38_2 + (rd t643 x205_2))) t643 (t643.length : Int) (wrap64 (x205_2 + 1))) else (some false)) else (none)) else (none)) else (none)) = some r := by first | (rw [hji127] at H; exact H) | (simp only [hji127] at H ⊢; exact H)
           have hji127w : (IntKind.i64.wrap (x205_2 - 1)) = ji127 := (i64_w _).trans hji127
           replace H := ig_ H; obtain ⟨c128b0, H⟩ := H
           replace H := ig_ H; obtain ⟨c129b0, H⟩ := H
           replace H := ig_ H; obtain ⟨c130b0, H⟩ := H
           by_cases c131 : ((Op.bytesLess ((rdOf ByteArray.empty t642 (ji127)).toList) ((rdOf ByteArray.empty t642 x205_2).toList)) = true)
           rotate_left
           ·rw [if_neg c131] at H
            have c131b0 : (Op.bytesLess ((rdOf ByteArray.empty t642 (ji127)).toList) ((rdOf ByteArray.empty t642 x205_2).toList)) = false := by simpa using c131
            clear c131
            as_aux_lemma =>
             obtain rfl := Option.some.inj H
             obtain ⟨⟨ad697, e697, hx697_0⟩, p697, q697⟩ := at2_ (Kd.at_int (Kd.R_reads' HO_203.out).2.2 x205_2); cases e697
             obtain ⟨Ao133, co133, eo133⟩ := Kd.R_slice HO_9.out
             subst eo133
             obtain ⟨⟨ad698, e698, hx698_0⟩, p698, q698⟩ := at2_ (Kd.at_string (Kd.R_reads' HO_9.out).2.2 (ji127)); cases e698
             have p699 : 0 ≤ (x205_2 : Int) := ode_
             have q699 : x205_2 < (t642.length : Int) := ode_
             obtain ⟨ad699, e699, hx699_0⟩ := Kd.at_string (Kd.R_reads' HO_9.out).2.2 x205_2 p699 q699
             obtain rfl : ad698 = ad699 := (by injection e699)
             replace p699 := eq_true p699
             replace q699 := eq_true q699
             go_wp2
             repeat (go_quiet (fail); try go_wp2)
             go_ret
             exact ⟨by first | rfl | (simp [errW_none, errW_some] <;> rfl) | (simp only [← hji127]; first | rfl | (simp [errW_none, errW_some] <;> rfl)) | (simp [*, errW_none, errW_some] <;> rfl), hB_⟩
           rw [if_pos c131] at H
           have c131b0 : (Op.bytesLess ((rdOf ByteArray.empty t642 (ji127)).toList) ((rdOf ByteArray.empty t642 x205_2).toList)) = true := c131
           clear c131
           as_aux_lemma =>
            have H' := Aside0.mk H
            clear H
            obtain ⟨⟨ad697, e697, hx697_0⟩, p697, q697⟩ := at2_ (Kd.at_int (Kd.R_reads' HO_203.out).2.2 x205_2); cases e697
            obtain ⟨Ao132, co132, eo132⟩ := Kd.R_slice HO_9.out
            subst eo132
            obtain ⟨⟨ad698, e698, hx698_0⟩, p698, q698⟩ := at2_ (Kd.at_string (Kd.R_reads' HO_9.out).2.2 (ji127)); cases e698
            have p699 : 0 ≤ (x205_2 : Int) := ode_
            have q699 : x205_2 < (t642.length : Int) := ode_
            obtain ⟨ad699, e699, hx699_0⟩ := Kd.at_string (Kd.R_reads' HO_9.out).2.2 x205_2 p699 q699
            obtain rfl : ad698 = ad699 := (by injection e699)
            replace p699 := eq_true p699
            replace q699 := eq_true q699
            go_wp2
            repeat (go_quiet (fail); try go_wp2)
            go_roundg k2
            case measure => have := HJ18.out; have := HK2.out; omega
            case rel => exact ⟨(wrap64 (x38_2 + (rd t643 x205_2))), (wrap64 (x205_2 + 1)), z16_1_, z16_1_, H', ⟨by have := HJ18.out; have := HK2.out; omega⟩, ⟨(rR_ HO_5)⟩, ⟨(rR_ HO_9)⟩, ⟨(rR_ HO_10)⟩, ⟨(rR_ HO_12)⟩, ⟨(rR_ HO_19)⟩, ⟨(rR_ HO_20)⟩, ⟨(sR_ HO_23)⟩, ⟨(rR_ HO_25)⟩, ⟨(rR_ HO_29)⟩, ⟨(rR_ HO_31)⟩, ⟨(rR_ HO_203)⟩, ⟨hB_⟩⟩
     case rest =>
      as_aux_lemma =>
       clear HC119
       (try clear c1);(try clear c3);(try clear c3b0);(try clear c118)
       obtain ⟨kq, HA, HJ118, HO_12, HO_19, HO_20, HO_23, HO_25, HO_29, HO_31, HB⟩ := hcut
       cases kq with
       | zero => exact absurd HA.out (by simp [laws_FnTierCounts.j2])
       | succ kj118 =>
        as_aux_lemma =>
         have H := HA.out
         clear HA
         simp only [laws_FnTierCounts.j2] at H
         have HC138 := Aside0.mk H
         clear H
         go_upto_if 243 with (fail)
         repeat (go_quiet (fail); go_upto_if 243 with (fail))
         go_cut [] (fun wc => ∃ (kq : Nat), Aside0 (laws_FnTierCounts.j5 kq t658 t659 t668 t672 t673 t677 t680 t684 t689 t691 = some r) ∧ Aside0 (kq ≤ kj118) ∧ Aside0 (Kd.R k50 50 wc w.heap.size (fun k_ => some k_ ≠ ((.slice Ao30 t659.length co30) : Value).ownBlock ∧ some k_ ≠ ((.slice Ao34 t672.length co34) : Value).ownBlock ∧ some k_ ≠ ((.slice Ao38 t684.length co38) : Value).ownBlock) (.slice Ao29 t658.length co29) t658) ∧ Aside0 (Kd.R k50 50 wc w.heap.size (fun k_ => some k_ ≠ ((.slice Ao29 t658.length co29) : Value).ownBlock ∧ some k_ ≠ ((.slice Ao34 t672.length co34) : Value).ownBlock ∧ some k_ ≠ ((.slice Ao38 t684.length co38) : Value).ownBlock) (.slice Ao30 t659.length co30) t659) ∧ Aside0 (Kd.S (Kd.slice 3 (Kd.int .i64)) 26 wc w.heap.size (fun k_ => some k_ ≠ (v682 : Value).ownBlock) v670 t668) ∧ Aside0 (Kd.R k50 50 wc w.heap.size (fun k_ => some k_ ≠ ((.slice Ao29 t658.length co29) : Value).ownBlock ∧ some k_ ≠ ((.slice Ao30 t659.length co30) : Value).ownBlock ∧ some k_ ≠ ((.slice Ao38 t684.length co38) : Value).ownBlock) (.slice Ao34 t672.length co34) t672) ∧ Aside0 (Kd.R (Kd.int .i64) 3 wc w.heap.size (fun _ => True) v682 t680) ∧ Aside0 (Kd.R k50 50 wc w.heap.size (fun k_ => some k_ ≠ ((.slice Ao29 t658.length co29) : Value).ownBlock ∧ some k_ ≠ ((.slice Ao30 t659.length co30) : Value).ownBlock ∧ some k_ ≠ ((.slice Ao34 t672.length co34) : Value).ownBlock) (.slice Ao38 t684.length co38) t684) ∧ Aside0 (Below w.heap.size w wc))
         case first =>
          as_aux_lemma =>
           have H := HC138.out
           clear HC138
           by_cases c139 : t655 = true
           rotate_left
           ·replace c139 := Bool.eq_false_iff.mpr c139
            subst c139
            replace H := in_ H (show ¬ (false = true) by decide)
            as_aux_lemma =>
             have H' := Aside0.mk H
             clear H
             go_wp2
             repeat (go_quiet (fail); try go_wp2)
             go_meet
             case rel => exact ⟨_, H', ⟨z16_5_⟩, ⟨(rM_ HO_19 (fun _ hk => ⟨hk.2.1, ⟨hk.2.2.1, hk.2.2.2⟩⟩))⟩, ⟨(rM_ HO_20 (fun _ hk => ⟨hk.2.1, ⟨hk.2.2.1, hk.2.2.2⟩⟩))⟩, ⟨(sR_ HO_23)⟩, ⟨(rM_ HO_25 (fun _ hk => ⟨hk.2.1, ⟨hk.2.2.1, hk.2.2.2⟩⟩))⟩, ⟨(rR_ HO_29)⟩, ⟨(rM_ HO_31 (fun _ hk => ⟨hk.2.1, ⟨hk.2.2.1, hk.2.2.2⟩⟩))⟩, ⟨hB_⟩⟩
           subst c139
           replace H := ip_ H rfl
           replace H := ig_ H; obtain ⟨c140b0, H⟩ := H
           (first | rw [c140b0] | (simp only [i64_w, i32_w]; rw [c140b0]) | skip)
           replace H := ig_ H; obtain ⟨c141b0, H⟩ := H
           replace H := ob_ H; obtain ⟨⟨t701, t702⟩, A142, H⟩ := H; try dsimp only at H
           have HC143 := Aside0.mk H
           clear H
           obtain ⟨⟨ad700, e700, hx700_0, hx700_1, hx700_2⟩, p700, q700⟩ := at2_ (at_T50 (Kd.R_reads' HO_12.out).2.2 t656); cases e700
           go_upto_region 33 with (first | (go_at_call 22; (with_reducible refine (impl_MatchesGloss.calls kj118 t650 ((rd_T50 t649 t656).f2) t701 t702 _ A142.out).mono ?_); rintro e w144 ⟨rfl, hb⟩; replace HO_12 := aM_ (Kd.R_below (rR_ HO_12) hb); replace HO_19 := aM_ (Kd.R_below (rR_ HO_19) hb); replace HO_20 := aM_ (Kd.R_below (rR_ HO_20) hb); replace HO_23 := aM_ (Kd.S_below (sR_ HO_23) hb); replace HO_25 := aM_ (Kd.R_below (rR_ HO_25) hb); replace HO_29 := aM_ (Kd.R_below (rR_ HO_29) hb); replace HO_31 := aM_ (Kd.R_below (rR_ HO_31) hb); replace HB := aM_ (below_step hB_ hb); (try clear hb)) | (go_quiet (fail)))
           (try simp only [Act.put, List.setIfInBounds_toArray, List.set_cons_zero, List.set_cons_succ])
           go_cut [259] (fun v259 wc => ∃ (kq : Nat) (x259_142 : Bool), v259 = .bool x259_142 ∧ Aside0 (laws_FnTierCounts.j3 kq t649 t650 t651 t656 t658 t659 t668 t672 t673 t677 t680 t684 t689 t691 x259_142 = some r) ∧ Aside0 (kq ≤ kj118) ∧ Aside0 (Kd.R k50 50 wc w.heap.size (fun k_ => some k_ ≠ ((.slice Ao29 t658.length co29) : Value).ownBlock ∧ some k_ ≠ ((.slice Ao30 t659.length co30) : Value).ownBlock ∧ some k_ ≠ ((.slice Ao34 t672.length co34) : Value).ownBlock ∧ some k_ ≠ ((.slice Ao38 t684.length co38) : Value).ownBlock) (.slice (some ad700) t649.length co25) t649) ∧ Aside0 (Kd.R k50 50 wc w.heap.size (fun k_ => some k_ ≠ ((.slice (some ad700) t649.length co25) : Value).ownBlock ∧ some k_ ≠ ((.slice Ao30 t659.length co30) : Value).ownBlock ∧ some k_ ≠ ((.slice Ao34 t672.length co34) : Value).ownBlock ∧ some k_ ≠ ((.slice Ao38 t684.length co38) : Value).ownBlock) (.slice Ao29 t658.length co29) t658) ∧ Aside0 (Kd.R k50 50 wc w.heap.size (fun k_ => some k_ ≠ ((.slice (some ad700) t649.length co25) : Value).ownBlock ∧ some k_ ≠ ((.slice Ao29 t658.length co29) : Value).ownBlock ∧ some k_ ≠ ((.slice Ao34 t672.length co34) : Value).ownBlock ∧ some k_ ≠ ((.slice Ao38 t684.length co38) : Value).ownBlock) (.slice Ao30 t659.length co30) t659) ∧ Aside0 (Kd.S (Kd.slice 3 (Kd.int .i64)) 26 wc w.heap.size (fun k_ => some k_ ≠ (v682 : Value).ownBlock) v670 t668) ∧ Aside0 (Kd.R k50 50 wc w.heap.size (fun k_ => some k_ ≠ ((.slice (some ad700) t649.length co25) : Value).ownBlock ∧ some k_ ≠ ((.slice Ao29 t658.length co29) : Value).ownBlock ∧ some k_ ≠ ((.slice Ao30 t659.length co30) : Value).ownBlock ∧ some k_ ≠ ((.slice Ao38 t684.length co38) : Value).ownBlock) (.slice Ao34 t672.length co34) t672) ∧ Aside0 (Kd.R (Kd.int .i64) 3 wc w.heap.size (fun _ => True) v682 t680) ∧ Aside0 (Kd.R k50 50 wc w.heap.size (fun k_ => some k_ ≠ ((.slice (some ad700) t649.length co25) : Value).ownBlock ∧ some k_ ≠ ((.slice Ao29 t658.length co29) : Value).ownBlock ∧ some k_ ≠ ((.slice Ao30 t659.length co30) : Value).ownBlock ∧ some k_ ≠ ((.slice Ao34 t672.length co34) : Value).ownBlock) (.slice Ao38 t684.length co38) t684) ∧ Aside0 (Below w.heap.size w wc))
           case first =>
            as_aux_lemma =>
             have H := HC143.out
             clear HC143
             by_cases c145 : t702 = true
             ·subst c145
              replace H := ip_ H rfl
              as_aux_lemma =>
               have H' := Aside0.mk H
               clear H
               go_wp2
               repeat (go_quiet (fail); try go_wp2)
               go_meet
               case rel => exact ⟨_, (!t701), z16_1_, H', ⟨z16_5_⟩, ⟨(rR_ HO_12)⟩, ⟨(rR_ HO_19)⟩, ⟨(rR_ HO_20)⟩, ⟨(sR_ HO_23)⟩, ⟨(rR_ HO_25)⟩, ⟨(rR_ HO_29)⟩, ⟨(rR_ HO_31)⟩, ⟨hB_⟩⟩
             replace c145 := Bool.eq_false_iff.mpr c145
             subst c145
             replace H := in_ H (show ¬ (false = true) by decide)
             as_aux_lemma =>
              have H' := Aside0.mk H
              clear H
              go_wp2
              repeat (go_quiet (fail); try go_wp2)
              go_meet
              case rel => exact ⟨_, (true), z16_1_, H', ⟨z16_5_⟩, ⟨(rR_ HO_12)⟩, ⟨(rR_ HO_19)⟩, ⟨(rR_ HO_20)⟩, ⟨(sR_ HO_23)⟩, ⟨(rR_ HO_25)⟩, ⟨(rR_ HO_29)⟩, ⟨(rR_ HO_31)⟩, ⟨hB_⟩⟩
           case rest =>
            as_aux_lemma =>
             clear HC143
             (try clear c1);(try clear c3);(try clear c3b0);(try clear c118);(try clear c139);(try clear c140);(try clear c140b0);(try clear c141);(try clear c141b0);(try clear hx700_0);(try clear hx700_1);(try clear hx700_2);(try clear p700);(try clear q700)
             obtain ⟨kq, x259_142, rfl, HA, HJ142, HO_12, HO_19, HO_20, HO_23, HO_25, HO_29, HO_31, HB⟩ := hcut
             cases kq with
             | zero => exact absurd HA.out (by simp [laws_FnTierCounts.j3])
             | succ kj142 =>
              as_aux_lemma =>
               have H := HA.out
               clear HA
               simp only [laws_FnTierCounts.j3] at H
               by_cases c146 : x259_142 = true
               ·subst c146
                replace H := ip_ H rfl
                as_aux_lemma =>
                 obtain rfl := Option.some.inj H
                 go_wp2
                 repeat (go_quiet (fail); try go_wp2)
                 go_ret
                 exact ⟨rT_, hB_⟩
               replace c146 := Bool.eq_false_iff.mpr c146
               subst c146
               replace H := in_ H (show ¬ (false = true) by decide)
               replace H := ob_ H; obtain ⟨⟨t703, t704⟩, A147, H⟩ := H; try dsimp only at H
               have HC148 := Aside0.mk H
               clear H
               go_upto_region 36 with (first | (go_at_call 23; (with_reducible refine (spec_NoteAt.calls kj142 _ _ t649 t651 t703 t704 _ ?side1 ?side2 A147.out).mono ?_); (case side1 => exact cR_ HO_12); (case side2 => exact (Kd.R_reads' HO_12.out).2.1); rintro e w149 ⟨rfl, hb⟩; replace HO_12 := aM_ (Kd.R_below (rR_ HO_12) hb); replace HO_19 := aM_ (Kd.R_below (rR_ HO_19) hb); replace HO_20 := aM_ (Kd.R_below (rR_ HO_20) hb); replace HO_23 := aM_ (Kd.S_below (sR_ HO_23) hb); replace HO_25 := aM_ (Kd.R_below (rR_ HO_25) hb); replace HO_29 := aM_ (Kd.R_below (rR_ HO_29) hb); replace HO_31 := aM_ (Kd.R_below (rR_ HO_31) hb); replace HB := aM_ (below_step hB_ hb); (try clear hb)) | (go_quiet (fail)))
               (try simp only [Act.put, List.setIfInBounds_toArray, List.set_cons_zero, List.set_cons_succ])
               go_cut [271] (fun v271 wc => ∃ (kq : Nat) (x271_147 : Bool), v271 = .bool x271_147 ∧ Aside0 (laws_FnTierCounts.j4 kq t649 t650 t658 t659 t668 t672 t673 t677 t680 t684 t689 t691 t703 x271_147 = some r) ∧ Aside0 (kq ≤ kj142) ∧ Aside0 (Kd.R k50 50 wc w.heap.size (fun k_ => some k_ ≠ ((.slice Ao29 t658.length co29) : Value).ownBlock ∧ some k_ ≠ ((.slice Ao30 t659.length co30) : Value).ownBlock ∧ some k_ ≠ ((.slice Ao34 t672.length co34) : Value).ownBlock ∧ some k_ ≠ ((.slice Ao38 t684.length co38) : Value).ownBlock) (.slice (some ad700) t649.length co25) t649) ∧ Aside0 (Kd.R k50 50 wc w.heap.size (fun k_ => some k_ ≠ ((.slice (some ad700) t649.length co25) : Value).ownBlock ∧ some k_ ≠ ((.slice Ao30 t659.length co30) : Value).ownBlock ∧ some k_ ≠ ((.slice Ao34 t672.length co34) : Value).ownBlock ∧ some k_ ≠ ((.slice Ao38 t684.length co38) : Value).ownBlock) (.slice Ao29 t658.length co29) t658) ∧ Aside0 (Kd.R k50 50 wc w.heap.size (fun k_ => some k_ ≠ ((.slice (some ad700) t649.length co25) : Value).ownBlock ∧ some k_ ≠ ((.slice Ao29 t658.length co29) : Value).ownBlock ∧ some k_ ≠ ((.slice Ao34 t672.length co34) : Value).ownBlock ∧ some k_ ≠ ((.slice Ao38 t684.length co38) : Value).ownBlock) (.slice Ao30 t659.length co30) t659) ∧ Aside0 (Kd.S (Kd.slice 3 (Kd.int .i64)) 26 wc w.heap.size (fun k_ => some k_ ≠ (v682 : Value).ownBlock) v670 t668) ∧ Aside0 (Kd.R k50 50 wc w.heap.size (fun k_ => some k_ ≠ ((.slice (some ad700) t649.length co25) : Value).ownBlock ∧ some k_ ≠ ((.slice Ao29 t658.length co29) : Value).ownBlock ∧ some k_ ≠ ((.slice Ao30 t659.length co30) : Value).ownBlock ∧ some k_ ≠ ((.slice Ao38 t684.length co38) : Value).ownBlock) (.slice Ao34 t672.length co34) t672) ∧ Aside0 (Kd.R (Kd.int .i64) 3 wc w.heap.size (fun _ => True) v682 t680) ∧ Aside0 (Kd.R k50 50 wc w.heap.size (fun k_ => some k_ ≠ ((.slice (some ad700) t649.length co25) : Value).ownBlock ∧ some k_ ≠ ((.slice Ao29 t658.length co29) : Value).ownBlock ∧ some k_ ≠ ((.slice Ao30 t659.length co30) : Value).ownBlock ∧ some k_ ≠ ((.slice Ao34 t672.length co34) : Value).ownBlock) (.slice Ao38 t684.length co38) t684) ∧ Aside0 (Below w.heap.size w wc))
               case first =>
                as_aux_lemma =>
                 have H := HC148.out
                 clear HC148
                 by_cases c150 : t704 = true
                 ·subst c150
                  replace H := ip_ H rfl
                  as_aux_lemma =>
                   have H' := Aside0.mk H
                   clear H
                   go_wp2
                   repeat (go_quiet (fail); try go_wp2)
                   go_meet
                   case rel => exact ⟨_, ((t703 != t656)), z16_1_, H', ⟨z16_6_⟩, ⟨(rR_ HO_12)⟩, ⟨(rR_ HO_19)⟩, ⟨(rR_ HO_20)⟩, ⟨(sR_ HO_23)⟩, ⟨(rR_ HO_25)⟩, ⟨(rR_ HO_29)⟩, ⟨(rR_ HO_31)⟩, ⟨hB_⟩⟩
                 replace c150 := Bool.eq_false_iff.mpr c150
                 subst c150
                 replace H := in_ H (show ¬ (false = true) by decide)
                 as_aux_lemma =>
                  have H' := Aside0.mk H
                  clear H
                  go_wp2
                  repeat (go_quiet (fail); try go_wp2)
                  go_meet
                  case rel => exact ⟨_, (false), z16_1_, H', ⟨z16_6_⟩, ⟨(rR_ HO_12)⟩, ⟨(rR_ HO_19)⟩, ⟨(rR_ HO_20)⟩, ⟨(sR_ HO_23)⟩, ⟨(rR_ HO_25)⟩, ⟨(rR_ HO_29)⟩, ⟨(rR_ HO_31)⟩, ⟨hB_⟩⟩
               case rest =>
                as_aux_lemma =>
                 clear HC148
                 (try clear c1);(try clear c3);(try clear c3b0);(try clear c118);(try clear c139);(try clear c140);(try clear c140b0);(try clear c141);(try clear c141b0);(try clear c146);(try clear hx700_0);(try clear hx700_1);(try clear hx700_2);(try clear p700);(try clear q700)
                 obtain ⟨kq, x271_147, rfl, HA, HJ147, HO_12, HO_19, HO_20, HO_23, HO_25, HO_29, HO_31, HB⟩ := hcut
                 cases kq with
                 | zero => exact absurd HA.out (by simp [laws_FnTierCounts.j4])
                 | succ kj147 =>
                  as_aux_lemma =>
                   have H := HA.out
                   clear HA
                   simp only [laws_FnTierCounts.j4] at H
                   by_cases c151 : x271_147 = true
                   rotate_left
                   ·replace c151 := Bool.eq_false_iff.mpr c151
                    subst c151
                    replace H := in_ H (show ¬ (false = true) by decide)
                    as_aux_lemma =>
                     have H' := Aside0.mk H
                     clear H
                     go_wp2
                     repeat (go_quiet (fail); try go_wp2)
                     go_meet
                     case rel => exact ⟨_, H', ⟨z16_7_⟩, ⟨(rM_ HO_19 (fun _ hk => ⟨hk.2.1, ⟨hk.2.2.1, hk.2.2.2⟩⟩))⟩, ⟨(rM_ HO_20 (fun _ hk => ⟨hk.2.1, ⟨hk.2.2.1, hk.2.2.2⟩⟩))⟩, ⟨(sR_ HO_23)⟩, ⟨(rM_ HO_25 (fun _ hk => ⟨hk.2.1, ⟨hk.2.2.1, hk.2.2.2⟩⟩))⟩, ⟨(rR_ HO_29)⟩, ⟨(rM_ HO_31 (fun _ hk => ⟨hk.2.1, ⟨hk.2.2.1, hk.2.2.2⟩⟩))⟩, ⟨hB_⟩⟩
                   subst c151
                   replace H := ip_ H rfl
                   replace H := ig_ H; obtain ⟨c152b0, H⟩ := H
                   replace H := ig_ H; obtain ⟨c153b0, H⟩ := H
                   replace H := ob_ H; obtain ⟨⟨t706, t707⟩, A154, H⟩ := H; try dsimp only at H
                   by_cases c155 : t707 = true
                   rotate_left
                   ·replace c155 := Bool.eq_false_iff.mpr c155
                    subst c155
                    replace H := in_ H (show ¬ (false = true) by decide)
                    as_aux_lemma =>
                     obtain rfl := Option.some.inj H
                     have p705 : 0 ≤ (t703 : Int) := ode_
                     have q705 : t703 < (t649.length : Int) := ode_
                     obtain ⟨ad705, e705, hx705_0, hx705_1, hx705_2⟩ := at_T50 (Kd.R_reads' HO_12.out).2.2 t703 p705 q705
                     obtain rfl : ad700 = ad705 := (by injection e705)
                     replace p705 := eq_true p705
                     replace q705 := eq_true q705
                     go_wp2_with (first | (go_at_call 24; (with_reducible refine (spec_MatchesGloss.calls kj147 t650 ((rd_T50 t649 t703).f2) t706 false _ A154.out).mono ?_); rintro e w159 ⟨rfl, hb⟩; replace HO_12 := aM_ (Kd.R_below (rR_ HO_12) hb); replace HO_19 := aM_ (Kd.R_below (rR_ HO_19) hb); replace HO_20 := aM_ (Kd.R_below (rR_ HO_20) hb); replace HO_23 := aM_ (Kd.S_below (sR_ HO_23) hb); replace HO_25 := aM_ (Kd.R_below (rR_ HO_25) hb); replace HO_29 := aM_ (Kd.R_below (rR_ HO_29) hb); replace HO_31 := aM_ (Kd.R_below (rR_ HO_31) hb); replace HB := aM_ (below_step hB_ hb); (try clear hb)) | (go_quiet (fail)))
                     go_ret
                     exact ⟨rT_, hB_⟩
                   subst c155
                   replace H := ip_ H rfl
                   by_cases c156 : t706 = true
                   ·subst c156
                    replace H := ip_ H rfl
                    as_aux_lemma =>
                     obtain rfl := Option.some.inj H
                     have p705 : 0 ≤ (t703 : Int) := ode_
                     have q705 : t703 < (t649.length : Int) := ode_
                     obtain ⟨ad705, e705, hx705_0, hx705_1, hx705_2⟩ := at_T50 (Kd.R_reads' HO_12.out).2.2 t703 p705 q705
                     obtain rfl : ad700 = ad705 := (by injection e705)
                     replace p705 := eq_true p705
                     replace q705 := eq_true q705
                     go_wp2_with (first | (go_at_call 24; (with_reducible refine (spec_MatchesGloss.calls kj147 t650 ((rd_T50 t649 t703).f2) true true _ A154.out).mono ?_); rintro e w157 ⟨rfl, hb⟩; replace HO_12 := aM_ (Kd.R_below (rR_ HO_12) hb); replace HO_19 := aM_ (Kd.R_below (rR_ HO_19) hb); replace HO_20 := aM_ (Kd.R_below (rR_ HO_20) hb); replace HO_23 := aM_ (Kd.S_below (sR_ HO_23) hb); replace HO_25 := aM_ (Kd.R_below (rR_ HO_25) hb); replace HO_29 := aM_ (Kd.R_below (rR_ HO_29) hb); replace HO_31 := aM_ (Kd.R_below (rR_ HO_31) hb); replace HB := aM_ (below_step hB_ hb); (try clear hb)) | (go_quiet (fail)))
                     go_ret
                     exact ⟨rT_, hB_⟩
                   replace c156 := Bool.eq_false_iff.mpr c156
                   subst c156
                   replace H := in_ H (show ¬ (false = true) by decide)
                   as_aux_lemma =>
                    have H' := Aside0.mk H
                    clear H
                    have p705 : 0 ≤ (t703 : Int) := ode_
                    have q705 : t703 < (t649.length : Int) := ode_
                    obtain ⟨ad705, e705, hx705_0, hx705_1, hx705_2⟩ := at_T50 (Kd.R_reads' HO_12.out).2.2 t703 p705 q705
                    obtain rfl : ad700 = ad705 := (by injection e705)
                    replace p705 := eq_true p705
                    replace q705 := eq_true q705
                    go_wp2_with (first | (go_at_call 24; (with_reducible refine (spec_MatchesGloss.calls kj147 t650 ((rd_T50 t649 t703).f2) false true _ A154.out).mono ?_); rintro e w158 ⟨rfl, hb⟩; replace HO_12 := aM_ (Kd.R_below (rR_ HO_12) hb); replace HO_19 := aM_ (Kd.R_below (rR_ HO_19) hb); replace HO_20 := aM_ (Kd.R_below (rR_ HO_20) hb); replace HO_23 := aM_ (Kd.S_below (sR_ HO_23) hb); replace HO_25 := aM_ (Kd.R_below (rR_ HO_25) hb); replace HO_29 := aM_ (Kd.R_below (rR_ HO_29) hb); replace HO_31 := aM_ (Kd.R_below (rR_ HO_31) hb); replace HB := aM_ (below_step hB_ hb); (try clear hb)) | (go_quiet (fail)))
                    go_meet
                    case rel => exact ⟨_, H', ⟨z16_7_⟩, ⟨(rM_ HO_19 (fun _ hk => ⟨hk.2.1, ⟨hk.2.2.1, hk.2.2.2⟩⟩))⟩, ⟨(rM_ HO_20 (fun _ hk => ⟨hk.2.1, ⟨hk.2.2.1, hk.2.2.2⟩⟩))⟩, ⟨(sR_ HO_23)⟩, ⟨(rM_ HO_25 (fun _ hk => ⟨hk.2.1, ⟨hk.2.2.1, hk.2.2.2⟩⟩))⟩, ⟨(rR_ HO_29)⟩, ⟨(rM_ HO_31 (fun _ hk => ⟨hk.2.1, ⟨hk.2.2.1, hk.2.2.2⟩⟩))⟩, ⟨hB_⟩⟩
         case rest =>
          as_aux_lemma =>
           clear HC138
           (try clear c1);(try clear c3);(try clear c3b0);(try clear c118)
           obtain ⟨kq, HA, HJ137, HO_19, HO_20, HO_23, HO_25, HO_29, HO_31, HB⟩ := hcut
           cases kq with
           | zero => exact absurd HA.out (by simp [laws_FnTierCounts.j5])
           | succ kj137 =>
            as_aux_lemma =>
             have H := HA.out
             clear HA
             simp only [laws_FnTierCounts.j5] at H
             have H' := Aside0.mk H
             clear H
             obtain ⟨Ao160, co160, eo160⟩ := Kd.S_slice HO_23.out
             subst eo160
             go_wp2
             repeat (go_quiet (fail); try go_wp2)
             go_loopg [289] kj137 (fun kq v289 w' => ∃ (x289_4 : Int), v289 = .int .i64 x289_4 ∧ Aside0 (laws_FnTierCounts.l1 kq t658 t659 t672 t673 t677 t680 t684 t689 t691 t668 (t668.length : Int) x289_4 = some r) ∧ Aside0 (kq ≤ kj137) ∧ Aside0 (Kd.R k50 50 w' w.heap.size (fun k_ => some k_ ≠ ((.slice Ao30 t659.length co30) : Value).ownBlock ∧ some k_ ≠ ((.slice Ao34 t672.length co34) : Value).ownBlock ∧ some k_ ≠ ((.slice Ao38 t684.length co38) : Value).ownBlock) (.slice Ao29 t658.length co29) t658) ∧ Aside0 (Kd.R k50 50 w' w.heap.size (fun k_ => some k_ ≠ ((.slice Ao29 t658.length co29) : Value).ownBlock ∧ some k_ ≠ ((.slice Ao34 t672.length co34) : Value).ownBlock ∧ some k_ ≠ ((.slice Ao38 t684.length co38) : Value).ownBlock) (.slice Ao30 t659.length co30) t659) ∧ Aside0 (Kd.R k50 50 w' w.heap.size (fun k_ => some k_ ≠ ((.slice Ao29 t658.length co29) : Value).ownBlock ∧ some k_ ≠ ((.slice Ao30 t659.length co30) : Value).ownBlock ∧ some k_ ≠ ((.slice Ao38 t684.length co38) : Value).ownBlock) (.slice Ao34 t672.length co34) t672) ∧ Aside0 (Kd.R (Kd.int .i64) 3 w' w.heap.size (fun _ => True) v682 t680) ∧ Aside0 (Kd.R k50 50 w' w.heap.size (fun k_ => some k_ ≠ ((.slice Ao29 t658.length co29) : Value).ownBlock ∧ some k_ ≠ ((.slice Ao30 t659.length co30) : Value).ownBlock ∧ some k_ ≠ ((.slice Ao34 t672.length co34) : Value).ownBlock) (.slice Ao38 t684.length co38) t684) ∧ Aside0 (Kd.S (Kd.slice 3 (Kd.int .i64)) 26 w' w.heap.size (fun k_ => some k_ ≠ (v682 : Value).ownBlock) (.slice Ao160 t668.length co160) t668) ∧ Aside0 (Below w.heap.size w w'))
             case atStart => exact ⟨(0), z16_1_, H', ⟨Nat.le_refl _⟩, ⟨(rR_ HO_19)⟩, ⟨(rR_ HO_20)⟩, ⟨(rR_ HO_25)⟩, ⟨(rR_ HO_29)⟩, ⟨(rR_ HO_31)⟩, ⟨(sR_ HO_23)⟩, ⟨hB_⟩⟩
             case round =>
              as_aux_lemma =>
               clear H'
               (try clear c1);(try clear c3);(try clear c3b0);(try clear c118)
               obtain ⟨x289_4, rfl, HA, HK4, HO_19, HO_20, HO_25, HO_29, HO_31, HO_287, HB⟩ := hrel
               cases gk with
               | zero => exact absurd HA.out (by simp [laws_FnTierCounts.l1])
               | succ k4 =>
                as_aux_lemma =>
                 have H := HA.out
                 clear HA
                 simp only [laws_FnTierCounts.l1] at H
                 replace H := iT_ H; obtain ⟨c161b0, H⟩ | ⟨c161b0, H⟩ := H
                 ·replace H := ig_ H; obtain ⟨c162b0, H⟩ := H
                  replace H := ig_ H; obtain ⟨c163b0, H⟩ := H
                  by_cases c164 : 0 < ((rd_L5 t668 x289_4).length : Int)
                  rotate_left
                  ·rw [if_neg c164] at H
                   exact absurd H (by simp)
                  rw [if_pos c164] at H
                  have c164b0 : decide (0 < ((rd_L5 t668 x289_4).length : Int)) = true := decide_eq_true c164
                  have c164b1 : decide (0 < (rd_L5 t668 x289_4).length) = true := decide_eq_true (by omega)
                  clear c164
                  replace H := ig_ H; obtain ⟨c165b0, H⟩ := H
                  replace H := ig_ H; obtain ⟨c166b0, H⟩ := H
                  by_cases c167 : 1 < ((rd_L5 t668 x289_4).length : Int)
                  rotate_left
                  ·rw [if_neg c167] at H
                   exact absurd H (by simp)
                  rw [if_pos c167] at H
                  have c167b0 : decide (1 < ((rd_L5 t668 x289_4).length : Int)) = true := decide_eq_true c167
                  have c167b1 : decide (1 < (rd_L5 t668 x289_4).length) = true := decide_eq_true (by omega)
                  clear c167
                  as_aux_lemma =>
                   replace H := ig_ H; obtain ⟨c168b0, H⟩ := H
                   replace H := ig_ H; obtain ⟨c169b0, H⟩ := H
                   replace H := iT_ H; obtain ⟨c170b0, H⟩ | ⟨c170b0, H⟩ := H
                   ·as_aux_lemma =>
                     obtain rfl := Option.some.inj H
                     have p708 : 0 ≤ (x289_4 : Int) := ode_
                     have q708 : x289_4 < (t668.length : Int) := ode_
                     obtain ⟨ad708, A708_0, c708_0, e708, hx708_0, hl708_0, hi708_0⟩ := at_L5 (Kd.S_reads' HO_287.out).2.2 x289_4 p708 q708
                     cases e708
                     obtain ⟨ce708, hce708, hMe708, hcc708⟩ := Kd.S_get HO_287.out [] x289_4 p708 z16_8_
                     obtain ⟨ve708_0, rfl, ge708_0⟩ := hMe708
                     have hv708_0 := hcc708 0 _ rfl
                     rw [Nat.add_zero, show ((Kd.slice 3 (Kd.int .i64))).sz = 1 from rfl, Nat.mul_one] at hv708_0
                     replace hv708_0 := Option.some.inj (hv708_0.symm.trans hx708_0)
                     rw [hv708_0] at ge708_0
                     have HL708_0 := Aside0.mk (show Kd.R (Kd.int .i64) 3 _ _ _ _ (rd_L5 t668 x289_4) from ge708_0)
                     clear hv708_0 ge708_0
                     clear hcc708 hce708
                     have HR708_0 := Aside0.mk hi708_0
                     have HC708_0 := Aside0.mk hl708_0
                     clear hi708_0 hl708_0
                     replace p708 := eq_true p708
                     replace q708 := eq_true q708
                     have p709 : 0 ≤ (0 : Int) := (by omega)
                     have q709 : 0 < ((rd_L5 t668 x289_4).length : Int) := ode_
                     obtain ⟨ad709, e709, hx709_0⟩ := Kd.at_int (cC_ HR708_0) 0 p709 q709
                     cases e709
                     have qi709 : (0 < (rd_L5 t668 x289_4).length) = True := eq_true (by omega)
                     (try rw [show ((0 : Int)).toNat = 0 from rfl] at hx709_0)
                     (try rw [Addr.add_zero'] at hx709_0)
                     replace p709 := eq_true p709
                     replace q709 := eq_true q709
                     obtain ⟨⟨ad710, e710, hx710_0, hx710_1, hx710_2⟩, p710, q710⟩ := at2_ (at_T50 (Kd.R_reads' HO_19.out).2.2 (rd (rd_L5 t668 x289_4) 0)); cases e710
                     have p711 : 0 ≤ (1 : Int) := (by omega)
                     have q711 : 1 < ((rd_L5 t668 x289_4).length : Int) := ode_
                     obtain ⟨ad711, e711, hx711_0⟩ := Kd.at_int (cC_ HR708_0) 1 p711 q711
                     obtain rfl : ad709 = ad711 := (by injection e711)
                     (try simp only [show (1 : Int).toNat = 1 from rfl, Nat.reduceMul, Nat.reduceEqDiff, Go.Addr.add, ↓reduceIte] at hx711_0)
                     have qi711 : (1 < (rd_L5 t668 x289_4).length) = True := eq_true (by omega)
                     (try rw [show ((1 : Int)).toNat = 1 from rfl] at hx711_0)
                     replace p711 := eq_true p711
                     replace q711 := eq_true q711
                     obtain ⟨⟨ad712, e712, hx712_0, hx712_1, hx712_2⟩, p712, q712⟩ := at2_ (at_T50 (Kd.R_reads' HO_20.out).2.2 (rd (rd_L5 t668 x289_4) 1)); cases e712
                     go_wp2
                     repeat (go_quiet (fail); try go_wp2)
                     go_ret
                     exact ⟨rT_, hB_⟩
                   as_aux_lemma =>
                    by_cases c171 : ((rd_T50 t658 (rd (rd_L5 t668 x289_4) 0)).f1) > ((rd_T50 t659 (rd (rd_L5 t668 x289_4) 1)).f1)
                    ·rw [if_pos c171] at H
                     have c171b0 : decide (((rd_T50 t659 (rd (rd_L5 t668 x289_4) 1)).f1) < ((rd_T50 t658 (rd (rd_L5 t668 x289_4) 0)).f1)) = true := decide_eq_true c171
                     clear c171
                     as_aux_lemma =>
                      obtain rfl := Option.some.inj H
                      have p708 : 0 ≤ (x289_4 : Int) := ode_
                      have q708 : x289_4 < (t668.length : Int) := ode_
                      obtain ⟨ad708, A708_0, c708_0, e708, hx708_0, hl708_0, hi708_0⟩ := at_L5 (Kd.S_reads' HO_287.out).2.2 x289_4 p708 q708
                      cases e708
                      obtain ⟨ce708, hce708, hMe708, hcc708⟩ := Kd.S_get HO_287.out [] x289_4 p708 z16_8_
                      obtain ⟨ve708_0, rfl, ge708_0⟩ := hMe708
                      have hv708_0 := hcc708 0 _ rfl
                      rw [Nat.add_zero, show ((Kd.slice 3 (Kd.int .i64))).sz = 1 from rfl, Nat.mul_one] at hv708_0
                      replace hv708_0 := Option.some.inj (hv708_0.symm.trans hx708_0)
                      rw [hv708_0] at ge708_0
                      have HL708_0 := Aside0.mk (show Kd.R (Kd.int .i64) 3 _ _ _ _ (rd_L5 t668 x289_4) from ge708_0)
                      clear hv708_0 ge708_0
                      clear hcc708 hce708
                      have HR708_0 := Aside0.mk hi708_0
                      have HC708_0 := Aside0.mk hl708_0
                      clear hi708_0 hl708_0
                      replace p708 := eq_true p708
                      replace q708 := eq_true q708
                      have p709 : 0 ≤ (0 : Int) := (by omega)
                      have q709 : 0 < ((rd_L5 t668 x289_4).length : Int) := ode_
                      obtain ⟨ad709, e709, hx709_0⟩ := Kd.at_int (cC_ HR708_0) 0 p709 q709
                      cases e709
                      have qi709 : (0 < (rd_L5 t668 x289_4).length) = True := eq_true (by omega)
                      (try rw [show ((0 : Int)).toNat = 0 from rfl] at hx709_0)
                      (try rw [Addr.add_zero'] at hx709_0)
                      replace p709 := eq_true p709
                      replace q709 := eq_true q709
                      obtain ⟨⟨ad710, e710, hx710_0, hx710_1, hx710_2⟩, p710, q710⟩ := at2_ (at_T50 (Kd.R_reads' HO_19.out).2.2 (rd (rd_L5 t668 x289_4) 0)); cases e710
                      have p711 : 0 ≤ (1 : Int) := (by omega)
                      have q711 : 1 < ((rd_L5 t668 x289_4).length : Int) := ode_
                      obtain ⟨ad711, e711, hx711_0⟩ := Kd.at_int (cC_ HR708_0) 1 p711 q711
                      obtain rfl : ad709 = ad711 := (by injection e711)
                      (try simp only [show (1 : Int).toNat = 1 from rfl, Nat.reduceMul, Nat.reduceEqDiff, Go.Addr.add, ↓reduceIte] at hx711_0)
                      have qi711 : (1 < (rd_L5 t668 x289_4).length) = True := eq_true (by omega)
                      (try rw [show ((1 : Int)).toNat = 1 from rfl] at hx711_0)
                      replace p711 := eq_true p711
                      replace q711 := eq_true q711
                      obtain ⟨⟨ad712, e712, hx712_0, hx712_1, hx712_2⟩, p712, q712⟩ := at2_ (at_T50 (Kd.R_reads' HO_20.out).2.2 (rd (rd_L5 t668 x289_4) 1)); cases e712
                      have p713 : 0 ≤ (0 : Int) := (by omega)
                      have q713 : 0 < ((rd_L5 t668 x289_4).length : Int) := ode_
                      obtain ⟨ad713, e713, hx713_0⟩ := Kd.at_int (cC_ HR708_0) 0 p713 q713
                      obtain rfl : ad709 = ad713 := (by injection e713)
                      have qi713 : (0 < (rd_L5 t668 x289_4).length) = True := eq_true (by omega)
                      (try rw [show ((0 : Int)).toNat = 0 from rfl] at hx713_0)
                      (try rw [Addr.add_zero'] at hx713_0)
                      replace p713 := eq_true p713
                      replace q713 := eq_true q713
                      have p714 : 0 ≤ ((rd (rd_L5 t668 x289_4) 0) : Int) := ode_
                      have q714 : (rd (rd_L5 t668 x289_4) 0) < (t658.length : Int) := ode_
                      obtain ⟨ad714, e714, hx714_0, hx714_1, hx714_2⟩ := at_T50 (Kd.R_reads' HO_19.out).2.2 (rd (rd_L5 t668 x289_4) 0) p714 q714
                      obtain rfl : ad710 = ad714 := (by injection e714)
                      replace p714 := eq_true p714
                      replace q714 := eq_true q714
                      have p715 : 0 ≤ (1 : Int) := (by omega)
                      have q715 : 1 < ((rd_L5 t668 x289_4).length : Int) := ode_
                      obtain ⟨ad715, e715, hx715_0⟩ := Kd.at_int (cC_ HR708_0) 1 p715 q715
                      obtain rfl : ad709 = ad715 := (by injection e715)
                      (try simp only [show (1 : Int).toNat = 1 from rfl, Nat.reduceMul, Nat.reduceEqDiff, Go.Addr.add, ↓reduceIte] at hx715_0)
                      have qi715 : (1 < (rd_L5 t668 x289_4).length) = True := eq_true (by omega)
                      (try rw [show ((1 : Int)).toNat = 1 from rfl] at hx715_0)
                      replace p715 := eq_true p715
                      replace q715 := eq_true q715
                      have p716 : 0 ≤ ((rd (rd_L5 t668 x289_4) 1) : Int) := ode_
                      have q716 : (rd (rd_L5 t668 x289_4) 1) < (t659.length : Int) := ode_
                      obtain ⟨ad716, e716, hx716_0, hx716_1, hx716_2⟩ := at_T50 (Kd.R_reads' HO_20.out).2.2 (rd (rd_L5 t668 x289_4) 1) p716 q716
                      obtain rfl : ad712 = ad716 := (by injection e716)
                      replace p716 := eq_true p716
                      replace q716 := eq_true q716
                      go_wp2
                      repeat (go_quiet (fail); try go_wp2)
                      go_ret
                      exact ⟨rT_, hB_⟩
                    rw [if_neg c171] at H
                    have c171b0 : decide (((rd_T50 t659 (rd (rd_L5 t668 x289_4) 1)).f1) < ((rd_T50 t658 (rd (rd_L5 t668 x289_4) 0)).f1)) = false := decide_eq_false c171
                    clear c171
                    as_aux_lemma =>
                     have H' := Aside0.mk H
                     clear H
                     have p708 : 0 ≤ (x289_4 : Int) := ode_
                     have q708 : x289_4 < (t668.length : Int) := ode_
                     obtain ⟨ad708, A708_0, c708_0, e708, hx708_0, hl708_0, hi708_0⟩ := at_L5 (Kd.S_reads' HO_287.out).2.2 x289_4 p708 q708
                     cases e708
                     obtain ⟨ce708, hce708, hMe708, hcc708⟩ := Kd.S_get HO_287.out [] x289_4 p708 z16_8_
                     obtain ⟨ve708_0, rfl, ge708_0⟩ := hMe708
                     have hv708_0 := hcc708 0 _ rfl
                     rw [Nat.add_zero, show ((Kd.slice 3 (Kd.int .i64))).sz = 1 from rfl, Nat.mul_one] at hv708_0
                     replace hv708_0 := Option.some.inj (hv708_0.symm.trans hx708_0)
                     rw [hv708_0] at ge708_0
                     have HL708_0 := Aside0.mk (show Kd.R (Kd.int .i64) 3 _ _ _ _ (rd_L5 t668 x289_4) from ge708_0)
                     clear hv708_0 ge708_0
                     clear hcc708 hce708
                     have HR708_0 := Aside0.mk hi708_0
                     have HC708_0 := Aside0.mk hl708_0
                     clear hi708_0 hl708_0
                     replace p708 := eq_true p708
                     replace q708 := eq_true q708
                     have p709 : 0 ≤ (0 : Int) := (by omega)
                     have q709 : 0 < ((rd_L5 t668 x289_4).length : Int) := ode_
                     obtain ⟨ad709, e709, hx709_0⟩ := Kd.at_int (cC_ HR708_0) 0 p709 q709
                     cases e709
                     have qi709 : (0 < (rd_L5 t668 x289_4).length) = True := eq_true (by omega)
                     (try rw [show ((0 : Int)).toNat = 0 from rfl] at hx709_0)
                     (try rw [Addr.add_zero'] at hx709_0)
                     replace p709 := eq_true p709
                     replace q709 := eq_true q709
                     obtain ⟨⟨ad710, e710, hx710_0, hx710_1, hx710_2⟩, p710, q710⟩ := at2_ (at_T50 (Kd.R_reads' HO_19.out).2.2 (rd (rd_L5 t668 x289_4) 0)); cases e710
                     have p711 : 0 ≤ (1 : Int) := (by omega)
                     have q711 : 1 < ((rd_L5 t668 x289_4).length : Int) := ode_
                     obtain ⟨ad711, e711, hx711_0⟩ := Kd.at_int (cC_ HR708_0) 1 p711 q711
                     obtain rfl : ad709 = ad711 := (by injection e711)
                     (try simp only [show (1 : Int).toNat = 1 from rfl, Nat.reduceMul, Nat.reduceEqDiff, Go.Addr.add, ↓reduceIte] at hx711_0)
                     have qi711 : (1 < (rd_L5 t668 x289_4).length) = True := eq_true (by omega)
                     (try rw [show ((1 : Int)).toNat = 1 from rfl] at hx711_0)
                     replace p711 := eq_true p711
                     replace q711 := eq_true q711
                     obtain ⟨⟨ad712, e712, hx712_0, hx712_1, hx712_2⟩, p712, q712⟩ := at2_ (at_T50 (Kd.R_reads' HO_20.out).2.2 (rd (rd_L5 t668 x289_4) 1)); cases e712
                     have p713 : 0 ≤ (0 : Int) := (by omega)
                     have q713 : 0 < ((rd_L5 t668 x289_4).length : Int) := ode_
                     obtain ⟨ad713, e713, hx713_0⟩ := Kd.at_int (cC_ HR708_0) 0 p713 q713
                     obtain rfl : ad709 = ad713 := (by injection e713)
                     have qi713 : (0 < (rd_L5 t668 x289_4).length) = True := eq_true (by omega)
                     (try rw [show ((0 : Int)).toNat = 0 from rfl] at hx713_0)
                     (try rw [Addr.add_zero'] at hx713_0)
                     replace p713 := eq_true p713
                     replace q713 := eq_true q713
                     have p714 : 0 ≤ ((rd (rd_L5 t668 x289_4) 0) : Int) := ode_
                     have q714 : (rd (rd_L5 t668 x289_4) 0) < (t658.length : Int) := ode_
                     obtain ⟨ad714, e714, hx714_0, hx714_1, hx714_2⟩ := at_T50 (Kd.R_reads' HO_19.out).2.2 (rd (rd_L5 t668 x289_4) 0) p714 q714
                     obtain rfl : ad710 = ad714 := (by injection e714)
                     replace p714 := eq_true p714
                     replace q714 := eq_true q714
                     have p715 : 0 ≤ (1 : Int) := (by omega)
                     have q715 : 1 < ((rd_L5 t668 x289_4).length : Int) := ode_
                     obtain ⟨ad715, e715, hx715_0⟩ := Kd.at_int (cC_ HR708_0) 1 p715 q715
                     obtain rfl : ad709 = ad715 := (by injection e715)
                     (try simp only [show (1 : Int).toNat = 1 from rfl, Nat.reduceMul, Nat.reduceEqDiff, Go.Addr.add, ↓reduceIte] at hx715_0)
                     have qi715 : (1 < (rd_L5 t668 x289_4).length) = True := eq_true (by omega)
                     (try rw [show ((1 : Int)).toNat = 1 from rfl] at hx715_0)
                     replace p715 := eq_true p715
                     replace q715 := eq_true q715
                     have p716 : 0 ≤ ((rd (rd_L5 t668 x289_4) 1) : Int) := ode_
                     have q716 : (rd (rd_L5 t668 x289_4) 1) < (t659.length : Int) := ode_
                     obtain ⟨ad716, e716, hx716_0, hx716_1, hx716_2⟩ := at_T50 (Kd.R_reads' HO_20.out).2.2 (rd (rd_L5 t668 x289_4) 1) p716 q716
                     obtain rfl : ad712 = ad716 := (by injection e716)
                     replace p716 := eq_true p716
                     replace q716 := eq_true q716
                     go_wp2
                     repeat (go_quiet (fail); try go_wp2)
                     go_roundg k4
                     case measure => have := HJ18.out; have := HJ118.out; have := HJ137.out; have := HK4.out; omega
                     case rel => exact ⟨(wrap64 (x289_4 + 1)), z16_1_, H', ⟨by have := HJ18.out; have := HJ118.out; have := HJ137.out; have := HK4.out; omega⟩, ⟨(rR_ HO_19)⟩, ⟨(rR_ HO_20)⟩, ⟨(rR_ HO_25)⟩, ⟨(rR_ HO_29)⟩, ⟨(rR_ HO_31)⟩, ⟨sR_ HO_287⟩, ⟨hB_⟩⟩
                 have HC172 := Aside0.mk H
                 clear H
                 go_upto_if 326 with (fail)
                 repeat (go_quiet (fail); go_upto_if 326 with (fail))
                 go_cut [] (fun wc => ∃ (kq : Nat), Aside0 (laws_FnTierCounts.j8 kq t684 t689 t691 = some r) ∧ Aside0 (kq ≤ k4) ∧ Aside0 (Kd.R k50 50 wc w.heap.size (fun _ => True) (.slice Ao38 t684.length co38) t684) ∧ Aside0 (Below w.heap.size w wc))
                 case first =>
                  as_aux_lemma =>
                   have H := HC172.out
                   clear HC172
                   by_cases c173 : t677 = true
                   rotate_left
                   ·replace c173 := Bool.eq_false_iff.mpr c173
                    subst c173
                    replace H := in_ H (show ¬ (false = true) by decide)
                    as_aux_lemma =>
                     have H' := Aside0.mk H
                     clear H
                     go_wp2
                     repeat (go_quiet (fail); try go_wp2)
                     go_meet
                     case rel => exact ⟨_, H', ⟨by have := HJ18.out; have := HJ118.out; have := HJ137.out; have := HK4.out; first | omega | exact Nat.le_refl _⟩, ⟨(rT1_ HO_31)⟩, ⟨hB_⟩⟩
                   subst c173
                   replace H := ip_ H rfl
                   have H' := Aside0.mk H
                   clear H
                   go_wp2
                   repeat (go_quiet (fail); try go_wp2)
                   go_loopg [329] k4 (fun kq v329 w' => ∃ (x329_5 : Int), v329 = .int .i64 x329_5 ∧ Aside0 (laws_FnTierCounts.l2 kq t673 t680 t684 t689 t691 t672 (t672.length : Int) x329_5 = some r) ∧ Aside0 (kq ≤ k4) ∧ Aside0 (Kd.R (Kd.int .i64) 3 w' w.heap.size (fun _ => True) v682 t680) ∧ Aside0 (Kd.R k50 50 w' w.heap.size (fun k_ => some k_ ≠ ((.slice Ao34 t672.length co34) : Value).ownBlock) (.slice Ao38 t684.length co38) t684) ∧ Aside0 (Kd.R k50 50 w' w.heap.size (fun k_ => some k_ ≠ ((.slice Ao38 t684.length co38) : Value).ownBlock) (.slice Ao34 t672.length co34) t672) ∧ Aside0 (Below w.heap.size w w'))
                   case atStart => exact ⟨(0), z16_1_, H', ⟨Nat.le_refl _⟩, ⟨(rR_ HO_29)⟩, ⟨rM_ HO_31 (fun _ hk => hk.2.2)⟩, ⟨rM_ HO_25 (fun _ hk => hk.2.2)⟩, ⟨hB_⟩⟩
                   case round =>
                    as_aux_lemma =>
                     clear H'
                     (try clear c1);(try clear c3);(try clear c3b0);(try clear c118);(try clear c161);(try clear c161b0);(try clear c173)
                     obtain ⟨x329_5, rfl, HA, HK5, HO_29, HO_31, HO_327, HB⟩ := hrel
                     cases gk with
                     | zero => exact absurd HA.out (by simp [laws_FnTierCounts.l2])
                     | succ k5 =>
                      as_aux_lemma =>
                       have H := HA.out
                       clear HA
                       simp only [laws_FnTierCounts.l2] at H
                       replace H := iF_ H; obtain ⟨c174b0, H⟩ | ⟨c174b0, H⟩ := H
                       ·(first | rw [c174b0] | (simp only [i64_w, i32_w]; rw [c174b0]) | skip)
                        as_aux_lemma =>
                         have H' := Aside0.mk H
                         clear H
                         go_wp2
                         repeat (go_quiet (fail); try go_wp2)
                         go_meet
                         case rel => exact ⟨_, H', ⟨by have := HJ18.out; have := HJ118.out; have := HJ137.out; have := HK4.out; have := HK5.out; first | omega | exact Nat.le_refl _⟩, ⟨(rT1_ HO_31)⟩, ⟨hB_⟩⟩
                       (first | rw [c174b0] | (simp only [i64_w, i32_w]; rw [c174b0]) | skip)
                       replace H := ig_ H; obtain ⟨c175b0, H⟩ := H
                       replace H := ig_ H; obtain ⟨c176b0, H⟩ := H
                       replace H := ob_ H; obtain ⟨t719, A177, H⟩ := H; try dsimp only at H
                       by_cases c178 : (t719 != (decide ((wrap64 (((rd_T50 t672 x329_5).f1) - ((rd_T50 t672 x329_5).f0))) ≥ t673))) = true
                       ·rw [if_pos c178] at H
                        have c178b0 : (t719 != (decide ((wrap64 (((rd_T50 t672 x329_5).f1) - ((rd_T50 t672 x329_5).f0))) ≥ t673))) = true := c178
                        (try (have c178b1 : decide (t719 = (decide ((wrap64 (((rd_T50 t672 x329_5).f1) - ((rd_T50 t672 x329_5).f0))) ≥ t673))) = false := by simpa using c178))
                        (try (have c178b2 : (t719 == (decide ((wrap64 (((rd_T50 t672 x329_5).f1) - ((rd_T50 t672 x329_5).f0))) ≥ t673))) = false := by simpa using c178))
                        (try (have c178b3 : ¬ (t719 = (decide ((wrap64 (((rd_T50 t672 x329_5).f1) - ((rd_T50 t672 x329_5).f0))) ≥ t673))) := by simpa using c178))
                        clear c178
                        as_aux_lemma =>
                         obtain rfl := Option.some.inj H
                         obtain ⟨⟨ad717, e717, hx717_0, hx717_1, hx717_2⟩, p717, q717⟩ := at2_ (at_T50 (Kd.R_reads' HO_327.out).2.2 x329_5); cases e717
                         go_wp2_with (first | ((with_reducible refine gate_dst (N := 50) rfl ?_); (try (refine gate_guard (by rfl) ?_; dsimp only)); refine bx_ 50 #[.int .i64 0, .int .i64 0, .string (⟨#[]⟩ : ByteArray)] 50 fun gb718 hg w179 hbox hb => ?_; have BK718 := aM_ (hbox); have GW718 := aM_ (gw_ w hg); have GE718 := aM_ (gw_ w hg); replace HO_29 := aM_ (Kd.R_below (rR_ HO_29) hb); replace HO_31 := aM_ (Kd.R_below (Kd.R_elderB (rR_ HO_31) gb718 (Nat.le_of_eq hg.symm)) hb); replace HO_327 := aM_ (Kd.R_below (Kd.R_elderB (rR_ HO_327) gb718 (Nat.le_of_eq hg.symm)) hb); replace HB := aM_ (below_step hB_ hb); clear hb hbox hg; have hz180 := cf3_ BK718.out; obtain ⟨Ao181, co181, eo181⟩ := Kd.R_slice HO_29.out; subst eo181) | (go_at_call 25; (with_reducible refine (laws_qHas.calls k5 _ _ t680 x329_5 t719 _ ?side1 ?side2 A177.out).mono ?_); (case side1 => refine (Kd.R_reads' (e := 3) (base := w.heap.size) (ok := fun k_ => True) (n := t680.length) (c := co181) ?_).2.2; exact (by (with_reducible repeat (first | apply rA_ | apply rN_ | apply rD_)); exact (Kd.R_mono (Kd.R_far (p := ⟨gb718, 2, none⟩) (Kd.R_far (p := ⟨gb718, 1, none⟩) (Kd.R_far (p := ⟨gb718, 0, none⟩) (Kd.R_types HO_29.out BK718.out (by decide)) (fun _ hk => hk.2) (.int .i64 ((rd_T50 t672 x329_5).f0))) (fun _ hk => hk.2) (.int .i64 ((rd_T50 t672 x329_5).f1))) (fun _ hk => hk.2) (.string ((rd_T50 t672 x329_5).f2))) (fun _ h_ => h_.1)))); (case side2 => exact (Kd.R_reads' HO_29.out).2.1); rintro e w' ⟨rfl, ⟨nd, rfl⟩⟩; (try exact dd_)) | (go_quiet (first | (go_at_call 25; (with_reducible refine (laws_qHas.calls k5 _ _ t680 x329_5 t719 _ ?side1 ?side2 A177.out).mono ?_); (case side1 => refine (Kd.R_reads' (e := 3) (base := w.heap.size) (ok := fun k_ => True) (n := t680.length) (c := co181) ?_).2.2; exact (by (with_reducible repeat (first | apply rA_ | apply rN_ | apply rD_)); exact (Kd.R_mono (Kd.R_far (p := ⟨gb718, 2, none⟩) (Kd.R_far (p := ⟨gb718, 1, none⟩) (Kd.R_far (p := ⟨gb718, 0, none⟩) (Kd.R_types HO_29.out BK718.out (by decide)) (fun _ hk => hk.2) (.int .i64 ((rd_T50 t672 x329_5).f0))) (fun _ hk => hk.2) (.int .i64 ((rd_T50 t672 x329_5).f1))) (fun _ hk => hk.2) (.string ((rd_T50 t672 x329_5).f2))) (fun _ h_ => h_.1)))); (case side2 => exact (Kd.R_reads' HO_29.out).2.1); rintro e w' ⟨rfl, ⟨nd, rfl⟩⟩; (try exact dd_)))))
                         go_ret
                         exact ⟨rT_, hB_⟩
                       rw [if_neg c178] at H
                       have c178b0 : (t719 != (decide ((wrap64 (((rd_T50 t672 x329_5).f1) - ((rd_T50 t672 x329_5).f0))) ≥ t673))) = false := by simpa using c178
                       (try (have c178b1 : decide (t719 = (decide ((wrap64 (((rd_T50 t672 x329_5).f1) - ((rd_T50 t672 x329_5).f0))) ≥ t673))) = true := by simpa using c178))
                       (try (have c178b2 : (t719 == (decide ((wrap64 (((rd_T50 t672 x329_5).f1) - ((rd_T50 t672 x329_5).f0))) ≥ t673))) = true := by simpa using c178))
                       clear c178
                       as_aux_lemma =>
                        have H' := Aside0.mk H
                        clear H
                        obtain ⟨⟨ad717, e717, hx717_0, hx717_1, hx717_2⟩, p717, q717⟩ := at2_ (at_T50 (Kd.R_reads' HO_327.out).2.2 x329_5); cases e717
                        go_wp2_with (first | ((with_reducible refine gate_dst (N := 50) rfl ?_); (try (refine gate_guard (by rfl) ?_; dsimp only)); refine bx_ 50 #[.int .i64 0, .int .i64 0, .string (⟨#[]⟩ : ByteArray)] 50 fun gb718 hg w182 hbox hb => ?_; have BK718 := aM_ (hbox); have GW718 := aM_ (gw_ w hg); have GE718 := aM_ (gw_ w hg); replace HO_29 := aM_ (Kd.R_below (rR_ HO_29) hb); replace HO_31 := aM_ (Kd.R_below (Kd.R_elderB (rR_ HO_31) gb718 (Nat.le_of_eq hg.symm)) hb); replace HO_327 := aM_ (Kd.R_below (Kd.R_elderB (rR_ HO_327) gb718 (Nat.le_of_eq hg.symm)) hb); replace HB := aM_ (below_step hB_ hb); clear hb hbox hg; have hz183 := cf3_ BK718.out; obtain ⟨Ao184, co184, eo184⟩ := Kd.R_slice HO_29.out; subst eo184) | (go_at_call 25; (with_reducible refine (laws_qHas.calls k5 _ _ t680 x329_5 t719 _ ?side1 ?side2 A177.out).mono ?_); (case side1 => refine (Kd.R_reads' (e := 3) (base := w.heap.size) (ok := fun k_ => True) (n := t680.length) (c := co184) ?_).2.2; exact (by (with_reducible repeat (first | apply rA_ | apply rN_ | apply rD_)); exact (Kd.R_mono (Kd.R_far (p := ⟨gb718, 2, none⟩) (Kd.R_far (p := ⟨gb718, 1, none⟩) (Kd.R_far (p := ⟨gb718, 0, none⟩) (Kd.R_types HO_29.out BK718.out (by decide)) (fun _ hk => hk.2) (.int .i64 ((rd_T50 t672 x329_5).f0))) (fun _ hk => hk.2) (.int .i64 ((rd_T50 t672 x329_5).f1))) (fun _ hk => hk.2) (.string ((rd_T50 t672 x329_5).f2))) (fun _ h_ => h_.1)))); (case side2 => exact (Kd.R_reads' HO_29.out).2.1); rintro e w' ⟨rfl, ⟨nd, rfl⟩⟩; (try exact dd_)) | (go_quiet (first | (go_at_call 25; (with_reducible refine (laws_qHas.calls k5 _ _ t680 x329_5 t719 _ ?side1 ?side2 A177.out).mono ?_); (case side1 => refine (Kd.R_reads' (e := 3) (base := w.heap.size) (ok := fun k_ => True) (n := t680.length) (c := co184) ?_).2.2; exact (by (with_reducible repeat (first | apply rA_ | apply rN_ | apply rD_)); exact (Kd.R_mono (Kd.R_far (p := ⟨gb718, 2, none⟩) (Kd.R_far (p := ⟨gb718, 1, none⟩) (Kd.R_far (p := ⟨gb718, 0, none⟩) (Kd.R_types HO_29.out BK718.out (by decide)) (fun _ hk => hk.2) (.int .i64 ((rd_T50 t672 x329_5).f0))) (fun _ hk => hk.2) (.int .i64 ((rd_T50 t672 x329_5).f1))) (fun _ hk => hk.2) (.string ((rd_T50 t672 x329_5).f2))) (fun _ h_ => h_.1)))); (case side2 => exact (Kd.R_reads' HO_29.out).2.1); rintro e w' ⟨rfl, ⟨nd, rfl⟩⟩; (try exact dd_)))))
                        go_roundg k5
                        case measure => have := HJ18.out; have := HJ118.out; have := HJ137.out; have := HK4.out; have := HK5.out; omega
                        case rel => exact ⟨(wrap64 (x329_5 + 1)), z16_1_, H', ⟨by have := HJ18.out; have := HJ118.out; have := HJ137.out; have := HK4.out; have := HK5.out; omega⟩, ⟨by (with_reducible repeat (first | apply rA_ | apply rN_ | apply rD_)); exact Kd.R_mono (Kd.R_far (p := ⟨gb718, 2, none⟩) (Kd.R_far (p := ⟨gb718, 1, none⟩) (Kd.R_far (p := ⟨gb718, 0, none⟩) (Kd.R_types HO_29.out BK718.out (by decide)) (fun _ hk => hk.2) (.int .i64 ((rd_T50 t672 x329_5).f0))) (fun _ hk => hk.2) (.int .i64 ((rd_T50 t672 x329_5).f1))) (fun _ hk => hk.2) (.string ((rd_T50 t672 x329_5).f2))) (fun _ hk => trivial)⟩, ⟨by (with_reducible repeat (first | apply rA_ | apply rN_ | apply rD_)); exact Kd.R_mono (Kd.R_far (p := ⟨gb718, 2, none⟩) (Kd.R_far (p := ⟨gb718, 1, none⟩) (Kd.R_far (p := ⟨gb718, 0, none⟩) (Kd.R_mono HO_31.out (fun k_ hk => (⟨hk, hk.2⟩ : _ ∧ k_ ≠ gb718))) (fun _ hk => hk.2) (.int .i64 ((rd_T50 t672 x329_5).f0))) (fun _ hk => hk.2) (.int .i64 ((rd_T50 t672 x329_5).f1))) (fun _ hk => hk.2) (.string ((rd_T50 t672 x329_5).f2))) (fun _ hk => hk.1.1)⟩, ⟨by (with_reducible repeat (first | apply rA_ | apply rN_ | apply rD_)); exact Kd.R_mono (Kd.R_far (p := ⟨gb718, 2, none⟩) (Kd.R_far (p := ⟨gb718, 1, none⟩) (Kd.R_far (p := ⟨gb718, 0, none⟩) (Kd.R_mono HO_327.out (fun k_ hk => (⟨hk, hk.2⟩ : _ ∧ k_ ≠ gb718))) (fun _ hk => hk.2) (.int .i64 ((rd_T50 t672 x329_5).f0))) (fun _ hk => hk.2) (.int .i64 ((rd_T50 t672 x329_5).f1))) (fun _ hk => hk.2) (.string ((rd_T50 t672 x329_5).f2))) (fun _ hk => hk.1.1)⟩, ⟨hB_⟩⟩
                 case rest =>
                  as_aux_lemma =>
                   clear HC172
                   (try clear c1);(try clear c3);(try clear c3b0);(try clear c118);(try clear c161);(try clear c161b0)
                   obtain ⟨kq, HA, HJ171, HO_31, HB⟩ := hcut
                   cases kq with
                   | zero => exact absurd HA.out (by simp [laws_FnTierCounts.j8])
                   | succ kj171 =>
                    as_aux_lemma =>
                     have H := HA.out
                     clear HA
                     simp only [laws_FnTierCounts.j8] at H
                     by_cases c185 : t689 = true
                     rotate_left
                     ·replace c185 := Bool.eq_false_iff.mpr c185
                      subst c185
                      replace H := in_ H (show ¬ (false = true) by decide)
                      as_aux_lemma =>
                       obtain rfl := Option.some.inj H
                       go_wp2
                       repeat (go_quiet (fail); try go_wp2)
                       go_ret
                       exact ⟨rT_, hB_⟩
                     subst c185
                     replace H := ip_ H rfl
                     have H' := Aside0.mk H
                     clear H
                     go_wp2
                     repeat (go_quiet (fail); try go_wp2)
                     go_loopg [51] kj171 (fun kq v51 w' => ∃ (x51_6 : Int), v51 = .int .i64 x51_6 ∧ Aside0 (laws_FnTierCounts.l3 kq t684 t691 x51_6 = some r) ∧ Aside0 (kq ≤ kj171) ∧ Aside0 (Kd.R k50 50 w' w.heap.size (fun _ => True) (.slice Ao38 t684.length co38) t684) ∧ Aside0 (Below w.heap.size w w'))
                     case atStart => exact ⟨(1), z16_1_, H', ⟨Nat.le_refl _⟩, ⟨(rR_ HO_31)⟩, ⟨hB_⟩⟩
                     case round =>
                      as_aux_lemma =>
                       clear H'
                       (try clear c1);(try clear c3);(try clear c3b0);(try clear c118);(try clear c161);(try clear c161b0);(try clear c185)
                       obtain ⟨x51_6, rfl, HA, HK6, HO_31, HB⟩ := hrel
                       cases gk with
                       | zero => exact absurd HA.out (by simp [laws_FnTierCounts.l3])
                       | succ k6 =>
                        as_aux_lemma =>
                         have H := HA.out
                         clear HA
                         simp only [laws_FnTierCounts.l3] at H
                         replace H := iF_ H; obtain ⟨c186b0, H⟩ | ⟨c186b0, H⟩ := H
                         ·as_aux_lemma =>
                           obtain rfl := Option.some.inj H
                           go_wp2
                           repeat (go_quiet (fail); try go_wp2)
                           go_ret
                           exact ⟨rT_, hB_⟩
                         replace H := ig_ H; obtain ⟨c187b0, H⟩ := H
                         obtain ⟨ji188, hji188⟩ : ∃ j_ : Int, (wrap64 (x51_6 - 1)) = j_ := ⟨_, rfl⟩
                         replace H : (if 0 ≤ (ji188) then (if (ji188) < (t684.length : Int) then (if (wrap64 (((rd_T50 t684 x51_6).f0) - ((rd_T50 t684 (ji188)).f1))) > t691 then (some false) else (laws_FnTierCounts.l3 k6 t684 t691 (wrap64 (x51_6 + 1)))) else (none)) else (none)) = some r := by first | (rw [hji188] at H; exact H) | (simp only [hji188] at H ⊢; exact H)
                         have hji188w : (IntKind.i64.wrap (x51_6 - 1)) = ji188 := (i64_w _).trans hji188
                         replace H := ig_ H; obtain ⟨c189b0, H⟩ := H
                         replace H := ig_ H; obtain ⟨c190b0, H⟩ := H
                         by_cases c191 : (wrap64 (((rd_T50 t684 x51_6).f0) - ((rd_T50 t684 (ji188)).f1))) > t691
                         ·rw [if_pos c191] at H
                          have c191b0 : decide (t691 < (wrap64 (((rd_T50 t684 x51_6).f0) - ((rd_T50 t684 (ji188)).f1)))) = true := decide_eq_true c191
                          clear c191
                          as_aux_lemma =>
                           obtain rfl := Option.some.inj H
                           obtain ⟨⟨ad720, e720, hx720_0, hx720_1, hx720_2⟩, p720, q720⟩ := at2_ (at_T50 (Kd.R_reads' HO_31.out).2.2 x51_6); cases e720
                           have p721 : 0 ≤ ((ji188) : Int) := ode_
                           have q721 : (ji188) < (t684.length : Int) := ode_
                           obtain ⟨ad721, e721, hx721_0, hx721_1, hx721_2⟩ := at_T50 (Kd.R_reads' HO_31.out).2.2 (ji188) p721 q721
                           obtain rfl : ad720 = ad721 := (by injection e721)
                           replace p721 := eq_true p721
                           replace q721 := eq_true q721
                           go_wp2
                           repeat (go_quiet (fail); try go_wp2)
                           go_ret
                           exact ⟨by first | rfl | (simp [errW_none, errW_some] <;> rfl) | (simp only [← hji188]; first | rfl | (simp [errW_none, errW_some] <;> rfl)) | (simp [*, errW_none, errW_some] <;> rfl), hB_⟩
                         rw [if_neg c191] at H
                         have c191b0 : decide (t691 < (wrap64 (((rd_T50 t684 x51_6).f0) - ((rd_T50 t684 (ji188)).f1)))) = false := decide_eq_false c191
                         clear c191
                         as_aux_lemma =>
                          have H' := Aside0.mk H
                          clear H
                          obtain ⟨⟨ad720, e720, hx720_0, hx720_1, hx720_2⟩, p720, q720⟩ := at2_ (at_T50 (Kd.R_reads' HO_31.out).2.2 x51_6); cases e720
                          have p721 : 0 ≤ ((ji188) : Int) := ode_
                          have q721 : (ji188) < (t684.length : Int) := ode_
                          obtain ⟨ad721, e721, hx721_0, hx721_1, hx721_2⟩ := at_T50 (Kd.R_reads' HO_31.out).2.2 (ji188) p721 q721
                          obtain rfl : ad720 = ad721 := (by injection e721)
                          replace p721 := eq_true p721
                          replace q721 := eq_true q721
                          go_wp2
                          repeat (go_quiet (fail); try go_wp2)
                          go_roundg k6
                          case measure => have := HJ18.out; have := HJ118.out; have := HJ137.out; have := HK4.out; have := HJ171.out; have := HK6.out; omega
                          case rel => exact ⟨(wrap64 (x51_6 + 1)), z16_1_, H', ⟨by have := HJ18.out; have := HJ118.out; have := HJ137.out; have := HK4.out; have := HJ171.out; have := HK6.out; omega⟩, ⟨(rR_ HO_31)⟩, ⟨hB_⟩⟩

/-- THE ONE PURE STATEMENT of laws_FnTierCounts: yours. -/
theorem laws_FnTierCounts.walk (P : laws_FnTierCounts.Pure) (a0 : Option Addr) (len0 cap0 : Nat) (z0 : List Int) (a1 : Option Addr) (len1 cap1 : Nat) (z1 : List Int) (w : World) (w0 : (a0 = none ∧ len0 = 0 ∧ cap0 = 0 ∧ z0 = []) ∨ ∃ x, a0 = some x ∧ len0 ≤ cap0 ∧ cap0 ≤ maxLen ∧ z0.length = cap0 ∧ (∀ i, i < z0.length → w.cell? (x.add i) = some (.int .u8 (z0.getD i 0))) ∧ ∀ n ∈ z0, (Lit.int .u8 n).wf = true) (y0 : len0 * 1 ≤ 140737488351232) (w1 : (a1 = none ∧ len1 = 0 ∧ cap1 = 0 ∧ z1 = []) ∨ ∃ x, a1 = some x ∧ len1 ≤ cap1 ∧ cap1 ≤ maxLen ∧ z1.length = cap1 ∧ (∀ i, i < z1.length → w.cell? (x.add i) = some (.int .u8 (z1.getD i 0))) ∧ ∀ n ∈ z1, (Lit.int .u8 n).wf = true) (y1 : len1 * 1 ≤ 140737488351232) :
 Calls Try.prog 3 #[.slice a0 len0 cap0, .slice a1 len1 cap1] w fun e w' => e = .returned (.bool true) ∧ Below w.heap.size w w' := by
 obtain ⟨l0, rfl, hr0, hm0, hw0, hc0⟩ := ReadsInt.ofRowC w0
 obtain ⟨l1, rfl, hr1, hm1, hw1, hc1⟩ := ReadsInt.ofRowC w1
 obtain ⟨k, h⟩ := P l0 l1 hm0 y0 hw0 hm1 y1 hw1
 refine (laws_FnTierCounts.calls k _ _ l0 _ _ l1 true w (Kd.C_of_reads (d := (0 : Int)) (h1 := fun _ => rfl) hr0) hc0 (Kd.C_of_reads (d := (0 : Int)) (h1 := fun _ => rfl) hr1) hc1 h).mono ?_
 rintro e w' ⟨rfl, hd⟩
 exact ⟨rfl, hd⟩

end Go.Proofs.Ytbfkpgmdbafmhaa.PFnTierCounts
