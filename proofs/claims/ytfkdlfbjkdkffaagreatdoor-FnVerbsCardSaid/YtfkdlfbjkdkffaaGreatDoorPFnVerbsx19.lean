/- Printed for this claim: functions of the program as Lean functions, and that the calls answer so. -/
import Derived.Test.YtfkdlfbjkdkffaaGreatDoorPFnVerbsx0
import Derived.Test.YtfkdlfbjkdkffaaGreatDoorPFnVerbsx1
import Derived.Test.YtfkdlfbjkdkffaaGreatDoorPFnVerbsx6
import Derived.Test.YtfkdlfbjkdkffaaGreatDoorPFnVerbsx9
import Derived.Test.YtfkdlfbjkdkffaaGreatDoorPFnVerbsx10
import Derived.Test.YtfkdlfbjkdkffaaGreatDoorPFnVerbsx12
import Derived.Test.YtfkdlfbjkdkffaaGreatDoorPFnVerbsx13
import Derived.Test.YtfkdlfbjkdkffaaGreatDoorPFnVerbsx14
import Derived.Test.YtfkdlfbjkdkffaaGreatDoorPFnVerbsx15
import Derived.Test.YtfkdlfbjkdkffaaGreatDoorPFnVerbsx16
import Derived.Test.YtfkdlfbjkdkffaaGreatDoorPFnVerbsx17
import Derived.Test.YtfkdlfbjkdkffaaGreatDoorPFnVerbsx18
import Derived.Test.YtfkdlfbjkdkffaaGreatDoorPFnVerbsxD0
namespace Go.Proofs.YtfkdlfbjkdkffaaGreatDoor.PFnVerbs
open Go.RowKit Go.Proofs.YtfkdlfbjkdkffaaGreatDoorW.PrintWords Go.Proofs.YtfkdlfbjkdkffaaGreatDoorW.PrintLast Go.Proofs.YtfkdlfbjkdkffaaGreatDoorW.PrintMore
attribute [local go_sem] max2_int min2_int max_two min_two max_three min_three max_four min_four isSome_setCell   -- for this text's walks alone
set_option linter.unusedVariables false
set_option linter.unusedSimpArgs false

attribute [local go_sem high] eqA27
theorem z19_0_ {p : Prop} (h : p := by repeat (first | exact (Kd.C_below HR1.out HB.out) | (with_reducible first | apply cA_ | apply cN_ | apply cD_))) : p := h
theorem z19_1_ {p : Prop} (h : p := by first | rfl | (simp; done) | (simp [*]; done)) : p := h
theorem z19_2o_ {p : Prop} (h : p := by (with_reducible repeat (first | apply kN_ | apply kD_ | apply kA_)); refine blk_far ?_ NB626_673.out _; (with_reducible repeat (first | apply kN_ | apply kD_ | apply kA_)); refine blk_far ?_ NB626_673.out _; (with_reducible repeat (first | apply kN_ | apply kD_ | apply kA_)); refine blk_far ?_ NB626_673.out _; (with_reducible repeat (first | apply kN_ | apply kD_ | apply kA_)); exact BK626.out) : p := h
theorem z19_2_ {p : Prop} (h : p := by exact kR_ BK626) : p := h
theorem z19_3o_ {p : Prop} (h : p := by (with_reducible repeat (first | apply kN_ | apply kD_ | apply kA_)); refine blk_far ?_ NB638_673.out _; (with_reducible repeat (first | apply kN_ | apply kD_ | apply kA_)); refine blk_far ?_ NB638_673.out _; (with_reducible repeat (first | apply kN_ | apply kD_ | apply kA_)); refine blk_far ?_ NB638_673.out _; (with_reducible repeat (first | apply kN_ | apply kD_ | apply kA_)); exact BK638.out) : p := h
theorem z19_3_ {p : Prop} (h : p := by exact kR_ BK638) : p := h
theorem z19_4o_ {p : Prop} (h : p := by (with_reducible repeat (first | apply kN_ | apply kD_ | apply kA_)); refine blk_far ?_ NB648_673.out _; (with_reducible repeat (first | apply kN_ | apply kD_ | apply kA_)); refine blk_far ?_ NB648_673.out _; (with_reducible repeat (first | apply kN_ | apply kD_ | apply kA_)); refine blk_far ?_ NB648_673.out _; (with_reducible repeat (first | apply kN_ | apply kD_ | apply kA_)); exact BK648.out) : p := h
theorem z19_4_ {p : Prop} (h : p := by exact kR_ BK648) : p := h
theorem z19_5o_ {p : Prop} (h : p := by (with_reducible repeat (first | apply kN_ | apply kD_ | apply kA_)); refine blk_far ?_ NB668_673.out _; (with_reducible repeat (first | apply kN_ | apply kD_ | apply kA_)); refine blk_far ?_ NB668_673.out _; (with_reducible repeat (first | apply kN_ | apply kD_ | apply kA_)); refine blk_far ?_ NB668_673.out _; (with_reducible repeat (first | apply kN_ | apply kD_ | apply kA_)); exact BK668.out) : p := h
theorem z19_5_ {p : Prop} (h : p := by exact kR_ BK668) : p := h
theorem z19_6o_ {p : Prop} (h : p := by (with_reducible repeat (first | apply kN_ | apply kD_ | apply kA_)); refine blk_put (cs := #[.string t669, .int .i64 t670, .int .i64 0]) ?_ 2 _ rfl; (with_reducible repeat (first | apply kN_ | apply kD_ | apply kA_)); refine blk_put (cs := #[.string t669, .int .i64 0, .int .i64 0]) ?_ 1 _ rfl; (with_reducible repeat (first | apply kN_ | apply kD_ | apply kA_)); refine blk_put (cs := #[.string (⟨#[]⟩ : ByteArray), .int .i64 0, .int .i64 0]) ?_ 0 _ rfl; (with_reducible repeat (first | apply kN_ | apply kD_ | apply kA_)); exact BK673.out) : p := h
theorem z19_6_ {p : Prop} (h : p := by exact kR_ BK673) : p := h
theorem z19_7_ {p : Prop} (h : p := by (with_reducible repeat (first | apply kN_ | apply kD_ | apply kA_)); refine blk_put (cs := #[.string t680, .int .i64 t681, .int .i64 0]) ?_ 2 _ rfl; (with_reducible repeat (first | apply kN_ | apply kD_ | apply kA_)); refine blk_put (cs := #[.string t680, .int .i64 0, .int .i64 0]) ?_ 1 _ rfl; (with_reducible repeat (first | apply kN_ | apply kD_ | apply kA_)); refine blk_put (cs := #[.string (⟨#[]⟩ : ByteArray), .int .i64 0, .int .i64 0]) ?_ 0 _ rfl; (with_reducible repeat (first | apply kN_ | apply kD_ | apply kA_)); exact BK684.out) : p := h
theorem z19_8_ {p : Prop} (h : p := by (with_reducible repeat (first | apply kN_ | apply kD_ | apply kA_)); refine blk_put (cs := #[.string t688, .int .i64 t689, .int .i64 0]) ?_ 2 _ rfl; (with_reducible repeat (first | apply kN_ | apply kD_ | apply kA_)); refine blk_put (cs := #[.string t688, .int .i64 0, .int .i64 0]) ?_ 1 _ rfl; (with_reducible repeat (first | apply kN_ | apply kD_ | apply kA_)); refine blk_put (cs := #[.string (⟨#[]⟩ : ByteArray), .int .i64 0, .int .i64 0]) ?_ 0 _ rfl; (with_reducible repeat (first | apply kN_ | apply kD_ | apply kA_)); exact BK692.out) : p := h
/-! ### laws_FnVerbs: function 3 -/
set_option maxHeartbeats 64000000 in
set_option maxRecDepth 100000 in
theorem laws_FnVerbs.calls (k : Nat) (A0 : Option Addr) (c0 : Nat) (l0 : List Int) (A1 : Option Addr) (c1 : Nat) (l1 : List Int) (r : Bool) (w : World) (hT_ : TabW Tryz.prog 1 w) (hr0 : Kd.C (Kd.int .u8) w A0 l0.length l0) (hc0 : l0.length ≤ c0) (hr1 : Kd.C (Kd.int .u8) w A1 l1.length l1) (hc1 : l1.length ≤ c1) (h : laws_FnVerbs.f k l0 l1 = some r) :
 Calls Tryz.prog 3 #[.slice A0 l0.length c0, .slice A1 l1.length c1] w fun e w' => e = .returned (.bool r) ∧ Below w.heap.size w w' := by
 have hu27 := Tryz.underlying27
 have HR0 := Aside0.mk hr0
 have HC0 := Aside0.mk hc0
 clear hr0 hc0
 have HR1 := Aside0.mk hr1
 have HC1 := Aside0.mk hc1
 clear hr1 hc1
 have HT := Aside0.mk hT_
 clear hT_
 have HB := Aside0.mk (Below.refl w.heap.size w)
 have H : (if (wrap64 ((l0.length : Int) + (l1.length : Int))) > 1048576 then (some true) else ((spec_DrawVerbFor.f k l0).bind fun bt616 => ((impl_VerbFor.f k bt616.1 bt616.2.1 bt616.2.2.1 bt616.2.2.2).bind fun bt622 => ((spec_VerbFor.f k bt616.1 bt616.2.1 bt616.2.2.1 bt616.2.2.2).bind fun bt627 => ((spec_DrawMeaningOf.f k l1).bind fun bt632 => ((impl_MeaningOf.f k bt632.1 bt632.2.1 bt632.2.2.1 bt632.2.2.2).bind fun bt639 => ((spec_MeaningOf.f k bt632.1 bt632.2.1 bt632.2.2.1 bt632.2.2.2).bind fun bt642 => ((spec_DrawVerbText.f k l1).bind fun bt645 => ((impl_VerbText.f k bt645.1 bt645.2.1 bt645.2.2).bind fun bt649 => ((spec_VerbText.f k bt645.1 bt645.2.1 bt645.2.2).bind fun bt651 => ((spec_DrawParseVerb.f k l1).bind fun t653 => ((impl_ParseVerb.f k t653).bind fun bt654 => ((spec_ParseVerb.f k t653).bind fun bt659 => ((impl_ReverseVerb.f k bt645.1 bt645.2.1 bt645.2.2).bind fun bt664 => ((spec_ReverseVerb.f k bt645.1 bt645.2.1 bt645.2.2).bind fun bt669 => (if (bt622.2.2.2 != bt627.2.2.2) = true then (laws_FnVerbs.j0 k bt616.1 bt616.2.2.1 bt616.2.2.2 bt622.2.2.2 bt632.1 bt639.2.2 bt642.1 bt642.2.1 bt649.1 bt649.2 true bt622.1 bt622.2.1 bt622.2.2.1 bt632.2.1 bt632.2.2.1 bt632.2.2.2 bt645.1 bt645.2.1 bt645.2.2 bt664.1 bt664.2.1 bt664.2.2.1) else (if (!(bt622.1.toList == bt627.1.toList) || (!(bt622.2.1 == bt627.2.1) || (!(bt622.2.2.1 == bt627.2.2.1)))) = true then (laws_FnVerbs.j0 k bt616.1 bt616.2.2.1 bt616.2.2.2 bt622.2.2.2 bt632.1 bt639.2.2 bt642.1 bt642.2.1 bt649.1 bt649.2 true bt622.1 bt622.2.1 bt622.2.2.1 bt632.2.1 bt632.2.2.1 bt632.2.2.2 bt645.1 bt645.2.1 bt645.2.2 bt664.1 bt664.2.1 bt664.2.2.1) else (if (bt639.2.2 != bt642.2.2) = true then (laws_FnVerbs.j0 k bt616.1 bt616.2.2.1 bt616.2.2.2 bt622.2.2.2 bt632.1 bt639.2.2 bt642.1 bt642.2.1 bt649.1 bt649.2 true bt622.1 bt622.2.1 bt622.2.2.1 bt632.2.1 bt632.2.2.1 bt632.2.2.2 bt645.1 bt645.2.1 bt645.2.2 bt664.1 bt664.2.1 bt664.2.2.1) else (if bt639.1.toList = bt642.1.toList then (if bt639.2.1.toList = bt642.2.1.toList then (if (bt649.2 != bt651.2) = true then (laws_FnVerbs.j0 k bt616.1 bt616.2.2.1 bt616.2.2.2 bt622.2.2.2 bt632.1 bt639.2.2 bt642.1 bt642.2.1 bt649.1 bt649.2 true bt622.1 bt622.2.1 bt622.2.2.1 bt632.2.1 bt632.2.2.1 bt632.2.2.2 bt645.1 bt645.2.1 bt645.2.2 bt664.1 bt664.2.1 bt664.2.2.1) else (if bt649.1.toList = bt651.1.toList then (if (bt654.2.2.2 != bt659.2.2.2) = true then (laws_FnVerbs.j0 k bt616.1 bt616.2.2.1 bt616.2.2.2 bt622.2.2.2 bt632.1 bt639.2.2 bt642.1 bt642.2.1 bt649.1 bt649.2 true bt622.1 bt622.2.1 bt622.2.2.1 bt632.2.1 bt632.2.2.1 bt632.2.2.2 bt645.1 bt645.2.1 bt645.2.2 bt664.1 bt664.2.1 bt664.2.2.1) else (if (!(bt654.1.toList == bt659.1.toList) || (!(bt654.2.1 == bt659.2.1) || (!(bt654.2.2.1 == bt659.2.2.1)))) = true then (laws_FnVerbs.j0 k bt616.1 bt616.2.2.1 bt616.2.2.2 bt622.2.2.2 bt632.1 bt639.2.2 bt642.1 bt642.2.1 bt649.1 bt649.2 true bt622.1 bt622.2.1 bt622.2.2.1 bt632.2.1 bt632.2.2.1 bt632.2.2.2 bt645.1 bt645.2.1 bt645.2.2 bt664.1 bt664.2.1 bt664.2.2.1) else (if (bt664.2.2.2 != bt669.2.2.2) = true then (laws_FnVerbs.j0 k bt616.1 bt616.2.2.1 bt616.2.2.2 bt622.2.2.2 bt632.1 bt639.2.2 bt642.1 bt642.2.1 bt649.1 bt649.2 true bt622.1 bt622.2.1 bt622.2.2.1 bt632.2.1 bt632.2.2.1 bt632.2.2.2 bt645.1 bt645.2.1 bt645.2.2 bt664.1 bt664.2.1 bt664.2.2.1) else (if (!(bt664.1.toList == bt669.1.toList) || (!(bt664.2.1 == bt669.2.1) || (!(bt664.2.2.1 == bt669.2.2.1)))) = true then (laws_FnVerbs.j0 k bt616.1 bt616.2.2.1 bt616.2.2.2 bt622.2.2.2 bt632.1 bt639.2.2 bt642.1 bt642.2.1 bt649.1 bt649.2 true bt622.1 bt622.2.1 bt622.2.2.1 bt632.2.1 bt632.2.2.1 bt632.2.2.2 bt645.1 bt645.2.1 bt645.2.2 bt664.1 bt664.2.1 bt664.2.2.1) else ((impl_IsVerb.f k bt645.1 bt645.2.1 bt645.2.2).bind fun t674 => (if (bt649.2 != t674) = true then (laws_FnVerbs.j0 k bt616.1 bt616.2.2.1 bt616.2.2.2 bt622.2.2.2 bt632.1 bt639.2.2 bt642.1 bt642.2.1 bt649.1 bt649.2 true bt622.1 bt622.2.1 bt622.2.2.1 bt632.2.1 bt632.2.2.1 bt632.2.2.2 bt645.1 bt645.2.1 bt645.2.2 bt664.1 bt664.2.1 bt664.2.2.1) else (laws_FnVerbs.j0 k bt616.1 bt616.2.2.1 bt616.2.2.2 bt622.2.2.2 bt632.1 bt639.2.2 bt642.1 bt642.2.1 bt649.1 bt649.2 (bt664.2.2.2 != bt649.2) bt622.1 bt622.2.1 bt622.2.2.1 bt632.2.1 bt632.2.2.1 bt632.2.2.2 bt645.1 bt645.2.1 bt645.2.2 bt664.1 bt664.2.1 bt664.2.2.1))))))) else (laws_FnVerbs.j0 k bt616.1 bt616.2.2.1 bt616.2.2.2 bt622.2.2.2 bt632.1 bt639.2.2 bt642.1 bt642.2.1 bt649.1 bt649.2 true bt622.1 bt622.2.1 bt622.2.2.1 bt632.2.1 bt632.2.2.1 bt632.2.2.2 bt645.1 bt645.2.1 bt645.2.2 bt664.1 bt664.2.1 bt664.2.2.1))) else (laws_FnVerbs.j0 k bt616.1 bt616.2.2.1 bt616.2.2.2 bt622.2.2.2 bt632.1 bt639.2.2 bt642.1 bt642.2.1 bt649.1 bt649.2 true bt622.1 bt622.2.1 bt622.2.2.1 bt632.2.1 bt632.2.2.1 bt632.2.2.2 bt645.1 bt645.2.1 bt645.2.2 bt664.1 bt664.2.1 bt664.2.2.1)) else (laws_FnVerbs.j0 k bt616.1 bt616.2.2.1 bt616.2.2.2 bt622.2.2.2 bt632.1 bt639.2.2 bt642.1 bt642.2.1 bt649.1 bt649.2 true bt622.1 bt622.2.1 bt622.2.2.1 bt632.2.1 bt632.2.2.1 bt632.2.2.2 bt645.1 bt645.2.1 bt645.2.2 bt664.1 bt664.2.1 bt664.2.2.1)))))))))))))))))))) = some r := h
 clear h
 by_cases c3 : (wrap64 ((l0.length : Int) + (l1.length : Int))) > 1048576
 ·rw [if_pos c3] at H
  have c3b0 : decide (1048576 < (wrap64 ((l0.length : Int) + (l1.length : Int)))) = true := decide_eq_true c3
  clear c3
  as_aux_lemma =>
   obtain rfl := Option.some.inj H
   go_enter Tryz.func3, Tryz.ntmps3
   go_wp2
   go_ret
   exact ⟨rT_, hB_⟩
 rw [if_neg c3] at H
 have c3b0 : decide (1048576 < (wrap64 ((l0.length : Int) + (l1.length : Int)))) = false := decide_eq_false c3
 clear c3
 replace H := ob_ H; obtain ⟨⟨t616, t617, t618, t619⟩, A4, H⟩ := H; try dsimp only at H
 replace H := ob_ H; obtain ⟨⟨t622, t623, t624, t625⟩, A5, H⟩ := H; try dsimp only at H
 replace H := ob_ H; obtain ⟨⟨t627, t628, t629, t630⟩, A6, H⟩ := H; try dsimp only at H
 replace H := ob_ H; obtain ⟨⟨t632, t635, t636, t637⟩, A7, H⟩ := H; try dsimp only at H
 replace H := ob_ H; obtain ⟨⟨t639, t640, t641⟩, A8, H⟩ := H; try dsimp only at H
 replace H := ob_ H; obtain ⟨⟨t642, t643, t644⟩, A9, H⟩ := H; try dsimp only at H
 replace H := ob_ H; obtain ⟨⟨t645, t646, t647⟩, A10, H⟩ := H; try dsimp only at H
 replace H := ob_ H; obtain ⟨⟨t649, t650⟩, A11, H⟩ := H; try dsimp only at H
 replace H := ob_ H; obtain ⟨⟨t651, t652⟩, A12, H⟩ := H; try dsimp only at H
 replace H := ob_ H; obtain ⟨t653, A13, H⟩ := H; try dsimp only at H
 replace H := ob_ H; obtain ⟨⟨t654, t655, t656, t657⟩, A14, H⟩ := H; try dsimp only at H
 replace H := ob_ H; obtain ⟨⟨t659, t660, t661, t662⟩, A15, H⟩ := H; try dsimp only at H
 replace H := ob_ H; obtain ⟨⟨t664, t665, t666, t667⟩, A16, H⟩ := H; try dsimp only at H
 replace H := ob_ H; obtain ⟨⟨t669, t670, t671, t672⟩, A17, H⟩ := H; try dsimp only at H
 have HC18 := Aside0.mk H
 clear H
 go_enter Tryz.func3, Tryz.ntmps3
 go_upto_region 17 with (first | ((with_reducible refine gC_ 5 ?_); refine gM_ (some 57) Tryz.func5 #[.slice A0 l0.length c0] ?_; (with_reducible refine (spec_DrawVerbFor.calls k _ _ l0 t616 t617 t618 t619 _ ?side1 ?side2 A4.out).mono ?_); (case side1 => exact cC_ HR0); (case side2 => exact HC0.out); rintro e w19 ⟨v620, rfl, ho0, hb⟩; refine ⟨_, rfl, ?_⟩; have HO621 := aM_ (Kd.R_lower ho0 (below_size hB_)); replace HB := aM_ (below_step hB_ hb); (try clear hb); (try clear hk); (try clear ho0); obtain ⟨Ao20, co20, eo20⟩ := Kd.R_slice HO621.out; subst eo20) | ((with_reducible refine gC_ 6 ?_); refine gM_ (some 67) Tryz.func6 #[.slice Ao20 t616.length co20, .string t617, .string t618, .string t619] ?_; (with_reducible refine (impl_VerbFor.calls k _ _ t616 t617 t618 t619 t622 t623 t624 t625 _ ?side1 ?side2 A5.out).mono ?_); (case side1 => exact cR_ HO621); (case side2 => exact (Kd.R_reads' HO621.out).2.1); rintro e w21 ⟨rfl, hb⟩; refine ⟨_, rfl, ?_⟩; replace HO621 := aM_ (Kd.R_below (rR_ HO621) hb); replace HB := aM_ (below_step hB_ hb); (try clear hb); (try clear hk)) | ((with_reducible refine gate_dst (N := 9) rfl ?_); refine bx_ 9 #[.string (⟨#[]⟩ : ByteArray), .int .i64 0, .int .i64 0] 27 fun gb626 hg w22 hbox hb => ?_; have BK626 := aM_ (hbox); have GW626 := aM_ (gw_ w hg); have GE626 := aM_ (gw_ w hg); replace HO621 := aM_ (Kd.R_below (rR_ HO621) hb); replace HB := aM_ (below_step hB_ hb); clear hb hbox hg; have hz23 := cf3_ BK626.out) | ((with_reducible refine gC_ 7 ?_); refine gM_ (some 75) Tryz.func7 #[.slice Ao20 t616.length co20, .string t617, .string t618, .string t619] ?_; (with_reducible refine (spec_VerbFor.calls k _ _ t616 t617 t618 t619 t627 t628 t629 t630 _ ?side1 ?side2 A6.out).mono ?_); (case side1 => refine (Kd.R_reads' (e := 58) (base := w.heap.size) (ok := fun k_ => True) (n := t616.length) (c := co20) ?_).2.2; exact (by (with_reducible repeat (first | apply rA_ | apply rN_ | apply rD_)); exact (Kd.R_mono (Kd.R_far (p := ⟨gb626, 2, none⟩) (Kd.R_far (p := ⟨gb626, 1, none⟩) (Kd.R_far (p := ⟨gb626, 0, none⟩) (Kd.R_types HO621.out BK626.out (by decide)) (fun _ hk => hk.2) (.string t622)) (fun _ hk => hk.2) (.int .i64 t623)) (fun _ hk => hk.2) (.int .i64 t624)) (fun _ h_ => h_.1)))); (case side2 => exact (Kd.R_reads' HO621.out).2.1); rintro e w24 ⟨rfl, hb⟩; refine ⟨_, rfl, ?_⟩; replace HO621 := aM_ (Kd.R_below (by (with_reducible repeat (first | apply rA_ | apply rN_ | apply rD_)); exact (Kd.R_mono (Kd.R_far (p := ⟨gb626, 2, none⟩) (Kd.R_far (p := ⟨gb626, 1, none⟩) (Kd.R_far (p := ⟨gb626, 0, none⟩) (Kd.R_types HO621.out BK626.out (by decide)) (fun _ hk => hk.2) (.string t622)) (fun _ hk => hk.2) (.int .i64 t623)) (fun _ hk => hk.2) (.int .i64 t624)) (fun _ h_ => h_.1))) hb); replace BK626 := aM_ (blk_below (g := gb626) (o := .cells #[.string t622, .int .i64 t623, .int .i64 t624] 27 (0, 0)) (by (with_reducible repeat (first | apply kN_ | apply kD_ | apply kA_)); refine blk_put (cs := #[.string t622, .int .i64 t623, .int .i64 0]) ?_ 2 _ rfl; (with_reducible repeat (first | apply kN_ | apply kD_ | apply kA_)); refine blk_put (cs := #[.string t622, .int .i64 0, .int .i64 0]) ?_ 1 _ rfl; (with_reducible repeat (first | apply kN_ | apply kD_ | apply kA_)); refine blk_put (cs := #[.string (⟨#[]⟩ : ByteArray), .int .i64 0, .int .i64 0]) ?_ 0 _ rfl; (with_reducible repeat (first | apply kN_ | apply kD_ | apply kA_)); exact BK626.out) hb); replace HB := aM_ (below_step hB_ hb); (try clear hb); (try clear hk)) | ((with_reducible refine gate_dst (N := 11) rfl ?_); refine bx_ 11 #[.string (⟨#[]⟩ : ByteArray), .int .i64 0, .int .i64 0] 27 fun gb631 hg w25 hbox hb => ?_; have BK631 := aM_ (hbox); have GW631 := aM_ (gw_ w hg); have GE631 := aM_ (gw_ w hg); have NB626_631 := aM_ (nR_ BK626 hg); have NB631_626 := aM_ (mR_ BK626 hg); replace HO621 := aM_ (Kd.R_below (rR_ HO621) hb); replace BK626 := aM_ (blk_below (g := gb626) (kR_ BK626) hb); replace HB := aM_ (below_step hB_ hb); clear hb hbox hg; have hnb26 := NB631_626.out; have hnc26 := NB626_631.out; have hz27 := cf3_ BK631.out) | ((with_reducible refine gC_ 8 ?_); refine gM_ (some 80) Tryz.func8 #[.slice A1 l1.length c1] ?_; (with_reducible refine (spec_DrawMeaningOf.calls k _ _ l1 t632 t635 t636 t637 _ ?side1 ?side2 A7.out).mono ?_); (case side1 => exact Kd.C_below HR1.out hB_); (case side2 => exact HC1.out); rintro e w28 ⟨v633, rfl, ho0, hb⟩; refine ⟨_, rfl, ?_⟩; have HO634 := aM_ (Kd.R_lower (Kd.R_new' ho0 (Kd.R_lt (by (with_reducible repeat (first | apply rA_ | apply rN_ | apply rD_)); exact (Kd.R_mono (Kd.R_far (p := ⟨gb631, 2, none⟩) (Kd.R_far (p := ⟨gb631, 1, none⟩) (Kd.R_far (p := ⟨gb631, 0, none⟩) (Kd.R_types HO621.out BK631.out (by decide)) (fun _ hk => hk.2) (.string t627)) (fun _ hk => hk.2) (.int .i64 t628)) (fun _ hk => hk.2) (.int .i64 t629)) (fun _ h_ => h_.1))))) (below_size hB_)); replace HO621 := aM_ (Kd.R_elder' (by (with_reducible repeat (first | apply rA_ | apply rN_ | apply rD_)); exact (Kd.R_mono (Kd.R_far (p := ⟨gb631, 2, none⟩) (Kd.R_far (p := ⟨gb631, 1, none⟩) (Kd.R_far (p := ⟨gb631, 0, none⟩) (Kd.R_types HO621.out BK631.out (by decide)) (fun _ hk => hk.2) (.string t627)) (fun _ hk => hk.2) (.int .i64 t628)) (fun _ hk => hk.2) (.int .i64 t629)) (fun _ h_ => h_.1))) (Kd.R_base ho0) hb); replace BK626 := aM_ (blk_below (g := gb626) (kR_ BK626) hb); replace BK631 := aM_ (blk_below (g := gb631) (o := .cells #[.string t627, .int .i64 t628, .int .i64 t629] 27 (0, 0)) (by (with_reducible repeat (first | apply kN_ | apply kD_ | apply kA_)); refine blk_put (cs := #[.string t627, .int .i64 t628, .int .i64 0]) ?_ 2 _ rfl; (with_reducible repeat (first | apply kN_ | apply kD_ | apply kA_)); refine blk_put (cs := #[.string t627, .int .i64 0, .int .i64 0]) ?_ 1 _ rfl; (with_reducible repeat (first | apply kN_ | apply kD_ | apply kA_)); refine blk_put (cs := #[.string (⟨#[]⟩ : ByteArray), .int .i64 0, .int .i64 0]) ?_ 0 _ rfl; (with_reducible repeat (first | apply kN_ | apply kD_ | apply kA_)); exact BK631.out) hb); replace HB := aM_ (below_step hB_ hb); (try clear hb); (try clear hk); (try clear ho0)) | ((with_reducible refine gate_dst (N := 14) rfl ?_); refine bx_ 14 #[.string (⟨#[]⟩ : ByteArray), .int .i64 0, .int .i64 0] 27 fun gb638 hg w29 hbox hb => ?_; have BK638 := aM_ (hbox); have GW638 := aM_ (gw_ w hg); have GE638 := aM_ (gw_ w hg); have NB626_638 := aM_ (nR_ BK626 hg); have NB638_626 := aM_ (mR_ BK626 hg); have NB631_638 := aM_ (nR_ BK631 hg); have NB638_631 := aM_ (mR_ BK631 hg); replace HO621 := aM_ (Kd.R_below (rR_ HO621) hb); replace HO634 := aM_ (Kd.R_below (rR_ HO634) hb); replace BK626 := aM_ (blk_below (g := gb626) (kR_ BK626) hb); replace BK631 := aM_ (blk_below (g := gb631) (kR_ BK631) hb); replace HB := aM_ (below_step hB_ hb); clear hb hbox hg; have hnb30 := NB638_626.out; have hnc30 := NB626_638.out; have hnb31 := NB638_631.out; have hnc31 := NB631_638.out; have hz32 := cf3_ BK638.out; obtain ⟨Ao33, co33, eo33⟩ := Kd.R_slice HO634.out; subst eo33) | ((with_reducible refine gC_ 9 ?_); refine gM_ (some 86) Tryz.func9 #[.slice Ao33 t632.length co33, .agg #[.string t635, .int .i64 t636, .int .i64 t637]] ?_; (with_reducible refine (impl_MeaningOf.calls k _ _ t632 t635 t636 t637 t639 t640 t641 _ ?side1 ?side2 A8.out).mono ?_); (case side1 => refine (Kd.R_reads' (e := 58) (base := w.heap.size) (ok := fun k_ => (True ∧ some k_ ≠ (.slice Ao20 t616.length co20 : Value).ownBlock)) (n := t632.length) (c := co33) ?_).2.2; exact (by (with_reducible repeat (first | apply rA_ | apply rN_ | apply rD_)); exact (Kd.R_mono (Kd.R_far (p := ⟨gb638, 2, none⟩) (Kd.R_far (p := ⟨gb638, 1, none⟩) (Kd.R_far (p := ⟨gb638, 0, none⟩) (Kd.R_types HO634.out BK638.out (by decide)) (fun _ hk => hk.2) (.string t635)) (fun _ hk => hk.2) (.int .i64 t636)) (fun _ hk => hk.2) (.int .i64 t637)) (fun _ h_ => h_.1)))); (case side2 => exact (Kd.R_reads' HO634.out).2.1); rintro e w34 ⟨rfl, hb⟩; refine ⟨_, rfl, ?_⟩; replace HO621 := aM_ (Kd.R_below (by (with_reducible repeat (first | apply rA_ | apply rN_ | apply rD_)); exact (Kd.R_mono (Kd.R_far (p := ⟨gb638, 2, none⟩) (Kd.R_far (p := ⟨gb638, 1, none⟩) (Kd.R_far (p := ⟨gb638, 0, none⟩) (Kd.R_types HO621.out BK638.out (by decide)) (fun _ hk => hk.2) (.string t635)) (fun _ hk => hk.2) (.int .i64 t636)) (fun _ hk => hk.2) (.int .i64 t637)) (fun _ h_ => h_.1))) hb); replace HO634 := aM_ (Kd.R_below (by (with_reducible repeat (first | apply rA_ | apply rN_ | apply rD_)); exact (Kd.R_mono (Kd.R_far (p := ⟨gb638, 2, none⟩) (Kd.R_far (p := ⟨gb638, 1, none⟩) (Kd.R_far (p := ⟨gb638, 0, none⟩) (Kd.R_types HO634.out BK638.out (by decide)) (fun _ hk => hk.2) (.string t635)) (fun _ hk => hk.2) (.int .i64 t636)) (fun _ hk => hk.2) (.int .i64 t637)) (fun _ h_ => h_.1))) hb); replace BK626 := aM_ (blk_below (g := gb626) (kR_ BK626) hb); replace BK631 := aM_ (blk_below (g := gb631) (kR_ BK631) hb); replace BK638 := aM_ (blk_below (g := gb638) (o := .cells #[.string t635, .int .i64 t636, .int .i64 t637] 27 (0, 0)) (by (with_reducible repeat (first | apply kN_ | apply kD_ | apply kA_)); refine blk_put (cs := #[.string t635, .int .i64 t636, .int .i64 0]) ?_ 2 _ rfl; (with_reducible repeat (first | apply kN_ | apply kD_ | apply kA_)); refine blk_put (cs := #[.string t635, .int .i64 0, .int .i64 0]) ?_ 1 _ rfl; (with_reducible repeat (first | apply kN_ | apply kD_ | apply kA_)); refine blk_put (cs := #[.string (⟨#[]⟩ : ByteArray), .int .i64 0, .int .i64 0]) ?_ 0 _ rfl; (with_reducible repeat (first | apply kN_ | apply kD_ | apply kA_)); exact BK638.out) hb); replace HB := aM_ (below_step hB_ hb); (try clear hb); (try clear hk); have hz35 := cf3_ BK638.out) | ((with_reducible refine gC_ 10 ?_); refine gM_ (some 93) Tryz.func10 #[.slice Ao33 t632.length co33, .agg #[.string t635, .int .i64 t636, .int .i64 t637]] ?_; (with_reducible refine (spec_MeaningOf.calls k _ _ t632 t635 t636 t637 t642 t643 t644 _ ?side1 ?side2 A9.out).mono ?_); (case side1 => exact cR_ HO634); (case side2 => exact (Kd.R_reads' HO634.out).2.1); rintro e w36 ⟨rfl, hb⟩; refine ⟨_, rfl, ?_⟩; replace HO621 := aM_ (Kd.R_below (rR_ HO621) hb); replace HO634 := aM_ (Kd.R_below (rR_ HO634) hb); replace BK626 := aM_ (blk_below (g := gb626) (kR_ BK626) hb); replace BK631 := aM_ (blk_below (g := gb631) (kR_ BK631) hb); replace BK638 := aM_ (blk_below (g := gb638) (kR_ BK638) hb); replace HB := aM_ (below_step hB_ hb); (try clear hb); (try clear hk)) | ((with_reducible refine gC_ 11 ?_); refine gM_ (some 98) Tryz.func11 #[.slice A1 l1.length c1] ?_; (with_reducible refine (spec_DrawVerbText.calls k _ _ l1 t645 t646 t647 _ ?side1 ?side2 A10.out).mono ?_); (case side1 => exact z19_0_); (case side2 => exact HC1.out); rintro e w37 ⟨rfl, hb⟩; refine ⟨_, rfl, ?_⟩; replace HO621 := aM_ (Kd.R_below (rR_ HO621) hb); replace HO634 := aM_ (Kd.R_below (rR_ HO634) hb); replace BK626 := aM_ (blk_below (g := gb626) (kR_ BK626) hb); replace BK631 := aM_ (blk_below (g := gb631) (kR_ BK631) hb); replace BK638 := aM_ (blk_below (g := gb638) (kR_ BK638) hb); replace HB := aM_ (below_step hB_ hb); (try clear hb); (try clear hk)) | ((with_reducible refine gate_dst (N := 21) rfl ?_); refine bx_ 21 #[.string (⟨#[]⟩ : ByteArray), .int .i64 0, .int .i64 0] 27 fun gb648 hg w38 hbox hb => ?_; have BK648 := aM_ (hbox); have GW648 := aM_ (gw_ w hg); have GE648 := aM_ (gw_ w hg); have NB626_648 := aM_ (nR_ BK626 hg); have NB648_626 := aM_ (mR_ BK626 hg); have NB631_648 := aM_ (nR_ BK631 hg); have NB648_631 := aM_ (mR_ BK631 hg); have NB638_648 := aM_ (nR_ BK638 hg); have NB648_638 := aM_ (mR_ BK638 hg); replace HO621 := aM_ (Kd.R_below (rR_ HO621) hb); replace HO634 := aM_ (Kd.R_below (rR_ HO634) hb); replace BK626 := aM_ (blk_below (g := gb626) (kR_ BK626) hb); replace BK631 := aM_ (blk_below (g := gb631) (kR_ BK631) hb); replace BK638 := aM_ (blk_below (g := gb638) (kR_ BK638) hb); replace HB := aM_ (below_step hB_ hb); clear hb hbox hg; have hnb39 := NB648_626.out; have hnc39 := NB626_648.out; have hnb40 := NB648_631.out; have hnc40 := NB631_648.out; have hnb41 := NB648_638.out; have hnc41 := NB638_648.out; have hz42 := cf3_ BK648.out) | ((with_reducible refine gC_ 12 ?_); refine gM_ (some 101) Tryz.func12 #[.agg #[.string t645, .int .i64 t646, .int .i64 t647]] ?_; (with_reducible refine (impl_VerbText.calls k t645 t646 t647 t649 t650 _ ?side1 A11.out).mono ?_); (case side1 => refine TabW.weak (a := 1) ?_ (by decide); exact TabW.below HT.out hB_); rintro e w43 ⟨rfl, hb⟩; refine ⟨_, rfl, ?_⟩; replace HO621 := aM_ (Kd.R_below (by (with_reducible repeat (first | apply rA_ | apply rN_ | apply rD_)); exact (Kd.R_mono (Kd.R_far (p := ⟨gb648, 2, none⟩) (Kd.R_far (p := ⟨gb648, 1, none⟩) (Kd.R_far (p := ⟨gb648, 0, none⟩) (Kd.R_types HO621.out BK648.out (by decide)) (fun _ hk => hk.2) (.string t645)) (fun _ hk => hk.2) (.int .i64 t646)) (fun _ hk => hk.2) (.int .i64 t647)) (fun _ h_ => h_.1))) hb); replace HO634 := aM_ (Kd.R_below (by (with_reducible repeat (first | apply rA_ | apply rN_ | apply rD_)); exact (Kd.R_mono (Kd.R_far (p := ⟨gb648, 2, none⟩) (Kd.R_far (p := ⟨gb648, 1, none⟩) (Kd.R_far (p := ⟨gb648, 0, none⟩) (Kd.R_types HO634.out BK648.out (by decide)) (fun _ hk => hk.2) (.string t645)) (fun _ hk => hk.2) (.int .i64 t646)) (fun _ hk => hk.2) (.int .i64 t647)) (fun _ h_ => h_.1))) hb); replace BK626 := aM_ (blk_below (g := gb626) (kR_ BK626) hb); replace BK631 := aM_ (blk_below (g := gb631) (kR_ BK631) hb); replace BK638 := aM_ (blk_below (g := gb638) (kR_ BK638) hb); replace BK648 := aM_ (blk_below (g := gb648) (o := .cells #[.string t645, .int .i64 t646, .int .i64 t647] 27 (0, 0)) (by (with_reducible repeat (first | apply kN_ | apply kD_ | apply kA_)); refine blk_put (cs := #[.string t645, .int .i64 t646, .int .i64 0]) ?_ 2 _ rfl; (with_reducible repeat (first | apply kN_ | apply kD_ | apply kA_)); refine blk_put (cs := #[.string t645, .int .i64 0, .int .i64 0]) ?_ 1 _ rfl; (with_reducible repeat (first | apply kN_ | apply kD_ | apply kA_)); refine blk_put (cs := #[.string (⟨#[]⟩ : ByteArray), .int .i64 0, .int .i64 0]) ?_ 0 _ rfl; (with_reducible repeat (first | apply kN_ | apply kD_ | apply kA_)); exact BK648.out) hb); replace HB := aM_ (below_step hB_ hb); (try clear hb); (try clear hk); have hz44 := cf3_ BK648.out) | ((with_reducible refine gC_ 13 ?_); refine gM_ (some 106) Tryz.func13 #[.agg #[.string t645, .int .i64 t646, .int .i64 t647]] ?_; (with_reducible refine (spec_VerbText.calls k t645 t646 t647 t651 t652 _ A12.out).mono ?_); rintro e w45 ⟨rfl, hb⟩; refine ⟨_, rfl, ?_⟩; replace HO621 := aM_ (Kd.R_below (rR_ HO621) hb); replace HO634 := aM_ (Kd.R_below (rR_ HO634) hb); replace BK626 := aM_ (blk_below (g := gb626) (kR_ BK626) hb); replace BK631 := aM_ (blk_below (g := gb631) (kR_ BK631) hb); replace BK638 := aM_ (blk_below (g := gb638) (kR_ BK638) hb); replace BK648 := aM_ (blk_below (g := gb648) (kR_ BK648) hb); replace HB := aM_ (below_step hB_ hb); (try clear hb); (try clear hk)) | ((with_reducible refine gC_ 14 ?_); refine gM_ (some 110) Tryz.func14 #[.slice A1 l1.length c1] ?_; (with_reducible refine (spec_DrawParseVerb.calls k _ _ l1 t653 _ ?side1 ?side2 A13.out).mono ?_); (case side1 => exact z19_0_); (case side2 => exact HC1.out); rintro e w46 ⟨rfl, hb⟩; refine ⟨_, rfl, ?_⟩; replace HO621 := aM_ (Kd.R_below (rR_ HO621) hb); replace HO634 := aM_ (Kd.R_below (rR_ HO634) hb); replace BK626 := aM_ (blk_below (g := gb626) (kR_ BK626) hb); replace BK631 := aM_ (blk_below (g := gb631) (kR_ BK631) hb); replace BK638 := aM_ (blk_below (g := gb638) (kR_ BK638) hb); replace BK648 := aM_ (blk_below (g := gb648) (kR_ BK648) hb); replace HB := aM_ (below_step hB_ hb); (try clear hb); (try clear hk)) | ((with_reducible refine gC_ 15 ?_); refine gM_ (some 113) Tryz.func15 #[.string t653] ?_; (with_reducible refine (impl_ParseVerb.calls k t653 t654 t655 t656 t657 _ ?side1 A14.out).mono ?_); (case side1 => exact TabW.below HT.out hB_); rintro e w47 ⟨rfl, hb⟩; refine ⟨_, rfl, ?_⟩; replace HO621 := aM_ (Kd.R_below (rR_ HO621) hb); replace HO634 := aM_ (Kd.R_below (rR_ HO634) hb); replace BK626 := aM_ (blk_below (g := gb626) (kR_ BK626) hb); replace BK631 := aM_ (blk_below (g := gb631) (kR_ BK631) hb); replace BK638 := aM_ (blk_below (g := gb638) (kR_ BK638) hb); replace BK648 := aM_ (blk_below (g := gb648) (kR_ BK648) hb); replace HB := aM_ (below_step hB_ hb); (try clear hb); (try clear hk)) | ((with_reducible refine gate_dst (N := 27) rfl ?_); refine bx_ 27 #[.string (⟨#[]⟩ : ByteArray), .int .i64 0, .int .i64 0] 27 fun gb658 hg w48 hbox hb => ?_; have BK658 := aM_ (hbox); have GW658 := aM_ (gw_ w hg); have GE658 := aM_ (gw_ w hg); have NB626_658 := aM_ (nR_ BK626 hg); have NB658_626 := aM_ (mR_ BK626 hg); have NB631_658 := aM_ (nR_ BK631 hg); have NB658_631 := aM_ (mR_ BK631 hg); have NB638_658 := aM_ (nR_ BK638 hg); have NB658_638 := aM_ (mR_ BK638 hg); have NB648_658 := aM_ (nR_ BK648 hg); have NB658_648 := aM_ (mR_ BK648 hg); replace HO621 := aM_ (Kd.R_below (rR_ HO621) hb); replace HO634 := aM_ (Kd.R_below (rR_ HO634) hb); replace BK626 := aM_ (blk_below (g := gb626) (kR_ BK626) hb); replace BK631 := aM_ (blk_below (g := gb631) (kR_ BK631) hb); replace BK638 := aM_ (blk_below (g := gb638) (kR_ BK638) hb); replace BK648 := aM_ (blk_below (g := gb648) (kR_ BK648) hb); replace HB := aM_ (below_step hB_ hb); clear hb hbox hg; have hnb49 := NB658_626.out; have hnc49 := NB626_658.out; have hnb50 := NB658_631.out; have hnc50 := NB631_658.out; have hnb51 := NB658_638.out; have hnc51 := NB638_658.out; have hnb52 := NB658_648.out; have hnc52 := NB648_658.out; have hz53 := cf3_ BK658.out) | ((with_reducible refine gC_ 16 ?_); refine gM_ (some 118) Tryz.func16 #[.string t653] ?_; (with_reducible refine (spec_ParseVerb.calls k t653 t659 t660 t661 t662 _ A15.out).mono ?_); rintro e w54 ⟨rfl, hb⟩; refine ⟨_, rfl, ?_⟩; replace HO621 := aM_ (Kd.R_below (by (with_reducible repeat (first | apply rA_ | apply rN_ | apply rD_)); exact (Kd.R_mono (Kd.R_far (p := ⟨gb658, 2, none⟩) (Kd.R_far (p := ⟨gb658, 1, none⟩) (Kd.R_far (p := ⟨gb658, 0, none⟩) (Kd.R_types HO621.out BK658.out (by decide)) (fun _ hk => hk.2) (.string t654)) (fun _ hk => hk.2) (.int .i64 t655)) (fun _ hk => hk.2) (.int .i64 t656)) (fun _ h_ => h_.1))) hb); replace HO634 := aM_ (Kd.R_below (by (with_reducible repeat (first | apply rA_ | apply rN_ | apply rD_)); exact (Kd.R_mono (Kd.R_far (p := ⟨gb658, 2, none⟩) (Kd.R_far (p := ⟨gb658, 1, none⟩) (Kd.R_far (p := ⟨gb658, 0, none⟩) (Kd.R_types HO634.out BK658.out (by decide)) (fun _ hk => hk.2) (.string t654)) (fun _ hk => hk.2) (.int .i64 t655)) (fun _ hk => hk.2) (.int .i64 t656)) (fun _ h_ => h_.1))) hb); replace BK626 := aM_ (blk_below (g := gb626) (kR_ BK626) hb); replace BK631 := aM_ (blk_below (g := gb631) (kR_ BK631) hb); replace BK638 := aM_ (blk_below (g := gb638) (kR_ BK638) hb); replace BK648 := aM_ (blk_below (g := gb648) (kR_ BK648) hb); replace BK658 := aM_ (blk_below (g := gb658) (o := .cells #[.string t654, .int .i64 t655, .int .i64 t656] 27 (0, 0)) (by (with_reducible repeat (first | apply kN_ | apply kD_ | apply kA_)); refine blk_put (cs := #[.string t654, .int .i64 t655, .int .i64 0]) ?_ 2 _ rfl; (with_reducible repeat (first | apply kN_ | apply kD_ | apply kA_)); refine blk_put (cs := #[.string t654, .int .i64 0, .int .i64 0]) ?_ 1 _ rfl; (with_reducible repeat (first | apply kN_ | apply kD_ | apply kA_)); refine blk_put (cs := #[.string (⟨#[]⟩ : ByteArray), .int .i64 0, .int .i64 0]) ?_ 0 _ rfl; (with_reducible repeat (first | apply kN_ | apply kD_ | apply kA_)); exact BK658.out) hb); replace HB := aM_ (below_step hB_ hb); (try clear hb); (try clear hk)) | ((with_reducible refine gate_dst (N := 29) rfl ?_); refine bx_ 29 #[.string (⟨#[]⟩ : ByteArray), .int .i64 0, .int .i64 0] 27 fun gb663 hg w55 hbox hb => ?_; have BK663 := aM_ (hbox); have GW663 := aM_ (gw_ w hg); have GE663 := aM_ (gw_ w hg); have NB626_663 := aM_ (nR_ BK626 hg); have NB663_626 := aM_ (mR_ BK626 hg); have NB631_663 := aM_ (nR_ BK631 hg); have NB663_631 := aM_ (mR_ BK631 hg); have NB638_663 := aM_ (nR_ BK638 hg); have NB663_638 := aM_ (mR_ BK638 hg); have NB648_663 := aM_ (nR_ BK648 hg); have NB663_648 := aM_ (mR_ BK648 hg); have NB658_663 := aM_ (nR_ BK658 hg); have NB663_658 := aM_ (mR_ BK658 hg); replace HO621 := aM_ (Kd.R_below (rR_ HO621) hb); replace HO634 := aM_ (Kd.R_below (rR_ HO634) hb); replace BK626 := aM_ (blk_below (g := gb626) (kR_ BK626) hb); replace BK631 := aM_ (blk_below (g := gb631) (kR_ BK631) hb); replace BK638 := aM_ (blk_below (g := gb638) (kR_ BK638) hb); replace BK648 := aM_ (blk_below (g := gb648) (kR_ BK648) hb); replace BK658 := aM_ (blk_below (g := gb658) (kR_ BK658) hb); replace HB := aM_ (below_step hB_ hb); clear hb hbox hg; have hnb56 := NB663_626.out; have hnc56 := NB626_663.out; have hnb57 := NB663_631.out; have hnc57 := NB631_663.out; have hnb58 := NB663_638.out; have hnc58 := NB638_663.out; have hnb59 := NB663_648.out; have hnc59 := NB648_663.out; have hnb60 := NB663_658.out; have hnc60 := NB658_663.out; have hz61 := cf3_ BK663.out; have hz62 := cf3_ BK648.out) | ((with_reducible refine gC_ 17 ?_); refine gM_ (some 123) Tryz.func17 #[.agg #[.string t645, .int .i64 t646, .int .i64 t647]] ?_; (with_reducible refine (impl_ReverseVerb.calls k t645 t646 t647 t664 t665 t666 t667 _ A16.out).mono ?_); rintro e w63 ⟨rfl, hb⟩; refine ⟨_, rfl, ?_⟩; replace HO621 := aM_ (Kd.R_below (by (with_reducible repeat (first | apply rA_ | apply rN_ | apply rD_)); exact (Kd.R_mono (Kd.R_far (p := ⟨gb663, 2, none⟩) (Kd.R_far (p := ⟨gb663, 1, none⟩) (Kd.R_far (p := ⟨gb663, 0, none⟩) (Kd.R_types HO621.out BK663.out (by decide)) (fun _ hk => hk.2) (.string t659)) (fun _ hk => hk.2) (.int .i64 t660)) (fun _ hk => hk.2) (.int .i64 t661)) (fun _ h_ => h_.1))) hb); replace HO634 := aM_ (Kd.R_below (by (with_reducible repeat (first | apply rA_ | apply rN_ | apply rD_)); exact (Kd.R_mono (Kd.R_far (p := ⟨gb663, 2, none⟩) (Kd.R_far (p := ⟨gb663, 1, none⟩) (Kd.R_far (p := ⟨gb663, 0, none⟩) (Kd.R_types HO634.out BK663.out (by decide)) (fun _ hk => hk.2) (.string t659)) (fun _ hk => hk.2) (.int .i64 t660)) (fun _ hk => hk.2) (.int .i64 t661)) (fun _ h_ => h_.1))) hb); replace BK626 := aM_ (blk_below (g := gb626) (kR_ BK626) hb); replace BK631 := aM_ (blk_below (g := gb631) (kR_ BK631) hb); replace BK638 := aM_ (blk_below (g := gb638) (kR_ BK638) hb); replace BK648 := aM_ (blk_below (g := gb648) (kR_ BK648) hb); replace BK658 := aM_ (blk_below (g := gb658) (kR_ BK658) hb); replace BK663 := aM_ (blk_below (g := gb663) (o := .cells #[.string t659, .int .i64 t660, .int .i64 t661] 27 (0, 0)) (by (with_reducible repeat (first | apply kN_ | apply kD_ | apply kA_)); refine blk_put (cs := #[.string t659, .int .i64 t660, .int .i64 0]) ?_ 2 _ rfl; (with_reducible repeat (first | apply kN_ | apply kD_ | apply kA_)); refine blk_put (cs := #[.string t659, .int .i64 0, .int .i64 0]) ?_ 1 _ rfl; (with_reducible repeat (first | apply kN_ | apply kD_ | apply kA_)); refine blk_put (cs := #[.string (⟨#[]⟩ : ByteArray), .int .i64 0, .int .i64 0]) ?_ 0 _ rfl; (with_reducible repeat (first | apply kN_ | apply kD_ | apply kA_)); exact BK663.out) hb); replace HB := aM_ (below_step hB_ hb); (try clear hb); (try clear hk)) | ((with_reducible refine gate_dst (N := 31) rfl ?_); refine bx_ 31 #[.string (⟨#[]⟩ : ByteArray), .int .i64 0, .int .i64 0] 27 fun gb668 hg w64 hbox hb => ?_; have BK668 := aM_ (hbox); have GW668 := aM_ (gw_ w hg); have GE668 := aM_ (gw_ w hg); have NB626_668 := aM_ (nR_ BK626 hg); have NB668_626 := aM_ (mR_ BK626 hg); have NB631_668 := aM_ (nR_ BK631 hg); have NB668_631 := aM_ (mR_ BK631 hg); have NB638_668 := aM_ (nR_ BK638 hg); have NB668_638 := aM_ (mR_ BK638 hg); have NB648_668 := aM_ (nR_ BK648 hg); have NB668_648 := aM_ (mR_ BK648 hg); have NB658_668 := aM_ (nR_ BK658 hg); have NB668_658 := aM_ (mR_ BK658 hg); have NB663_668 := aM_ (nR_ BK663 hg); have NB668_663 := aM_ (mR_ BK663 hg); replace HO621 := aM_ (Kd.R_below (rR_ HO621) hb); replace HO634 := aM_ (Kd.R_below (rR_ HO634) hb); replace BK626 := aM_ (blk_below (g := gb626) (kR_ BK626) hb); replace BK631 := aM_ (blk_below (g := gb631) (kR_ BK631) hb); replace BK638 := aM_ (blk_below (g := gb638) (kR_ BK638) hb); replace BK648 := aM_ (blk_below (g := gb648) (kR_ BK648) hb); replace BK658 := aM_ (blk_below (g := gb658) (kR_ BK658) hb); replace BK663 := aM_ (blk_below (g := gb663) (kR_ BK663) hb); replace HB := aM_ (below_step hB_ hb); clear hb hbox hg; have hnb65 := NB668_626.out; have hnc65 := NB626_668.out; have hnb66 := NB668_631.out; have hnc66 := NB631_668.out; have hnb67 := NB668_638.out; have hnc67 := NB638_668.out; have hnb68 := NB668_648.out; have hnc68 := NB648_668.out; have hnb69 := NB668_658.out; have hnc69 := NB658_668.out; have hnb70 := NB668_663.out; have hnc70 := NB663_668.out; have hz71 := cf3_ BK668.out; have hz72 := cf3_ BK648.out) | ((with_reducible refine gC_ 18 ?_); refine gM_ (some 128) Tryz.func18 #[.agg #[.string t645, .int .i64 t646, .int .i64 t647]] ?_; (with_reducible refine (spec_ReverseVerb.calls k t645 t646 t647 t669 t670 t671 t672 _ A17.out).mono ?_); rintro e w73 ⟨rfl, hb⟩; refine ⟨_, rfl, ?_⟩; replace HO621 := aM_ (Kd.R_below (by (with_reducible repeat (first | apply rA_ | apply rN_ | apply rD_)); exact (Kd.R_mono (Kd.R_far (p := ⟨gb668, 2, none⟩) (Kd.R_far (p := ⟨gb668, 1, none⟩) (Kd.R_far (p := ⟨gb668, 0, none⟩) (Kd.R_types HO621.out BK668.out (by decide)) (fun _ hk => hk.2) (.string t664)) (fun _ hk => hk.2) (.int .i64 t665)) (fun _ hk => hk.2) (.int .i64 t666)) (fun _ h_ => h_.1))) hb); replace HO634 := aM_ (Kd.R_below (by (with_reducible repeat (first | apply rA_ | apply rN_ | apply rD_)); exact (Kd.R_mono (Kd.R_far (p := ⟨gb668, 2, none⟩) (Kd.R_far (p := ⟨gb668, 1, none⟩) (Kd.R_far (p := ⟨gb668, 0, none⟩) (Kd.R_types HO634.out BK668.out (by decide)) (fun _ hk => hk.2) (.string t664)) (fun _ hk => hk.2) (.int .i64 t665)) (fun _ hk => hk.2) (.int .i64 t666)) (fun _ h_ => h_.1))) hb); replace BK626 := aM_ (blk_below (g := gb626) (kR_ BK626) hb); replace BK631 := aM_ (blk_below (g := gb631) (kR_ BK631) hb); replace BK638 := aM_ (blk_below (g := gb638) (kR_ BK638) hb); replace BK648 := aM_ (blk_below (g := gb648) (kR_ BK648) hb); replace BK658 := aM_ (blk_below (g := gb658) (kR_ BK658) hb); replace BK663 := aM_ (blk_below (g := gb663) (kR_ BK663) hb); replace BK668 := aM_ (blk_below (g := gb668) (o := .cells #[.string t664, .int .i64 t665, .int .i64 t666] 27 (0, 0)) (by (with_reducible repeat (first | apply kN_ | apply kD_ | apply kA_)); refine blk_put (cs := #[.string t664, .int .i64 t665, .int .i64 0]) ?_ 2 _ rfl; (with_reducible repeat (first | apply kN_ | apply kD_ | apply kA_)); refine blk_put (cs := #[.string t664, .int .i64 0, .int .i64 0]) ?_ 1 _ rfl; (with_reducible repeat (first | apply kN_ | apply kD_ | apply kA_)); refine blk_put (cs := #[.string (⟨#[]⟩ : ByteArray), .int .i64 0, .int .i64 0]) ?_ 0 _ rfl; (with_reducible repeat (first | apply kN_ | apply kD_ | apply kA_)); exact BK668.out) hb); replace HB := aM_ (below_step hB_ hb); (try clear hb); (try clear hk)) | ((with_reducible refine gate_dst (N := 33) rfl ?_); refine bx_ 33 #[.string (⟨#[]⟩ : ByteArray), .int .i64 0, .int .i64 0] 27 fun gb673 hg w74 hbox hb => ?_; have BK673 := aM_ (hbox); have GW673 := aM_ (gw_ w hg); have GE673 := aM_ (gw_ w hg); have NB626_673 := aM_ (nR_ BK626 hg); have NB673_626 := aM_ (mR_ BK626 hg); have NB631_673 := aM_ (nR_ BK631 hg); have NB673_631 := aM_ (mR_ BK631 hg); have NB638_673 := aM_ (nR_ BK638 hg); have NB673_638 := aM_ (mR_ BK638 hg); have NB648_673 := aM_ (nR_ BK648 hg); have NB673_648 := aM_ (mR_ BK648 hg); have NB658_673 := aM_ (nR_ BK658 hg); have NB673_658 := aM_ (mR_ BK658 hg); have NB663_673 := aM_ (nR_ BK663 hg); have NB673_663 := aM_ (mR_ BK663 hg); have NB668_673 := aM_ (nR_ BK668 hg); have NB673_668 := aM_ (mR_ BK668 hg); replace HO621 := aM_ (Kd.R_below (rR_ HO621) hb); replace HO634 := aM_ (Kd.R_below (rR_ HO634) hb); replace BK626 := aM_ (blk_below (g := gb626) (kR_ BK626) hb); replace BK631 := aM_ (blk_below (g := gb631) (kR_ BK631) hb); replace BK638 := aM_ (blk_below (g := gb638) (kR_ BK638) hb); replace BK648 := aM_ (blk_below (g := gb648) (kR_ BK648) hb); replace BK658 := aM_ (blk_below (g := gb658) (kR_ BK658) hb); replace BK663 := aM_ (blk_below (g := gb663) (kR_ BK663) hb); replace BK668 := aM_ (blk_below (g := gb668) (kR_ BK668) hb); replace HB := aM_ (below_step hB_ hb); clear hb hbox hg; have hnb75 := NB673_626.out; have hnc75 := NB626_673.out; have hnb76 := NB673_631.out; have hnc76 := NB631_673.out; have hnb77 := NB673_638.out; have hnc77 := NB638_673.out; have hnb78 := NB673_648.out; have hnc78 := NB648_673.out; have hnb79 := NB673_658.out; have hnc79 := NB658_673.out; have hnb80 := NB673_663.out; have hnc80 := NB663_673.out; have hnb81 := NB673_668.out; have hnc81 := NB668_673.out; have hz82 := cf3_ BK673.out))
 (try simp only [Act.put, List.setIfInBounds_toArray, List.set_cons_zero, List.set_cons_succ])
 go_cut [194] (fun v194 wc => ∃ (kq : Nat) (x194_17 : Bool), v194 = .bool x194_17 ∧ Aside0 (laws_FnVerbs.j0 kq t616 t618 t619 t625 t632 t641 t642 t643 t649 t650 x194_17 t622 t623 t624 t635 t636 t637 t645 t646 t647 t664 t665 t666 = some r) ∧ Aside0 (kq ≤ k) ∧ Aside0 (Kd.R k58 58 wc w.heap.size (fun k_ => some k_ ≠ ((.slice Ao33 t632.length co33) : Value).ownBlock) (.slice Ao20 t616.length co20) t616) ∧ Aside0 (Kd.R k58 58 wc w.heap.size (fun k_ => some k_ ≠ ((.slice Ao20 t616.length co20) : Value).ownBlock) (.slice Ao33 t632.length co33) t632) ∧ Aside0 (wc.heap[gb626]? = some (.cells #[.string t622, .int .i64 t623, .int .i64 t624] 27 (0, 0))) ∧ Aside0 (wc.heap[gb638]? = some (.cells #[.string t635, .int .i64 t636, .int .i64 t637] 27 (0, 0))) ∧ Aside0 (wc.heap[gb648]? = some (.cells #[.string t645, .int .i64 t646, .int .i64 t647] 27 (0, 0))) ∧ Aside0 (wc.heap[gb668]? = some (.cells #[.string t664, .int .i64 t665, .int .i64 t666] 27 (0, 0))) ∧ Aside0 (Below w.heap.size w wc))
 case first =>
  as_aux_lemma =>
   have H := HC18.out
   clear HC18
   have n621_ : Aside0 (Kd.R k58 58 ((((w74.setCell ⟨gb673, 0, none⟩ (.string t669)).setCell ⟨gb673, 1, none⟩ (.int .i64 t670)).setCell ⟨gb673, 2, none⟩ (.int .i64 t671)) : World) w.heap.size (fun k_ => True ∧ some k_ ≠ (.slice Ao33 t632.length co33 : Value).ownBlock) (.slice Ao20 t616.length co20) t616) := ⟨by (with_reducible repeat (first | apply rA_ | apply rN_ | apply rD_)); exact Kd.R_mono (Kd.R_far (p := ⟨gb673, 2, none⟩) (Kd.R_far (p := ⟨gb673, 1, none⟩) (Kd.R_far (p := ⟨gb673, 0, none⟩) (Kd.R_types HO621.out BK673.out (by decide)) (fun _ hk => hk.2) (.string t669)) (fun _ hk => hk.2) (.int .i64 t670)) (fun _ hk => hk.2) (.int .i64 t671)) (fun _ h_ => h_.1)⟩
   have n634_ : Aside0 (Kd.R k58 58 ((((w74.setCell ⟨gb673, 0, none⟩ (.string t669)).setCell ⟨gb673, 1, none⟩ (.int .i64 t670)).setCell ⟨gb673, 2, none⟩ (.int .i64 t671)) : World) w.heap.size (fun k_ => True ∧ some k_ ≠ (.slice Ao20 t616.length co20 : Value).ownBlock) (.slice Ao33 t632.length co33) t632) := ⟨by (with_reducible repeat (first | apply rA_ | apply rN_ | apply rD_)); exact Kd.R_mono (Kd.R_far (p := ⟨gb673, 2, none⟩) (Kd.R_far (p := ⟨gb673, 1, none⟩) (Kd.R_far (p := ⟨gb673, 0, none⟩) (Kd.R_types HO634.out BK673.out (by decide)) (fun _ hk => hk.2) (.string t669)) (fun _ hk => hk.2) (.int .i64 t670)) (fun _ hk => hk.2) (.int .i64 t671)) (fun _ h_ => h_.1)⟩
   have m626_ : Aside0 (((((w74.setCell ⟨gb673, 0, none⟩ (.string t669)).setCell ⟨gb673, 1, none⟩ (.int .i64 t670)).setCell ⟨gb673, 2, none⟩ (.int .i64 t671)) : World).heap[gb626]? = some (.cells #[.string t622, .int .i64 t623, .int .i64 t624] 27 (0, 0))) := ⟨z19_2o_⟩
   have m631_ : Aside0 (((((w74.setCell ⟨gb673, 0, none⟩ (.string t669)).setCell ⟨gb673, 1, none⟩ (.int .i64 t670)).setCell ⟨gb673, 2, none⟩ (.int .i64 t671)) : World).heap[gb631]? = some (.cells #[.string t627, .int .i64 t628, .int .i64 t629] 27 (0, 0))) := ⟨kR_ BK631⟩
   have m638_ : Aside0 (((((w74.setCell ⟨gb673, 0, none⟩ (.string t669)).setCell ⟨gb673, 1, none⟩ (.int .i64 t670)).setCell ⟨gb673, 2, none⟩ (.int .i64 t671)) : World).heap[gb638]? = some (.cells #[.string t635, .int .i64 t636, .int .i64 t637] 27 (0, 0))) := ⟨z19_3o_⟩
   have m648_ : Aside0 (((((w74.setCell ⟨gb673, 0, none⟩ (.string t669)).setCell ⟨gb673, 1, none⟩ (.int .i64 t670)).setCell ⟨gb673, 2, none⟩ (.int .i64 t671)) : World).heap[gb648]? = some (.cells #[.string t645, .int .i64 t646, .int .i64 t647] 27 (0, 0))) := ⟨z19_4o_⟩
   have m658_ : Aside0 (((((w74.setCell ⟨gb673, 0, none⟩ (.string t669)).setCell ⟨gb673, 1, none⟩ (.int .i64 t670)).setCell ⟨gb673, 2, none⟩ (.int .i64 t671)) : World).heap[gb658]? = some (.cells #[.string t654, .int .i64 t655, .int .i64 t656] 27 (0, 0))) := ⟨kR_ BK658⟩
   have m663_ : Aside0 (((((w74.setCell ⟨gb673, 0, none⟩ (.string t669)).setCell ⟨gb673, 1, none⟩ (.int .i64 t670)).setCell ⟨gb673, 2, none⟩ (.int .i64 t671)) : World).heap[gb663]? = some (.cells #[.string t659, .int .i64 t660, .int .i64 t661] 27 (0, 0))) := ⟨kR_ BK663⟩
   have m668_ : Aside0 (((((w74.setCell ⟨gb673, 0, none⟩ (.string t669)).setCell ⟨gb673, 1, none⟩ (.int .i64 t670)).setCell ⟨gb673, 2, none⟩ (.int .i64 t671)) : World).heap[gb668]? = some (.cells #[.string t664, .int .i64 t665, .int .i64 t666] 27 (0, 0))) := ⟨z19_5o_⟩
   have m673_ : Aside0 (((((w74.setCell ⟨gb673, 0, none⟩ (.string t669)).setCell ⟨gb673, 1, none⟩ (.int .i64 t670)).setCell ⟨gb673, 2, none⟩ (.int .i64 t671)) : World).heap[gb673]? = some (.cells #[.string t669, .int .i64 t670, .int .i64 t671] 27 (0, 0))) := ⟨z19_6o_⟩
   have nB_ : Aside0 (Below w.heap.size w ((((w74.setCell ⟨gb673, 0, none⟩ (.string t669)).setCell ⟨gb673, 1, none⟩ (.int .i64 t670)).setCell ⟨gb673, 2, none⟩ (.int .i64 t671)) : World)) := ⟨hB_⟩
   generalize ((((w74.setCell ⟨gb673, 0, none⟩ (.string t669)).setCell ⟨gb673, 1, none⟩ (.int .i64 t670)).setCell ⟨gb673, 2, none⟩ (.int .i64 t671)) : World) = w740 at n621_ n634_ m626_ m631_ m638_ m648_ m658_ m663_ m668_ m673_ nB_ ⊢
   clear HO621 HO634 HB BK626 BK631 BK638 BK648 BK658 BK663 BK668 BK673
   have HO621 := n621_; have HO634 := n634_; have HB := nB_; have BK626 := m626_; have BK631 := m631_; have BK638 := m638_; have BK648 := m648_; have BK658 := m658_; have BK663 := m663_; have BK668 := m668_; have BK673 := m673_
   clear n621_ n634_ nB_ m626_ m631_ m638_ m648_ m658_ m663_ m668_ m673_
   clear hz23 hnb26 hnc26 hz27 hnb30 hnc30 hnb31 hnc31 hz32 hz35 hnb39 hnc39 hnb40 hnc40 hnb41 hnc41 hz42 hz44 hnb49 hnc49 hnb50 hnc50 hnb51 hnc51 hnb52 hnc52 hz53 hnb56 hnc56 hnb57 hnc57 hnb58 hnc58 hnb59 hnc59 hnb60 hnc60 hz61 hz62 hnb65 hnc65 hnb66 hnc66 hnb67 hnc67 hnb68 hnc68 hnb69 hnc69 hnb70 hnc70 hz71 hz72 hnb75 hnc75 hnb76 hnc76 hnb77 hnc77 hnb78 hnc78 hnb79 hnc79 hnb80 hnc80 hnb81 hnc81 hz82
   by_cases c83 : (t625 != t630) = true
   ·rw [if_pos c83] at H
    have c83b0 : (t625 != t630) = true := c83
    (try (have c83b1 : decide (t625 = t630) = false := by simpa using c83))
    (try (have c83b2 : (t625 == t630) = false := by simpa using c83))
    (try (have c83b3 : ¬ (t625 = t630) := by simpa using c83))
    clear c83
    (first | rw [c83b0] | (simp only [i64_w, i32_w]; rw [c83b0]) | skip)
    as_aux_lemma =>
     have H' := Aside0.mk H
     clear H
     go_wp2
     go_meet
     case rel => exact ⟨_, (true), z19_1_, H', ⟨oR_⟩, ⟨rM_ HO621 (fun _ hk => hk.2)⟩, ⟨rM_ HO634 (fun _ hk => hk.2)⟩, ⟨z19_2_⟩, ⟨z19_3_⟩, ⟨z19_4_⟩, ⟨z19_5_⟩, ⟨hB_⟩⟩
   rw [if_neg c83] at H
   have c83b0 : (t625 != t630) = false := by simpa using c83
   (try (have c83b1 : decide (t625 = t630) = true := by simpa using c83))
   (try (have c83b2 : (t625 == t630) = true := by simpa using c83))
   clear c83
   (first | rw [c83b0] | (simp only [i64_w, i32_w]; rw [c83b0]) | skip)
   by_cases c84 : (!(t622.toList == t627.toList) || (!(t623 == t628) || (!(t624 == t629)))) = true
   ·rw [if_pos c84] at H
    have c84b0 : (!(t622.toList == t627.toList) || (!(t623 == t628) || (!(t624 == t629)))) = true := c84
    clear c84
    as_aux_lemma =>
     have H' := Aside0.mk H
     clear H
     clear BK658 BK663
     have hnb85 := NB626_631.out
     have hnc85 := NB631_626.out
     have hnb86 := NB626_638.out
     have hnc86 := NB638_626.out
     have hnb87 := NB626_648.out
     have hnc87 := NB648_626.out
     have hnb88 := NB626_668.out
     have hnc88 := NB668_626.out
     have hnb89 := NB626_673.out
     have hnc89 := NB673_626.out
     have hz90 := cf3_ BK626.out
     have hnb91 := NB631_638.out
     have hnc91 := NB638_631.out
     have hnb92 := NB631_648.out
     have hnc92 := NB648_631.out
     have hnb93 := NB631_668.out
     have hnc93 := NB668_631.out
     have hnb94 := NB631_673.out
     have hnc94 := NB673_631.out
     have hz95 := cf3_ BK631.out
     go_wp2
     go_meet
     case rel => exact ⟨_, (true), z19_1_, H', ⟨oR_⟩, ⟨rM_ HO621 (fun _ hk => hk.2)⟩, ⟨rM_ HO634 (fun _ hk => hk.2)⟩, ⟨z19_2_⟩, ⟨z19_3_⟩, ⟨z19_4_⟩, ⟨z19_5_⟩, ⟨hB_⟩⟩
   rw [if_neg c84] at H
   have c84b0 : (!(t622.toList == t627.toList) || (!(t623 == t628) || (!(t624 == t629)))) = false := by simpa using c84
   clear c84
   by_cases c96 : (t641 != t644) = true
   ·rw [if_pos c96] at H
    have c96b0 : (t641 != t644) = true := c96
    (try (have c96b1 : decide (t641 = t644) = false := by simpa using c96))
    (try (have c96b2 : (t641 == t644) = false := by simpa using c96))
    (try (have c96b3 : ¬ (t641 = t644) := by simpa using c96))
    clear c96
    as_aux_lemma =>
     have H' := Aside0.mk H
     clear H
     clear BK658 BK663
     have hnb97 := NB626_631.out
     have hnc97 := NB631_626.out
     have hnb98 := NB626_638.out
     have hnc98 := NB638_626.out
     have hnb99 := NB626_648.out
     have hnc99 := NB648_626.out
     have hnb100 := NB626_668.out
     have hnc100 := NB668_626.out
     have hnb101 := NB626_673.out
     have hnc101 := NB673_626.out
     have hz102 := cf3_ BK626.out
     have hnb103 := NB631_638.out
     have hnc103 := NB638_631.out
     have hnb104 := NB631_648.out
     have hnc104 := NB648_631.out
     have hnb105 := NB631_668.out
     have hnc105 := NB668_631.out
     have hnb106 := NB631_673.out
     have hnc106 := NB673_631.out
     have hz107 := cf3_ BK631.out
     go_wp2
     go_meet
     case rel => exact ⟨_, (true), z19_1_, H', ⟨oR_⟩, ⟨rM_ HO621 (fun _ hk => hk.2)⟩, ⟨rM_ HO634 (fun _ hk => hk.2)⟩, ⟨z19_2_⟩, ⟨z19_3_⟩, ⟨z19_4_⟩, ⟨z19_5_⟩, ⟨hB_⟩⟩
   rw [if_neg c96] at H
   have c96b0 : (t641 != t644) = false := by simpa using c96
   (try (have c96b1 : decide (t641 = t644) = true := by simpa using c96))
   (try (have c96b2 : (t641 == t644) = true := by simpa using c96))
   clear c96
   by_cases c108 : t639.toList = t642.toList
   rotate_left
   ·rw [if_neg c108] at H
    have c108b0 : (t639.toList == t642.toList) = false := beq_eq_false_iff_ne.mpr c108
    have c108b1 : (t639.toList != t642.toList) = true := bne_iff_ne.mpr c108
    as_aux_lemma =>
     have H' := Aside0.mk H
     clear H
     clear BK658 BK663
     have hnb319 := NB626_631.out
     have hnc319 := NB631_626.out
     have hnb320 := NB626_638.out
     have hnc320 := NB638_626.out
     have hnb321 := NB626_648.out
     have hnc321 := NB648_626.out
     have hnb322 := NB626_668.out
     have hnc322 := NB668_626.out
     have hnb323 := NB626_673.out
     have hnc323 := NB673_626.out
     have hz324 := cf3_ BK626.out
     have hnb325 := NB631_638.out
     have hnc325 := NB638_631.out
     have hnb326 := NB631_648.out
     have hnc326 := NB648_631.out
     have hnb327 := NB631_668.out
     have hnc327 := NB668_631.out
     have hnb328 := NB631_673.out
     have hnc328 := NB673_631.out
     have hz329 := cf3_ BK631.out
     go_wp2
     go_meet
     case rel => exact ⟨_, (true), z19_1_, H', ⟨oR_⟩, ⟨rM_ HO621 (fun _ hk => hk.2)⟩, ⟨rM_ HO634 (fun _ hk => hk.2)⟩, ⟨z19_2_⟩, ⟨z19_3_⟩, ⟨z19_4_⟩, ⟨z19_5_⟩, ⟨hB_⟩⟩
   rw [if_pos c108] at H
   have c108b0 : (t639.toList == t642.toList) = true := beq_iff_eq.mpr c108
   have c108b1 : (t639.toList != t642.toList) = false := bne_eq_false_iff_eq.mpr c108
   clear c108
   by_cases c109 : t640.toList = t643.toList
   rotate_left
   ·rw [if_neg c109] at H
    have c109b0 : (t640.toList == t643.toList) = false := beq_eq_false_iff_ne.mpr c109
    have c109b1 : (t640.toList != t643.toList) = true := bne_iff_ne.mpr c109
    as_aux_lemma =>
     have H' := Aside0.mk H
     clear H
     clear BK658 BK663
     have hnb308 := NB626_631.out
     have hnc308 := NB631_626.out
     have hnb309 := NB626_638.out
     have hnc309 := NB638_626.out
     have hnb310 := NB626_648.out
     have hnc310 := NB648_626.out
     have hnb311 := NB626_668.out
     have hnc311 := NB668_626.out
     have hnb312 := NB626_673.out
     have hnc312 := NB673_626.out
     have hz313 := cf3_ BK626.out
     have hnb314 := NB631_638.out
     have hnc314 := NB638_631.out
     have hnb315 := NB631_648.out
     have hnc315 := NB648_631.out
     have hnb316 := NB631_668.out
     have hnc316 := NB668_631.out
     have hnb317 := NB631_673.out
     have hnc317 := NB673_631.out
     have hz318 := cf3_ BK631.out
     go_wp2
     go_meet
     case rel => exact ⟨_, (true), z19_1_, H', ⟨oR_⟩, ⟨rM_ HO621 (fun _ hk => hk.2)⟩, ⟨rM_ HO634 (fun _ hk => hk.2)⟩, ⟨z19_2_⟩, ⟨z19_3_⟩, ⟨z19_4_⟩, ⟨z19_5_⟩, ⟨hB_⟩⟩
   rw [if_pos c109] at H
   have c109b0 : (t640.toList == t643.toList) = true := beq_iff_eq.mpr c109
   have c109b1 : (t640.toList != t643.toList) = false := bne_eq_false_iff_eq.mpr c109
   clear c109
   by_cases c110 : (t650 != t652) = true
   ·rw [if_pos c110] at H
    have c110b0 : (t650 != t652) = true := c110
    (try (have c110b1 : decide (t650 = t652) = false := by simpa using c110))
    (try (have c110b2 : (t650 == t652) = false := by simpa using c110))
    (try (have c110b3 : ¬ (t650 = t652) := by simpa using c110))
    clear c110
    as_aux_lemma =>
     have H' := Aside0.mk H
     clear H
     clear BK658 BK663
     have hnb111 := NB626_631.out
     have hnc111 := NB631_626.out
     have hnb112 := NB626_638.out
     have hnc112 := NB638_626.out
     have hnb113 := NB626_648.out
     have hnc113 := NB648_626.out
     have hnb114 := NB626_668.out
     have hnc114 := NB668_626.out
     have hnb115 := NB626_673.out
     have hnc115 := NB673_626.out
     have hz116 := cf3_ BK626.out
     have hnb117 := NB631_638.out
     have hnc117 := NB638_631.out
     have hnb118 := NB631_648.out
     have hnc118 := NB648_631.out
     have hnb119 := NB631_668.out
     have hnc119 := NB668_631.out
     have hnb120 := NB631_673.out
     have hnc120 := NB673_631.out
     have hz121 := cf3_ BK631.out
     go_wp2
     go_meet
     case rel => exact ⟨_, (true), z19_1_, H', ⟨oR_⟩, ⟨rM_ HO621 (fun _ hk => hk.2)⟩, ⟨rM_ HO634 (fun _ hk => hk.2)⟩, ⟨z19_2_⟩, ⟨z19_3_⟩, ⟨z19_4_⟩, ⟨z19_5_⟩, ⟨hB_⟩⟩
   rw [if_neg c110] at H
   have c110b0 : (t650 != t652) = false := by simpa using c110
   (try (have c110b1 : decide (t650 = t652) = true := by simpa using c110))
   (try (have c110b2 : (t650 == t652) = true := by simpa using c110))
   clear c110
   by_cases c122 : t649.toList = t651.toList
   rotate_left
   ·rw [if_neg c122] at H
    have c122b0 : (t649.toList == t651.toList) = false := beq_eq_false_iff_ne.mpr c122
    have c122b1 : (t649.toList != t651.toList) = true := bne_iff_ne.mpr c122
    as_aux_lemma =>
     have H' := Aside0.mk H
     clear H
     clear BK658 BK663
     have hnb297 := NB626_631.out
     have hnc297 := NB631_626.out
     have hnb298 := NB626_638.out
     have hnc298 := NB638_626.out
     have hnb299 := NB626_648.out
     have hnc299 := NB648_626.out
     have hnb300 := NB626_668.out
     have hnc300 := NB668_626.out
     have hnb301 := NB626_673.out
     have hnc301 := NB673_626.out
     have hz302 := cf3_ BK626.out
     have hnb303 := NB631_638.out
     have hnc303 := NB638_631.out
     have hnb304 := NB631_648.out
     have hnc304 := NB648_631.out
     have hnb305 := NB631_668.out
     have hnc305 := NB668_631.out
     have hnb306 := NB631_673.out
     have hnc306 := NB673_631.out
     have hz307 := cf3_ BK631.out
     go_wp2
     go_meet
     case rel => exact ⟨_, (true), z19_1_, H', ⟨oR_⟩, ⟨rM_ HO621 (fun _ hk => hk.2)⟩, ⟨rM_ HO634 (fun _ hk => hk.2)⟩, ⟨z19_2_⟩, ⟨z19_3_⟩, ⟨z19_4_⟩, ⟨z19_5_⟩, ⟨hB_⟩⟩
   rw [if_pos c122] at H
   have c122b0 : (t649.toList == t651.toList) = true := beq_iff_eq.mpr c122
   have c122b1 : (t649.toList != t651.toList) = false := bne_eq_false_iff_eq.mpr c122
   clear c122
   by_cases c123 : (t657 != t662) = true
   ·rw [if_pos c123] at H
    have c123b0 : (t657 != t662) = true := c123
    (try (have c123b1 : decide (t657 = t662) = false := by simpa using c123))
    (try (have c123b2 : (t657 == t662) = false := by simpa using c123))
    (try (have c123b3 : ¬ (t657 = t662) := by simpa using c123))
    clear c123
    as_aux_lemma =>
     have H' := Aside0.mk H
     clear H
     clear BK658 BK663
     have hnb124 := NB626_631.out
     have hnc124 := NB631_626.out
     have hnb125 := NB626_638.out
     have hnc125 := NB638_626.out
     have hnb126 := NB626_648.out
     have hnc126 := NB648_626.out
     have hnb127 := NB626_668.out
     have hnc127 := NB668_626.out
     have hnb128 := NB626_673.out
     have hnc128 := NB673_626.out
     have hz129 := cf3_ BK626.out
     have hnb130 := NB631_638.out
     have hnc130 := NB638_631.out
     have hnb131 := NB631_648.out
     have hnc131 := NB648_631.out
     have hnb132 := NB631_668.out
     have hnc132 := NB668_631.out
     have hnb133 := NB631_673.out
     have hnc133 := NB673_631.out
     have hz134 := cf3_ BK631.out
     go_wp2
     go_meet
     case rel => exact ⟨_, (true), z19_1_, H', ⟨oR_⟩, ⟨rM_ HO621 (fun _ hk => hk.2)⟩, ⟨rM_ HO634 (fun _ hk => hk.2)⟩, ⟨z19_2_⟩, ⟨z19_3_⟩, ⟨z19_4_⟩, ⟨z19_5_⟩, ⟨hB_⟩⟩
   rw [if_neg c123] at H
   have c123b0 : (t657 != t662) = false := by simpa using c123
   (try (have c123b1 : decide (t657 = t662) = true := by simpa using c123))
   (try (have c123b2 : (t657 == t662) = true := by simpa using c123))
   clear c123
   by_cases c135 : (!(t654.toList == t659.toList) || (!(t655 == t660) || (!(t656 == t661)))) = true
   ·rw [if_pos c135] at H
    have c135b0 : (!(t654.toList == t659.toList) || (!(t655 == t660) || (!(t656 == t661)))) = true := c135
    clear c135
    as_aux_lemma =>
     have H' := Aside0.mk H
     clear H
     have hnb136 := NB626_631.out
     have hnc136 := NB631_626.out
     have hnb137 := NB626_638.out
     have hnc137 := NB638_626.out
     have hnb138 := NB626_648.out
     have hnc138 := NB648_626.out
     have hnb139 := NB626_658.out
     have hnc139 := NB658_626.out
     have hnb140 := NB626_663.out
     have hnc140 := NB663_626.out
     have hnb141 := NB626_668.out
     have hnc141 := NB668_626.out
     have hnb142 := NB626_673.out
     have hnc142 := NB673_626.out
     have hz143 := cf3_ BK626.out
     have hnb144 := NB631_638.out
     have hnc144 := NB638_631.out
     have hnb145 := NB631_648.out
     have hnc145 := NB648_631.out
     have hnb146 := NB631_658.out
     have hnc146 := NB658_631.out
     have hnb147 := NB631_663.out
     have hnc147 := NB663_631.out
     have hnb148 := NB631_668.out
     have hnc148 := NB668_631.out
     have hnb149 := NB631_673.out
     have hnc149 := NB673_631.out
     have hz150 := cf3_ BK631.out
     clear BK631
     have hnb151 := NB658_638.out
     have hnc151 := NB638_658.out
     have hnb152 := NB658_648.out
     have hnc152 := NB648_658.out
     have hnb153 := NB658_663.out
     have hnc153 := NB663_658.out
     have hnb154 := NB658_668.out
     have hnc154 := NB668_658.out
     have hnb155 := NB658_673.out
     have hnc155 := NB673_658.out
     have hz156 := cf3_ BK658.out
     clear BK658
     have hnb157 := NB663_638.out
     have hnc157 := NB638_663.out
     have hnb158 := NB663_648.out
     have hnc158 := NB648_663.out
     have hnb159 := NB663_668.out
     have hnc159 := NB668_663.out
     have hnb160 := NB663_673.out
     have hnc160 := NB673_663.out
     have hz161 := cf3_ BK663.out
     go_wp2
     go_meet
     case rel => exact ⟨_, (true), z19_1_, H', ⟨oR_⟩, ⟨rM_ HO621 (fun _ hk => hk.2)⟩, ⟨rM_ HO634 (fun _ hk => hk.2)⟩, ⟨z19_2_⟩, ⟨z19_3_⟩, ⟨z19_4_⟩, ⟨z19_5_⟩, ⟨hB_⟩⟩
   rw [if_neg c135] at H
   have c135b0 : (!(t654.toList == t659.toList) || (!(t655 == t660) || (!(t656 == t661)))) = false := by simpa using c135
   clear c135
   as_aux_lemma =>
    by_cases c162 : (t667 != t672) = true
    ·rw [if_pos c162] at H
     have c162b0 : (t667 != t672) = true := c162
     (try (have c162b1 : decide (t667 = t672) = false := by simpa using c162))
     (try (have c162b2 : (t667 == t672) = false := by simpa using c162))
     (try (have c162b3 : ¬ (t667 = t672) := by simpa using c162))
     clear c162
     as_aux_lemma =>
      have H' := Aside0.mk H
      clear H
      have hnb163 := NB626_631.out
      have hnc163 := NB631_626.out
      have hnb164 := NB626_638.out
      have hnc164 := NB638_626.out
      have hnb165 := NB626_648.out
      have hnc165 := NB648_626.out
      have hnb166 := NB626_658.out
      have hnc166 := NB658_626.out
      have hnb167 := NB626_663.out
      have hnc167 := NB663_626.out
      have hnb168 := NB626_668.out
      have hnc168 := NB668_626.out
      have hnb169 := NB626_673.out
      have hnc169 := NB673_626.out
      have hz170 := cf3_ BK626.out
      have hnb171 := NB631_638.out
      have hnc171 := NB638_631.out
      have hnb172 := NB631_648.out
      have hnc172 := NB648_631.out
      have hnb173 := NB631_658.out
      have hnc173 := NB658_631.out
      have hnb174 := NB631_663.out
      have hnc174 := NB663_631.out
      have hnb175 := NB631_668.out
      have hnc175 := NB668_631.out
      have hnb176 := NB631_673.out
      have hnc176 := NB673_631.out
      have hz177 := cf3_ BK631.out
      clear BK631
      have hnb178 := NB658_638.out
      have hnc178 := NB638_658.out
      have hnb179 := NB658_648.out
      have hnc179 := NB648_658.out
      have hnb180 := NB658_663.out
      have hnc180 := NB663_658.out
      have hnb181 := NB658_668.out
      have hnc181 := NB668_658.out
      have hnb182 := NB658_673.out
      have hnc182 := NB673_658.out
      have hz183 := cf3_ BK658.out
      clear BK658
      have hnb184 := NB663_638.out
      have hnc184 := NB638_663.out
      have hnb185 := NB663_648.out
      have hnc185 := NB648_663.out
      have hnb186 := NB663_668.out
      have hnc186 := NB668_663.out
      have hnb187 := NB663_673.out
      have hnc187 := NB673_663.out
      have hz188 := cf3_ BK663.out
      go_wp2
      go_meet
      case rel => exact ⟨_, (true), z19_1_, H', ⟨oR_⟩, ⟨rM_ HO621 (fun _ hk => hk.2)⟩, ⟨rM_ HO634 (fun _ hk => hk.2)⟩, ⟨z19_2_⟩, ⟨z19_3_⟩, ⟨z19_4_⟩, ⟨z19_5_⟩, ⟨hB_⟩⟩
    rw [if_neg c162] at H
    have c162b0 : (t667 != t672) = false := by simpa using c162
    (try (have c162b1 : decide (t667 = t672) = true := by simpa using c162))
    (try (have c162b2 : (t667 == t672) = true := by simpa using c162))
    clear c162
    as_aux_lemma =>
     by_cases c189 : (!(t664.toList == t669.toList) || (!(t665 == t670) || (!(t666 == t671)))) = true
     ·rw [if_pos c189] at H
      have c189b0 : (!(t664.toList == t669.toList) || (!(t665 == t670) || (!(t666 == t671)))) = true := c189
      clear c189
      as_aux_lemma =>
       have H' := Aside0.mk H
       clear H
       have hnb190 := NB626_631.out
       have hnc190 := NB631_626.out
       have hnb191 := NB626_638.out
       have hnc191 := NB638_626.out
       have hnb192 := NB626_648.out
       have hnc192 := NB648_626.out
       have hnb193 := NB626_658.out
       have hnc193 := NB658_626.out
       have hnb194 := NB626_663.out
       have hnc194 := NB663_626.out
       have hnb195 := NB626_668.out
       have hnc195 := NB668_626.out
       have hnb196 := NB626_673.out
       have hnc196 := NB673_626.out
       have hz197 := cf3_ BK626.out
       have hnb198 := NB631_638.out
       have hnc198 := NB638_631.out
       have hnb199 := NB631_648.out
       have hnc199 := NB648_631.out
       have hnb200 := NB631_658.out
       have hnc200 := NB658_631.out
       have hnb201 := NB631_663.out
       have hnc201 := NB663_631.out
       have hnb202 := NB631_668.out
       have hnc202 := NB668_631.out
       have hnb203 := NB631_673.out
       have hnc203 := NB673_631.out
       have hz204 := cf3_ BK631.out
       clear BK631
       have hnb205 := NB658_638.out
       have hnc205 := NB638_658.out
       have hnb206 := NB658_648.out
       have hnc206 := NB648_658.out
       have hnb207 := NB658_663.out
       have hnc207 := NB663_658.out
       have hnb208 := NB658_668.out
       have hnc208 := NB668_658.out
       have hnb209 := NB658_673.out
       have hnc209 := NB673_658.out
       have hz210 := cf3_ BK658.out
       clear BK658
       have hnb211 := NB663_638.out
       have hnc211 := NB638_663.out
       have hnb212 := NB663_648.out
       have hnc212 := NB648_663.out
       have hnb213 := NB663_668.out
       have hnc213 := NB668_663.out
       have hnb214 := NB663_673.out
       have hnc214 := NB673_663.out
       have hz215 := cf3_ BK663.out
       clear BK663
       have hnb216 := NB668_638.out
       have hnc216 := NB638_668.out
       have hnb217 := NB668_648.out
       have hnc217 := NB648_668.out
       have hnb218 := NB668_673.out
       have hnc218 := NB673_668.out
       have hz219 := cf3_ BK668.out
       have hnb220 := NB673_638.out
       have hnc220 := NB638_673.out
       have hnb221 := NB673_648.out
       have hnc221 := NB648_673.out
       have hz222 := cf3_ BK673.out
       go_wp2
       go_meet
       case rel => exact ⟨_, (true), z19_1_, H', ⟨oR_⟩, ⟨rM_ HO621 (fun _ hk => hk.2)⟩, ⟨rM_ HO634 (fun _ hk => hk.2)⟩, ⟨z19_2_⟩, ⟨z19_3_⟩, ⟨z19_4_⟩, ⟨z19_5_⟩, ⟨hB_⟩⟩
     rw [if_neg c189] at H
     have c189b0 : (!(t664.toList == t669.toList) || (!(t665 == t670) || (!(t666 == t671)))) = false := by simpa using c189
     clear c189
     replace H := ob_ H; obtain ⟨t674, A223, H⟩ := H; try dsimp only at H
     as_aux_lemma =>
      by_cases c224 : (t650 != t674) = true
      rotate_left
      ·rw [if_neg c224] at H
       have c224b0 : (t650 != t674) = false := by simpa using c224
       (try (have c224b1 : decide (t650 = t674) = true := by simpa using c224))
       (try (have c224b2 : (t650 == t674) = true := by simpa using c224))
       clear c224
       as_aux_lemma =>
        have H' := Aside0.mk H
        clear H
        have hnb261 := NB626_631.out
        have hnc261 := NB631_626.out
        have hnb262 := NB626_638.out
        have hnc262 := NB638_626.out
        have hnb263 := NB626_648.out
        have hnc263 := NB648_626.out
        have hnb264 := NB626_658.out
        have hnc264 := NB658_626.out
        have hnb265 := NB626_663.out
        have hnc265 := NB663_626.out
        have hnb266 := NB626_668.out
        have hnc266 := NB668_626.out
        have hnb267 := NB626_673.out
        have hnc267 := NB673_626.out
        have hz268 := cf3_ BK626.out
        have hnb269 := NB631_638.out
        have hnc269 := NB638_631.out
        have hnb270 := NB631_648.out
        have hnc270 := NB648_631.out
        have hnb271 := NB631_658.out
        have hnc271 := NB658_631.out
        have hnb272 := NB631_663.out
        have hnc272 := NB663_631.out
        have hnb273 := NB631_668.out
        have hnc273 := NB668_631.out
        have hnb274 := NB631_673.out
        have hnc274 := NB673_631.out
        have hz275 := cf3_ BK631.out
        clear BK631
        have hnb276 := NB658_638.out
        have hnc276 := NB638_658.out
        have hnb277 := NB658_648.out
        have hnc277 := NB648_658.out
        have hnb278 := NB658_663.out
        have hnc278 := NB663_658.out
        have hnb279 := NB658_668.out
        have hnc279 := NB668_658.out
        have hnb280 := NB658_673.out
        have hnc280 := NB673_658.out
        have hz281 := cf3_ BK658.out
        clear BK658
        have hnb282 := NB663_638.out
        have hnc282 := NB638_663.out
        have hnb283 := NB663_648.out
        have hnc283 := NB648_663.out
        have hnb284 := NB663_668.out
        have hnc284 := NB668_663.out
        have hnb285 := NB663_673.out
        have hnc285 := NB673_663.out
        have hz286 := cf3_ BK663.out
        clear BK663
        have hnb287 := NB668_638.out
        have hnc287 := NB638_668.out
        have hnb288 := NB668_648.out
        have hnc288 := NB648_668.out
        have hnb289 := NB668_673.out
        have hnc289 := NB673_668.out
        have hz290 := cf3_ BK668.out
        have hnb291 := NB673_638.out
        have hnc291 := NB638_673.out
        have hnb292 := NB673_648.out
        have hnc292 := NB648_673.out
        have hz293 := cf3_ BK673.out
        have hnb294 := NB648_638.out
        have hnc294 := NB638_648.out
        have hz295 := cf3_ BK648.out
        go_wp2_with (first | (go_at_call 19; (with_reducible refine (impl_IsVerb.calls k t645 t646 t647 t674 _ A223.out).mono ?_); rintro e w296 ⟨rfl, hb⟩; replace HO621 := aM_ (Kd.R_below (rR_ HO621) hb); replace HO634 := aM_ (Kd.R_below (rR_ HO634) hb); replace BK626 := aM_ (blk_below (g := gb626) (kR_ BK626) hb); replace BK638 := aM_ (blk_below (g := gb638) (kR_ BK638) hb); replace BK648 := aM_ (blk_below (g := gb648) (kR_ BK648) hb); replace BK668 := aM_ (blk_below (g := gb668) (kR_ BK668) hb); replace BK673 := aM_ (blk_below (g := gb673) (o := .cells #[.string t669, .int .i64 t670, .int .i64 t671] 27 (0, 0)) z19_6_ hb); replace HB := aM_ (below_step hB_ hb); (try clear hb); (try clear hk)))
        go_meet
        case rel => exact ⟨_, ((t667 != t650)), z19_1_, H', ⟨oR_⟩, ⟨(rM_ HO621 (fun _ hk => hk.2))⟩, ⟨(rM_ HO634 (fun _ hk => hk.2))⟩, ⟨kP_⟩, ⟨kP_⟩, ⟨kP_⟩, ⟨kP_⟩, ⟨hB_⟩⟩
      rw [if_pos c224] at H
      have c224b0 : (t650 != t674) = true := c224
      (try (have c224b1 : decide (t650 = t674) = false := by simpa using c224))
      (try (have c224b2 : (t650 == t674) = false := by simpa using c224))
      (try (have c224b3 : ¬ (t650 = t674) := by simpa using c224))
      clear c224
      as_aux_lemma =>
       have H' := Aside0.mk H
       clear H
       have hnb225 := NB626_631.out
       have hnc225 := NB631_626.out
       have hnb226 := NB626_638.out
       have hnc226 := NB638_626.out
       have hnb227 := NB626_648.out
       have hnc227 := NB648_626.out
       have hnb228 := NB626_658.out
       have hnc228 := NB658_626.out
       have hnb229 := NB626_663.out
       have hnc229 := NB663_626.out
       have hnb230 := NB626_668.out
       have hnc230 := NB668_626.out
       have hnb231 := NB626_673.out
       have hnc231 := NB673_626.out
       have hz232 := cf3_ BK626.out
       have hnb233 := NB631_638.out
       have hnc233 := NB638_631.out
       have hnb234 := NB631_648.out
       have hnc234 := NB648_631.out
       have hnb235 := NB631_658.out
       have hnc235 := NB658_631.out
       have hnb236 := NB631_663.out
       have hnc236 := NB663_631.out
       have hnb237 := NB631_668.out
       have hnc237 := NB668_631.out
       have hnb238 := NB631_673.out
       have hnc238 := NB673_631.out
       have hz239 := cf3_ BK631.out
       clear BK631
       have hnb240 := NB658_638.out
       have hnc240 := NB638_658.out
       have hnb241 := NB658_648.out
       have hnc241 := NB648_658.out
       have hnb242 := NB658_663.out
       have hnc242 := NB663_658.out
       have hnb243 := NB658_668.out
       have hnc243 := NB668_658.out
       have hnb244 := NB658_673.out
       have hnc244 := NB673_658.out
       have hz245 := cf3_ BK658.out
       clear BK658
       have hnb246 := NB663_638.out
       have hnc246 := NB638_663.out
       have hnb247 := NB663_648.out
       have hnc247 := NB648_663.out
       have hnb248 := NB663_668.out
       have hnc248 := NB668_663.out
       have hnb249 := NB663_673.out
       have hnc249 := NB673_663.out
       have hz250 := cf3_ BK663.out
       clear BK663
       have hnb251 := NB668_638.out
       have hnc251 := NB638_668.out
       have hnb252 := NB668_648.out
       have hnc252 := NB648_668.out
       have hnb253 := NB668_673.out
       have hnc253 := NB673_668.out
       have hz254 := cf3_ BK668.out
       have hnb255 := NB673_638.out
       have hnc255 := NB638_673.out
       have hnb256 := NB673_648.out
       have hnc256 := NB648_673.out
       have hz257 := cf3_ BK673.out
       have hnb258 := NB648_638.out
       have hnc258 := NB638_648.out
       have hz259 := cf3_ BK648.out
       go_wp2_with (first | (go_at_call 19; (with_reducible refine (impl_IsVerb.calls k t645 t646 t647 t674 _ A223.out).mono ?_); rintro e w260 ⟨rfl, hb⟩; replace HO621 := aM_ (Kd.R_below (rR_ HO621) hb); replace HO634 := aM_ (Kd.R_below (rR_ HO634) hb); replace BK626 := aM_ (blk_below (g := gb626) (kR_ BK626) hb); replace BK638 := aM_ (blk_below (g := gb638) (kR_ BK638) hb); replace BK648 := aM_ (blk_below (g := gb648) (kR_ BK648) hb); replace BK668 := aM_ (blk_below (g := gb668) (kR_ BK668) hb); replace BK673 := aM_ (blk_below (g := gb673) (o := .cells #[.string t669, .int .i64 t670, .int .i64 t671] 27 (0, 0)) z19_6_ hb); replace HB := aM_ (below_step hB_ hb); (try clear hb); (try clear hk)))
       go_meet
       case rel => exact ⟨_, (true), z19_1_, H', ⟨oR_⟩, ⟨(rM_ HO621 (fun _ hk => hk.2))⟩, ⟨(rM_ HO634 (fun _ hk => hk.2))⟩, ⟨kP_⟩, ⟨kP_⟩, ⟨kP_⟩, ⟨kP_⟩, ⟨hB_⟩⟩
 case rest =>
  as_aux_lemma =>
   clear HC18
   (try clear c1);(try clear c3)
   obtain ⟨kq, x194_17, rfl, HA, HJ17, HO_5, HO_13, BK626, BK638, BK648, BK668, HB⟩ := hcut
   cases kq with
   | zero => exact absurd HA.out (by simp [laws_FnVerbs.j0])
   | succ kj17 =>
    as_aux_lemma =>
     have H := HA.out
     clear HA
     simp only [laws_FnVerbs.j0] at H
     by_cases c330 : x194_17 = true
     ·subst c330
      replace H := ip_ H rfl
      as_aux_lemma =>
       obtain rfl := Option.some.inj H
       go_wp2
       go_ret
       exact ⟨rT_, hB_⟩
     replace c330 := Bool.eq_false_iff.mpr c330
     subst c330
     replace H := in_ H (show ¬ (false = true) by decide)
     have HC331 := Aside0.mk H
     clear H
     go_upto_if 195 with (fail)
     go_cut [] (fun wc => ∃ (kq : Nat), Aside0 (laws_FnVerbs.j1 kq t632 t641 t642 t643 t649 t650 t635 t636 t637 t645 t646 t647 t664 t665 t666 = some r) ∧ Aside0 (kq ≤ kj17) ∧ Aside0 (Kd.R k58 58 wc w.heap.size (fun _ => True) (.slice Ao33 t632.length co33) t632) ∧ Aside0 (wc.heap[gb638]? = some (.cells #[.string t635, .int .i64 t636, .int .i64 t637] 27 (0, 0))) ∧ Aside0 (wc.heap[gb648]? = some (.cells #[.string t645, .int .i64 t646, .int .i64 t647] 27 (0, 0))) ∧ Aside0 (wc.heap[gb668]? = some (.cells #[.string t664, .int .i64 t665, .int .i64 t666] 27 (0, 0))) ∧ Aside0 (Below w.heap.size w wc))
     case first =>
      as_aux_lemma =>
       have H := HC331.out
       clear HC331
       by_cases c332 : t625 = true
       rotate_left
       ·replace c332 := Bool.eq_false_iff.mpr c332
        subst c332
        replace H := in_ H (show ¬ (false = true) by decide)
        as_aux_lemma =>
         have H' := Aside0.mk H
         clear H
         go_wp2
         go_meet
         case rel => exact ⟨_, H', ⟨by have := HJ17.out; first | omega | exact Nat.le_refl _⟩, ⟨(rT1_ HO_13)⟩, ⟨kP_⟩, ⟨kP_⟩, ⟨kP_⟩, ⟨hB_⟩⟩
       subst c332
       replace H := ip_ H rfl
       replace H := ob_ H; obtain ⟨⟨t675, t676, t677⟩, A333, H⟩ := H; try dsimp only at H
       replace H := ob_ H; obtain ⟨⟨t678, t679⟩, A334, H⟩ := H; try dsimp only at H
       by_cases c335 : t677 = true
       rotate_left
       ·replace c335 := Bool.eq_false_iff.mpr c335
        subst c335
        replace H := in_ H (show ¬ (false = true) by decide)
        as_aux_lemma =>
         obtain rfl := Option.some.inj H
         clear BK638 BK648 BK668
         have hz363 := cf3_ BK626.out
         go_wp2_with (first | ((with_reducible refine gC_ 9 ?_); refine gM_ (some 199) Tryz.func9 #[.slice Ao20 t616.length co20, .agg #[.string t622, .int .i64 t623, .int .i64 t624]] ?_; (with_reducible refine (impl_MeaningOf.calls kj17 _ _ t616 t622 t623 t624 t675 t676 false _ ?side1 ?side2 A333.out).mono ?_); (case side1 => exact cR_ HO_5); (case side2 => exact (Kd.R_reads' HO_5.out).2.1); rintro e w364 ⟨rfl, hb⟩; refine ⟨_, rfl, ?_⟩; replace HO_5 := aM_ (Kd.R_below (rR_ HO_5) hb); replace HO_13 := aM_ (Kd.R_below (rR_ HO_13) hb); replace BK626 := aM_ (blk_below (g := gb626) (kR_ BK626) hb); replace HB := aM_ (below_step hB_ hb); (try clear hb); have hz365 := cf3_ BK626.out; clear BK626) | ((with_reducible refine gC_ 20 ?_); refine gM_ (some 208) Tryz.func20 #[.slice Ao20 t616.length co20, .agg #[.string t622, .int .i64 t623, .int .i64 t624], .string t618, .string t619] ?_; (with_reducible refine (impl_AgreesWith.calls kj17 _ _ t616 t622 t623 t624 t618 t619 t678 t679 _ ?side1 ?side2 A334.out).mono ?_); (case side1 => exact cR_ HO_5); (case side2 => exact (Kd.R_reads' HO_5.out).2.1); rintro e w366 ⟨rfl, hb⟩; refine ⟨_, rfl, ?_⟩; replace HO_5 := aM_ (Kd.R_below (rR_ HO_5) hb); replace HO_13 := aM_ (Kd.R_below (rR_ HO_13) hb); replace HB := aM_ (below_step hB_ hb); (try clear hb)))
         go_ret
         exact ⟨rT_, hB_⟩
       subst c335
       replace H := ip_ H rfl
       by_cases c336 : t675.toList = t618.toList
       rotate_left
       ·rw [if_neg c336] at H
        have c336b0 : (t675.toList == t618.toList) = false := beq_eq_false_iff_ne.mpr c336
        have c336b1 : (t675.toList != t618.toList) = true := bne_iff_ne.mpr c336
        (first | rw [c336b0] | (simp only [i64_w, i32_w]; rw [c336b0]) | skip)
        as_aux_lemma =>
         obtain rfl := Option.some.inj H
         clear BK638 BK648 BK668
         have hz359 := cf3_ BK626.out
         go_wp2_with (first | ((with_reducible refine gC_ 9 ?_); refine gM_ (some 199) Tryz.func9 #[.slice Ao20 t616.length co20, .agg #[.string t622, .int .i64 t623, .int .i64 t624]] ?_; (with_reducible refine (impl_MeaningOf.calls kj17 _ _ t616 t622 t623 t624 t675 t676 true _ ?side1 ?side2 A333.out).mono ?_); (case side1 => exact cR_ HO_5); (case side2 => exact (Kd.R_reads' HO_5.out).2.1); rintro e w360 ⟨rfl, hb⟩; refine ⟨_, rfl, ?_⟩; replace HO_5 := aM_ (Kd.R_below (rR_ HO_5) hb); replace HO_13 := aM_ (Kd.R_below (rR_ HO_13) hb); replace BK626 := aM_ (blk_below (g := gb626) (kR_ BK626) hb); replace HB := aM_ (below_step hB_ hb); (try clear hb); have hz361 := cf3_ BK626.out; clear BK626) | ((with_reducible refine gC_ 20 ?_); refine gM_ (some 208) Tryz.func20 #[.slice Ao20 t616.length co20, .agg #[.string t622, .int .i64 t623, .int .i64 t624], .string t618, .string t619] ?_; (with_reducible refine (impl_AgreesWith.calls kj17 _ _ t616 t622 t623 t624 t618 t619 t678 t679 _ ?side1 ?side2 A334.out).mono ?_); (case side1 => exact cR_ HO_5); (case side2 => exact (Kd.R_reads' HO_5.out).2.1); rintro e w362 ⟨rfl, hb⟩; refine ⟨_, rfl, ?_⟩; replace HO_5 := aM_ (Kd.R_below (rR_ HO_5) hb); replace HO_13 := aM_ (Kd.R_below (rR_ HO_13) hb); replace HB := aM_ (below_step hB_ hb); (try clear hb)))
         go_ret
         exact ⟨rT_, hB_⟩
       rw [if_pos c336] at H
       have c336b0 : (t675.toList == t618.toList) = true := beq_iff_eq.mpr c336
       have c336b1 : (t675.toList != t618.toList) = false := bne_eq_false_iff_eq.mpr c336
       clear c336
       (first | rw [c336b0] | (simp only [i64_w, i32_w]; rw [c336b0]) | skip)
       by_cases c337 : t676.toList = t619.toList
       rotate_left
       ·rw [if_neg c337] at H
        have c337b0 : (t676.toList == t619.toList) = false := beq_eq_false_iff_ne.mpr c337
        have c337b1 : (t676.toList != t619.toList) = true := bne_iff_ne.mpr c337
        as_aux_lemma =>
         obtain rfl := Option.some.inj H
         clear BK638 BK648 BK668
         have hz355 := cf3_ BK626.out
         go_wp2_with (first | ((with_reducible refine gC_ 9 ?_); refine gM_ (some 199) Tryz.func9 #[.slice Ao20 t616.length co20, .agg #[.string t622, .int .i64 t623, .int .i64 t624]] ?_; (with_reducible refine (impl_MeaningOf.calls kj17 _ _ t616 t622 t623 t624 t675 t676 true _ ?side1 ?side2 A333.out).mono ?_); (case side1 => exact cR_ HO_5); (case side2 => exact (Kd.R_reads' HO_5.out).2.1); rintro e w356 ⟨rfl, hb⟩; refine ⟨_, rfl, ?_⟩; replace HO_5 := aM_ (Kd.R_below (rR_ HO_5) hb); replace HO_13 := aM_ (Kd.R_below (rR_ HO_13) hb); replace BK626 := aM_ (blk_below (g := gb626) (kR_ BK626) hb); replace HB := aM_ (below_step hB_ hb); (try clear hb); have hz357 := cf3_ BK626.out; clear BK626) | ((with_reducible refine gC_ 20 ?_); refine gM_ (some 208) Tryz.func20 #[.slice Ao20 t616.length co20, .agg #[.string t622, .int .i64 t623, .int .i64 t624], .string t618, .string t619] ?_; (with_reducible refine (impl_AgreesWith.calls kj17 _ _ t616 t622 t623 t624 t618 t619 t678 t679 _ ?side1 ?side2 A334.out).mono ?_); (case side1 => exact cR_ HO_5); (case side2 => exact (Kd.R_reads' HO_5.out).2.1); rintro e w358 ⟨rfl, hb⟩; refine ⟨_, rfl, ?_⟩; replace HO_5 := aM_ (Kd.R_below (rR_ HO_5) hb); replace HO_13 := aM_ (Kd.R_below (rR_ HO_13) hb); replace HB := aM_ (below_step hB_ hb); (try clear hb)))
         go_ret
         exact ⟨rT_, hB_⟩
       rw [if_pos c337] at H
       have c337b0 : (t676.toList == t619.toList) = true := beq_iff_eq.mpr c337
       have c337b1 : (t676.toList != t619.toList) = false := bne_eq_false_iff_eq.mpr c337
       clear c337
       by_cases c338 : t679 = true
       rotate_left
       ·replace c338 := Bool.eq_false_iff.mpr c338
        subst c338
        replace H := in_ H (show ¬ (false = true) by decide)
        as_aux_lemma =>
         obtain rfl := Option.some.inj H
         clear BK638 BK648 BK668
         have hz351 := cf3_ BK626.out
         go_wp2_with (first | ((with_reducible refine gC_ 9 ?_); refine gM_ (some 199) Tryz.func9 #[.slice Ao20 t616.length co20, .agg #[.string t622, .int .i64 t623, .int .i64 t624]] ?_; (with_reducible refine (impl_MeaningOf.calls kj17 _ _ t616 t622 t623 t624 t675 t676 true _ ?side1 ?side2 A333.out).mono ?_); (case side1 => exact cR_ HO_5); (case side2 => exact (Kd.R_reads' HO_5.out).2.1); rintro e w352 ⟨rfl, hb⟩; refine ⟨_, rfl, ?_⟩; replace HO_5 := aM_ (Kd.R_below (rR_ HO_5) hb); replace HO_13 := aM_ (Kd.R_below (rR_ HO_13) hb); replace BK626 := aM_ (blk_below (g := gb626) (kR_ BK626) hb); replace HB := aM_ (below_step hB_ hb); (try clear hb); have hz353 := cf3_ BK626.out; clear BK626) | ((with_reducible refine gC_ 20 ?_); refine gM_ (some 208) Tryz.func20 #[.slice Ao20 t616.length co20, .agg #[.string t622, .int .i64 t623, .int .i64 t624], .string t618, .string t619] ?_; (with_reducible refine (impl_AgreesWith.calls kj17 _ _ t616 t622 t623 t624 t618 t619 t678 false _ ?side1 ?side2 A334.out).mono ?_); (case side1 => exact cR_ HO_5); (case side2 => exact (Kd.R_reads' HO_5.out).2.1); rintro e w354 ⟨rfl, hb⟩; refine ⟨_, rfl, ?_⟩; replace HO_5 := aM_ (Kd.R_below (rR_ HO_5) hb); replace HO_13 := aM_ (Kd.R_below (rR_ HO_13) hb); replace HB := aM_ (below_step hB_ hb); (try clear hb)))
         go_ret
         exact ⟨rT_, hB_⟩
       subst c338
       replace H := ip_ H rfl
       by_cases c339 : t678 = true
       rotate_left
       ·replace c339 := Bool.eq_false_iff.mpr c339
        subst c339
        replace H := in_ H (show ¬ (false = true) by decide)
        as_aux_lemma =>
         obtain rfl := Option.some.inj H
         clear BK638 BK648 BK668
         have hz347 := cf3_ BK626.out
         go_wp2_with (first | ((with_reducible refine gC_ 9 ?_); refine gM_ (some 199) Tryz.func9 #[.slice Ao20 t616.length co20, .agg #[.string t622, .int .i64 t623, .int .i64 t624]] ?_; (with_reducible refine (impl_MeaningOf.calls kj17 _ _ t616 t622 t623 t624 t675 t676 true _ ?side1 ?side2 A333.out).mono ?_); (case side1 => exact cR_ HO_5); (case side2 => exact (Kd.R_reads' HO_5.out).2.1); rintro e w348 ⟨rfl, hb⟩; refine ⟨_, rfl, ?_⟩; replace HO_5 := aM_ (Kd.R_below (rR_ HO_5) hb); replace HO_13 := aM_ (Kd.R_below (rR_ HO_13) hb); replace BK626 := aM_ (blk_below (g := gb626) (kR_ BK626) hb); replace HB := aM_ (below_step hB_ hb); (try clear hb); have hz349 := cf3_ BK626.out; clear BK626) | ((with_reducible refine gC_ 20 ?_); refine gM_ (some 208) Tryz.func20 #[.slice Ao20 t616.length co20, .agg #[.string t622, .int .i64 t623, .int .i64 t624], .string t618, .string t619] ?_; (with_reducible refine (impl_AgreesWith.calls kj17 _ _ t616 t622 t623 t624 t618 t619 false true _ ?side1 ?side2 A334.out).mono ?_); (case side1 => exact cR_ HO_5); (case side2 => exact (Kd.R_reads' HO_5.out).2.1); rintro e w350 ⟨rfl, hb⟩; refine ⟨_, rfl, ?_⟩; replace HO_5 := aM_ (Kd.R_below (rR_ HO_5) hb); replace HO_13 := aM_ (Kd.R_below (rR_ HO_13) hb); replace HB := aM_ (below_step hB_ hb); (try clear hb)))
         go_ret
         exact ⟨rT_, hB_⟩
       subst c339
       replace H := ip_ H rfl
       as_aux_lemma =>
        have H' := Aside0.mk H
        clear H
        have hnb340 := NB626_638.out
        have hnc340 := NB638_626.out
        have hnb341 := NB626_648.out
        have hnc341 := NB648_626.out
        have hnb342 := NB626_668.out
        have hnc342 := NB668_626.out
        have hz343 := cf3_ BK626.out
        go_wp2_with (first | ((with_reducible refine gC_ 9 ?_); refine gM_ (some 199) Tryz.func9 #[.slice Ao20 t616.length co20, .agg #[.string t622, .int .i64 t623, .int .i64 t624]] ?_; (with_reducible refine (impl_MeaningOf.calls kj17 _ _ t616 t622 t623 t624 t675 t676 true _ ?side1 ?side2 A333.out).mono ?_); (case side1 => exact cR_ HO_5); (case side2 => exact (Kd.R_reads' HO_5.out).2.1); rintro e w344 ⟨rfl, hb⟩; refine ⟨_, rfl, ?_⟩; replace HO_5 := aM_ (Kd.R_below (rR_ HO_5) hb); replace HO_13 := aM_ (Kd.R_below (rR_ HO_13) hb); replace BK626 := aM_ (blk_below (g := gb626) (kR_ BK626) hb); replace BK638 := aM_ (blk_below (g := gb638) (kR_ BK638) hb); replace BK648 := aM_ (blk_below (g := gb648) (kR_ BK648) hb); replace BK668 := aM_ (blk_below (g := gb668) (kR_ BK668) hb); replace HB := aM_ (below_step hB_ hb); (try clear hb); have hz345 := cf3_ BK626.out; clear BK626) | ((with_reducible refine gC_ 20 ?_); refine gM_ (some 208) Tryz.func20 #[.slice Ao20 t616.length co20, .agg #[.string t622, .int .i64 t623, .int .i64 t624], .string t618, .string t619] ?_; (with_reducible refine (impl_AgreesWith.calls kj17 _ _ t616 t622 t623 t624 t618 t619 true true _ ?side1 ?side2 A334.out).mono ?_); (case side1 => exact cR_ HO_5); (case side2 => exact (Kd.R_reads' HO_5.out).2.1); rintro e w346 ⟨rfl, hb⟩; refine ⟨_, rfl, ?_⟩; replace HO_5 := aM_ (Kd.R_below (rR_ HO_5) hb); replace HO_13 := aM_ (Kd.R_below (rR_ HO_13) hb); replace BK638 := aM_ (blk_below (g := gb638) (kR_ BK638) hb); replace BK648 := aM_ (blk_below (g := gb648) (kR_ BK648) hb); replace BK668 := aM_ (blk_below (g := gb668) (kR_ BK668) hb); replace HB := aM_ (below_step hB_ hb); (try clear hb)))
        go_meet
        case rel => exact ⟨_, H', ⟨by have := HJ17.out; first | omega | exact Nat.le_refl _⟩, ⟨(rT1_ HO_13)⟩, ⟨kP_⟩, ⟨kP_⟩, ⟨kP_⟩, ⟨hB_⟩⟩
     case rest =>
      as_aux_lemma =>
       clear HC331
       (try clear c1);(try clear c3);(try clear c330)
       obtain ⟨kq, HA, HJ330, HO_13, BK638, BK648, BK668, HB⟩ := hcut
       cases kq with
       | zero => exact absurd HA.out (by simp [laws_FnVerbs.j1])
       | succ kj330 =>
        as_aux_lemma =>
         have H := HA.out
         clear HA
         simp only [laws_FnVerbs.j1] at H
         have HC367 := Aside0.mk H
         clear H
         go_upto_if 231 with (fail)
         go_cut [] (fun wc => ∃ (kq : Nat), Aside0 (laws_FnVerbs.j2 kq t649 t650 t645 t646 t647 t664 t665 t666 = some r) ∧ Aside0 (kq ≤ kj330) ∧ Aside0 (wc.heap[gb648]? = some (.cells #[.string t645, .int .i64 t646, .int .i64 t647] 27 (0, 0))) ∧ Aside0 (wc.heap[gb668]? = some (.cells #[.string t664, .int .i64 t665, .int .i64 t666] 27 (0, 0))) ∧ Aside0 (Below w.heap.size w wc))
         case first =>
          as_aux_lemma =>
           have H := HC367.out
           clear HC367
           by_cases c368 : t641 = true
           rotate_left
           ·replace c368 := Bool.eq_false_iff.mpr c368
            subst c368
            replace H := in_ H (show ¬ (false = true) by decide)
            as_aux_lemma =>
             have H' := Aside0.mk H
             clear H
             go_wp2
             go_meet
             case rel => exact ⟨_, H', ⟨by have := HJ17.out; have := HJ330.out; first | omega | exact Nat.le_refl _⟩, ⟨kP_⟩, ⟨kP_⟩, ⟨hB_⟩⟩
           subst c368
           replace H := ip_ H rfl
           replace H := ob_ H; obtain ⟨⟨t680, t681, t682, t683⟩, A369, H⟩ := H; try dsimp only at H
           replace H := ob_ H; obtain ⟨⟨t685, t686, t687⟩, A370, H⟩ := H; try dsimp only at H
           by_cases c371 : t683 = true
           rotate_left
           ·replace c371 := Bool.eq_false_iff.mpr c371
            subst c371
            replace H := in_ H (show ¬ (false = true) by decide)
            as_aux_lemma =>
             obtain rfl := Option.some.inj H
             clear BK648 BK668
             have hz399 := cf3_ BK638.out
             clear BK638
             go_wp2_with (first | ((with_reducible refine gC_ 17 ?_); refine gM_ (some 234) Tryz.func17 #[.agg #[.string t635, .int .i64 t636, .int .i64 t637]] ?_; (with_reducible refine (impl_ReverseVerb.calls kj330 t635 t636 t637 t680 t681 t682 false _ A369.out).mono ?_); rintro e w400 ⟨rfl, hb⟩; refine ⟨_, rfl, ?_⟩; replace HO_13 := aM_ (Kd.R_below (rR_ HO_13) hb); replace HB := aM_ (below_step hB_ hb); (try clear hb); (try clear hk)) | ((with_reducible refine gate_dst (N := 40) rfl ?_); refine bx_ 40 #[.string (⟨#[]⟩ : ByteArray), .int .i64 0, .int .i64 0] 27 fun gb684 hg w401 hbox hb => ?_; have BK684 := aM_ (hbox); have GW684 := aM_ (gw_ w hg); have GE684 := aM_ (gw_ w hg); replace HO_13 := aM_ (Kd.R_below (rR_ HO_13) hb); replace HB := aM_ (below_step hB_ hb); clear hb hbox hg; have hz402 := cf3_ BK684.out) | ((with_reducible refine gC_ 9 ?_); refine gM_ (some 240) Tryz.func9 #[.slice Ao33 t632.length co33, .agg #[.string t680, .int .i64 t681, .int .i64 t682]] ?_; (with_reducible refine (impl_MeaningOf.calls kj330 _ _ t632 t680 t681 t682 t685 t686 t687 _ ?side1 ?side2 A370.out).mono ?_); (case side1 => refine (Kd.R_reads' (e := 58) (base := w.heap.size) (ok := fun k_ => True) (n := t632.length) (c := co33) ?_).2.2; exact (by (with_reducible repeat (first | apply rA_ | apply rN_ | apply rD_)); exact (Kd.R_mono (Kd.R_far (p := ⟨gb684, 2, none⟩) (Kd.R_far (p := ⟨gb684, 1, none⟩) (Kd.R_far (p := ⟨gb684, 0, none⟩) (Kd.R_types HO_13.out BK684.out (by decide)) (fun _ hk => hk.2) (.string t680)) (fun _ hk => hk.2) (.int .i64 t681)) (fun _ hk => hk.2) (.int .i64 t682)) (fun _ h_ => h_.1)))); (case side2 => exact (Kd.R_reads' HO_13.out).2.1); rintro e w403 ⟨rfl, hb⟩; refine ⟨_, rfl, ?_⟩; replace HO_13 := aM_ (Kd.R_below (by (with_reducible repeat (first | apply rA_ | apply rN_ | apply rD_)); exact (Kd.R_mono (Kd.R_far (p := ⟨gb684, 2, none⟩) (Kd.R_far (p := ⟨gb684, 1, none⟩) (Kd.R_far (p := ⟨gb684, 0, none⟩) (Kd.R_types HO_13.out BK684.out (by decide)) (fun _ hk => hk.2) (.string t680)) (fun _ hk => hk.2) (.int .i64 t681)) (fun _ hk => hk.2) (.int .i64 t682)) (fun _ h_ => h_.1))) hb); replace BK684 := aM_ (blk_below (g := gb684) (o := .cells #[.string t680, .int .i64 t681, .int .i64 t682] 27 (0, 0)) z19_7_ hb); replace HB := aM_ (below_step hB_ hb); (try clear hb); (try clear hk)))
             go_ret
             exact ⟨rT_, hB_⟩
           subst c371
           replace H := ip_ H rfl
           by_cases c372 : t687 = true
           rotate_left
           ·replace c372 := Bool.eq_false_iff.mpr c372
            subst c372
            replace H := in_ H (show ¬ (false = true) by decide)
            as_aux_lemma =>
             obtain rfl := Option.some.inj H
             clear BK648 BK668
             have hz394 := cf3_ BK638.out
             clear BK638
             go_wp2_with (first | ((with_reducible refine gC_ 17 ?_); refine gM_ (some 234) Tryz.func17 #[.agg #[.string t635, .int .i64 t636, .int .i64 t637]] ?_; (with_reducible refine (impl_ReverseVerb.calls kj330 t635 t636 t637 t680 t681 t682 true _ A369.out).mono ?_); rintro e w395 ⟨rfl, hb⟩; refine ⟨_, rfl, ?_⟩; replace HO_13 := aM_ (Kd.R_below (rR_ HO_13) hb); replace HB := aM_ (below_step hB_ hb); (try clear hb); (try clear hk)) | ((with_reducible refine gate_dst (N := 40) rfl ?_); refine bx_ 40 #[.string (⟨#[]⟩ : ByteArray), .int .i64 0, .int .i64 0] 27 fun gb684 hg w396 hbox hb => ?_; have BK684 := aM_ (hbox); have GW684 := aM_ (gw_ w hg); have GE684 := aM_ (gw_ w hg); replace HO_13 := aM_ (Kd.R_below (rR_ HO_13) hb); replace HB := aM_ (below_step hB_ hb); clear hb hbox hg; have hz397 := cf3_ BK684.out) | ((with_reducible refine gC_ 9 ?_); refine gM_ (some 240) Tryz.func9 #[.slice Ao33 t632.length co33, .agg #[.string t680, .int .i64 t681, .int .i64 t682]] ?_; (with_reducible refine (impl_MeaningOf.calls kj330 _ _ t632 t680 t681 t682 t685 t686 false _ ?side1 ?side2 A370.out).mono ?_); (case side1 => refine (Kd.R_reads' (e := 58) (base := w.heap.size) (ok := fun k_ => True) (n := t632.length) (c := co33) ?_).2.2; exact (by (with_reducible repeat (first | apply rA_ | apply rN_ | apply rD_)); exact (Kd.R_mono (Kd.R_far (p := ⟨gb684, 2, none⟩) (Kd.R_far (p := ⟨gb684, 1, none⟩) (Kd.R_far (p := ⟨gb684, 0, none⟩) (Kd.R_types HO_13.out BK684.out (by decide)) (fun _ hk => hk.2) (.string t680)) (fun _ hk => hk.2) (.int .i64 t681)) (fun _ hk => hk.2) (.int .i64 t682)) (fun _ h_ => h_.1)))); (case side2 => exact (Kd.R_reads' HO_13.out).2.1); rintro e w398 ⟨rfl, hb⟩; refine ⟨_, rfl, ?_⟩; replace HO_13 := aM_ (Kd.R_below (by (with_reducible repeat (first | apply rA_ | apply rN_ | apply rD_)); exact (Kd.R_mono (Kd.R_far (p := ⟨gb684, 2, none⟩) (Kd.R_far (p := ⟨gb684, 1, none⟩) (Kd.R_far (p := ⟨gb684, 0, none⟩) (Kd.R_types HO_13.out BK684.out (by decide)) (fun _ hk => hk.2) (.string t680)) (fun _ hk => hk.2) (.int .i64 t681)) (fun _ hk => hk.2) (.int .i64 t682)) (fun _ h_ => h_.1))) hb); replace BK684 := aM_ (blk_below (g := gb684) (o := .cells #[.string t680, .int .i64 t681, .int .i64 t682] 27 (0, 0)) z19_7_ hb); replace HB := aM_ (below_step hB_ hb); (try clear hb); (try clear hk)))
             go_ret
             exact ⟨rT_, hB_⟩
           subst c372
           replace H := ip_ H rfl
           by_cases c373 : t685.toList = t643.toList
           rotate_left
           ·rw [if_neg c373] at H
            have c373b0 : (t685.toList == t643.toList) = false := beq_eq_false_iff_ne.mpr c373
            have c373b1 : (t685.toList != t643.toList) = true := bne_iff_ne.mpr c373
            (first | rw [c373b0] | (simp only [i64_w, i32_w]; rw [c373b0]) | skip)
            as_aux_lemma =>
             obtain rfl := Option.some.inj H
             clear BK648 BK668
             have hz389 := cf3_ BK638.out
             clear BK638
             go_wp2_with (first | ((with_reducible refine gC_ 17 ?_); refine gM_ (some 234) Tryz.func17 #[.agg #[.string t635, .int .i64 t636, .int .i64 t637]] ?_; (with_reducible refine (impl_ReverseVerb.calls kj330 t635 t636 t637 t680 t681 t682 true _ A369.out).mono ?_); rintro e w390 ⟨rfl, hb⟩; refine ⟨_, rfl, ?_⟩; replace HO_13 := aM_ (Kd.R_below (rR_ HO_13) hb); replace HB := aM_ (below_step hB_ hb); (try clear hb); (try clear hk)) | ((with_reducible refine gate_dst (N := 40) rfl ?_); refine bx_ 40 #[.string (⟨#[]⟩ : ByteArray), .int .i64 0, .int .i64 0] 27 fun gb684 hg w391 hbox hb => ?_; have BK684 := aM_ (hbox); have GW684 := aM_ (gw_ w hg); have GE684 := aM_ (gw_ w hg); replace HO_13 := aM_ (Kd.R_below (rR_ HO_13) hb); replace HB := aM_ (below_step hB_ hb); clear hb hbox hg; have hz392 := cf3_ BK684.out) | ((with_reducible refine gC_ 9 ?_); refine gM_ (some 240) Tryz.func9 #[.slice Ao33 t632.length co33, .agg #[.string t680, .int .i64 t681, .int .i64 t682]] ?_; (with_reducible refine (impl_MeaningOf.calls kj330 _ _ t632 t680 t681 t682 t685 t686 true _ ?side1 ?side2 A370.out).mono ?_); (case side1 => refine (Kd.R_reads' (e := 58) (base := w.heap.size) (ok := fun k_ => True) (n := t632.length) (c := co33) ?_).2.2; exact (by (with_reducible repeat (first | apply rA_ | apply rN_ | apply rD_)); exact (Kd.R_mono (Kd.R_far (p := ⟨gb684, 2, none⟩) (Kd.R_far (p := ⟨gb684, 1, none⟩) (Kd.R_far (p := ⟨gb684, 0, none⟩) (Kd.R_types HO_13.out BK684.out (by decide)) (fun _ hk => hk.2) (.string t680)) (fun _ hk => hk.2) (.int .i64 t681)) (fun _ hk => hk.2) (.int .i64 t682)) (fun _ h_ => h_.1)))); (case side2 => exact (Kd.R_reads' HO_13.out).2.1); rintro e w393 ⟨rfl, hb⟩; refine ⟨_, rfl, ?_⟩; replace HO_13 := aM_ (Kd.R_below (by (with_reducible repeat (first | apply rA_ | apply rN_ | apply rD_)); exact (Kd.R_mono (Kd.R_far (p := ⟨gb684, 2, none⟩) (Kd.R_far (p := ⟨gb684, 1, none⟩) (Kd.R_far (p := ⟨gb684, 0, none⟩) (Kd.R_types HO_13.out BK684.out (by decide)) (fun _ hk => hk.2) (.string t680)) (fun _ hk => hk.2) (.int .i64 t681)) (fun _ hk => hk.2) (.int .i64 t682)) (fun _ h_ => h_.1))) hb); replace BK684 := aM_ (blk_below (g := gb684) (o := .cells #[.string t680, .int .i64 t681, .int .i64 t682] 27 (0, 0)) z19_7_ hb); replace HB := aM_ (below_step hB_ hb); (try clear hb); (try clear hk)))
             go_ret
             exact ⟨rT_, hB_⟩
           rw [if_pos c373] at H
           have c373b0 : (t685.toList == t643.toList) = true := beq_iff_eq.mpr c373
           have c373b1 : (t685.toList != t643.toList) = false := bne_eq_false_iff_eq.mpr c373
           clear c373
           (first | rw [c373b0] | (simp only [i64_w, i32_w]; rw [c373b0]) | skip)
           by_cases c374 : t686.toList = t642.toList
           rotate_left
           ·rw [if_neg c374] at H
            have c374b0 : (t686.toList == t642.toList) = false := beq_eq_false_iff_ne.mpr c374
            have c374b1 : (t686.toList != t642.toList) = true := bne_iff_ne.mpr c374
            as_aux_lemma =>
             obtain rfl := Option.some.inj H
             clear BK648 BK668
             have hz384 := cf3_ BK638.out
             clear BK638
             go_wp2_with (first | ((with_reducible refine gC_ 17 ?_); refine gM_ (some 234) Tryz.func17 #[.agg #[.string t635, .int .i64 t636, .int .i64 t637]] ?_; (with_reducible refine (impl_ReverseVerb.calls kj330 t635 t636 t637 t680 t681 t682 true _ A369.out).mono ?_); rintro e w385 ⟨rfl, hb⟩; refine ⟨_, rfl, ?_⟩; replace HO_13 := aM_ (Kd.R_below (rR_ HO_13) hb); replace HB := aM_ (below_step hB_ hb); (try clear hb); (try clear hk)) | ((with_reducible refine gate_dst (N := 40) rfl ?_); refine bx_ 40 #[.string (⟨#[]⟩ : ByteArray), .int .i64 0, .int .i64 0] 27 fun gb684 hg w386 hbox hb => ?_; have BK684 := aM_ (hbox); have GW684 := aM_ (gw_ w hg); have GE684 := aM_ (gw_ w hg); replace HO_13 := aM_ (Kd.R_below (rR_ HO_13) hb); replace HB := aM_ (below_step hB_ hb); clear hb hbox hg; have hz387 := cf3_ BK684.out) | ((with_reducible refine gC_ 9 ?_); refine gM_ (some 240) Tryz.func9 #[.slice Ao33 t632.length co33, .agg #[.string t680, .int .i64 t681, .int .i64 t682]] ?_; (with_reducible refine (impl_MeaningOf.calls kj330 _ _ t632 t680 t681 t682 t685 t686 true _ ?side1 ?side2 A370.out).mono ?_); (case side1 => refine (Kd.R_reads' (e := 58) (base := w.heap.size) (ok := fun k_ => True) (n := t632.length) (c := co33) ?_).2.2; exact (by (with_reducible repeat (first | apply rA_ | apply rN_ | apply rD_)); exact (Kd.R_mono (Kd.R_far (p := ⟨gb684, 2, none⟩) (Kd.R_far (p := ⟨gb684, 1, none⟩) (Kd.R_far (p := ⟨gb684, 0, none⟩) (Kd.R_types HO_13.out BK684.out (by decide)) (fun _ hk => hk.2) (.string t680)) (fun _ hk => hk.2) (.int .i64 t681)) (fun _ hk => hk.2) (.int .i64 t682)) (fun _ h_ => h_.1)))); (case side2 => exact (Kd.R_reads' HO_13.out).2.1); rintro e w388 ⟨rfl, hb⟩; refine ⟨_, rfl, ?_⟩; replace HO_13 := aM_ (Kd.R_below (by (with_reducible repeat (first | apply rA_ | apply rN_ | apply rD_)); exact (Kd.R_mono (Kd.R_far (p := ⟨gb684, 2, none⟩) (Kd.R_far (p := ⟨gb684, 1, none⟩) (Kd.R_far (p := ⟨gb684, 0, none⟩) (Kd.R_types HO_13.out BK684.out (by decide)) (fun _ hk => hk.2) (.string t680)) (fun _ hk => hk.2) (.int .i64 t681)) (fun _ hk => hk.2) (.int .i64 t682)) (fun _ h_ => h_.1))) hb); replace BK684 := aM_ (blk_below (g := gb684) (o := .cells #[.string t680, .int .i64 t681, .int .i64 t682] 27 (0, 0)) z19_7_ hb); replace HB := aM_ (below_step hB_ hb); (try clear hb); (try clear hk)))
             go_ret
             exact ⟨rT_, hB_⟩
           rw [if_pos c374] at H
           have c374b0 : (t686.toList == t642.toList) = true := beq_iff_eq.mpr c374
           have c374b1 : (t686.toList != t642.toList) = false := bne_eq_false_iff_eq.mpr c374
           clear c374
           as_aux_lemma =>
            have H' := Aside0.mk H
            clear H
            have hnb375 := NB638_648.out
            have hnc375 := NB648_638.out
            have hnb376 := NB638_668.out
            have hnc376 := NB668_638.out
            have hz377 := cf3_ BK638.out
            clear BK638
            go_wp2_with (first | ((with_reducible refine gC_ 17 ?_); refine gM_ (some 234) Tryz.func17 #[.agg #[.string t635, .int .i64 t636, .int .i64 t637]] ?_; (with_reducible refine (impl_ReverseVerb.calls kj330 t635 t636 t637 t680 t681 t682 true _ A369.out).mono ?_); rintro e w378 ⟨rfl, hb⟩; refine ⟨_, rfl, ?_⟩; replace HO_13 := aM_ (Kd.R_below (rR_ HO_13) hb); replace BK648 := aM_ (blk_below (g := gb648) (kR_ BK648) hb); replace BK668 := aM_ (blk_below (g := gb668) (kR_ BK668) hb); replace HB := aM_ (below_step hB_ hb); (try clear hb); (try clear hk)) | ((with_reducible refine gate_dst (N := 40) rfl ?_); refine bx_ 40 #[.string (⟨#[]⟩ : ByteArray), .int .i64 0, .int .i64 0] 27 fun gb684 hg w379 hbox hb => ?_; have BK684 := aM_ (hbox); have GW684 := aM_ (gw_ w hg); have GE684 := aM_ (gw_ w hg); have NB648_684 := aM_ (nR_ BK648 hg); have NB684_648 := aM_ (mR_ BK648 hg); have NB668_684 := aM_ (nR_ BK668 hg); have NB684_668 := aM_ (mR_ BK668 hg); replace HO_13 := aM_ (Kd.R_below (rR_ HO_13) hb); replace BK648 := aM_ (blk_below (g := gb648) (kR_ BK648) hb); replace BK668 := aM_ (blk_below (g := gb668) (kR_ BK668) hb); replace HB := aM_ (below_step hB_ hb); clear hb hbox hg; have hnb380 := NB684_648.out; have hnc380 := NB648_684.out; have hnb381 := NB684_668.out; have hnc381 := NB668_684.out; have hz382 := cf3_ BK684.out) | ((with_reducible refine gC_ 9 ?_); refine gM_ (some 240) Tryz.func9 #[.slice Ao33 t632.length co33, .agg #[.string t680, .int .i64 t681, .int .i64 t682]] ?_; (with_reducible refine (impl_MeaningOf.calls kj330 _ _ t632 t680 t681 t682 t685 t686 true _ ?side1 ?side2 A370.out).mono ?_); (case side1 => refine (Kd.R_reads' (e := 58) (base := w.heap.size) (ok := fun k_ => True) (n := t632.length) (c := co33) ?_).2.2; exact (by (with_reducible repeat (first | apply rA_ | apply rN_ | apply rD_)); exact (Kd.R_mono (Kd.R_far (p := ⟨gb684, 2, none⟩) (Kd.R_far (p := ⟨gb684, 1, none⟩) (Kd.R_far (p := ⟨gb684, 0, none⟩) (Kd.R_types HO_13.out BK684.out (by decide)) (fun _ hk => hk.2) (.string t680)) (fun _ hk => hk.2) (.int .i64 t681)) (fun _ hk => hk.2) (.int .i64 t682)) (fun _ h_ => h_.1)))); (case side2 => exact (Kd.R_reads' HO_13.out).2.1); rintro e w383 ⟨rfl, hb⟩; refine ⟨_, rfl, ?_⟩; replace HO_13 := aM_ (Kd.R_below (by (with_reducible repeat (first | apply rA_ | apply rN_ | apply rD_)); exact (Kd.R_mono (Kd.R_far (p := ⟨gb684, 2, none⟩) (Kd.R_far (p := ⟨gb684, 1, none⟩) (Kd.R_far (p := ⟨gb684, 0, none⟩) (Kd.R_types HO_13.out BK684.out (by decide)) (fun _ hk => hk.2) (.string t680)) (fun _ hk => hk.2) (.int .i64 t681)) (fun _ hk => hk.2) (.int .i64 t682)) (fun _ h_ => h_.1))) hb); replace BK648 := aM_ (blk_below (g := gb648) (kR_ BK648) hb); replace BK668 := aM_ (blk_below (g := gb668) (kR_ BK668) hb); replace BK684 := aM_ (blk_below (g := gb684) (o := .cells #[.string t680, .int .i64 t681, .int .i64 t682] 27 (0, 0)) z19_7_ hb); replace HB := aM_ (below_step hB_ hb); (try clear hb); (try clear hk)))
            go_meet
            case rel => exact ⟨_, H', ⟨by have := HJ17.out; have := HJ330.out; first | omega | exact Nat.le_refl _⟩, ⟨kP_⟩, ⟨kP_⟩, ⟨hB_⟩⟩
         case rest =>
          as_aux_lemma =>
           clear HC367
           (try clear c1);(try clear c3);(try clear c330)
           obtain ⟨kq, HA, HJ366, BK648, BK668, HB⟩ := hcut
           cases kq with
           | zero => exact absurd HA.out (by simp [laws_FnVerbs.j2])
           | succ kj366 =>
            as_aux_lemma =>
             have H := HA.out
             clear HA
             simp only [laws_FnVerbs.j2] at H
             by_cases c404 : t650 = true
             rotate_left
             ·replace c404 := Bool.eq_false_iff.mpr c404
              subst c404
              replace H := in_ H (show ¬ (false = true) by decide)
              as_aux_lemma =>
               obtain rfl := Option.some.inj H
               go_wp2
               go_ret
               exact ⟨rT_, hB_⟩
             subst c404
             replace H := ip_ H rfl
             replace H := ob_ H; obtain ⟨⟨t688, t689, t690, t691⟩, A405, H⟩ := H; try dsimp only at H
             replace H := ob_ H; obtain ⟨⟨t693, t694, t695, t696⟩, A406, H⟩ := H; try dsimp only at H
             by_cases c407 : t691 = true
             rotate_left
             ·replace c407 := Bool.eq_false_iff.mpr c407
              subst c407
              replace H := in_ H (show ¬ (false = true) by decide)
              as_aux_lemma =>
               obtain rfl := Option.some.inj H
               clear BK648
               go_wp2_with (first | ((with_reducible refine gC_ 15 ?_); refine gM_ (some 263) Tryz.func15 #[.string t649] ?_; (with_reducible refine (impl_ParseVerb.calls kj366 t649 t688 t689 t690 false _ ?side1 A405.out).mono ?_); (case side1 => exact TabW.below HT.out hB_); rintro e w452 ⟨rfl, hb⟩; refine ⟨_, rfl, ?_⟩; replace BK668 := aM_ (blk_below (g := gb668) (kR_ BK668) hb); replace HB := aM_ (below_step hB_ hb); (try clear hb)) | ((with_reducible refine gate_dst (N := 45) rfl ?_); refine bx_ 45 #[.string (⟨#[]⟩ : ByteArray), .int .i64 0, .int .i64 0] 27 fun gb692 hg w453 hbox hb => ?_; have BK692 := aM_ (hbox); have GW692 := aM_ (gw_ w hg); have GE692 := aM_ (gw_ w hg); have NB668_692 := aM_ (nR_ BK668 hg); have NB692_668 := aM_ (mR_ BK668 hg); replace BK668 := aM_ (blk_below (g := gb668) (kR_ BK668) hb); replace HB := aM_ (below_step hB_ hb); clear hb hbox hg; have hnb454 := NB692_668.out; have hnc454 := NB668_692.out; have hz455 := cf3_ BK692.out; have hz456 := cf3_ BK668.out; clear BK668) | ((with_reducible refine gC_ 17 ?_); refine gM_ (some 268) Tryz.func17 #[.agg #[.string t664, .int .i64 t665, .int .i64 t666]] ?_; (with_reducible refine (impl_ReverseVerb.calls kj366 t664 t665 t666 t693 t694 t695 t696 _ A406.out).mono ?_); rintro e w457 ⟨rfl, hb⟩; refine ⟨_, rfl, ?_⟩; replace BK692 := aM_ (blk_below (g := gb692) (o := .cells #[.string t688, .int .i64 t689, .int .i64 t690] 27 (0, 0)) z19_8_ hb); replace HB := aM_ (below_step hB_ hb); (try clear hb); clear BK692) | ((with_reducible refine gate_dst (N := 47) rfl ?_); refine bx_ 47 #[.string (⟨#[]⟩ : ByteArray), .int .i64 0, .int .i64 0] 27 fun gb697 hg w458 hbox hb => ?_; have BK697 := aM_ (hbox); have GW697 := aM_ (gw_ w hg); have GE697 := aM_ (gw_ w hg); replace HB := aM_ (below_step hB_ hb); clear hb hbox hg; have hz459 := cf3_ BK697.out))
               go_ret
               exact ⟨rT_, hB_⟩
             subst c407
             replace H := ip_ H rfl
             by_cases c408 : (t688.toList == t645.toList && (t689 == t646 && (t690 == t647))) = true
             rotate_left
             ·rw [if_neg c408] at H
              have c408b0 : (t688.toList == t645.toList && (t689 == t646 && (t690 == t647))) = false := by simpa using c408
              (try (have c408b1 : decide (t688.toList = t645.toList && (t689 == t646 && (t690 == t647))) = false := by simpa using c408))
              (try (have c408b2 : (t688.toList == t645.toList && (t689 == t646 && (t690 == t647))) = false := by simpa using c408))
              (try (have c408b3 : ¬ (t688.toList = t645.toList && (t689 == t646 && (t690 == t647))) := by simpa using c408))
              clear c408
              as_aux_lemma =>
               obtain rfl := Option.some.inj H
               go_wp2_with (first | ((with_reducible refine gC_ 15 ?_); refine gM_ (some 263) Tryz.func15 #[.string t649] ?_; (with_reducible refine (impl_ParseVerb.calls kj366 t649 t688 t689 t690 true _ ?side1 A405.out).mono ?_); (case side1 => exact TabW.below HT.out hB_); rintro e w438 ⟨rfl, hb⟩; refine ⟨_, rfl, ?_⟩; replace BK648 := aM_ (blk_below (g := gb648) (kR_ BK648) hb); replace BK668 := aM_ (blk_below (g := gb668) (kR_ BK668) hb); replace HB := aM_ (below_step hB_ hb); (try clear hb)) | ((with_reducible refine gate_dst (N := 45) rfl ?_); refine bx_ 45 #[.string (⟨#[]⟩ : ByteArray), .int .i64 0, .int .i64 0] 27 fun gb692 hg w439 hbox hb => ?_; have BK692 := aM_ (hbox); have GW692 := aM_ (gw_ w hg); have GE692 := aM_ (gw_ w hg); have NB648_692 := aM_ (nR_ BK648 hg); have NB692_648 := aM_ (mR_ BK648 hg); have NB668_692 := aM_ (nR_ BK668 hg); have NB692_668 := aM_ (mR_ BK668 hg); replace BK648 := aM_ (blk_below (g := gb648) (kR_ BK648) hb); replace BK668 := aM_ (blk_below (g := gb668) (kR_ BK668) hb); replace HB := aM_ (below_step hB_ hb); clear hb hbox hg; have hnb440 := NB692_648.out; have hnc440 := NB648_692.out; have hnb441 := NB692_668.out; have hnc441 := NB668_692.out; have hz442 := cf3_ BK692.out; have hnb443 := NB668_648.out; have hnc443 := NB648_668.out; have hz444 := cf3_ BK668.out; clear BK668) | ((with_reducible refine gC_ 17 ?_); refine gM_ (some 268) Tryz.func17 #[.agg #[.string t664, .int .i64 t665, .int .i64 t666]] ?_; (with_reducible refine (impl_ReverseVerb.calls kj366 t664 t665 t666 t693 t694 t695 t696 _ A406.out).mono ?_); rintro e w445 ⟨rfl, hb⟩; refine ⟨_, rfl, ?_⟩; replace BK648 := aM_ (blk_below (g := gb648) (kR_ BK648) hb); replace BK692 := aM_ (blk_below (g := gb692) (o := .cells #[.string t688, .int .i64 t689, .int .i64 t690] 27 (0, 0)) z19_8_ hb); replace HB := aM_ (below_step hB_ hb); (try clear hb)) | ((with_reducible refine gate_dst (N := 47) rfl ?_); refine bx_ 47 #[.string (⟨#[]⟩ : ByteArray), .int .i64 0, .int .i64 0] 27 fun gb697 hg w446 hbox hb => ?_; have BK697 := aM_ (hbox); have GW697 := aM_ (gw_ w hg); have GE697 := aM_ (gw_ w hg); have NB648_697 := aM_ (nR_ BK648 hg); have NB697_648 := aM_ (mR_ BK648 hg); have NB692_697 := aM_ (nR_ BK692 hg); have NB697_692 := aM_ (mR_ BK692 hg); replace BK648 := aM_ (blk_below (g := gb648) (kR_ BK648) hb); replace BK692 := aM_ (blk_below (g := gb692) (kR_ BK692) hb); replace HB := aM_ (below_step hB_ hb); clear hb hbox hg; have hnb447 := NB697_648.out; have hnc447 := NB648_697.out; have hnb448 := NB697_692.out; have hnc448 := NB692_697.out; have hz449 := cf3_ BK697.out; have hz450 := cf3_ BK692.out; clear BK692; have hz451 := cf3_ BK648.out))
               go_ret
               exact ⟨rT_, hB_⟩
             rw [if_pos c408] at H
             have c408b0 : (t688.toList == t645.toList && (t689 == t646 && (t690 == t647))) = true := c408
             (try (have c408b1 : decide (t688.toList = t645.toList && (t689 == t646 && (t690 == t647))) = true := by simpa using c408))
             (try (have c408b2 : (t688.toList == t645.toList && (t689 == t646 && (t690 == t647))) = true := by simpa using c408))
             clear c408
             by_cases c409 : t696 = true
             ·subst c409
              replace H := ip_ H rfl
              as_aux_lemma =>
               obtain rfl := Option.some.inj H
               go_wp2_with (first | ((with_reducible refine gC_ 15 ?_); refine gM_ (some 263) Tryz.func15 #[.string t649] ?_; (with_reducible refine (impl_ParseVerb.calls kj366 t649 t688 t689 t690 true _ ?side1 A405.out).mono ?_); (case side1 => exact TabW.below HT.out hB_); rintro e w410 ⟨rfl, hb⟩; refine ⟨_, rfl, ?_⟩; replace BK648 := aM_ (blk_below (g := gb648) (kR_ BK648) hb); replace BK668 := aM_ (blk_below (g := gb668) (kR_ BK668) hb); replace HB := aM_ (below_step hB_ hb); (try clear hb)) | ((with_reducible refine gate_dst (N := 45) rfl ?_); refine bx_ 45 #[.string (⟨#[]⟩ : ByteArray), .int .i64 0, .int .i64 0] 27 fun gb692 hg w411 hbox hb => ?_; have BK692 := aM_ (hbox); have GW692 := aM_ (gw_ w hg); have GE692 := aM_ (gw_ w hg); have NB648_692 := aM_ (nR_ BK648 hg); have NB692_648 := aM_ (mR_ BK648 hg); have NB668_692 := aM_ (nR_ BK668 hg); have NB692_668 := aM_ (mR_ BK668 hg); replace BK648 := aM_ (blk_below (g := gb648) (kR_ BK648) hb); replace BK668 := aM_ (blk_below (g := gb668) (kR_ BK668) hb); replace HB := aM_ (below_step hB_ hb); clear hb hbox hg; have hnb412 := NB692_648.out; have hnc412 := NB648_692.out; have hnb413 := NB692_668.out; have hnc413 := NB668_692.out; have hz414 := cf3_ BK692.out; have hnb415 := NB668_648.out; have hnc415 := NB648_668.out; have hz416 := cf3_ BK668.out; clear BK668) | ((with_reducible refine gC_ 17 ?_); refine gM_ (some 268) Tryz.func17 #[.agg #[.string t664, .int .i64 t665, .int .i64 t666]] ?_; (with_reducible refine (impl_ReverseVerb.calls kj366 t664 t665 t666 t693 t694 t695 true _ A406.out).mono ?_); rintro e w417 ⟨rfl, hb⟩; refine ⟨_, rfl, ?_⟩; replace BK648 := aM_ (blk_below (g := gb648) (kR_ BK648) hb); replace BK692 := aM_ (blk_below (g := gb692) (o := .cells #[.string t688, .int .i64 t689, .int .i64 t690] 27 (0, 0)) z19_8_ hb); replace HB := aM_ (below_step hB_ hb); (try clear hb)) | ((with_reducible refine gate_dst (N := 47) rfl ?_); refine bx_ 47 #[.string (⟨#[]⟩ : ByteArray), .int .i64 0, .int .i64 0] 27 fun gb697 hg w418 hbox hb => ?_; have BK697 := aM_ (hbox); have GW697 := aM_ (gw_ w hg); have GE697 := aM_ (gw_ w hg); have NB648_697 := aM_ (nR_ BK648 hg); have NB697_648 := aM_ (mR_ BK648 hg); have NB692_697 := aM_ (nR_ BK692 hg); have NB697_692 := aM_ (mR_ BK692 hg); replace BK648 := aM_ (blk_below (g := gb648) (kR_ BK648) hb); replace BK692 := aM_ (blk_below (g := gb692) (kR_ BK692) hb); replace HB := aM_ (below_step hB_ hb); clear hb hbox hg; have hnb419 := NB697_648.out; have hnc419 := NB648_697.out; have hnb420 := NB697_692.out; have hnc420 := NB692_697.out; have hz421 := cf3_ BK697.out; have hz422 := cf3_ BK692.out; clear BK692; have hz423 := cf3_ BK648.out))
               go_ret
               exact ⟨rT_, hB_⟩
             replace c409 := Bool.eq_false_iff.mpr c409
             subst c409
             replace H := in_ H (show ¬ (false = true) by decide)
             as_aux_lemma =>
              obtain rfl := Option.some.inj H
              go_wp2_with (first | ((with_reducible refine gC_ 15 ?_); refine gM_ (some 263) Tryz.func15 #[.string t649] ?_; (with_reducible refine (impl_ParseVerb.calls kj366 t649 t688 t689 t690 true _ ?side1 A405.out).mono ?_); (case side1 => exact TabW.below HT.out hB_); rintro e w424 ⟨rfl, hb⟩; refine ⟨_, rfl, ?_⟩; replace BK648 := aM_ (blk_below (g := gb648) (kR_ BK648) hb); replace BK668 := aM_ (blk_below (g := gb668) (kR_ BK668) hb); replace HB := aM_ (below_step hB_ hb); (try clear hb)) | ((with_reducible refine gate_dst (N := 45) rfl ?_); refine bx_ 45 #[.string (⟨#[]⟩ : ByteArray), .int .i64 0, .int .i64 0] 27 fun gb692 hg w425 hbox hb => ?_; have BK692 := aM_ (hbox); have GW692 := aM_ (gw_ w hg); have GE692 := aM_ (gw_ w hg); have NB648_692 := aM_ (nR_ BK648 hg); have NB692_648 := aM_ (mR_ BK648 hg); have NB668_692 := aM_ (nR_ BK668 hg); have NB692_668 := aM_ (mR_ BK668 hg); replace BK648 := aM_ (blk_below (g := gb648) (kR_ BK648) hb); replace BK668 := aM_ (blk_below (g := gb668) (kR_ BK668) hb); replace HB := aM_ (below_step hB_ hb); clear hb hbox hg; have hnb426 := NB692_648.out; have hnc426 := NB648_692.out; have hnb427 := NB692_668.out; have hnc427 := NB668_692.out; have hz428 := cf3_ BK692.out; have hnb429 := NB668_648.out; have hnc429 := NB648_668.out; have hz430 := cf3_ BK668.out; clear BK668) | ((with_reducible refine gC_ 17 ?_); refine gM_ (some 268) Tryz.func17 #[.agg #[.string t664, .int .i64 t665, .int .i64 t666]] ?_; (with_reducible refine (impl_ReverseVerb.calls kj366 t664 t665 t666 t693 t694 t695 false _ A406.out).mono ?_); rintro e w431 ⟨rfl, hb⟩; refine ⟨_, rfl, ?_⟩; replace BK648 := aM_ (blk_below (g := gb648) (kR_ BK648) hb); replace BK692 := aM_ (blk_below (g := gb692) (o := .cells #[.string t688, .int .i64 t689, .int .i64 t690] 27 (0, 0)) z19_8_ hb); replace HB := aM_ (below_step hB_ hb); (try clear hb)) | ((with_reducible refine gate_dst (N := 47) rfl ?_); refine bx_ 47 #[.string (⟨#[]⟩ : ByteArray), .int .i64 0, .int .i64 0] 27 fun gb697 hg w432 hbox hb => ?_; have BK697 := aM_ (hbox); have GW697 := aM_ (gw_ w hg); have GE697 := aM_ (gw_ w hg); have NB648_697 := aM_ (nR_ BK648 hg); have NB697_648 := aM_ (mR_ BK648 hg); have NB692_697 := aM_ (nR_ BK692 hg); have NB697_692 := aM_ (mR_ BK692 hg); replace BK648 := aM_ (blk_below (g := gb648) (kR_ BK648) hb); replace BK692 := aM_ (blk_below (g := gb692) (kR_ BK692) hb); replace HB := aM_ (below_step hB_ hb); clear hb hbox hg; have hnb433 := NB697_648.out; have hnc433 := NB648_697.out; have hnb434 := NB697_692.out; have hnc434 := NB692_697.out; have hz435 := cf3_ BK697.out; have hz436 := cf3_ BK692.out; clear BK692; have hz437 := cf3_ BK648.out))
              go_ret
              exact ⟨rT_, hB_⟩
theorem laws_FnVerbs.walk : True := trivial

end Go.Proofs.YtfkdlfbjkdkffaaGreatDoor.PFnVerbs
