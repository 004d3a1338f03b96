/- Printed for this claim: functions of the program as Lean functions, and that the calls answer so. -/
import Derived.Test.YtfkdlfbjkdkffaaGreatDoorPFnPointsx0
import Derived.Test.YtfkdlfbjkdkffaaGreatDoorPFnPointsx2
import Derived.Test.YtfkdlfbjkdkffaaGreatDoorPFnPointsx6
import Derived.Test.YtfkdlfbjkdkffaaGreatDoorPFnPointsx8
import Derived.Test.YtfkdlfbjkdkffaaGreatDoorPFnPointsx9
import Derived.Test.YtfkdlfbjkdkffaaGreatDoorPFnPointsx10
import Derived.Test.YtfkdlfbjkdkffaaGreatDoorPFnPointsx11
import Derived.Test.YtfkdlfbjkdkffaaGreatDoorPFnPointsx12
import Derived.Test.YtfkdlfbjkdkffaaGreatDoorPFnPointsx13
import Derived.Test.YtfkdlfbjkdkffaaGreatDoorPFnPointsx14
import Derived.Test.YtfkdlfbjkdkffaaGreatDoorPFnPointsx15
import Derived.Test.YtfkdlfbjkdkffaaGreatDoorPFnPointsx16
import Derived.Test.YtfkdlfbjkdkffaaGreatDoorPFnPointsxD0
namespace Go.Proofs.YtfkdlfbjkdkffaaGreatDoor.PFnPoints
open Go.RowKit Go.Proofs.YtfkdlfbjkdkffaaGreatDoorW.PrintWords Go.Proofs.YtfkdlfbjkdkffaaGreatDoorW.PrintLast Go.Proofs.YtfkdlfbjkdkffaaGreatDoorW.PrintMore
attribute [local go_sem] max2_int min2_int max_two min_two max_three min_three max_four min_four isSome_setCell   -- for this text's walks alone
set_option linter.unusedVariables false
set_option linter.unusedSimpArgs false

theorem z17_0_ {p : Prop} (h : p := by first | rfl | (simp; done) | (simp [*]; done)) : p := h
theorem z17_1_ {p : Prop} (h : p := by have := HJ13.out; have := HK2.out; have := HK3.out; first | omega | exact Nat.le_refl _) : p := h
theorem z17_2_ {p : Prop} (h : p := by first | (rw [add_block]; exact hn579_0) | (show (Addr.add _ _).block ≠ _; rw [add_block]; exact hn579_0) | exact hn579_0) : p := h
theorem z17_3_ {p : Prop} (h : p := by first | (rw [add_block]; exact hn579_1) | (show (Addr.add _ _).block ≠ _; rw [add_block]; exact hn579_1) | exact hn579_1) : p := h
theorem z17_4_ {p : Prop} (h : p := by repeat (first | exact (Kd.C_below HR1.out HB.out) | (with_reducible first | apply cA_ | apply cN_ | apply cD_))) : p := h
theorem z17_5_ {p : Prop} (h : p := by have := HJ13.out; have := HJ82.out; first | omega | exact Nat.le_refl _) : p := h
theorem z17_6_ {p : Prop} (h : p := by have := HJ13.out; have := HJ82.out; have := HJ138.out; have := HK4.out; have := HK5.out; omega) : p := h
theorem z17_7_ {p : Prop} (h : p := by (with_reducible repeat (first | apply rA_ | apply rN_ | apply rD_)); exact Kd.R_mono (Kd.R_far (p := ⟨gb605, 1, none⟩) (Kd.R_far (p := ⟨gb605, 0, none⟩) (Kd.R_mono HO_34.out (fun k_ hk => (⟨hk, hk.2⟩ : _ ∧ k_ ≠ gb605))) (fun _ hk => hk.2) (.string ((rd_T58 t580 x292_5).f0))) (fun _ hk => hk.2) (.int .i64 ((rd_T58 t580 x292_5).f1))) (fun _ hk => trivial)) : p := h
theorem z17_8_ {p : Prop} (h : p := by (with_reducible repeat (first | apply rA_ | apply rN_ | apply rD_)); exact Kd.R_mono (Kd.R_far (p := ⟨gb605, 1, none⟩) (Kd.R_far (p := ⟨gb605, 0, none⟩) (Kd.R_mono HO_290.out (fun k_ hk => (⟨hk, hk.2⟩ : _ ∧ k_ ≠ gb605))) (fun _ hk => hk.2) (.string ((rd_T58 t580 x292_5).f0))) (fun _ hk => hk.2) (.int .i64 ((rd_T58 t580 x292_5).f1))) (fun _ hk => trivial)) : p := h
/-! ### laws_FnPoints: function 4 -/
set_option maxHeartbeats 64000000 in
set_option maxRecDepth 100000 in
theorem laws_FnPoints.calls (k : Nat) (A0 : Option Addr) (c0 : Nat) (l0 : List Int) (A1 : Option Addr) (c1 : Nat) (l1 : List Int) (r : Bool) (w : World) (hT_ : TabW Tryz.prog 1 w) (hr0 : Kd.C (Kd.int .u8) w A0 l0.length l0) (hc0 : l0.length ≤ c0) (hr1 : Kd.C (Kd.int .u8) w A1 l1.length l1) (hc1 : l1.length ≤ c1) (h : laws_FnPoints.f k l0 l1 = some r) :
 Calls Tryz.prog 4 #[.slice A0 l0.length c0, .slice A1 l1.length c1] w fun e w' => e = .returned (.bool r) ∧ Below w.heap.size w w' := by
 have hu58 := Tryz.underlying58
 have HR0 := Aside0.mk hr0
 have HC0 := Aside0.mk hc0
 clear hr0 hc0
 have HR1 := Aside0.mk hr1
 have HC1 := Aside0.mk hc1
 clear hr1 hc1
 have HT := Aside0.mk hT_
 clear hT_
 have HB := Aside0.mk (Below.refl w.heap.size w)
 have H : ((laws_big.f l0 l1).bind fun t532 => (if t532 = true then (some true) else ((spec_DrawAmbiguousAngles.f k l0).bind fun t533 => ((impl_AmbiguousAngles.f k t533).bind fun bt536 => ((spec_AmbiguousAngles.f k t533).bind fun bt540 => ((impl_BestAngle.f k t533).bind fun bt544 => ((spec_BestAngle.f k t533).bind fun bt547 => ((impl_SpreadLoci.f k t533).bind fun bt550 => ((spec_SpreadLoci.f k t533).bind fun bt554 => ((impl_LociText.f k t533).bind fun bt558 => ((spec_LociText.f k t533).bind fun bt560 => (if (bt536.2 != bt540.2) = true then (laws_FnPoints.j0 k l1 t533 bt536.2 bt540.1 bt547.1 bt547.2.1 bt550.1 bt554.1 bt558.1 true) else ((laws_sameInts.f k bt536.1 bt540.1).bind fun t562 => (if t562 = true then (if (bt544.2.2 != bt547.2.2) = true then (laws_FnPoints.j0 k l1 t533 bt536.2 bt540.1 bt547.1 bt547.2.1 bt550.1 bt554.1 bt558.1 true) else (if bt544.1 = bt547.1 then (if bt544.2.1 = bt547.2.1 then (if (bt550.2 != bt554.2) = true then (laws_FnPoints.j0 k l1 t533 bt536.2 bt540.1 bt547.1 bt547.2.1 bt550.1 bt554.1 bt558.1 true) else ((laws_pSameLoci.f k bt550.1 bt554.1).bind fun t563 => (if t563 = true then (if (bt558.2 != bt560.2) = true then (laws_FnPoints.j0 k l1 t533 bt536.2 bt540.1 bt547.1 bt547.2.1 bt550.1 bt554.1 bt558.1 true) else (if bt558.1.toList = bt560.1.toList then ((impl_AreLoci.f k t533).bind fun t564 => (if (bt536.2 != t564) = true then (laws_FnPoints.j0 k l1 t533 bt536.2 bt540.1 bt547.1 bt547.2.1 bt550.1 bt554.1 bt558.1 true) else (if (bt544.2.2 != bt536.2) = true then (laws_FnPoints.j0 k l1 t533 bt536.2 bt540.1 bt547.1 bt547.2.1 bt550.1 bt554.1 bt558.1 true) else (if (bt550.2 != bt536.2) = true then (laws_FnPoints.j0 k l1 t533 bt536.2 bt540.1 bt547.1 bt547.2.1 bt550.1 bt554.1 bt558.1 true) else (laws_FnPoints.j0 k l1 t533 bt536.2 bt540.1 bt547.1 bt547.2.1 bt550.1 bt554.1 bt558.1 (bt558.2 != bt536.2)))))) else (laws_FnPoints.j0 k l1 t533 bt536.2 bt540.1 bt547.1 bt547.2.1 bt550.1 bt554.1 bt558.1 true))) else (laws_FnPoints.j0 k l1 t533 bt536.2 bt540.1 bt547.1 bt547.2.1 bt550.1 bt554.1 bt558.1 true)))) else (laws_FnPoints.j0 k l1 t533 bt536.2 bt540.1 bt547.1 bt547.2.1 bt550.1 bt554.1 bt558.1 true)) else (laws_FnPoints.j0 k l1 t533 bt536.2 bt540.1 bt547.1 bt547.2.1 bt550.1 bt554.1 bt558.1 true))) else (laws_FnPoints.j0 k l1 t533 bt536.2 bt540.1 bt547.1 bt547.2.1 bt550.1 bt554.1 bt558.1 true))))))))))))))) = some r := h
 clear h
 replace H := ob_ H; obtain ⟨t532, A3, H⟩ := H; try dsimp only at H
 by_cases c4 : t532 = true
 ·subst c4
  replace H := ip_ H rfl
  as_aux_lemma =>
   obtain rfl := Option.some.inj H
   go_enter Tryz.func4, Tryz.ntmps4
   go_wp2_with (first | (go_at_call 21; (with_reducible refine (laws_big.calls _ _ l0 _ _ l1 true _ ?side1 ?side2 ?side3 ?side4 A3.out).mono ?_); (case side1 => exact cC_ HR0); (case side2 => exact HC0.out); (case side3 => exact cC_ HR1); (case side4 => exact HC1.out); rintro e w' ⟨rfl, ⟨nd, rfl⟩⟩; (try exact dd_)) | (go_quiet (first | (go_at_call 21; (with_reducible refine (laws_big.calls _ _ l0 _ _ l1 true _ ?side1 ?side2 ?side3 ?side4 A3.out).mono ?_); (case side1 => exact cC_ HR0); (case side2 => exact HC0.out); (case side3 => exact cC_ HR1); (case side4 => exact HC1.out); rintro e w' ⟨rfl, ⟨nd, rfl⟩⟩; (try exact dd_)))))
   go_ret
   exact ⟨rT_, hB_⟩
 replace c4 := Bool.eq_false_iff.mpr c4
 subst c4
 replace H := in_ H (show ¬ (false = true) by decide)
 replace H := ob_ H; obtain ⟨t533, A5, H⟩ := H; try dsimp only at H
 replace H := ob_ H; obtain ⟨⟨t536, t537⟩, A6, H⟩ := H; try dsimp only at H
 replace H := ob_ H; obtain ⟨⟨t540, t541⟩, A7, H⟩ := H; try dsimp only at H
 replace H := ob_ H; obtain ⟨⟨t544, t545, t546⟩, A8, H⟩ := H; try dsimp only at H
 replace H := ob_ H; obtain ⟨⟨t547, t548, t549⟩, A9, H⟩ := H; try dsimp only at H
 replace H := ob_ H; obtain ⟨⟨t550, t551⟩, A10, H⟩ := H; try dsimp only at H
 replace H := ob_ H; obtain ⟨⟨t554, t555⟩, A11, H⟩ := H; try dsimp only at H
 replace H := ob_ H; obtain ⟨⟨t558, t559⟩, A12, H⟩ := H; try dsimp only at H
 replace H := ob_ H; obtain ⟨⟨t560, t561⟩, A13, H⟩ := H; try dsimp only at H
 have HC14 := Aside0.mk H
 clear H
 go_enter Tryz.func4, Tryz.ntmps4
 go_upto_region 12 with (first | (go_at_call 21; (with_reducible refine (laws_big.calls _ _ l0 _ _ l1 false _ ?side1 ?side2 ?side3 ?side4 A3.out).mono ?_); (case side1 => exact cC_ HR0); (case side2 => exact HC0.out); (case side3 => exact cC_ HR1); (case side4 => exact HC1.out); rintro e w' ⟨rfl, ⟨nd, rfl⟩⟩; (try exact dd_)) | (go_at_call 22; (with_reducible refine (spec_DrawAmbiguousAngles.calls k _ _ l0 t533 _ ?side1 ?side2 A5.out).mono ?_); (case side1 => exact cC_ HR0); (case side2 => exact HC0.out); rintro e w15 ⟨v534, rfl, ho0, hb⟩; have HO535 := aM_ (Kd.R_lower ho0 (below_size hB_)); replace HB := aM_ (below_step hB_ hb); (try clear hb); (try clear ho0); obtain ⟨Ao16, co16, eo16⟩ := Kd.R_slice HO535.out; subst eo16) | (go_at_call 23; (with_reducible refine (impl_AmbiguousAngles.calls k _ _ t533 t536 t537 _ ?side1 ?side2 A6.out).mono ?_); (case side1 => exact cR_ HO535); (case side2 => exact (Kd.R_reads' HO535.out).2.1); rintro e w17 ⟨v538, rfl, ho0, hb⟩; have HO539 := aM_ (Kd.R_lower ho0 (below_size hB_)); replace HO535 := aM_ (Kd.R_below (rR_ HO535) hb); replace HB := aM_ (below_step hB_ hb); (try clear hb); (try clear ho0)) | (go_at_call 24; (with_reducible refine (spec_AmbiguousAngles.calls k _ _ t533 t540 t541 _ ?side1 ?side2 A7.out).mono ?_); (case side1 => exact cR_ HO535); (case side2 => exact (Kd.R_reads' HO535.out).2.1); rintro e w18 ⟨v542, rfl, ho0, hb⟩; have HO543 := aM_ (Kd.R_lower (Kd.R_new' ho0 (Kd.R_lt (rR_ HO539))) (below_size hB_)); replace HO535 := aM_ (Kd.R_below (rR_ HO535) hb); replace HO539 := aM_ (Kd.R_elder' (rR_ HO539) (Kd.R_base ho0) hb); replace HB := aM_ (below_step hB_ hb); (try clear hb); (try clear ho0)) | (go_at_call 25; (with_reducible refine (impl_BestAngle.calls k _ _ t533 t544 t545 t546 _ ?side1 ?side2 A8.out).mono ?_); (case side1 => exact cR_ HO535); (case side2 => exact (Kd.R_reads' HO535.out).2.1); rintro e w19 ⟨rfl, hb⟩; replace HO535 := aM_ (Kd.R_below (rR_ HO535) hb); replace HO539 := aM_ (Kd.R_below (rR_ HO539) hb); replace HO543 := aM_ (Kd.R_below (rR_ HO543) hb); replace HB := aM_ (below_step hB_ hb); (try clear hb)) | (go_at_call 26; (with_reducible refine (spec_BestAngle.calls k _ _ t533 t547 t548 t549 _ ?side1 ?side2 A9.out).mono ?_); (case side1 => exact cR_ HO535); (case side2 => exact (Kd.R_reads' HO535.out).2.1); rintro e w20 ⟨rfl, hb⟩; replace HO535 := aM_ (Kd.R_below (rR_ HO535) hb); replace HO539 := aM_ (Kd.R_below (rR_ HO539) hb); replace HO543 := aM_ (Kd.R_below (rR_ HO543) hb); replace HB := aM_ (below_step hB_ hb); (try clear hb)) | (go_at_call 27; (with_reducible refine (impl_SpreadLoci.calls k _ _ t533 t550 t551 _ ?side1 ?side2 A10.out).mono ?_); (case side1 => exact cR_ HO535); (case side2 => exact (Kd.R_reads' HO535.out).2.1); rintro e w21 ⟨v552, rfl, ho0, hb⟩; have HO553 := aM_ (Kd.R_lower (Kd.R_new' ho0 (Kd.R_lt (rR_ HO535))) (below_size hB_)); replace HO535 := aM_ (Kd.R_elder' (rR_ HO535) (Kd.R_base ho0) hb); replace HO539 := aM_ (Kd.R_below (rR_ HO539) hb); replace HO543 := aM_ (Kd.R_below (rR_ HO543) hb); replace HB := aM_ (below_step hB_ hb); (try clear hb); (try clear ho0)) | (go_at_call 28; (with_reducible refine (spec_SpreadLoci.calls k _ _ t533 t554 t555 _ ?side1 ?side2 A11.out).mono ?_); (case side1 => exact cR_ HO535); (case side2 => exact (Kd.R_reads' HO535.out).2.1); rintro e w22 ⟨v556, rfl, ho0, hb⟩; have HO557 := aM_ (Kd.R_lower (Kd.R_new' (Kd.R_new' ho0 (Kd.R_lt (rR_ HO535))) (Kd.R_lt (rR_ HO553))) (below_size hB_)); replace HO535 := aM_ (Kd.R_elder' (rR_ HO535) (Kd.R_base ho0) hb); replace HO539 := aM_ (Kd.R_below (rR_ HO539) hb); replace HO543 := aM_ (Kd.R_below (rR_ HO543) hb); replace HO553 := aM_ (Kd.R_elder' (rR_ HO553) (Kd.R_base ho0) hb); replace HB := aM_ (below_step hB_ hb); (try clear hb); (try clear ho0)) | (go_at_call 29; (with_reducible refine (impl_LociText.calls k _ _ t533 t558 t559 _ ?side3 ?side1 ?side2 A12.out).mono ?_); (case side1 => exact cR_ HO535); (case side2 => exact (Kd.R_reads' HO535.out).2.1); (case side3 => refine TabW.weak (a := 1) ?_ (by decide); exact TabW.below HT.out hB_); rintro e w23 ⟨rfl, hb⟩; replace HO535 := aM_ (Kd.R_below (rR_ HO535) hb); replace HO539 := aM_ (Kd.R_below (rR_ HO539) hb); replace HO543 := aM_ (Kd.R_below (rR_ HO543) hb); replace HO553 := aM_ (Kd.R_below (rR_ HO553) hb); replace HO557 := aM_ (Kd.R_below (rR_ HO557) hb); replace HB := aM_ (below_step hB_ hb); (try clear hb)) | (go_at_call 30; (with_reducible refine (spec_LociText.calls k _ _ t533 t560 t561 _ ?side1 ?side2 A13.out).mono ?_); (case side1 => exact cR_ HO535); (case side2 => exact (Kd.R_reads' HO535.out).2.1); rintro e w24 ⟨rfl, hb⟩; replace HO535 := aM_ (Kd.R_below (rR_ HO535) hb); replace HO539 := aM_ (Kd.R_below (rR_ HO539) hb); replace HO543 := aM_ (Kd.R_below (rR_ HO543) hb); replace HO553 := aM_ (Kd.R_below (rR_ HO553) hb); replace HO557 := aM_ (Kd.R_below (rR_ HO557) hb); replace HB := aM_ (below_step hB_ hb); (try clear hb)) | (go_quiet (first | (go_at_call 21; (with_reducible refine (laws_big.calls _ _ l0 _ _ l1 false _ ?side1 ?side2 ?side3 ?side4 A3.out).mono ?_); (case side1 => exact cC_ HR0); (case side2 => exact HC0.out); (case side3 => exact cC_ HR1); (case side4 => exact HC1.out); rintro e w' ⟨rfl, ⟨nd, rfl⟩⟩; (try exact dd_)))))
 (try simp only [Act.put, List.setIfInBounds_toArray, List.set_cons_zero, List.set_cons_succ])
 go_cut [162] (fun v162 wc => ∃ (kq : Nat) (x162_13 : Bool), v162 = .bool x162_13 ∧ Aside0 (laws_FnPoints.j0 kq l1 t533 t537 t540 t547 t548 t550 t554 t558 x162_13 = some r) ∧ Aside0 (kq ≤ k) ∧ Aside0 (Kd.R k58 58 wc w.heap.size (fun k_ => some k_ ≠ (v552 : Value).ownBlock ∧ some k_ ≠ (v556 : Value).ownBlock) (.slice Ao16 t533.length co16) t533) ∧ Aside0 (Kd.R (Kd.int .i64) 3 wc w.heap.size (fun _ => True) v542 t540) ∧ Aside0 (Kd.R k58 58 wc w.heap.size (fun k_ => some k_ ≠ ((.slice Ao16 t533.length co16) : Value).ownBlock ∧ some k_ ≠ (v556 : Value).ownBlock) v552 t550) ∧ Aside0 (Kd.R k58 58 wc w.heap.size (fun k_ => some k_ ≠ ((.slice Ao16 t533.length co16) : Value).ownBlock ∧ some k_ ≠ (v552 : Value).ownBlock) v556 t554) ∧ Aside0 (Below w.heap.size w wc))
 case first =>
  as_aux_lemma =>
   have H := HC14.out
   clear HC14
   by_cases c25 : (t537 != t541) = true
   ·rw [if_pos c25] at H
    have c25b0 : (t537 != t541) = true := c25
    (try (have c25b1 : decide (t537 = t541) = false := by simpa using c25))
    (try (have c25b2 : (t537 == t541) = false := by simpa using c25))
    (try (have c25b3 : ¬ (t537 = t541) := by simpa using c25))
    clear c25
    (first | rw [c25b0] | (simp only [i64_w, i32_w]; rw [c25b0]) | skip)
    as_aux_lemma =>
     have H' := Aside0.mk H
     clear H
     go_wp2
     repeat (go_quiet (fail); try go_wp2)
     go_meet
     case rel => exact ⟨_, (true), z17_0_, H', ⟨oR_⟩, ⟨(rM_ HO535 (fun _ hk => ⟨hk.1.2, hk.2⟩))⟩, ⟨(rT1_ HO543)⟩, ⟨(rM_ HO553 (fun _ hk => ⟨hk.1.2, hk.2⟩))⟩, ⟨(rM_ HO557 (fun _ hk => ⟨hk.1.2, hk.2⟩))⟩, ⟨hB_⟩⟩
   rw [if_neg c25] at H
   have c25b0 : (t537 != t541) = false := by simpa using c25
   (try (have c25b1 : decide (t537 = t541) = true := by simpa using c25))
   (try (have c25b2 : (t537 == t541) = true := by simpa using c25))
   clear c25
   (first | rw [c25b0] | (simp only [i64_w, i32_w]; rw [c25b0]) | skip)
   replace H := ob_ H; obtain ⟨t562, A26, H⟩ := H; try dsimp only at H
   by_cases c27 : t562 = true
   rotate_left
   ·replace c27 := Bool.eq_false_iff.mpr c27
    subst c27
    replace H := in_ H (show ¬ (false = true) by decide)
    as_aux_lemma =>
     have H' := Aside0.mk H
     clear H
     obtain ⟨Ao80, co80, eo80⟩ := Kd.R_slice HO539.out
     subst eo80
     obtain ⟨Ao81, co81, eo81⟩ := Kd.R_slice HO543.out
     subst eo81
     go_wp2_with (first | (go_at_call 31; (with_reducible refine (laws_sameInts.calls k _ _ t536 _ _ t540 false _ ?side1 ?side2 ?side3 ?side4 A26.out).mono ?_); (case side1 => exact cR_ HO539); (case side2 => exact (Kd.R_reads' HO539.out).2.1); (case side3 => exact cR_ HO543); (case side4 => exact (Kd.R_reads' HO543.out).2.1); rintro e w' ⟨rfl, ⟨nd, rfl⟩⟩; (try exact dd_)) | (go_quiet (first | (go_at_call 31; (with_reducible refine (laws_sameInts.calls k _ _ t536 _ _ t540 false _ ?side1 ?side2 ?side3 ?side4 A26.out).mono ?_); (case side1 => exact cR_ HO539); (case side2 => exact (Kd.R_reads' HO539.out).2.1); (case side3 => exact cR_ HO543); (case side4 => exact (Kd.R_reads' HO543.out).2.1); rintro e w' ⟨rfl, ⟨nd, rfl⟩⟩; (try exact dd_)))))
     go_meet
     case rel => exact ⟨_, (true), z17_0_, H', ⟨oR_⟩, ⟨(rM_ HO535 (fun _ hk => ⟨hk.1.2, hk.2⟩))⟩, ⟨(rT1_ HO543)⟩, ⟨(rM_ HO553 (fun _ hk => ⟨hk.1.2, hk.2⟩))⟩, ⟨(rM_ HO557 (fun _ hk => ⟨hk.1.2, hk.2⟩))⟩, ⟨hB_⟩⟩
   subst c27
   replace H := ip_ H rfl
   by_cases c28 : (t546 != t549) = true
   ·rw [if_pos c28] at H
    have c28b0 : (t546 != t549) = true := c28
    (try (have c28b1 : decide (t546 = t549) = false := by simpa using c28))
    (try (have c28b2 : (t546 == t549) = false := by simpa using c28))
    (try (have c28b3 : ¬ (t546 = t549) := by simpa using c28))
    clear c28
    as_aux_lemma =>
     have H' := Aside0.mk H
     clear H
     obtain ⟨Ao29, co29, eo29⟩ := Kd.R_slice HO539.out
     subst eo29
     obtain ⟨Ao30, co30, eo30⟩ := Kd.R_slice HO543.out
     subst eo30
     go_wp2_with (first | (go_at_call 31; (with_reducible refine (laws_sameInts.calls k _ _ t536 _ _ t540 true _ ?side1 ?side2 ?side3 ?side4 A26.out).mono ?_); (case side1 => exact cR_ HO539); (case side2 => exact (Kd.R_reads' HO539.out).2.1); (case side3 => exact cR_ HO543); (case side4 => exact (Kd.R_reads' HO543.out).2.1); rintro e w' ⟨rfl, ⟨nd, rfl⟩⟩; (try exact dd_)) | (go_quiet (first | (go_at_call 31; (with_reducible refine (laws_sameInts.calls k _ _ t536 _ _ t540 true _ ?side1 ?side2 ?side3 ?side4 A26.out).mono ?_); (case side1 => exact cR_ HO539); (case side2 => exact (Kd.R_reads' HO539.out).2.1); (case side3 => exact cR_ HO543); (case side4 => exact (Kd.R_reads' HO543.out).2.1); rintro e w' ⟨rfl, ⟨nd, rfl⟩⟩; (try exact dd_)))))
     go_meet
     case rel => exact ⟨_, (true), z17_0_, H', ⟨oR_⟩, ⟨(rM_ HO535 (fun _ hk => ⟨hk.1.2, hk.2⟩))⟩, ⟨(rT1_ HO543)⟩, ⟨(rM_ HO553 (fun _ hk => ⟨hk.1.2, hk.2⟩))⟩, ⟨(rM_ HO557 (fun _ hk => ⟨hk.1.2, hk.2⟩))⟩, ⟨hB_⟩⟩
   rw [if_neg c28] at H
   have c28b0 : (t546 != t549) = false := by simpa using c28
   (try (have c28b1 : decide (t546 = t549) = true := by simpa using c28))
   (try (have c28b2 : (t546 == t549) = true := by simpa using c28))
   clear c28
   by_cases c31 : t544 = t547
   rotate_left
   ·rw [if_neg c31] at H
    have c31b0 : (t544 == t547) = false := beq_eq_false_iff_ne.mpr c31
    have c31b1 : (t544 != t547) = true := bne_iff_ne.mpr c31
    as_aux_lemma =>
     have H' := Aside0.mk H
     clear H
     obtain ⟨Ao78, co78, eo78⟩ := Kd.R_slice HO539.out
     subst eo78
     obtain ⟨Ao79, co79, eo79⟩ := Kd.R_slice HO543.out
     subst eo79
     go_wp2_with (first | (go_at_call 31; (with_reducible refine (laws_sameInts.calls k _ _ t536 _ _ t540 true _ ?side1 ?side2 ?side3 ?side4 A26.out).mono ?_); (case side1 => exact cR_ HO539); (case side2 => exact (Kd.R_reads' HO539.out).2.1); (case side3 => exact cR_ HO543); (case side4 => exact (Kd.R_reads' HO543.out).2.1); rintro e w' ⟨rfl, ⟨nd, rfl⟩⟩; (try exact dd_)) | (go_quiet (first | (go_at_call 31; (with_reducible refine (laws_sameInts.calls k _ _ t536 _ _ t540 true _ ?side1 ?side2 ?side3 ?side4 A26.out).mono ?_); (case side1 => exact cR_ HO539); (case side2 => exact (Kd.R_reads' HO539.out).2.1); (case side3 => exact cR_ HO543); (case side4 => exact (Kd.R_reads' HO543.out).2.1); rintro e w' ⟨rfl, ⟨nd, rfl⟩⟩; (try exact dd_)))))
     go_meet
     case rel => exact ⟨_, (true), z17_0_, H', ⟨oR_⟩, ⟨(rM_ HO535 (fun _ hk => ⟨hk.1.2, hk.2⟩))⟩, ⟨(rT1_ HO543)⟩, ⟨(rM_ HO553 (fun _ hk => ⟨hk.1.2, hk.2⟩))⟩, ⟨(rM_ HO557 (fun _ hk => ⟨hk.1.2, hk.2⟩))⟩, ⟨hB_⟩⟩
   rw [if_pos c31] at H
   have c31b0 : (t544 == t547) = true := beq_iff_eq.mpr c31
   have c31b1 : (t544 != t547) = false := bne_eq_false_iff_eq.mpr c31
   clear c31
   by_cases c32 : t545 = t548
   rotate_left
   ·rw [if_neg c32] at H
    have c32b0 : (t545 == t548) = false := beq_eq_false_iff_ne.mpr c32
    have c32b1 : (t545 != t548) = true := bne_iff_ne.mpr c32
    as_aux_lemma =>
     have H' := Aside0.mk H
     clear H
     obtain ⟨Ao76, co76, eo76⟩ := Kd.R_slice HO539.out
     subst eo76
     obtain ⟨Ao77, co77, eo77⟩ := Kd.R_slice HO543.out
     subst eo77
     go_wp2_with (first | (go_at_call 31; (with_reducible refine (laws_sameInts.calls k _ _ t536 _ _ t540 true _ ?side1 ?side2 ?side3 ?side4 A26.out).mono ?_); (case side1 => exact cR_ HO539); (case side2 => exact (Kd.R_reads' HO539.out).2.1); (case side3 => exact cR_ HO543); (case side4 => exact (Kd.R_reads' HO543.out).2.1); rintro e w' ⟨rfl, ⟨nd, rfl⟩⟩; (try exact dd_)) | (go_quiet (first | (go_at_call 31; (with_reducible refine (laws_sameInts.calls k _ _ t536 _ _ t540 true _ ?side1 ?side2 ?side3 ?side4 A26.out).mono ?_); (case side1 => exact cR_ HO539); (case side2 => exact (Kd.R_reads' HO539.out).2.1); (case side3 => exact cR_ HO543); (case side4 => exact (Kd.R_reads' HO543.out).2.1); rintro e w' ⟨rfl, ⟨nd, rfl⟩⟩; (try exact dd_)))))
     go_meet
     case rel => exact ⟨_, (true), z17_0_, H', ⟨oR_⟩, ⟨(rM_ HO535 (fun _ hk => ⟨hk.1.2, hk.2⟩))⟩, ⟨(rT1_ HO543)⟩, ⟨(rM_ HO553 (fun _ hk => ⟨hk.1.2, hk.2⟩))⟩, ⟨(rM_ HO557 (fun _ hk => ⟨hk.1.2, hk.2⟩))⟩, ⟨hB_⟩⟩
   rw [if_pos c32] at H
   have c32b0 : (t545 == t548) = true := beq_iff_eq.mpr c32
   have c32b1 : (t545 != t548) = false := bne_eq_false_iff_eq.mpr c32
   clear c32
   by_cases c33 : (t551 != t555) = true
   ·rw [if_pos c33] at H
    have c33b0 : (t551 != t555) = true := c33
    (try (have c33b1 : decide (t551 = t555) = false := by simpa using c33))
    (try (have c33b2 : (t551 == t555) = false := by simpa using c33))
    (try (have c33b3 : ¬ (t551 = t555) := by simpa using c33))
    clear c33
    as_aux_lemma =>
     have H' := Aside0.mk H
     clear H
     obtain ⟨Ao34, co34, eo34⟩ := Kd.R_slice HO539.out
     subst eo34
     obtain ⟨Ao35, co35, eo35⟩ := Kd.R_slice HO543.out
     subst eo35
     go_wp2_with (first | (go_at_call 31; (with_reducible refine (laws_sameInts.calls k _ _ t536 _ _ t540 true _ ?side1 ?side2 ?side3 ?side4 A26.out).mono ?_); (case side1 => exact cR_ HO539); (case side2 => exact (Kd.R_reads' HO539.out).2.1); (case side3 => exact cR_ HO543); (case side4 => exact (Kd.R_reads' HO543.out).2.1); rintro e w' ⟨rfl, ⟨nd, rfl⟩⟩; (try exact dd_)) | (go_quiet (first | (go_at_call 31; (with_reducible refine (laws_sameInts.calls k _ _ t536 _ _ t540 true _ ?side1 ?side2 ?side3 ?side4 A26.out).mono ?_); (case side1 => exact cR_ HO539); (case side2 => exact (Kd.R_reads' HO539.out).2.1); (case side3 => exact cR_ HO543); (case side4 => exact (Kd.R_reads' HO543.out).2.1); rintro e w' ⟨rfl, ⟨nd, rfl⟩⟩; (try exact dd_)))))
     go_meet
     case rel => exact ⟨_, (true), z17_0_, H', ⟨oR_⟩, ⟨(rM_ HO535 (fun _ hk => ⟨hk.1.2, hk.2⟩))⟩, ⟨(rT1_ HO543)⟩, ⟨(rM_ HO553 (fun _ hk => ⟨hk.1.2, hk.2⟩))⟩, ⟨(rM_ HO557 (fun _ hk => ⟨hk.1.2, hk.2⟩))⟩, ⟨hB_⟩⟩
   rw [if_neg c33] at H
   have c33b0 : (t551 != t555) = false := by simpa using c33
   (try (have c33b1 : decide (t551 = t555) = true := by simpa using c33))
   (try (have c33b2 : (t551 == t555) = true := by simpa using c33))
   clear c33
   replace H := ob_ H; obtain ⟨t563, A36, H⟩ := H; try dsimp only at H
   by_cases c37 : t563 = true
   rotate_left
   ·replace c37 := Bool.eq_false_iff.mpr c37
    subst c37
    replace H := in_ H (show ¬ (false = true) by decide)
    as_aux_lemma =>
     have H' := Aside0.mk H
     clear H
     obtain ⟨Ao72, co72, eo72⟩ := Kd.R_slice HO539.out
     subst eo72
     obtain ⟨Ao73, co73, eo73⟩ := Kd.R_slice HO543.out
     subst eo73
     go_wp2_with (first | (go_at_call 31; (with_reducible refine (laws_sameInts.calls k _ _ t536 _ _ t540 true _ ?side1 ?side2 ?side3 ?side4 A26.out).mono ?_); (case side1 => exact cR_ HO539); (case side2 => exact (Kd.R_reads' HO539.out).2.1); (case side3 => exact cR_ HO543); (case side4 => exact (Kd.R_reads' HO543.out).2.1); rintro e w' ⟨rfl, ⟨nd, rfl⟩⟩; (try exact dd_); obtain ⟨Ao74, co74, eo74⟩ := Kd.R_slice HO553.out; subst eo74; obtain ⟨Ao75, co75, eo75⟩ := Kd.R_slice HO557.out; subst eo75) | (go_at_call 32; (with_reducible refine (laws_pSameLoci.calls k _ _ t550 _ _ t554 false _ ?side1 ?side2 ?side3 ?side4 A36.out).mono ?_); (case side1 => exact cR_ HO553); (case side2 => exact (Kd.R_reads' HO553.out).2.1); (case side3 => exact cR_ HO557); (case side4 => exact (Kd.R_reads' HO557.out).2.1); rintro e w' ⟨rfl, ⟨nd, rfl⟩⟩; (try exact dd_)) | (go_quiet (first | (go_at_call 31; (with_reducible refine (laws_sameInts.calls k _ _ t536 _ _ t540 true _ ?side1 ?side2 ?side3 ?side4 A26.out).mono ?_); (case side1 => exact cR_ HO539); (case side2 => exact (Kd.R_reads' HO539.out).2.1); (case side3 => exact cR_ HO543); (case side4 => exact (Kd.R_reads' HO543.out).2.1); rintro e w' ⟨rfl, ⟨nd, rfl⟩⟩; (try exact dd_); obtain ⟨Ao74, co74, eo74⟩ := Kd.R_slice HO553.out; subst eo74; obtain ⟨Ao75, co75, eo75⟩ := Kd.R_slice HO557.out; subst eo75) | (go_at_call 32; (with_reducible refine (laws_pSameLoci.calls k _ _ t550 _ _ t554 false _ ?side1 ?side2 ?side3 ?side4 A36.out).mono ?_); (case side1 => exact cR_ HO553); (case side2 => exact (Kd.R_reads' HO553.out).2.1); (case side3 => exact cR_ HO557); (case side4 => exact (Kd.R_reads' HO557.out).2.1); rintro e w' ⟨rfl, ⟨nd, rfl⟩⟩; (try exact dd_)))))
     go_meet
     case rel => exact ⟨_, (true), z17_0_, H', ⟨oR_⟩, ⟨(rM_ HO535 (fun _ hk => ⟨hk.1.2, hk.2⟩))⟩, ⟨(rT1_ HO543)⟩, ⟨(rM_ HO553 (fun _ hk => ⟨hk.1.2, hk.2⟩))⟩, ⟨(rM_ HO557 (fun _ hk => ⟨hk.1.2, hk.2⟩))⟩, ⟨hB_⟩⟩
   subst c37
   replace H := ip_ H rfl
   by_cases c38 : (t559 != t561) = true
   ·rw [if_pos c38] at H
    have c38b0 : (t559 != t561) = true := c38
    (try (have c38b1 : decide (t559 = t561) = false := by simpa using c38))
    (try (have c38b2 : (t559 == t561) = false := by simpa using c38))
    (try (have c38b3 : ¬ (t559 = t561) := by simpa using c38))
    clear c38
    as_aux_lemma =>
     have H' := Aside0.mk H
     clear H
     obtain ⟨Ao39, co39, eo39⟩ := Kd.R_slice HO539.out
     subst eo39
     obtain ⟨Ao40, co40, eo40⟩ := Kd.R_slice HO543.out
     subst eo40
     go_wp2_with (first | (go_at_call 31; (with_reducible refine (laws_sameInts.calls k _ _ t536 _ _ t540 true _ ?side1 ?side2 ?side3 ?side4 A26.out).mono ?_); (case side1 => exact cR_ HO539); (case side2 => exact (Kd.R_reads' HO539.out).2.1); (case side3 => exact cR_ HO543); (case side4 => exact (Kd.R_reads' HO543.out).2.1); rintro e w' ⟨rfl, ⟨nd, rfl⟩⟩; (try exact dd_); obtain ⟨Ao41, co41, eo41⟩ := Kd.R_slice HO553.out; subst eo41; obtain ⟨Ao42, co42, eo42⟩ := Kd.R_slice HO557.out; subst eo42) | (go_at_call 32; (with_reducible refine (laws_pSameLoci.calls k _ _ t550 _ _ t554 true _ ?side1 ?side2 ?side3 ?side4 A36.out).mono ?_); (case side1 => exact cR_ HO553); (case side2 => exact (Kd.R_reads' HO553.out).2.1); (case side3 => exact cR_ HO557); (case side4 => exact (Kd.R_reads' HO557.out).2.1); rintro e w' ⟨rfl, ⟨nd, rfl⟩⟩; (try exact dd_)) | (go_quiet (first | (go_at_call 31; (with_reducible refine (laws_sameInts.calls k _ _ t536 _ _ t540 true _ ?side1 ?side2 ?side3 ?side4 A26.out).mono ?_); (case side1 => exact cR_ HO539); (case side2 => exact (Kd.R_reads' HO539.out).2.1); (case side3 => exact cR_ HO543); (case side4 => exact (Kd.R_reads' HO543.out).2.1); rintro e w' ⟨rfl, ⟨nd, rfl⟩⟩; (try exact dd_); obtain ⟨Ao41, co41, eo41⟩ := Kd.R_slice HO553.out; subst eo41; obtain ⟨Ao42, co42, eo42⟩ := Kd.R_slice HO557.out; subst eo42) | (go_at_call 32; (with_reducible refine (laws_pSameLoci.calls k _ _ t550 _ _ t554 true _ ?side1 ?side2 ?side3 ?side4 A36.out).mono ?_); (case side1 => exact cR_ HO553); (case side2 => exact (Kd.R_reads' HO553.out).2.1); (case side3 => exact cR_ HO557); (case side4 => exact (Kd.R_reads' HO557.out).2.1); rintro e w' ⟨rfl, ⟨nd, rfl⟩⟩; (try exact dd_)))))
     go_meet
     case rel => exact ⟨_, (true), z17_0_, H', ⟨oR_⟩, ⟨(rM_ HO535 (fun _ hk => ⟨hk.1.2, hk.2⟩))⟩, ⟨(rT1_ HO543)⟩, ⟨(rM_ HO553 (fun _ hk => ⟨hk.1.2, hk.2⟩))⟩, ⟨(rM_ HO557 (fun _ hk => ⟨hk.1.2, hk.2⟩))⟩, ⟨hB_⟩⟩
   rw [if_neg c38] at H
   have c38b0 : (t559 != t561) = false := by simpa using c38
   (try (have c38b1 : decide (t559 = t561) = true := by simpa using c38))
   (try (have c38b2 : (t559 == t561) = true := by simpa using c38))
   clear c38
   by_cases c43 : t558.toList = t560.toList
   rotate_left
   ·rw [if_neg c43] at H
    have c43b0 : (t558.toList == t560.toList) = false := beq_eq_false_iff_ne.mpr c43
    have c43b1 : (t558.toList != t560.toList) = true := bne_iff_ne.mpr c43
    as_aux_lemma =>
     have H' := Aside0.mk H
     clear H
     obtain ⟨Ao68, co68, eo68⟩ := Kd.R_slice HO539.out
     subst eo68
     obtain ⟨Ao69, co69, eo69⟩ := Kd.R_slice HO543.out
     subst eo69
     go_wp2_with (first | (go_at_call 31; (with_reducible refine (laws_sameInts.calls k _ _ t536 _ _ t540 true _ ?side1 ?side2 ?side3 ?side4 A26.out).mono ?_); (case side1 => exact cR_ HO539); (case side2 => exact (Kd.R_reads' HO539.out).2.1); (case side3 => exact cR_ HO543); (case side4 => exact (Kd.R_reads' HO543.out).2.1); rintro e w' ⟨rfl, ⟨nd, rfl⟩⟩; (try exact dd_); obtain ⟨Ao70, co70, eo70⟩ := Kd.R_slice HO553.out; subst eo70; obtain ⟨Ao71, co71, eo71⟩ := Kd.R_slice HO557.out; subst eo71) | (go_at_call 32; (with_reducible refine (laws_pSameLoci.calls k _ _ t550 _ _ t554 true _ ?side1 ?side2 ?side3 ?side4 A36.out).mono ?_); (case side1 => exact cR_ HO553); (case side2 => exact (Kd.R_reads' HO553.out).2.1); (case side3 => exact cR_ HO557); (case side4 => exact (Kd.R_reads' HO557.out).2.1); rintro e w' ⟨rfl, ⟨nd, rfl⟩⟩; (try exact dd_)) | (go_quiet (first | (go_at_call 31; (with_reducible refine (laws_sameInts.calls k _ _ t536 _ _ t540 true _ ?side1 ?side2 ?side3 ?side4 A26.out).mono ?_); (case side1 => exact cR_ HO539); (case side2 => exact (Kd.R_reads' HO539.out).2.1); (case side3 => exact cR_ HO543); (case side4 => exact (Kd.R_reads' HO543.out).2.1); rintro e w' ⟨rfl, ⟨nd, rfl⟩⟩; (try exact dd_); obtain ⟨Ao70, co70, eo70⟩ := Kd.R_slice HO553.out; subst eo70; obtain ⟨Ao71, co71, eo71⟩ := Kd.R_slice HO557.out; subst eo71) | (go_at_call 32; (with_reducible refine (laws_pSameLoci.calls k _ _ t550 _ _ t554 true _ ?side1 ?side2 ?side3 ?side4 A36.out).mono ?_); (case side1 => exact cR_ HO553); (case side2 => exact (Kd.R_reads' HO553.out).2.1); (case side3 => exact cR_ HO557); (case side4 => exact (Kd.R_reads' HO557.out).2.1); rintro e w' ⟨rfl, ⟨nd, rfl⟩⟩; (try exact dd_)))))
     go_meet
     case rel => exact ⟨_, (true), z17_0_, H', ⟨oR_⟩, ⟨(rM_ HO535 (fun _ hk => ⟨hk.1.2, hk.2⟩))⟩, ⟨(rT1_ HO543)⟩, ⟨(rM_ HO553 (fun _ hk => ⟨hk.1.2, hk.2⟩))⟩, ⟨(rM_ HO557 (fun _ hk => ⟨hk.1.2, hk.2⟩))⟩, ⟨hB_⟩⟩
   rw [if_pos c43] at H
   have c43b0 : (t558.toList == t560.toList) = true := beq_iff_eq.mpr c43
   have c43b1 : (t558.toList != t560.toList) = false := bne_eq_false_iff_eq.mpr c43
   clear c43
   replace H := ob_ H; obtain ⟨t564, A44, H⟩ := H; try dsimp only at H
   by_cases c45 : (t537 != t564) = true
   ·rw [if_pos c45] at H
    have c45b0 : (t537 != t564) = true := c45
    (try (have c45b1 : decide (t537 = t564) = false := by simpa using c45))
    (try (have c45b2 : (t537 == t564) = false := by simpa using c45))
    (try (have c45b3 : ¬ (t537 = t564) := by simpa using c45))
    clear c45
    as_aux_lemma =>
     have H' := Aside0.mk H
     clear H
     obtain ⟨Ao46, co46, eo46⟩ := Kd.R_slice HO539.out
     subst eo46
     obtain ⟨Ao47, co47, eo47⟩ := Kd.R_slice HO543.out
     subst eo47
     go_wp2_with (first | (go_at_call 31; (with_reducible refine (laws_sameInts.calls k _ _ t536 _ _ t540 true _ ?side1 ?side2 ?side3 ?side4 A26.out).mono ?_); (case side1 => exact cR_ HO539); (case side2 => exact (Kd.R_reads' HO539.out).2.1); (case side3 => exact cR_ HO543); (case side4 => exact (Kd.R_reads' HO543.out).2.1); rintro e w' ⟨rfl, ⟨nd, rfl⟩⟩; (try exact dd_); obtain ⟨Ao48, co48, eo48⟩ := Kd.R_slice HO553.out; subst eo48; obtain ⟨Ao49, co49, eo49⟩ := Kd.R_slice HO557.out; subst eo49) | (go_at_call 32; (with_reducible refine (laws_pSameLoci.calls k _ _ t550 _ _ t554 true _ ?side1 ?side2 ?side3 ?side4 A36.out).mono ?_); (case side1 => exact cR_ HO553); (case side2 => exact (Kd.R_reads' HO553.out).2.1); (case side3 => exact cR_ HO557); (case side4 => exact (Kd.R_reads' HO557.out).2.1); rintro e w' ⟨rfl, ⟨nd, rfl⟩⟩; (try exact dd_)) | (go_at_call 33; (with_reducible refine (impl_AreLoci.calls k _ _ t533 t564 _ ?side1 ?side2 A44.out).mono ?_); (case side1 => exact cR_ HO535); (case side2 => exact (Kd.R_reads' HO535.out).2.1); rintro e w50 ⟨rfl, hb⟩; replace HO535 := aM_ (Kd.R_below (rR_ HO535) hb); replace HO539 := aM_ (Kd.R_below (rR_ HO539) hb); replace HO543 := aM_ (Kd.R_below (rR_ HO543) hb); replace HO553 := aM_ (Kd.R_below (rR_ HO553) hb); replace HO557 := aM_ (Kd.R_below (rR_ HO557) hb); replace HB := aM_ (below_step hB_ hb); (try clear hb)) | (go_quiet (first | (go_at_call 31; (with_reducible refine (laws_sameInts.calls k _ _ t536 _ _ t540 true _ ?side1 ?side2 ?side3 ?side4 A26.out).mono ?_); (case side1 => exact cR_ HO539); (case side2 => exact (Kd.R_reads' HO539.out).2.1); (case side3 => exact cR_ HO543); (case side4 => exact (Kd.R_reads' HO543.out).2.1); rintro e w' ⟨rfl, ⟨nd, rfl⟩⟩; (try exact dd_); obtain ⟨Ao48, co48, eo48⟩ := Kd.R_slice HO553.out; subst eo48; obtain ⟨Ao49, co49, eo49⟩ := Kd.R_slice HO557.out; subst eo49) | (go_at_call 32; (with_reducible refine (laws_pSameLoci.calls k _ _ t550 _ _ t554 true _ ?side1 ?side2 ?side3 ?side4 A36.out).mono ?_); (case side1 => exact cR_ HO553); (case side2 => exact (Kd.R_reads' HO553.out).2.1); (case side3 => exact cR_ HO557); (case side4 => exact (Kd.R_reads' HO557.out).2.1); rintro e w' ⟨rfl, ⟨nd, rfl⟩⟩; (try exact dd_)))))
     go_meet
     case rel => exact ⟨_, (true), z17_0_, H', ⟨oR_⟩, ⟨(rM_ HO535 (fun _ hk => ⟨hk.1.2, hk.2⟩))⟩, ⟨(rT1_ HO543)⟩, ⟨(rM_ HO553 (fun _ hk => ⟨hk.1.2, hk.2⟩))⟩, ⟨(rM_ HO557 (fun _ hk => ⟨hk.1.2, hk.2⟩))⟩, ⟨hB_⟩⟩
   rw [if_neg c45] at H
   have c45b0 : (t537 != t564) = false := by simpa using c45
   (try (have c45b1 : decide (t537 = t564) = true := by simpa using c45))
   (try (have c45b2 : (t537 == t564) = true := by simpa using c45))
   clear c45
   by_cases c51 : (t546 != t537) = true
   ·rw [if_pos c51] at H
    have c51b0 : (t546 != t537) = true := c51
    (try (have c51b1 : decide (t546 = t537) = false := by simpa using c51))
    (try (have c51b2 : (t546 == t537) = false := by simpa using c51))
    (try (have c51b3 : ¬ (t546 = t537) := by simpa using c51))
    clear c51
    as_aux_lemma =>
     have H' := Aside0.mk H
     clear H
     obtain ⟨Ao52, co52, eo52⟩ := Kd.R_slice HO539.out
     subst eo52
     obtain ⟨Ao53, co53, eo53⟩ := Kd.R_slice HO543.out
     subst eo53
     go_wp2_with (first | (go_at_call 31; (with_reducible refine (laws_sameInts.calls k _ _ t536 _ _ t540 true _ ?side1 ?side2 ?side3 ?side4 A26.out).mono ?_); (case side1 => exact cR_ HO539); (case side2 => exact (Kd.R_reads' HO539.out).2.1); (case side3 => exact cR_ HO543); (case side4 => exact (Kd.R_reads' HO543.out).2.1); rintro e w' ⟨rfl, ⟨nd, rfl⟩⟩; (try exact dd_); obtain ⟨Ao54, co54, eo54⟩ := Kd.R_slice HO553.out; subst eo54; obtain ⟨Ao55, co55, eo55⟩ := Kd.R_slice HO557.out; subst eo55) | (go_at_call 32; (with_reducible refine (laws_pSameLoci.calls k _ _ t550 _ _ t554 true _ ?side1 ?side2 ?side3 ?side4 A36.out).mono ?_); (case side1 => exact cR_ HO553); (case side2 => exact (Kd.R_reads' HO553.out).2.1); (case side3 => exact cR_ HO557); (case side4 => exact (Kd.R_reads' HO557.out).2.1); rintro e w' ⟨rfl, ⟨nd, rfl⟩⟩; (try exact dd_)) | (go_at_call 33; (with_reducible refine (impl_AreLoci.calls k _ _ t533 t564 _ ?side1 ?side2 A44.out).mono ?_); (case side1 => exact cR_ HO535); (case side2 => exact (Kd.R_reads' HO535.out).2.1); rintro e w56 ⟨rfl, hb⟩; replace HO535 := aM_ (Kd.R_below (rR_ HO535) hb); replace HO539 := aM_ (Kd.R_below (rR_ HO539) hb); replace HO543 := aM_ (Kd.R_below (rR_ HO543) hb); replace HO553 := aM_ (Kd.R_below (rR_ HO553) hb); replace HO557 := aM_ (Kd.R_below (rR_ HO557) hb); replace HB := aM_ (below_step hB_ hb); (try clear hb)) | (go_quiet (first | (go_at_call 31; (with_reducible refine (laws_sameInts.calls k _ _ t536 _ _ t540 true _ ?side1 ?side2 ?side3 ?side4 A26.out).mono ?_); (case side1 => exact cR_ HO539); (case side2 => exact (Kd.R_reads' HO539.out).2.1); (case side3 => exact cR_ HO543); (case side4 => exact (Kd.R_reads' HO543.out).2.1); rintro e w' ⟨rfl, ⟨nd, rfl⟩⟩; (try exact dd_); obtain ⟨Ao54, co54, eo54⟩ := Kd.R_slice HO553.out; subst eo54; obtain ⟨Ao55, co55, eo55⟩ := Kd.R_slice HO557.out; subst eo55) | (go_at_call 32; (with_reducible refine (laws_pSameLoci.calls k _ _ t550 _ _ t554 true _ ?side1 ?side2 ?side3 ?side4 A36.out).mono ?_); (case side1 => exact cR_ HO553); (case side2 => exact (Kd.R_reads' HO553.out).2.1); (case side3 => exact cR_ HO557); (case side4 => exact (Kd.R_reads' HO557.out).2.1); rintro e w' ⟨rfl, ⟨nd, rfl⟩⟩; (try exact dd_)))))
     go_meet
     case rel => exact ⟨_, (true), z17_0_, H', ⟨oR_⟩, ⟨(rM_ HO535 (fun _ hk => ⟨hk.1.2, hk.2⟩))⟩, ⟨(rT1_ HO543)⟩, ⟨(rM_ HO553 (fun _ hk => ⟨hk.1.2, hk.2⟩))⟩, ⟨(rM_ HO557 (fun _ hk => ⟨hk.1.2, hk.2⟩))⟩, ⟨hB_⟩⟩
   rw [if_neg c51] at H
   have c51b0 : (t546 != t537) = false := by simpa using c51
   (try (have c51b1 : decide (t546 = t537) = true := by simpa using c51))
   (try (have c51b2 : (t546 == t537) = true := by simpa using c51))
   clear c51
   by_cases c57 : (t551 != t537) = true
   rotate_left
   ·rw [if_neg c57] at H
    have c57b0 : (t551 != t537) = false := by simpa using c57
    (try (have c57b1 : decide (t551 = t537) = true := by simpa using c57))
    (try (have c57b2 : (t551 == t537) = true := by simpa using c57))
    clear c57
    as_aux_lemma =>
     have H' := Aside0.mk H
     clear H
     obtain ⟨Ao63, co63, eo63⟩ := Kd.R_slice HO539.out
     subst eo63
     obtain ⟨Ao64, co64, eo64⟩ := Kd.R_slice HO543.out
     subst eo64
     go_wp2_with (first | (go_at_call 31; (with_reducible refine (laws_sameInts.calls k _ _ t536 _ _ t540 true _ ?side1 ?side2 ?side3 ?side4 A26.out).mono ?_); (case side1 => exact cR_ HO539); (case side2 => exact (Kd.R_reads' HO539.out).2.1); (case side3 => exact cR_ HO543); (case side4 => exact (Kd.R_reads' HO543.out).2.1); rintro e w' ⟨rfl, ⟨nd, rfl⟩⟩; (try exact dd_); obtain ⟨Ao65, co65, eo65⟩ := Kd.R_slice HO553.out; subst eo65; obtain ⟨Ao66, co66, eo66⟩ := Kd.R_slice HO557.out; subst eo66) | (go_at_call 32; (with_reducible refine (laws_pSameLoci.calls k _ _ t550 _ _ t554 true _ ?side1 ?side2 ?side3 ?side4 A36.out).mono ?_); (case side1 => exact cR_ HO553); (case side2 => exact (Kd.R_reads' HO553.out).2.1); (case side3 => exact cR_ HO557); (case side4 => exact (Kd.R_reads' HO557.out).2.1); rintro e w' ⟨rfl, ⟨nd, rfl⟩⟩; (try exact dd_)) | (go_at_call 33; (with_reducible refine (impl_AreLoci.calls k _ _ t533 t564 _ ?side1 ?side2 A44.out).mono ?_); (case side1 => exact cR_ HO535); (case side2 => exact (Kd.R_reads' HO535.out).2.1); rintro e w67 ⟨rfl, hb⟩; replace HO535 := aM_ (Kd.R_below (rR_ HO535) hb); replace HO539 := aM_ (Kd.R_below (rR_ HO539) hb); replace HO543 := aM_ (Kd.R_below (rR_ HO543) hb); replace HO553 := aM_ (Kd.R_below (rR_ HO553) hb); replace HO557 := aM_ (Kd.R_below (rR_ HO557) hb); replace HB := aM_ (below_step hB_ hb); (try clear hb)) | (go_quiet (first | (go_at_call 31; (with_reducible refine (laws_sameInts.calls k _ _ t536 _ _ t540 true _ ?side1 ?side2 ?side3 ?side4 A26.out).mono ?_); (case side1 => exact cR_ HO539); (case side2 => exact (Kd.R_reads' HO539.out).2.1); (case side3 => exact cR_ HO543); (case side4 => exact (Kd.R_reads' HO543.out).2.1); rintro e w' ⟨rfl, ⟨nd, rfl⟩⟩; (try exact dd_); obtain ⟨Ao65, co65, eo65⟩ := Kd.R_slice HO553.out; subst eo65; obtain ⟨Ao66, co66, eo66⟩ := Kd.R_slice HO557.out; subst eo66) | (go_at_call 32; (with_reducible refine (laws_pSameLoci.calls k _ _ t550 _ _ t554 true _ ?side1 ?side2 ?side3 ?side4 A36.out).mono ?_); (case side1 => exact cR_ HO553); (case side2 => exact (Kd.R_reads' HO553.out).2.1); (case side3 => exact cR_ HO557); (case side4 => exact (Kd.R_reads' HO557.out).2.1); rintro e w' ⟨rfl, ⟨nd, rfl⟩⟩; (try exact dd_)))))
     go_meet
     case rel => exact ⟨_, ((t559 != t537)), z17_0_, H', ⟨oR_⟩, ⟨(rM_ HO535 (fun _ hk => ⟨hk.1.2, hk.2⟩))⟩, ⟨(rT1_ HO543)⟩, ⟨(rM_ HO553 (fun _ hk => ⟨hk.1.2, hk.2⟩))⟩, ⟨(rM_ HO557 (fun _ hk => ⟨hk.1.2, hk.2⟩))⟩, ⟨hB_⟩⟩
   rw [if_pos c57] at H
   have c57b0 : (t551 != t537) = true := c57
   (try (have c57b1 : decide (t551 = t537) = false := by simpa using c57))
   (try (have c57b2 : (t551 == t537) = false := by simpa using c57))
   (try (have c57b3 : ¬ (t551 = t537) := by simpa using c57))
   clear c57
   as_aux_lemma =>
    have H' := Aside0.mk H
    clear H
    obtain ⟨Ao58, co58, eo58⟩ := Kd.R_slice HO539.out
    subst eo58
    obtain ⟨Ao59, co59, eo59⟩ := Kd.R_slice HO543.out
    subst eo59
    go_wp2_with (first | (go_at_call 31; (with_reducible refine (laws_sameInts.calls k _ _ t536 _ _ t540 true _ ?side1 ?side2 ?side3 ?side4 A26.out).mono ?_); (case side1 => exact cR_ HO539); (case side2 => exact (Kd.R_reads' HO539.out).2.1); (case side3 => exact cR_ HO543); (case side4 => exact (Kd.R_reads' HO543.out).2.1); rintro e w' ⟨rfl, ⟨nd, rfl⟩⟩; (try exact dd_); obtain ⟨Ao60, co60, eo60⟩ := Kd.R_slice HO553.out; subst eo60; obtain ⟨Ao61, co61, eo61⟩ := Kd.R_slice HO557.out; subst eo61) | (go_at_call 32; (with_reducible refine (laws_pSameLoci.calls k _ _ t550 _ _ t554 true _ ?side1 ?side2 ?side3 ?side4 A36.out).mono ?_); (case side1 => exact cR_ HO553); (case side2 => exact (Kd.R_reads' HO553.out).2.1); (case side3 => exact cR_ HO557); (case side4 => exact (Kd.R_reads' HO557.out).2.1); rintro e w' ⟨rfl, ⟨nd, rfl⟩⟩; (try exact dd_)) | (go_at_call 33; (with_reducible refine (impl_AreLoci.calls k _ _ t533 t564 _ ?side1 ?side2 A44.out).mono ?_); (case side1 => exact cR_ HO535); (case side2 => exact (Kd.R_reads' HO535.out).2.1); rintro e w62 ⟨rfl, hb⟩; replace HO535 := aM_ (Kd.R_below (rR_ HO535) hb); replace HO539 := aM_ (Kd.R_below (rR_ HO539) hb); replace HO543 := aM_ (Kd.R_below (rR_ HO543) hb); replace HO553 := aM_ (Kd.R_below (rR_ HO553) hb); replace HO557 := aM_ (Kd.R_below (rR_ HO557) hb); replace HB := aM_ (below_step hB_ hb); (try clear hb)) | (go_quiet (first | (go_at_call 31; (with_reducible refine (laws_sameInts.calls k _ _ t536 _ _ t540 true _ ?side1 ?side2 ?side3 ?side4 A26.out).mono ?_); (case side1 => exact cR_ HO539); (case side2 => exact (Kd.R_reads' HO539.out).2.1); (case side3 => exact cR_ HO543); (case side4 => exact (Kd.R_reads' HO543.out).2.1); rintro e w' ⟨rfl, ⟨nd, rfl⟩⟩; (try exact dd_); obtain ⟨Ao60, co60, eo60⟩ := Kd.R_slice HO553.out; subst eo60; obtain ⟨Ao61, co61, eo61⟩ := Kd.R_slice HO557.out; subst eo61) | (go_at_call 32; (with_reducible refine (laws_pSameLoci.calls k _ _ t550 _ _ t554 true _ ?side1 ?side2 ?side3 ?side4 A36.out).mono ?_); (case side1 => exact cR_ HO553); (case side2 => exact (Kd.R_reads' HO553.out).2.1); (case side3 => exact cR_ HO557); (case side4 => exact (Kd.R_reads' HO557.out).2.1); rintro e w' ⟨rfl, ⟨nd, rfl⟩⟩; (try exact dd_)))))
    go_meet
    case rel => exact ⟨_, (true), z17_0_, H', ⟨oR_⟩, ⟨(rM_ HO535 (fun _ hk => ⟨hk.1.2, hk.2⟩))⟩, ⟨(rT1_ HO543)⟩, ⟨(rM_ HO553 (fun _ hk => ⟨hk.1.2, hk.2⟩))⟩, ⟨(rM_ HO557 (fun _ hk => ⟨hk.1.2, hk.2⟩))⟩, ⟨hB_⟩⟩
 case rest =>
  as_aux_lemma =>
   clear HC14
   (try clear c1);(try clear c4)
   obtain ⟨kq, x162_13, rfl, HA, HJ13, HO_5, HO_8, HO_16, HO_18, HB⟩ := hcut
   cases kq with
   | zero => exact absurd HA.out (by simp [laws_FnPoints.j0])
   | succ kj13 =>
    as_aux_lemma =>
     have H := HA.out
     clear HA
     simp only [laws_FnPoints.j0] at H
     by_cases c82 : x162_13 = true
     ·subst c82
      replace H := ip_ H rfl
      as_aux_lemma =>
       obtain rfl := Option.some.inj H
       go_wp2
       repeat (go_quiet (fail); try go_wp2)
       go_ret
       exact ⟨rT_, hB_⟩
     replace c82 := Bool.eq_false_iff.mpr c82
     subst c82
     replace H := in_ H (show ¬ (false = true) by decide)
     have HC83 := Aside0.mk H
     clear H
     go_upto_if 163 with (fail)
     repeat (go_quiet (fail); go_upto_if 163 with (fail))
     go_cut [] (fun wc => ∃ (kq : Nat), Aside0 (laws_FnPoints.j5 kq l1 = some r) ∧ Aside0 (kq ≤ kj13) ∧ Aside0 (Below w.heap.size w wc))
     case first =>
      as_aux_lemma =>
       have H := HC83.out
       clear HC83
       by_cases c84 : t537 = true
       rotate_left
       ·replace c84 := Bool.eq_false_iff.mpr c84
        subst c84
        replace H := in_ H (show ¬ (false = true) by decide)
        as_aux_lemma =>
         have H' := Aside0.mk H
         clear H
         go_wp2
         repeat (go_quiet (fail); try go_wp2)
         go_meet
         case rel => exact ⟨_, H', ⟨by have := HJ13.out; first | omega | exact Nat.le_refl _⟩, ⟨hB_⟩⟩
       subst c84
       replace H := ip_ H rfl
       have H' := Aside0.mk H
       clear H
       obtain ⟨Ao85, co85, eo85⟩ := Kd.R_slice HO_8.out
       subst eo85
       go_wp2
       repeat (go_quiet (fail); try go_wp2)
       go_loopg [166] kj13 (fun kq v166 w' => ∃ (x166_2 : Int), v166 = .int .i64 x166_2 ∧ Aside0 (laws_FnPoints.l0 kq l1 t533 t547 t548 t550 t554 t558 t540 (t540.length : Int) x166_2 = some r) ∧ Aside0 (kq ≤ kj13) ∧ Aside0 (Kd.R k58 58 w' w.heap.size (fun k_ => some k_ ≠ (v552 : Value).ownBlock ∧ some k_ ≠ (v556 : Value).ownBlock) (.slice Ao16 t533.length co16) t533) ∧ Aside0 (Kd.R k58 58 w' w.heap.size (fun k_ => some k_ ≠ ((.slice Ao16 t533.length co16) : Value).ownBlock ∧ some k_ ≠ (v556 : Value).ownBlock) v552 t550) ∧ Aside0 (Kd.R k58 58 w' w.heap.size (fun k_ => some k_ ≠ ((.slice Ao16 t533.length co16) : Value).ownBlock ∧ some k_ ≠ (v552 : Value).ownBlock) v556 t554) ∧ Aside0 (Kd.R (Kd.int .i64) 3 w' w.heap.size (fun _ => True) (.slice Ao85 t540.length co85) t540) ∧ Aside0 (Below w.heap.size w w'))
       case atStart => exact ⟨(0), z17_0_, H', ⟨Nat.le_refl _⟩, ⟨(rR_ HO_5)⟩, ⟨(rR_ HO_16)⟩, ⟨(rR_ HO_18)⟩, ⟨rR_ HO_8⟩, ⟨hB_⟩⟩
       case round =>
        as_aux_lemma =>
         clear H'
         (try clear c1);(try clear c4);(try clear c82);(try clear c84)
         obtain ⟨x166_2, rfl, HA, HK2, HO_5, HO_16, HO_18, HO_164, HB⟩ := hrel
         cases gk with
         | zero => exact absurd HA.out (by simp [laws_FnPoints.l0])
         | succ k2 =>
          as_aux_lemma =>
           have H := HA.out
           clear HA
           simp only [laws_FnPoints.l0] at H
           replace H := iT_ H; obtain ⟨c86b0, H⟩ | ⟨c86b0, H⟩ := H
           ·(first | rw [c86b0] | (simp only [i64_w, i32_w]; rw [c86b0]) | skip)
            replace H := ig_ H; obtain ⟨c87b0, H⟩ := H
            replace H := ig_ H; obtain ⟨c88b0, H⟩ := H
            replace H := ob_ H; obtain ⟨⟨t566, t567⟩, A89, H⟩ := H; try dsimp only at H
            by_cases c90 : t567 = true
            ·subst c90
             replace H := ip_ H rfl
             as_aux_lemma =>
              obtain rfl := Option.some.inj H
              obtain ⟨⟨ad565, e565, hx565_0⟩, p565, q565⟩ := at2_ (Kd.at_int (Kd.R_reads' HO_164.out).2.2 x166_2); cases e565
              go_wp2_with (first | (go_at_call 34; (with_reducible refine (impl_PointsAt.calls k2 _ _ t533 (rd t540 x166_2) t566 true _ ?side1 ?side2 A89.out).mono ?_); (case side1 => exact cR_ HO_5); (case side2 => exact (Kd.R_reads' HO_5.out).2.1); rintro e w91 ⟨rfl, hb⟩; replace HO_5 := aM_ (Kd.R_below (rR_ HO_5) hb); replace HO_16 := aM_ (Kd.R_below (rR_ HO_16) hb); replace HO_18 := aM_ (Kd.R_below (rR_ HO_18) hb); replace HO_164 := aM_ (Kd.R_below (rR_ HO_164) hb); replace HB := aM_ (below_step hB_ hb); (try clear hb)) | (go_quiet (fail)))
              go_ret
              exact ⟨rT_, hB_⟩
            replace c90 := Bool.eq_false_iff.mpr c90
            subst c90
            replace H := in_ H (show ¬ (false = true) by decide)
            as_aux_lemma =>
             have H' := Aside0.mk H
             clear H
             obtain ⟨⟨ad565, e565, hx565_0⟩, p565, q565⟩ := at2_ (Kd.at_int (Kd.R_reads' HO_164.out).2.2 x166_2); cases e565
             go_wp2_with (first | (go_at_call 34; (with_reducible refine (impl_PointsAt.calls k2 _ _ t533 (rd t540 x166_2) t566 false _ ?side1 ?side2 A89.out).mono ?_); (case side1 => exact cR_ HO_5); (case side2 => exact (Kd.R_reads' HO_5.out).2.1); rintro e w92 ⟨rfl, hb⟩; replace HO_5 := aM_ (Kd.R_below (rR_ HO_5) hb); replace HO_16 := aM_ (Kd.R_below (rR_ HO_16) hb); replace HO_18 := aM_ (Kd.R_below (rR_ HO_18) hb); replace HO_164 := aM_ (Kd.R_below (rR_ HO_164) hb); replace HB := aM_ (below_step hB_ hb); (try clear hb)) | (go_quiet (fail)))
             go_roundg k2
             case measure => have := HJ13.out; have := HK2.out; omega
             case rel => exact ⟨(wrap64 (x166_2 + 1)), z17_0_, H', ⟨by have := HJ13.out; have := HK2.out; omega⟩, ⟨(rR_ HO_5)⟩, ⟨(rR_ HO_16)⟩, ⟨(rR_ HO_18)⟩, ⟨(rR_ HO_164)⟩, ⟨hB_⟩⟩
           (first | rw [c86b0] | (simp only [i64_w, i32_w]; rw [c86b0]) | skip)
           have H' := Aside0.mk H
           clear H
           go_wp2
           repeat (go_quiet (fail); try go_wp2)
           go_loopg [180] k2 (fun kq v180 w' => ∃ (x180_3 : Int), v180 = .int .i64 x180_3 ∧ Aside0 (laws_FnPoints.l1 kq l1 t533 t547 t548 t550 t554 t558 t533 (t533.length : Int) x180_3 = some r) ∧ Aside0 (kq ≤ k2) ∧ Aside0 (Kd.R k58 58 w' w.heap.size (fun k_ => some k_ ≠ (v552 : Value).ownBlock ∧ some k_ ≠ (v556 : Value).ownBlock) (.slice Ao16 t533.length co16) t533) ∧ Aside0 (Kd.R k58 58 w' w.heap.size (fun k_ => some k_ ≠ ((.slice Ao16 t533.length co16) : Value).ownBlock ∧ some k_ ≠ (v556 : Value).ownBlock ∧ some k_ ≠ ((.slice Ao16 t533.length co16) : Value).ownBlock) v552 t550) ∧ Aside0 (Kd.R k58 58 w' w.heap.size (fun k_ => some k_ ≠ ((.slice Ao16 t533.length co16) : Value).ownBlock ∧ some k_ ≠ (v552 : Value).ownBlock ∧ some k_ ≠ ((.slice Ao16 t533.length co16) : Value).ownBlock) v556 t554) ∧ Aside0 (Kd.R k58 58 w' w.heap.size (fun k_ => some k_ ≠ (v552 : Value).ownBlock ∧ some k_ ≠ (v556 : Value).ownBlock) (.slice Ao16 t533.length co16) t533) ∧ Aside0 (Below w.heap.size w w'))
           case atStart => exact ⟨(0), z17_0_, H', ⟨Nat.le_refl _⟩, ⟨(rR_ HO_5)⟩, ⟨rM_ HO_16 (fun _ hk => ⟨hk.1, ⟨hk.2, hk.1⟩⟩)⟩, ⟨rM_ HO_18 (fun _ hk => ⟨hk.1, ⟨hk.2, hk.1⟩⟩)⟩, ⟨(rR_ HO_5)⟩, ⟨hB_⟩⟩
           case round =>
            as_aux_lemma =>
             clear H'
             (try clear c1);(try clear c4);(try clear c82);(try clear c84);(try clear c86);(try clear c86b0)
             obtain ⟨x180_3, rfl, HA, HK3, HO_5, HO_16, HO_18, HO_178, HB⟩ := hrel
             cases gk with
             | zero => exact absurd HA.out (by simp [laws_FnPoints.l1])
             | succ k3 =>
              as_aux_lemma =>
               have H := HA.out
               clear HA
               simp only [laws_FnPoints.l1] at H
               replace H := iT_ H; obtain ⟨c93b0, H⟩ | ⟨c93b0, H⟩ := H
               ·replace H := ig_ H; obtain ⟨c94b0, H⟩ := H
                replace H := ig_ H; obtain ⟨c95b0, H⟩ := H
                replace H := ob_ H; obtain ⟨t570, A96, H⟩ := H; try dsimp only at H
                replace H := iT_ H; obtain ⟨c97b0, H⟩ | ⟨c97b0, H⟩ := H
                ·as_aux_lemma =>
                  obtain rfl := Option.some.inj H
                  obtain ⟨⟨ad568, e568, hx568_0, hx568_1⟩, p568, q568⟩ := at2_ (at_T58 (Kd.R_reads' HO_178.out).2.2 x180_3); cases e568
                  go_wp2_with (first | ((with_reducible refine gate_dst (N := 29) rfl ?_); (try (refine gate_guard (by rfl) ?_; dsimp only)); refine bx_ 29 #[.string (⟨#[]⟩ : ByteArray), .int .i64 0] 58 fun gb569 hg w98 hbox hb => ?_; have BK569 := aM_ (hbox); have GW569 := aM_ (gw_ w hg); have GE569 := aM_ (gw_ w hg); replace HO_5 := aM_ (Kd.R_below (Kd.R_elderB (rR_ HO_5) gb569 (Nat.le_of_eq hg.symm)) hb); replace HO_16 := aM_ (Kd.R_below (Kd.R_elderB (rR_ HO_16) gb569 (Nat.le_of_eq hg.symm)) hb); replace HO_18 := aM_ (Kd.R_below (Kd.R_elderB (rR_ HO_18) gb569 (Nat.le_of_eq hg.symm)) hb); replace HO_178 := aM_ (Kd.R_below (Kd.R_elderB (rR_ HO_178) gb569 (Nat.le_of_eq hg.symm)) hb); replace HB := aM_ (below_step hB_ hb); clear hb hbox hg; have hz99 := cf2_ BK569.out) | (go_at_call 35; (with_reducible refine (laws_pAbs.calls (wrap64 (((rd_T58 t533 x180_3).f1) - t547)) t570 _ A96.out).mono ?_); rintro e w' ⟨rfl, ⟨nd, rfl⟩⟩; (try exact dd_)) | (go_quiet (first | (go_at_call 35; (with_reducible refine (laws_pAbs.calls (wrap64 (((rd_T58 t533 x180_3).f1) - t547)) t570 _ A96.out).mono ?_); rintro e w' ⟨rfl, ⟨nd, rfl⟩⟩; (try exact dd_)))))
                  go_ret
                  exact ⟨rT_, hB_⟩
                as_aux_lemma =>
                 have H' := Aside0.mk H
                 clear H
                 obtain ⟨⟨ad568, e568, hx568_0, hx568_1⟩, p568, q568⟩ := at2_ (at_T58 (Kd.R_reads' HO_178.out).2.2 x180_3); cases e568
                 go_wp2_with (first | ((with_reducible refine gate_dst (N := 29) rfl ?_); (try (refine gate_guard (by rfl) ?_; dsimp only)); refine bx_ 29 #[.string (⟨#[]⟩ : ByteArray), .int .i64 0] 58 fun gb569 hg w100 hbox hb => ?_; have BK569 := aM_ (hbox); have GW569 := aM_ (gw_ w hg); have GE569 := aM_ (gw_ w hg); replace HO_5 := aM_ (Kd.R_below (Kd.R_elderB (rR_ HO_5) gb569 (Nat.le_of_eq hg.symm)) hb); replace HO_16 := aM_ (Kd.R_below (Kd.R_elderB (rR_ HO_16) gb569 (Nat.le_of_eq hg.symm)) hb); replace HO_18 := aM_ (Kd.R_below (Kd.R_elderB (rR_ HO_18) gb569 (Nat.le_of_eq hg.symm)) hb); replace HO_178 := aM_ (Kd.R_below (Kd.R_elderB (rR_ HO_178) gb569 (Nat.le_of_eq hg.symm)) hb); replace HB := aM_ (below_step hB_ hb); clear hb hbox hg; have hz101 := cf2_ BK569.out) | (go_at_call 35; (with_reducible refine (laws_pAbs.calls (wrap64 (((rd_T58 t533 x180_3).f1) - t547)) t570 _ A96.out).mono ?_); rintro e w' ⟨rfl, ⟨nd, rfl⟩⟩; (try exact dd_)) | (go_quiet (first | (go_at_call 35; (with_reducible refine (laws_pAbs.calls (wrap64 (((rd_T58 t533 x180_3).f1) - t547)) t570 _ A96.out).mono ?_); rintro e w' ⟨rfl, ⟨nd, rfl⟩⟩; (try exact dd_)))))
                 go_roundg k3
                 case measure => have := HJ13.out; have := HK2.out; have := HK3.out; omega
                 case rel => exact ⟨(wrap64 (x180_3 + 1)), z17_0_, H', ⟨by have := HJ13.out; have := HK2.out; have := HK3.out; omega⟩, ⟨by (with_reducible repeat (first | apply rA_ | apply rN_ | apply rD_)); exact Kd.R_mono (Kd.R_far (p := ⟨gb569, 1, none⟩) (Kd.R_far (p := ⟨gb569, 0, none⟩) (Kd.R_mono HO_5.out (fun k_ hk => (⟨hk, hk.2⟩ : _ ∧ k_ ≠ gb569))) (fun _ hk => hk.2) (.string ((rd_T58 t533 x180_3).f0))) (fun _ hk => hk.2) (.int .i64 ((rd_T58 t533 x180_3).f1))) (fun _ hk => ⟨hk.1.1.1, hk.1.1.2⟩)⟩, ⟨by (with_reducible repeat (first | apply rA_ | apply rN_ | apply rD_)); exact Kd.R_mono (Kd.R_far (p := ⟨gb569, 1, none⟩) (Kd.R_far (p := ⟨gb569, 0, none⟩) (Kd.R_mono HO_16.out (fun k_ hk => (⟨hk, hk.2⟩ : _ ∧ k_ ≠ gb569))) (fun _ hk => hk.2) (.string ((rd_T58 t533 x180_3).f0))) (fun _ hk => hk.2) (.int .i64 ((rd_T58 t533 x180_3).f1))) (fun _ hk => ⟨hk.1.1.1, ⟨hk.1.1.2.1, hk.1.1.2.2⟩⟩)⟩, ⟨by (with_reducible repeat (first | apply rA_ | apply rN_ | apply rD_)); exact Kd.R_mono (Kd.R_far (p := ⟨gb569, 1, none⟩) (Kd.R_far (p := ⟨gb569, 0, none⟩) (Kd.R_mono HO_18.out (fun k_ hk => (⟨hk, hk.2⟩ : _ ∧ k_ ≠ gb569))) (fun _ hk => hk.2) (.string ((rd_T58 t533 x180_3).f0))) (fun _ hk => hk.2) (.int .i64 ((rd_T58 t533 x180_3).f1))) (fun _ hk => ⟨hk.1.1.1, ⟨hk.1.1.2.1, hk.1.1.2.2⟩⟩)⟩, ⟨by (with_reducible repeat (first | apply rA_ | apply rN_ | apply rD_)); exact Kd.R_mono (Kd.R_far (p := ⟨gb569, 1, none⟩) (Kd.R_far (p := ⟨gb569, 0, none⟩) (Kd.R_mono HO_178.out (fun k_ hk => (⟨hk, hk.2⟩ : _ ∧ k_ ≠ gb569))) (fun _ hk => hk.2) (.string ((rd_T58 t533 x180_3).f0))) (fun _ hk => hk.2) (.int .i64 ((rd_T58 t533 x180_3).f1))) (fun _ hk => ⟨hk.1.1.1, hk.1.1.2⟩)⟩, ⟨hB_⟩⟩
               replace H := ob_ H; obtain ⟨⟨t571, t572⟩, A102, H⟩ := H; try dsimp only at H
               have HC103 := Aside0.mk H
               clear H
               go_upto_region 29 with (first | (go_at_call 36; (with_reducible refine (impl_ParseLoci.calls k3 t558 t571 t572 _ ?side1 A102.out).mono ?_); (case side1 => exact TabW.below HT.out hB_); rintro e w104 ⟨v573, rfl, ho0, hb⟩; have HO574 := aM_ (Kd.R_lower (Kd.R_new' (Kd.R_new' (Kd.R_new' (Kd.R_new' ho0 (Kd.R_lt (rR_ HO_5))) (Kd.R_lt (rR_ HO_16))) (Kd.R_lt (rR_ HO_18))) (Kd.R_lt (rR_ HO_178))) (below_size hB_)); replace HO_5 := aM_ (Kd.R_elder' (rR_ HO_5) (Kd.R_base ho0) hb); replace HO_16 := aM_ (Kd.R_elder' (rR_ HO_16) (Kd.R_base ho0) hb); replace HO_18 := aM_ (Kd.R_elder' (rR_ HO_18) (Kd.R_base ho0) hb); replace HO_178 := aM_ (Kd.R_elder' (rR_ HO_178) (Kd.R_base ho0) hb); replace HB := aM_ (below_step hB_ hb); (try clear hb); (try clear ho0)) | (go_quiet (fail)))
               (try simp only [Act.put, List.setIfInBounds_toArray, List.set_cons_zero, List.set_cons_succ])
               go_cut [216] (fun v216 wc => ∃ (kq : Nat) (x216_102 : Bool), v216 = .bool x216_102 ∧ Aside0 (laws_FnPoints.j3 kq l1 t533 t554 x216_102 = some r) ∧ Aside0 (kq ≤ k3) ∧ Aside0 (Kd.R k58 58 wc w.heap.size (fun k_ => some k_ ≠ (v556 : Value).ownBlock) (.slice Ao16 t533.length co16) t533) ∧ Aside0 (Kd.R k58 58 wc w.heap.size (fun k_ => some k_ ≠ ((.slice Ao16 t533.length co16) : Value).ownBlock) v556 t554) ∧ Aside0 (Below w.heap.size w wc))
               case first =>
                as_aux_lemma =>
                 have H := HC103.out
                 clear HC103
                 replace H := ob_ H; obtain ⟨t575, A105, H⟩ := H; try dsimp only at H
                 by_cases c106 : t575 = true
                 rotate_left
                 ·replace c106 := Bool.eq_false_iff.mpr c106
                  subst c106
                  replace H := in_ H (show ¬ (false = true) by decide)
                  as_aux_lemma =>
                   have H' := Aside0.mk H
                   clear H
                   obtain ⟨Ao120, co120, eo120⟩ := Kd.R_slice HO_16.out
                   subst eo120
                   go_wp2_with (first | (go_at_call 33; (with_reducible refine (impl_AreLoci.calls k3 _ _ t550 false _ ?side1 ?side2 A105.out).mono ?_); (case side1 => exact cR_ HO_16); (case side2 => exact (Kd.R_reads' HO_16.out).2.1); rintro e w121 ⟨rfl, hb⟩; replace HO_5 := aM_ (Kd.R_below (rR_ HO_5) hb); replace HO_16 := aM_ (Kd.R_below (rR_ HO_16) hb); replace HO_18 := aM_ (Kd.R_below (rR_ HO_18) hb); replace HO_178 := aM_ (Kd.R_below (rR_ HO_178) hb); replace HO574 := aM_ (Kd.R_below (rR_ HO574) hb); replace HB := aM_ (below_step hB_ hb); (try clear hb)) | (go_quiet (fail)))
                   go_meet
                   case rel => exact ⟨_, (true), z17_0_, H', ⟨z17_1_⟩, ⟨(rM_ HO_5 (fun _ hk => hk.1.2))⟩, ⟨(rM_ HO_18 (fun _ hk => hk.1.1))⟩, ⟨hB_⟩⟩
                 subst c106
                 replace H := ip_ H rfl
                 by_cases c107 : (t554.length : Int) = (t533.length : Int)
                 rotate_left
                 ·rw [if_neg c107] at H
                  have c107b0 : ((t554.length : Int) == (t533.length : Int)) = false := beq_eq_false_iff_ne.mpr c107
                  have c107b1 : ((t554.length : Int) != (t533.length : Int)) = true := bne_iff_ne.mpr c107
                  have c107b2 : (t554.length == t533.length) = false := by first | simpa using c107 | (simp at c107 ⊢; omega)
                  (first | rw [c107b0] | (simp only [i64_w, i32_w]; rw [c107b0]) | skip)
                  as_aux_lemma =>
                   have H' := Aside0.mk H
                   clear H
                   obtain ⟨Ao117, co117, eo117⟩ := Kd.R_slice HO_16.out
                   subst eo117
                   go_wp2_with (first | (go_at_call 33; (with_reducible refine (impl_AreLoci.calls k3 _ _ t550 true _ ?side1 ?side2 A105.out).mono ?_); (case side1 => exact cR_ HO_16); (case side2 => exact (Kd.R_reads' HO_16.out).2.1); rintro e w118 ⟨rfl, hb⟩; replace HO_5 := aM_ (Kd.R_below (rR_ HO_5) hb); replace HO_16 := aM_ (Kd.R_below (rR_ HO_16) hb); replace HO_18 := aM_ (Kd.R_below (rR_ HO_18) hb); replace HO_178 := aM_ (Kd.R_below (rR_ HO_178) hb); replace HO574 := aM_ (Kd.R_below (rR_ HO574) hb); replace HB := aM_ (below_step hB_ hb); (try clear hb); obtain ⟨Ao119, co119, eo119⟩ := Kd.R_slice HO_18.out; subst eo119) | (go_quiet (fail)))
                   go_meet
                   case rel => exact ⟨_, (true), z17_0_, H', ⟨z17_1_⟩, ⟨(rM_ HO_5 (fun _ hk => hk.1.2))⟩, ⟨(rM_ HO_18 (fun _ hk => hk.1.1))⟩, ⟨hB_⟩⟩
                 rw [if_pos c107] at H
                 have c107b0 : ((t554.length : Int) == (t533.length : Int)) = true := beq_iff_eq.mpr c107
                 have c107b1 : ((t554.length : Int) != (t533.length : Int)) = false := bne_eq_false_iff_eq.mpr c107
                 have c107b2 : (t554.length == t533.length) = true := by first | simpa using c107 | (simp at c107 ⊢; omega)
                 clear c107
                 (first | rw [c107b0] | (simp only [i64_w, i32_w]; rw [c107b0]) | skip)
                 by_cases c108 : t572 = true
                 rotate_left
                 ·replace c108 := Bool.eq_false_iff.mpr c108
                  subst c108
                  replace H := in_ H (show ¬ (false = true) by decide)
                  as_aux_lemma =>
                   have H' := Aside0.mk H
                   clear H
                   obtain ⟨Ao114, co114, eo114⟩ := Kd.R_slice HO_16.out
                   subst eo114
                   go_wp2_with (first | (go_at_call 33; (with_reducible refine (impl_AreLoci.calls k3 _ _ t550 true _ ?side1 ?side2 A105.out).mono ?_); (case side1 => exact cR_ HO_16); (case side2 => exact (Kd.R_reads' HO_16.out).2.1); rintro e w115 ⟨rfl, hb⟩; replace HO_5 := aM_ (Kd.R_below (rR_ HO_5) hb); replace HO_16 := aM_ (Kd.R_below (rR_ HO_16) hb); replace HO_18 := aM_ (Kd.R_below (rR_ HO_18) hb); replace HO_178 := aM_ (Kd.R_below (rR_ HO_178) hb); replace HO574 := aM_ (Kd.R_below (rR_ HO574) hb); replace HB := aM_ (below_step hB_ hb); (try clear hb); obtain ⟨Ao116, co116, eo116⟩ := Kd.R_slice HO_18.out; subst eo116) | (go_quiet (fail)))
                   go_meet
                   case rel => exact ⟨_, (true), z17_0_, H', ⟨z17_1_⟩, ⟨(rM_ HO_5 (fun _ hk => hk.1.2))⟩, ⟨(rM_ HO_18 (fun _ hk => hk.1.1))⟩, ⟨hB_⟩⟩
                 subst c108
                 replace H := ip_ H rfl
                 replace H := ob_ H; obtain ⟨t576, A109, H⟩ := H; try dsimp only at H
                 as_aux_lemma =>
                  have H' := Aside0.mk H
                  clear H
                  obtain ⟨Ao110, co110, eo110⟩ := Kd.R_slice HO_16.out
                  subst eo110
                  go_wp2_with (first | (go_at_call 33; (with_reducible refine (impl_AreLoci.calls k3 _ _ t550 true _ ?side1 ?side2 A105.out).mono ?_); (case side1 => exact cR_ HO_16); (case side2 => exact (Kd.R_reads' HO_16.out).2.1); rintro e w111 ⟨rfl, hb⟩; replace HO_5 := aM_ (Kd.R_below (rR_ HO_5) hb); replace HO_16 := aM_ (Kd.R_below (rR_ HO_16) hb); replace HO_18 := aM_ (Kd.R_below (rR_ HO_18) hb); replace HO_178 := aM_ (Kd.R_below (rR_ HO_178) hb); replace HO574 := aM_ (Kd.R_below (rR_ HO574) hb); replace HB := aM_ (below_step hB_ hb); (try clear hb); obtain ⟨Ao112, co112, eo112⟩ := Kd.R_slice HO_18.out; subst eo112; obtain ⟨Ao113, co113, eo113⟩ := Kd.R_slice HO574.out; subst eo113) | (go_at_call 32; (with_reducible refine (laws_pSameLoci.calls k3 _ _ t571 _ _ t533 t576 _ ?side1 ?side2 ?side3 ?side4 A109.out).mono ?_); (case side1 => exact cR_ HO574); (case side2 => exact (Kd.R_reads' HO574.out).2.1); (case side3 => exact cR_ HO_5); (case side4 => exact (Kd.R_reads' HO_5.out).2.1); rintro e w' ⟨rfl, ⟨nd, rfl⟩⟩; (try exact dd_)) | (go_quiet (first | (go_at_call 32; (with_reducible refine (laws_pSameLoci.calls k3 _ _ t571 _ _ t533 t576 _ ?side1 ?side2 ?side3 ?side4 A109.out).mono ?_); (case side1 => exact cR_ HO574); (case side2 => exact (Kd.R_reads' HO574.out).2.1); (case side3 => exact cR_ HO_5); (case side4 => exact (Kd.R_reads' HO_5.out).2.1); rintro e w' ⟨rfl, ⟨nd, rfl⟩⟩; (try exact dd_)))))
                  go_meet
                  case rel => exact ⟨_, (!t576), z17_0_, H', ⟨z17_1_⟩, ⟨(rM_ HO_5 (fun _ hk => hk.1.2))⟩, ⟨(rM_ HO_18 (fun _ hk => hk.1.1))⟩, ⟨hB_⟩⟩
               case rest =>
                as_aux_lemma =>
                 clear HC103
                 (try clear c1);(try clear c4);(try clear c82);(try clear c84);(try clear c86);(try clear c86b0);(try clear c93);(try clear c93b0)
                 obtain ⟨kq, x216_102, rfl, HA, HJ102, HO_5, HO_18, HB⟩ := hcut
                 cases kq with
                 | zero => exact absurd HA.out (by simp [laws_FnPoints.j3])
                 | succ kj102 =>
                  as_aux_lemma =>
                   have H := HA.out
                   clear HA
                   simp only [laws_FnPoints.j3] at H
                   by_cases c122 : x216_102 = true
                   ·subst c122
                    replace H := ip_ H rfl
                    as_aux_lemma =>
                     obtain rfl := Option.some.inj H
                     go_wp2
                     repeat (go_quiet (fail); try go_wp2)
                     go_ret
                     exact ⟨rT_, hB_⟩
                   replace c122 := Bool.eq_false_iff.mpr c122
                   subst c122
                   replace H := in_ H (show ¬ (false = true) by decide)
                   have H' := Aside0.mk H
                   clear H
                   obtain ⟨Ao123, co123, eo123⟩ := Kd.R_slice HO_18.out
                   subst eo123
                   go_wp2
                   repeat (go_quiet (fail); try go_wp2)
                   go_loopg [219] kj102 (fun kq v219 w' => ∃ (x219_5 : Int), v219 = .int .i64 x219_5 ∧ Aside0 (laws_FnPoints.l2 kq l1 t533 t554 (t554.length : Int) x219_5 = some r) ∧ Aside0 (kq ≤ kj102) ∧ Aside0 (Kd.R k58 58 w' w.heap.size (fun k_ => some k_ ≠ ((.slice Ao123 t554.length co123) : Value).ownBlock) (.slice Ao16 t533.length co16) t533) ∧ Aside0 (Kd.R k58 58 w' w.heap.size (fun k_ => some k_ ≠ ((.slice Ao16 t533.length co16) : Value).ownBlock) (.slice Ao123 t554.length co123) t554) ∧ Aside0 (Below w.heap.size w w'))
                   case atStart => exact ⟨(0), z17_0_, H', ⟨Nat.le_refl _⟩, ⟨(rR_ HO_5)⟩, ⟨(rR_ HO_18)⟩, ⟨hB_⟩⟩
                   case round =>
                    as_aux_lemma =>
                     clear H'
                     (try clear c1);(try clear c4);(try clear c82);(try clear c84);(try clear c86);(try clear c86b0);(try clear c93);(try clear c93b0);(try clear c122)
                     obtain ⟨x219_5, rfl, HA, HK5, HO_5, HO_217, HB⟩ := hrel
                     cases gk with
                     | zero => exact absurd HA.out (by simp [laws_FnPoints.l2])
                     | succ k5 =>
                      as_aux_lemma =>
                       have H := HA.out
                       clear HA
                       simp only [laws_FnPoints.l2] at H
                       replace H := iF_ H; obtain ⟨c124b0, H⟩ | ⟨c124b0, H⟩ := H
                       ·as_aux_lemma =>
                         have H' := Aside0.mk H
                         clear H
                         go_wp2
                         repeat (go_quiet (fail); try go_wp2)
                         go_meet
                         case rel => exact ⟨_, H', ⟨by have := HJ13.out; have := HK2.out; have := HK3.out; have := HJ102.out; have := HK5.out; first | omega | exact Nat.le_refl _⟩, ⟨hB_⟩⟩
                       replace H := ig_ H; obtain ⟨c125b0, H⟩ := H
                       replace H := ig_ H; obtain ⟨c126b0, H⟩ := H
                       replace H := ig_ H; obtain ⟨c127b0, H⟩ := H
                       by_cases c128 : ((rd_T58 t554 x219_5).f0).toList = ((rd_T58 t533 x219_5).f0).toList
                       rotate_left
                       ·rw [if_neg c128] at H
                        have c128b0 : (((rd_T58 t554 x219_5).f0).toList == ((rd_T58 t533 x219_5).f0).toList) = false := beq_eq_false_iff_ne.mpr c128
                        have c128b1 : (((rd_T58 t554 x219_5).f0).toList != ((rd_T58 t533 x219_5).f0).toList) = true := bne_iff_ne.mpr c128
                        as_aux_lemma =>
                         obtain rfl := Option.some.inj H
                         obtain ⟨⟨ad577, e577, hx577_0, hx577_1⟩, p577, q577⟩ := at2_ (at_T58 (Kd.R_reads' HO_217.out).2.2 x219_5); cases e577
                         go_wp2_with (first | ((with_reducible refine gate_dst (N := 33) rfl ?_); (try (refine gate_guard (by rfl) ?_; dsimp only)); refine bx_ 33 #[.string (⟨#[]⟩ : ByteArray), .int .i64 0] 58 fun gb578 hg w131 hbox hb => ?_; have BK578 := aM_ (hbox); have GW578 := aM_ (gw_ w hg); have GE578 := aM_ (gw_ w hg); replace HO_5 := aM_ (Kd.R_below (Kd.R_elderB (rR_ HO_5) gb578 (Nat.le_of_eq hg.symm)) hb); replace HO_217 := aM_ (Kd.R_below (Kd.R_elderB (rR_ HO_217) gb578 (Nat.le_of_eq hg.symm)) hb); replace HB := aM_ (below_step hB_ hb); clear hb hbox hg; have hz132 := cf2_ BK578.out; have p579 : 0 ≤ (x219_5 : Int) := ode_; have q579 : x219_5 < (t533.length : Int) := ode_; obtain ⟨ad579, e579, hx579_0, hx579_1⟩ := at_T58 (Kd.R_reads' HO_5.out).2.2 x219_5 p579 q579; cases e579; have hn579_0 : ad579.block ≠ gb578 := Kd.own_blk (Kd.R_away HO_5.out (fun _ hk => hk.2)); have hn579_1 : ad579.block ≠ gb578 := Kd.own_blk (Kd.R_away HO_5.out (fun _ hk => hk.2)); replace hx579_0 := (cell_far (p := ⟨gb578, 0, none⟩) z17_2_ (.string ((rd_T58 t554 x219_5).f0))).trans hx579_0; replace hx579_1 := (cell_far (p := ⟨gb578, 0, none⟩) z17_2_ (.string ((rd_T58 t554 x219_5).f0))).trans hx579_1; replace hx579_0 := (cell_far (p := ⟨gb578, 1, none⟩) z17_3_ (.int .i64 ((rd_T58 t554 x219_5).f1))).trans hx579_0; replace hx579_1 := (cell_far (p := ⟨gb578, 1, none⟩) z17_3_ (.int .i64 ((rd_T58 t554 x219_5).f1))).trans hx579_1; (try have hy579_0 := fun (n_ : Nat) => (show ((((w131.drewN n_).setCell ⟨gb578, 0, none⟩ (.string ((rd_T58 t554 x219_5).f0))).setCell ⟨gb578, 1, none⟩ (.int .i64 ((rd_T58 t554 x219_5).f1)))).cell? _ = some _ from hx579_0)); (try have hy579_1 := fun (n_ : Nat) => (show ((((w131.drewN n_).setCell ⟨gb578, 0, none⟩ (.string ((rd_T58 t554 x219_5).f0))).setCell ⟨gb578, 1, none⟩ (.int .i64 ((rd_T58 t554 x219_5).f1)))).cell? _ = some _ from hx579_1)); clear hn579_0; clear hn579_1; replace p579 := eq_true p579; replace q579 := eq_true q579) | (go_quiet (fail)))
                         go_ret
                         exact ⟨rT_, hB_⟩
                       rw [if_pos c128] at H
                       have c128b0 : (((rd_T58 t554 x219_5).f0).toList == ((rd_T58 t533 x219_5).f0).toList) = true := beq_iff_eq.mpr c128
                       have c128b1 : (((rd_T58 t554 x219_5).f0).toList != ((rd_T58 t533 x219_5).f0).toList) = false := bne_eq_false_iff_eq.mpr c128
                       clear c128
                       as_aux_lemma =>
                        have H' := Aside0.mk H
                        clear H
                        obtain ⟨⟨ad577, e577, hx577_0, hx577_1⟩, p577, q577⟩ := at2_ (at_T58 (Kd.R_reads' HO_217.out).2.2 x219_5); cases e577
                        go_wp2_with (first | ((with_reducible refine gate_dst (N := 33) rfl ?_); (try (refine gate_guard (by rfl) ?_; dsimp only)); refine bx_ 33 #[.string (⟨#[]⟩ : ByteArray), .int .i64 0] 58 fun gb578 hg w129 hbox hb => ?_; have BK578 := aM_ (hbox); have GW578 := aM_ (gw_ w hg); have GE578 := aM_ (gw_ w hg); replace HO_5 := aM_ (Kd.R_below (Kd.R_elderB (rR_ HO_5) gb578 (Nat.le_of_eq hg.symm)) hb); replace HO_217 := aM_ (Kd.R_below (Kd.R_elderB (rR_ HO_217) gb578 (Nat.le_of_eq hg.symm)) hb); replace HB := aM_ (below_step hB_ hb); clear hb hbox hg; have hz130 := cf2_ BK578.out; have p579 : 0 ≤ (x219_5 : Int) := ode_; have q579 : x219_5 < (t533.length : Int) := ode_; obtain ⟨ad579, e579, hx579_0, hx579_1⟩ := at_T58 (Kd.R_reads' HO_5.out).2.2 x219_5 p579 q579; cases e579; have hn579_0 : ad579.block ≠ gb578 := Kd.own_blk (Kd.R_away HO_5.out (fun _ hk => hk.2)); have hn579_1 : ad579.block ≠ gb578 := Kd.own_blk (Kd.R_away HO_5.out (fun _ hk => hk.2)); replace hx579_0 := (cell_far (p := ⟨gb578, 0, none⟩) z17_2_ (.string ((rd_T58 t554 x219_5).f0))).trans hx579_0; replace hx579_1 := (cell_far (p := ⟨gb578, 0, none⟩) z17_2_ (.string ((rd_T58 t554 x219_5).f0))).trans hx579_1; replace hx579_0 := (cell_far (p := ⟨gb578, 1, none⟩) z17_3_ (.int .i64 ((rd_T58 t554 x219_5).f1))).trans hx579_0; replace hx579_1 := (cell_far (p := ⟨gb578, 1, none⟩) z17_3_ (.int .i64 ((rd_T58 t554 x219_5).f1))).trans hx579_1; (try have hy579_0 := fun (n_ : Nat) => (show ((((w129.drewN n_).setCell ⟨gb578, 0, none⟩ (.string ((rd_T58 t554 x219_5).f0))).setCell ⟨gb578, 1, none⟩ (.int .i64 ((rd_T58 t554 x219_5).f1)))).cell? _ = some _ from hx579_0)); (try have hy579_1 := fun (n_ : Nat) => (show ((((w129.drewN n_).setCell ⟨gb578, 0, none⟩ (.string ((rd_T58 t554 x219_5).f0))).setCell ⟨gb578, 1, none⟩ (.int .i64 ((rd_T58 t554 x219_5).f1)))).cell? _ = some _ from hx579_1)); clear hn579_0; clear hn579_1; replace p579 := eq_true p579; replace q579 := eq_true q579) | (go_quiet (fail)))
                        go_roundg k5
                        case measure => have := HJ13.out; have := HK2.out; have := HK3.out; have := HJ102.out; have := HK5.out; omega
                        case rel => exact ⟨(wrap64 (x219_5 + 1)), z17_0_, H', ⟨by have := HJ13.out; have := HK2.out; have := HK3.out; have := HJ102.out; have := HK5.out; omega⟩, ⟨by (with_reducible repeat (first | apply rA_ | apply rN_ | apply rD_)); exact Kd.R_mono (Kd.R_far (p := ⟨gb578, 1, none⟩) (Kd.R_far (p := ⟨gb578, 0, none⟩) (Kd.R_mono HO_5.out (fun k_ hk => (⟨hk, hk.2⟩ : _ ∧ k_ ≠ gb578))) (fun _ hk => hk.2) (.string ((rd_T58 t554 x219_5).f0))) (fun _ hk => hk.2) (.int .i64 ((rd_T58 t554 x219_5).f1))) (fun _ hk => hk.1.1)⟩, ⟨by (with_reducible repeat (first | apply rA_ | apply rN_ | apply rD_)); exact Kd.R_mono (Kd.R_far (p := ⟨gb578, 1, none⟩) (Kd.R_far (p := ⟨gb578, 0, none⟩) (Kd.R_mono HO_217.out (fun k_ hk => (⟨hk, hk.2⟩ : _ ∧ k_ ≠ gb578))) (fun _ hk => hk.2) (.string ((rd_T58 t554 x219_5).f0))) (fun _ hk => hk.2) (.int .i64 ((rd_T58 t554 x219_5).f1))) (fun _ hk => hk.1.1)⟩, ⟨hB_⟩⟩
     case rest =>
      as_aux_lemma =>
       clear HC83
       (try clear c1);(try clear c4);(try clear c82)
       obtain ⟨kq, HA, HJ82, HB⟩ := hcut
       cases kq with
       | zero => exact absurd HA.out (by simp [laws_FnPoints.j5])
       | succ kj82 =>
        as_aux_lemma =>
         have H := HA.out
         clear HA
         simp only [laws_FnPoints.j5] at H
         replace H := ob_ H; obtain ⟨⟨t580, t581⟩, A133, H⟩ := H; try dsimp only at H
         replace H := ob_ H; obtain ⟨⟨t584, t585⟩, A134, H⟩ := H; try dsimp only at H
         replace H := ob_ H; obtain ⟨⟨t588, t589⟩, A135, H⟩ := H; try dsimp only at H
         replace H := ob_ H; obtain ⟨t592, A136, H⟩ := H; try dsimp only at H
         replace H := ob_ H; obtain ⟨⟨t593, t594⟩, A137, H⟩ := H; try dsimp only at H
         replace H := ob_ H; obtain ⟨⟨t597, t598⟩, A138, H⟩ := H; try dsimp only at H
         have HC139 := Aside0.mk H
         clear H
         go_upto_region 43 with (first | (go_at_call 37; (with_reducible refine (spec_DrawRunPoints.calls kj82 _ _ l1 t580 t581 _ ?side1 ?side2 A133.out).mono ?_); (case side1 => exact z17_4_); (case side2 => exact HC1.out); rintro e w140 ⟨v582, rfl, ho0, hb⟩; have HO583 := aM_ (Kd.R_lower ho0 (below_size hB_)); replace HB := aM_ (below_step hB_ hb); (try clear hb); (try clear ho0); obtain ⟨Ao141, co141, eo141⟩ := Kd.R_slice HO583.out; subst eo141) | (go_at_call 38; (with_reducible refine (impl_RunPoints.calls kj82 _ _ t580 t581 t584 t585 _ ?side3 ?side1 ?side2 A134.out).mono ?_); (case side1 => exact cR_ HO583); (case side2 => exact (Kd.R_reads' HO583.out).2.1); (case side3 => exact TabW.below HT.out hB_); rintro e w142 ⟨v586, rfl, ho0, hb⟩; have HO587 := aM_ (Kd.R_lower ho0 (below_size hB_)); replace HO583 := aM_ (Kd.R_below (rR_ HO583) hb); replace HB := aM_ (below_step hB_ hb); (try clear hb); (try clear ho0)) | (go_at_call 39; (with_reducible refine (spec_RunPoints.calls kj82 _ _ t580 t581 t588 t589 _ ?side1 ?side2 A135.out).mono ?_); (case side1 => exact cR_ HO583); (case side2 => exact (Kd.R_reads' HO583.out).2.1); rintro e w143 ⟨v590, rfl, ho0, hb⟩; have HO591 := aM_ (Kd.R_lower (Kd.R_new' ho0 (Kd.R_lt (rR_ HO587))) (below_size hB_)); replace HO583 := aM_ (Kd.R_below (rR_ HO583) hb); replace HO587 := aM_ (Kd.R_elder' (rR_ HO587) (Kd.R_base ho0) hb); replace HB := aM_ (below_step hB_ hb); (try clear hb); (try clear ho0)) | (go_at_call 40; (with_reducible refine (spec_DrawParseLoci.calls kj82 _ _ l1 t592 _ ?side1 ?side2 A136.out).mono ?_); (case side1 => exact z17_4_); (case side2 => exact HC1.out); rintro e w144 ⟨rfl, hb⟩; replace HO583 := aM_ (Kd.R_below (rR_ HO583) hb); replace HO587 := aM_ (Kd.R_below (rR_ HO587) hb); replace HO591 := aM_ (Kd.R_below (rR_ HO591) hb); replace HB := aM_ (below_step hB_ hb); (try clear hb)) | (go_at_call 36; (with_reducible refine (impl_ParseLoci.calls kj82 t592 t593 t594 _ ?side1 A137.out).mono ?_); (case side1 => exact TabW.below HT.out hB_); rintro e w145 ⟨v595, rfl, ho0, hb⟩; have HO596 := aM_ (Kd.R_lower (Kd.R_new' ho0 (Kd.R_lt (rR_ HO583))) (below_size hB_)); replace HO583 := aM_ (Kd.R_elder' (rR_ HO583) (Kd.R_base ho0) hb); replace HO587 := aM_ (Kd.R_below (rR_ HO587) hb); replace HO591 := aM_ (Kd.R_below (rR_ HO591) hb); replace HB := aM_ (below_step hB_ hb); (try clear hb); (try clear ho0)) | (go_at_call 41; (with_reducible refine (spec_ParseLoci.calls kj82 t592 t597 t598 _ A138.out).mono ?_); rintro e w146 ⟨v599, rfl, ho0, hb⟩; have HO600 := aM_ (Kd.R_lower (Kd.R_new' (Kd.R_new' ho0 (Kd.R_lt (rR_ HO583))) (Kd.R_lt (rR_ HO596))) (below_size hB_)); replace HO583 := aM_ (Kd.R_elder' (rR_ HO583) (Kd.R_base ho0) hb); replace HO587 := aM_ (Kd.R_below (rR_ HO587) hb); replace HO591 := aM_ (Kd.R_below (rR_ HO591) hb); replace HO596 := aM_ (Kd.R_elder' (rR_ HO596) (Kd.R_base ho0) hb); replace HB := aM_ (below_step hB_ hb); (try clear hb); (try clear ho0)) | (go_quiet (fail)))
         (try simp only [Act.put, List.setIfInBounds_toArray, List.set_cons_zero, List.set_cons_succ])
         go_cut [281] (fun v281 wc => ∃ (kq : Nat) (x281_138 : Bool), v281 = .bool x281_138 ∧ Aside0 (laws_FnPoints.j6 kq t580 t588 x281_138 = some r) ∧ Aside0 (kq ≤ kj82) ∧ Aside0 (Kd.R k58 58 wc w.heap.size (fun _ => True) (.slice Ao141 t580.length co141) t580) ∧ Aside0 (Kd.R Kd.string 9 wc w.heap.size (fun _ => True) v590 t588) ∧ Aside0 (Below w.heap.size w wc))
         case first =>
          as_aux_lemma =>
           have H := HC139.out
           clear HC139
           by_cases c147 : (t585 != t589) = true
           ·rw [if_pos c147] at H
            have c147b0 : (t585 != t589) = true := c147
            (try (have c147b1 : decide (t585 = t589) = false := by simpa using c147))
            (try (have c147b2 : (t585 == t589) = false := by simpa using c147))
            (try (have c147b3 : ¬ (t585 = t589) := by simpa using c147))
            clear c147
            (first | rw [c147b0] | (simp only [i64_w, i32_w]; rw [c147b0]) | skip)
            as_aux_lemma =>
             have H' := Aside0.mk H
             clear H
             go_wp2
             repeat (go_quiet (fail); try go_wp2)
             go_meet
             case rel => exact ⟨_, (true), z17_0_, H', ⟨z17_5_⟩, ⟨(rT1_ HO583)⟩, ⟨(rT1_ HO591)⟩, ⟨hB_⟩⟩
           rw [if_neg c147] at H
           have c147b0 : (t585 != t589) = false := by simpa using c147
           (try (have c147b1 : decide (t585 = t589) = true := by simpa using c147))
           (try (have c147b2 : (t585 == t589) = true := by simpa using c147))
           clear c147
           (first | rw [c147b0] | (simp only [i64_w, i32_w]; rw [c147b0]) | skip)
           replace H := ob_ H; obtain ⟨t601, A148, H⟩ := H; try dsimp only at H
           by_cases c149 : t601 = true
           rotate_left
           ·replace c149 := Bool.eq_false_iff.mpr c149
            subst c149
            replace H := in_ H (show ¬ (false = true) by decide)
            as_aux_lemma =>
             have H' := Aside0.mk H
             clear H
             obtain ⟨Ao158, co158, eo158⟩ := Kd.R_slice HO587.out
             subst eo158
             obtain ⟨Ao159, co159, eo159⟩ := Kd.R_slice HO591.out
             subst eo159
             go_wp2_with (first | (go_at_call 42; (with_reducible refine (laws_pSameTexts.calls kj82 _ _ t584 _ _ t588 false _ ?side1 ?side2 ?side3 ?side4 A148.out).mono ?_); (case side1 => exact cR_ HO587); (case side2 => exact (Kd.R_reads' HO587.out).2.1); (case side3 => exact cR_ HO591); (case side4 => exact (Kd.R_reads' HO591.out).2.1); rintro e w' ⟨rfl, ⟨nd, rfl⟩⟩; (try exact dd_)) | (go_quiet (first | (go_at_call 42; (with_reducible refine (laws_pSameTexts.calls kj82 _ _ t584 _ _ t588 false _ ?side1 ?side2 ?side3 ?side4 A148.out).mono ?_); (case side1 => exact cR_ HO587); (case side2 => exact (Kd.R_reads' HO587.out).2.1); (case side3 => exact cR_ HO591); (case side4 => exact (Kd.R_reads' HO591.out).2.1); rintro e w' ⟨rfl, ⟨nd, rfl⟩⟩; (try exact dd_)))))
             go_meet
             case rel => exact ⟨_, (true), z17_0_, H', ⟨z17_5_⟩, ⟨(rT1_ HO583)⟩, ⟨(rT1_ HO591)⟩, ⟨hB_⟩⟩
           subst c149
           replace H := ip_ H rfl
           by_cases c150 : (t594 != t598) = true
           ·rw [if_pos c150] at H
            have c150b0 : (t594 != t598) = true := c150
            (try (have c150b1 : decide (t594 = t598) = false := by simpa using c150))
            (try (have c150b2 : (t594 == t598) = false := by simpa using c150))
            (try (have c150b3 : ¬ (t594 = t598) := by simpa using c150))
            clear c150
            as_aux_lemma =>
             have H' := Aside0.mk H
             clear H
             obtain ⟨Ao151, co151, eo151⟩ := Kd.R_slice HO587.out
             subst eo151
             obtain ⟨Ao152, co152, eo152⟩ := Kd.R_slice HO591.out
             subst eo152
             go_wp2_with (first | (go_at_call 42; (with_reducible refine (laws_pSameTexts.calls kj82 _ _ t584 _ _ t588 true _ ?side1 ?side2 ?side3 ?side4 A148.out).mono ?_); (case side1 => exact cR_ HO587); (case side2 => exact (Kd.R_reads' HO587.out).2.1); (case side3 => exact cR_ HO591); (case side4 => exact (Kd.R_reads' HO591.out).2.1); rintro e w' ⟨rfl, ⟨nd, rfl⟩⟩; (try exact dd_)) | (go_quiet (first | (go_at_call 42; (with_reducible refine (laws_pSameTexts.calls kj82 _ _ t584 _ _ t588 true _ ?side1 ?side2 ?side3 ?side4 A148.out).mono ?_); (case side1 => exact cR_ HO587); (case side2 => exact (Kd.R_reads' HO587.out).2.1); (case side3 => exact cR_ HO591); (case side4 => exact (Kd.R_reads' HO591.out).2.1); rintro e w' ⟨rfl, ⟨nd, rfl⟩⟩; (try exact dd_)))))
             go_meet
             case rel => exact ⟨_, (true), z17_0_, H', ⟨z17_5_⟩, ⟨(rT1_ HO583)⟩, ⟨(rT1_ HO591)⟩, ⟨hB_⟩⟩
           rw [if_neg c150] at H
           have c150b0 : (t594 != t598) = false := by simpa using c150
           (try (have c150b1 : decide (t594 = t598) = true := by simpa using c150))
           (try (have c150b2 : (t594 == t598) = true := by simpa using c150))
           clear c150
           replace H := ob_ H; obtain ⟨t602, A153, H⟩ := H; try dsimp only at H
           as_aux_lemma =>
            have H' := Aside0.mk H
            clear H
            obtain ⟨Ao154, co154, eo154⟩ := Kd.R_slice HO587.out
            subst eo154
            obtain ⟨Ao155, co155, eo155⟩ := Kd.R_slice HO591.out
            subst eo155
            go_wp2_with (first | (go_at_call 42; (with_reducible refine (laws_pSameTexts.calls kj82 _ _ t584 _ _ t588 true _ ?side1 ?side2 ?side3 ?side4 A148.out).mono ?_); (case side1 => exact cR_ HO587); (case side2 => exact (Kd.R_reads' HO587.out).2.1); (case side3 => exact cR_ HO591); (case side4 => exact (Kd.R_reads' HO591.out).2.1); rintro e w' ⟨rfl, ⟨nd, rfl⟩⟩; (try exact dd_); obtain ⟨Ao156, co156, eo156⟩ := Kd.R_slice HO596.out; subst eo156; obtain ⟨Ao157, co157, eo157⟩ := Kd.R_slice HO600.out; subst eo157) | (go_at_call 32; (with_reducible refine (laws_pSameLoci.calls kj82 _ _ t593 _ _ t597 t602 _ ?side1 ?side2 ?side3 ?side4 A153.out).mono ?_); (case side1 => exact cR_ HO596); (case side2 => exact (Kd.R_reads' HO596.out).2.1); (case side3 => exact cR_ HO600); (case side4 => exact (Kd.R_reads' HO600.out).2.1); rintro e w' ⟨rfl, ⟨nd, rfl⟩⟩; (try exact dd_)) | (go_quiet (first | (go_at_call 42; (with_reducible refine (laws_pSameTexts.calls kj82 _ _ t584 _ _ t588 true _ ?side1 ?side2 ?side3 ?side4 A148.out).mono ?_); (case side1 => exact cR_ HO587); (case side2 => exact (Kd.R_reads' HO587.out).2.1); (case side3 => exact cR_ HO591); (case side4 => exact (Kd.R_reads' HO591.out).2.1); rintro e w' ⟨rfl, ⟨nd, rfl⟩⟩; (try exact dd_); obtain ⟨Ao156, co156, eo156⟩ := Kd.R_slice HO596.out; subst eo156; obtain ⟨Ao157, co157, eo157⟩ := Kd.R_slice HO600.out; subst eo157) | (go_at_call 32; (with_reducible refine (laws_pSameLoci.calls kj82 _ _ t593 _ _ t597 t602 _ ?side1 ?side2 ?side3 ?side4 A153.out).mono ?_); (case side1 => exact cR_ HO596); (case side2 => exact (Kd.R_reads' HO596.out).2.1); (case side3 => exact cR_ HO600); (case side4 => exact (Kd.R_reads' HO600.out).2.1); rintro e w' ⟨rfl, ⟨nd, rfl⟩⟩; (try exact dd_)))))
            go_meet
            case rel => exact ⟨_, (!t602), z17_0_, H', ⟨z17_5_⟩, ⟨(rT1_ HO583)⟩, ⟨(rT1_ HO591)⟩, ⟨hB_⟩⟩
         case rest =>
          as_aux_lemma =>
           clear HC139
           (try clear c1);(try clear c4);(try clear c82)
           obtain ⟨kq, x281_138, rfl, HA, HJ138, HO_34, HO_38, HB⟩ := hcut
           cases kq with
           | zero => exact absurd HA.out (by simp [laws_FnPoints.j6])
           | succ kj138 =>
            as_aux_lemma =>
             have H := HA.out
             clear HA
             simp only [laws_FnPoints.j6] at H
             by_cases c160 : x281_138 = true
             ·subst c160
              replace H := ip_ H rfl
              as_aux_lemma =>
               obtain rfl := Option.some.inj H
               go_wp2
               repeat (go_quiet (fail); try go_wp2)
               go_ret
               exact ⟨rT_, hB_⟩
             replace c160 := Bool.eq_false_iff.mpr c160
             subst c160
             replace H := in_ H (show ¬ (false = true) by decide)
             have H' := Aside0.mk H
             clear H
             obtain ⟨Ao161, co161, eo161⟩ := Kd.R_slice HO_38.out
             subst eo161
             go_wp2
             repeat (go_quiet (fail); try go_wp2)
             go_loopg [284] kj138 (fun kq v284 w' => ∃ (x284_4 : Int), v284 = .int .i64 x284_4 ∧ Aside0 (laws_FnPoints.l3 kq t580 t588 (t588.length : Int) x284_4 = some r) ∧ Aside0 (kq ≤ kj138) ∧ Aside0 (Kd.R k58 58 w' w.heap.size (fun _ => True) (.slice Ao141 t580.length co141) t580) ∧ Aside0 (Kd.R Kd.string 9 w' w.heap.size (fun _ => True) (.slice Ao161 t588.length co161) t588) ∧ Aside0 (Below w.heap.size w w'))
             case atStart => exact ⟨(0), z17_0_, H', ⟨Nat.le_refl _⟩, ⟨(rR_ HO_34)⟩, ⟨rR_ HO_38⟩, ⟨hB_⟩⟩
             case round =>
              as_aux_lemma =>
               clear H'
               (try clear c1);(try clear c4);(try clear c82);(try clear c160)
               obtain ⟨x284_4, rfl, HA, HK4, HO_34, HO_282, HB⟩ := hrel
               cases gk with
               | zero => exact absurd HA.out (by simp [laws_FnPoints.l3])
               | succ k4 =>
                as_aux_lemma =>
                 have H := HA.out
                 clear HA
                 simp only [laws_FnPoints.l3] at H
                 replace H := iF_ H; obtain ⟨c162b0, H⟩ | ⟨c162b0, H⟩ := H
                 ·as_aux_lemma =>
                   obtain rfl := Option.some.inj H
                   go_wp2
                   repeat (go_quiet (fail); try go_wp2)
                   go_ret
                   exact ⟨rT_, hB_⟩
                 replace H := ig_ H; obtain ⟨c163b0, H⟩ := H
                 replace H := ig_ H; obtain ⟨c164b0, H⟩ := H
                 have H' := Aside0.mk H
                 clear H
                 obtain ⟨⟨ad603, e603, hx603_0⟩, p603, q603⟩ := at2_ (Kd.at_string (Kd.R_reads' HO_282.out).2.2 x284_4); cases e603
                 go_wp2
                 repeat (go_quiet (fail); try go_wp2)
                 go_loopg [47, 292] k4 (fun kq v47 v292 w' => ∃ (x47_5 : Bool) (x292_5 : Int), v47 = .bool x47_5 ∧ v292 = .int .i64 x292_5 ∧ Aside0 (laws_FnPoints.l4 kq t580 (rdOf ByteArray.empty t588 x284_4) x47_5 t588 (t588.length : Int) x284_4 t580 (t580.length : Int) x292_5 = some r) ∧ Aside0 (kq ≤ k4) ∧ Aside0 (Kd.R k58 58 w' w.heap.size (fun _ => True) (.slice Ao141 t580.length co141) t580) ∧ Aside0 (Kd.R Kd.string 9 w' w.heap.size (fun _ => True) (.slice (some ad603) t588.length co161) t588) ∧ Aside0 (Kd.R k58 58 w' w.heap.size (fun _ => True) (.slice Ao141 t580.length co141) t580) ∧ Aside0 (Below w.heap.size w w'))
                 case atStart => exact ⟨(((rdOf ByteArray.empty t588 x284_4).toList == ([63] : List UInt8))), (0), z17_0_, z17_0_, H', ⟨Nat.le_refl _⟩, ⟨(rR_ HO_34)⟩, ⟨(rR_ HO_282)⟩, ⟨(rR_ HO_34)⟩, ⟨hB_⟩⟩
                 case round =>
                  as_aux_lemma =>
                   clear H'
                   (try clear c1);(try clear c4);(try clear c82);(try clear c160);(try clear c162);(try clear c162b0);(try clear c163);(try clear c163b0);(try clear c164);(try clear c164b0);(try clear hx603_0);(try clear p603);(try clear q603)
                   obtain ⟨x47_5, x292_5, rfl, rfl, HA, HK5, HO_34, HO_282, HO_290, HB⟩ := hrel
                   cases gk with
                   | zero => exact absurd HA.out (by simp [laws_FnPoints.l4])
                   | succ k5 =>
                    as_aux_lemma =>
                     have H := HA.out
                     clear HA
                     simp only [laws_FnPoints.l4] at H
                     replace H := iF_ H; obtain ⟨c165b0, H⟩ | ⟨c165b0, H⟩ := H
                     ·by_cases c173 : x47_5 = true
                      rotate_left
                      ·replace c173 := Bool.eq_false_iff.mpr c173
                       subst c173
                       replace H := in_ H (show ¬ (false = true) by decide)
                       as_aux_lemma =>
                        obtain rfl := Option.some.inj H
                        go_wp2
                        repeat (go_quiet (fail); try go_wp2)
                        go_ret
                        exact ⟨rT_, hB_⟩
                      subst c173
                      replace H := ip_ H rfl
                      as_aux_lemma =>
                       have H' := Aside0.mk H
                       clear H
                       go_wp2
                       repeat (go_quiet (fail); try go_wp2)
                       go_roundg k5
                       case measure => have := HJ13.out; have := HJ82.out; have := HJ138.out; have := HK4.out; have := HK5.out; omega
                       case rel => exact ⟨(wrap64 (x284_4 + 1)), z17_0_, H', ⟨z17_6_⟩, ⟨(rR_ HO_34)⟩, ⟨(rR_ HO_282)⟩, ⟨hB_⟩⟩
                     replace H := ig_ H; obtain ⟨c166b0, H⟩ := H
                     replace H := ig_ H; obtain ⟨c167b0, H⟩ := H
                     by_cases c168 : x47_5 = true
                     ·subst c168
                      replace H := ip_ H rfl
                      as_aux_lemma =>
                       have H' := Aside0.mk H
                       clear H
                       obtain ⟨⟨ad604, e604, hx604_0, hx604_1⟩, p604, q604⟩ := at2_ (at_T58 (Kd.R_reads' HO_290.out).2.2 x292_5); cases e604
                       go_wp2_with (first | ((with_reducible refine gate_dst (N := 49) rfl ?_); (try (refine gate_guard (by rfl) ?_; dsimp only)); refine bx_ 49 #[.string (⟨#[]⟩ : ByteArray), .int .i64 0] 58 fun gb605 hg w169 hbox hb => ?_; have BK605 := aM_ (hbox); have GW605 := aM_ (gw_ w hg); have GE605 := aM_ (gw_ w hg); replace HO_34 := aM_ (Kd.R_below (Kd.R_elderB (rR_ HO_34) gb605 (Nat.le_of_eq hg.symm)) hb); replace HO_282 := aM_ (Kd.R_below (rR_ HO_282) hb); replace HO_290 := aM_ (Kd.R_below (Kd.R_elderB (rR_ HO_290) gb605 (Nat.le_of_eq hg.symm)) hb); replace HB := aM_ (below_step hB_ hb); clear hb hbox hg; have hz170 := cf2_ BK605.out) | (go_quiet (fail)))
                       go_roundg k5
                       case measure => have := HJ13.out; have := HJ82.out; have := HJ138.out; have := HK4.out; have := HK5.out; omega
                       case rel => exact ⟨(true), (wrap64 (x292_5 + 1)), z17_0_, z17_0_, H', ⟨z17_6_⟩, ⟨z17_7_⟩, ⟨by (with_reducible repeat (first | apply rA_ | apply rN_ | apply rD_)); exact Kd.R_mono (Kd.R_far (p := ⟨gb605, 1, none⟩) (Kd.R_far (p := ⟨gb605, 0, none⟩) (Kd.R_types HO_282.out BK605.out (by decide)) (fun _ hk => hk.2) (.string ((rd_T58 t580 x292_5).f0))) (fun _ hk => hk.2) (.int .i64 ((rd_T58 t580 x292_5).f1))) (fun _ hk => trivial)⟩, ⟨z17_8_⟩, ⟨hB_⟩⟩
                     replace c168 := Bool.eq_false_iff.mpr c168
                     subst c168
                     replace H := in_ H (show ¬ (false = true) by decide)
                     as_aux_lemma =>
                      have H' := Aside0.mk H
                      clear H
                      obtain ⟨⟨ad604, e604, hx604_0, hx604_1⟩, p604, q604⟩ := at2_ (at_T58 (Kd.R_reads' HO_290.out).2.2 x292_5); cases e604
                      go_wp2_with (first | ((with_reducible refine gate_dst (N := 49) rfl ?_); (try (refine gate_guard (by rfl) ?_; dsimp only)); refine bx_ 49 #[.string (⟨#[]⟩ : ByteArray), .int .i64 0] 58 fun gb605 hg w171 hbox hb => ?_; have BK605 := aM_ (hbox); have GW605 := aM_ (gw_ w hg); have GE605 := aM_ (gw_ w hg); replace HO_34 := aM_ (Kd.R_below (Kd.R_elderB (rR_ HO_34) gb605 (Nat.le_of_eq hg.symm)) hb); replace HO_282 := aM_ (Kd.R_below (rR_ HO_282) hb); replace HO_290 := aM_ (Kd.R_below (Kd.R_elderB (rR_ HO_290) gb605 (Nat.le_of_eq hg.symm)) hb); replace HB := aM_ (below_step hB_ hb); clear hb hbox hg; have hz172 := cf2_ BK605.out) | (go_quiet (fail)))
                      go_roundg k5
                      case measure => have := HJ13.out; have := HJ82.out; have := HJ138.out; have := HK4.out; have := HK5.out; omega
                      case rel => exact ⟨((((rd_T58 t580 x292_5).f0).toList == (rdOf ByteArray.empty t588 x284_4).toList)), (wrap64 (x292_5 + 1)), z17_0_, z17_0_, H', ⟨z17_6_⟩, ⟨z17_7_⟩, ⟨by (with_reducible repeat (first | apply rA_ | apply rN_ | apply rD_)); exact Kd.R_mono (Kd.R_far (p := ⟨gb605, 1, none⟩) (Kd.R_far (p := ⟨gb605, 0, none⟩) (Kd.R_types HO_282.out BK605.out (by decide)) (fun _ hk => hk.2) (.string ((rd_T58 t580 x292_5).f0))) (fun _ hk => hk.2) (.int .i64 ((rd_T58 t580 x292_5).f1))) (fun _ hk => trivial)⟩, ⟨z17_8_⟩, ⟨hB_⟩⟩
theorem laws_FnPoints.walk : True := trivial

end Go.Proofs.YtfkdlfbjkdkffaaGreatDoor.PFnPoints
