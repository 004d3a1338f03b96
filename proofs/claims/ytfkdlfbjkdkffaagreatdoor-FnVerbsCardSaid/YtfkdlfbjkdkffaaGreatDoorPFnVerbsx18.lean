/- Printed for this claim: functions of the program as Lean functions, and that the calls answer so. -/
import Derived.Test.YtfkdlfbjkdkffaaGreatDoorPFnVerbsx0
import Derived.Test.YtfkdlfbjkdkffaaGreatDoorPFnVerbsx9
import Derived.Test.YtfkdlfbjkdkffaaGreatDoorPFnVerbsx12
import Derived.Test.YtfkdlfbjkdkffaaGreatDoorPFnVerbsx13
import Derived.Test.YtfkdlfbjkdkffaaGreatDoorPFnVerbsxD0
namespace Go.Proofs.YtfkdlfbjkdkffaaGreatDoor.PFnVerbs
open Go.RowKit Go.Proofs.YtfkdlfbjkdkffaaGreatDoorW.PrintWords Go.Proofs.YtfkdlfbjkdkffaaGreatDoorW.PrintLast Go.Proofs.YtfkdlfbjkdkffaaGreatDoorW.PrintMore
theorem z18_0_ {p : Prop} (h : p := by repeat (first | exact (Kd.C_below HR0.out HB.out) | (with_reducible first | apply cA_ | apply cN_ | apply cD_))) : p := h
set_option maxHeartbeats 8000000
set_option maxRecDepth 100000
attribute [local go_sem] max2_int min2_int max_two min_two max_three min_three max_four min_four isSome_setCell   -- for this text's walks alone
set_option linter.unusedVariables false
set_option linter.unusedSimpArgs false

/-! ### impl_ReverseVerb: function 17 -/
theorem impl_ReverseVerb.calls (k : Nat) (a0_0 : ByteArray) (a0_1 : Int) (a0_2 : Int) (r1 : ByteArray) (r2 : Int) (r3 : Int) (r4 : Bool) (w : World) (h : impl_ReverseVerb.f k a0_0 a0_1 a0_2 = some (r1, r2, r3, r4)) :
 Calls Tryz.prog 17 #[.agg #[.string a0_0, .int .i64 a0_1, .int .i64 a0_2]] w fun e w' => e = .returned (.tuple #[.agg #[.string r1, .int .i64 r2, .int .i64 r3], .bool r4]) ∧ Below w.heap.size w w' := by
 have hu27 := Tryz.underlying27
 have HB := Aside0.mk (Below.refl w.heap.size w)
 have H : ((impl_IsVerb.f k a0_0 a0_1 a0_2).bind fun t604 => (if t604 = true then (some (a0_0, a0_2, a0_1, true)) else (some ((⟨#[]⟩ : ByteArray), 0, 0, false)))) = some (r1, r2, r3, r4) := h
 clear h
 replace H := ob_ H; obtain ⟨t604, A2, H⟩ := H; try dsimp only at H
 have HC3 := Aside0.mk H
 clear H
 go_enter Tryz.func17, Tryz.ntmps17
 go_upto_if 6 with (first | ((with_reducible refine gate_dst (N := 1) rfl ?_); refine bx_ 1 #[.string a0_0, .int .i64 a0_1, .int .i64 a0_2] 27 fun gb602 hg w4 hbox hb => ?_; have BK602 := aM_ (hbox); have GW602 := aM_ (gw_ w hg); have GE602 := aM_ (gw_ w hg); replace HB := aM_ (below_step hB_ hb); clear hb hbox hg) | ((with_reducible refine gate_dst (N := 2) rfl ?_); refine bx_ 2 #[.string (⟨#[]⟩ : ByteArray), .int .i64 0, .int .i64 0] 27 fun gb603 hg w5 hbox hb => ?_; have BK603 := aM_ (hbox); have GW603 := aM_ (gw_ w hg); have GE603 := aM_ (gw_ w hg); have NB602_603 := aM_ (nR_ BK602 hg); have NB603_602 := aM_ (mR_ BK602 hg); replace BK602 := aM_ (blk_below (g := gb602) (kR_ BK602) hb); replace HB := aM_ (below_step hB_ hb); clear hb hbox hg; have hnb6 := NB602_603.out; have hnc6 := NB603_602.out; have hz7 := cf3_ BK602.out) | ((with_reducible refine gC_ 19 ?_); refine gM_ (some 5) Tryz.func19 #[.agg #[.string a0_0, .int .i64 a0_1, .int .i64 a0_2]] ?_; (with_reducible refine (impl_IsVerb.calls k a0_0 a0_1 a0_2 t604 _ A2.out).mono ?_); rintro e w8 ⟨rfl, hb⟩; refine ⟨_, rfl, ?_⟩; replace BK602 := aM_ (blk_below (g := gb602) (kR_ BK602) hb); replace BK603 := aM_ (blk_below (g := gb603) (kR_ BK603) hb); replace HB := aM_ (below_step hB_ hb); (try clear hb)))
 (try simp only [Act.put, List.setIfInBounds_toArray, List.set_cons_zero, List.set_cons_succ])
 have H := HC3.out
 clear HC3
 by_cases c9 : t604 = true
 ·subst c9
  replace H := ip_ H rfl
  simp only [Option.some.injEq, Prod.mk.injEq] at H
  obtain ⟨rfl, rfl, rfl, rfl⟩ := H
  have hnb10 := NB602_603.out
  have hnc10 := NB603_602.out
  have hz11 := cf3_ BK602.out
  clear BK602
  have hz12 := cf3_ BK603.out
  go_wp2
  refine bodyPost_ret (results_ct rfl _ _ gb603 27 #[.string a0_0, .int .i64 a0_2, .int .i64 a0_1] (0, 0) _ rfl (by (with_reducible repeat (first | apply kN_ | apply kD_ | apply kA_)); refine blk_put (cs := #[.string a0_0, .int .i64 a0_2, .int .i64 0]) ?_ 2 _ rfl; (with_reducible repeat (first | apply kN_ | apply kD_ | apply kA_)); refine blk_put (cs := #[.string a0_0, .int .i64 0, .int .i64 0]) ?_ 1 _ rfl; (with_reducible repeat (first | apply kN_ | apply kD_ | apply kA_)); refine blk_put (cs := #[.string (⟨#[]⟩ : ByteArray), .int .i64 0, .int .i64 0]) ?_ 0 _ rfl; (with_reducible repeat (first | apply kN_ | apply kD_ | apply kA_)); exact BK603.out) Tryz.underlying27 rfl (by kernel_rfl)) rfl ?_
  exact ⟨rT_, hB_⟩
 replace c9 := Bool.eq_false_iff.mpr c9
 subst c9
 replace H := in_ H (show ¬ (false = true) by decide)
 simp only [Option.some.injEq, Prod.mk.injEq] at H
 obtain ⟨rfl, rfl, rfl, rfl⟩ := H
 clear BK602
 have hz13 := cf3_ BK603.out
 go_wp2
 refine bodyPost_ret (results_ct rfl _ _ gb603 27 #[.string (⟨#[]⟩ : ByteArray), .int .i64 0, .int .i64 0] (0, 0) _ rfl (by (with_reducible repeat (first | apply kN_ | apply kD_ | apply kA_)); refine blk_put (cs := #[.string (⟨#[]⟩ : ByteArray), .int .i64 0, .int .i64 0]) ?_ 2 _ rfl; (with_reducible repeat (first | apply kN_ | apply kD_ | apply kA_)); refine blk_put (cs := #[.string (⟨#[]⟩ : ByteArray), .int .i64 0, .int .i64 0]) ?_ 1 _ rfl; (with_reducible repeat (first | apply kN_ | apply kD_ | apply kA_)); refine blk_put (cs := #[.string (⟨#[]⟩ : ByteArray), .int .i64 0, .int .i64 0]) ?_ 0 _ rfl; (with_reducible repeat (first | apply kN_ | apply kD_ | apply kA_)); exact BK603.out) Tryz.underlying27 rfl (by kernel_rfl)) rfl ?_
 exact ⟨rT_, hB_⟩

/-! ### spec_ReverseVerb: function 18 -/
theorem spec_ReverseVerb.calls (k : Nat) (a0_0 : ByteArray) (a0_1 : Int) (a0_2 : Int) (r1 : ByteArray) (r2 : Int) (r3 : Int) (r4 : Bool) (w : World) (h : spec_ReverseVerb.f k a0_0 a0_1 a0_2 = some (r1, r2, r3, r4)) :
 Calls Tryz.prog 18 #[.agg #[.string a0_0, .int .i64 a0_1, .int .i64 a0_2]] w fun e w' => e = .returned (.tuple #[.agg #[.string r1, .int .i64 r2, .int .i64 r3], .bool r4]) ∧ Below w.heap.size w w' := by
 have hu27 := Tryz.underlying27
 have HB := Aside0.mk (Below.refl w.heap.size w)
 have H : ((spec_veOne.f k a0_0 a0_1 a0_2).bind fun t607 => (if t607 = true then (some (a0_0, a0_2, a0_1, true)) else (some ((⟨#[]⟩ : ByteArray), 0, 0, false)))) = some (r1, r2, r3, r4) := h
 clear h
 replace H := ob_ H; obtain ⟨t607, A2, H⟩ := H; try dsimp only at H
 have HC3 := Aside0.mk H
 clear H
 go_enter Tryz.func18, Tryz.ntmps18
 go_upto_if 6 with (first | ((with_reducible refine gate_dst (N := 1) rfl ?_); refine bx_ 1 #[.string a0_0, .int .i64 a0_1, .int .i64 a0_2] 27 fun gb605 hg w4 hbox hb => ?_; have BK605 := aM_ (hbox); have GW605 := aM_ (gw_ w hg); have GE605 := aM_ (gw_ w hg); replace HB := aM_ (below_step hB_ hb); clear hb hbox hg) | ((with_reducible refine gate_dst (N := 2) rfl ?_); refine bx_ 2 #[.string (⟨#[]⟩ : ByteArray), .int .i64 0, .int .i64 0] 27 fun gb606 hg w5 hbox hb => ?_; have BK606 := aM_ (hbox); have GW606 := aM_ (gw_ w hg); have GE606 := aM_ (gw_ w hg); have NB605_606 := aM_ (nR_ BK605 hg); have NB606_605 := aM_ (mR_ BK605 hg); replace BK605 := aM_ (blk_below (g := gb605) (kR_ BK605) hb); replace HB := aM_ (below_step hB_ hb); clear hb hbox hg; have hnb6 := NB605_606.out; have hnc6 := NB606_605.out; have hz7 := cf3_ BK605.out) | ((with_reducible refine gC_ 54 ?_); refine gM_ (some 5) Tryz.func54 #[.agg #[.string a0_0, .int .i64 a0_1, .int .i64 a0_2]] ?_; (with_reducible refine (spec_veOne.calls k a0_0 a0_1 a0_2 t607 _ A2.out).mono ?_); rintro e w8 ⟨rfl, hb⟩; refine ⟨_, rfl, ?_⟩; replace BK605 := aM_ (blk_below (g := gb605) (kR_ BK605) hb); replace BK606 := aM_ (blk_below (g := gb606) (kR_ BK606) hb); replace HB := aM_ (below_step hB_ hb); (try clear hb)))
 (try simp only [Act.put, List.setIfInBounds_toArray, List.set_cons_zero, List.set_cons_succ])
 have H := HC3.out
 clear HC3
 by_cases c9 : t607 = true
 ·subst c9
  replace H := ip_ H rfl
  simp only [Option.some.injEq, Prod.mk.injEq] at H
  obtain ⟨rfl, rfl, rfl, rfl⟩ := H
  have hnb10 := NB605_606.out
  have hnc10 := NB606_605.out
  have hz11 := cf3_ BK605.out
  clear BK605
  have hz12 := cf3_ BK606.out
  go_wp2
  refine bodyPost_ret (results_ct rfl _ _ gb606 27 #[.string a0_0, .int .i64 a0_2, .int .i64 a0_1] (0, 0) _ rfl (by (with_reducible repeat (first | apply kN_ | apply kD_ | apply kA_)); refine blk_put (cs := #[.string a0_0, .int .i64 a0_2, .int .i64 0]) ?_ 2 _ rfl; (with_reducible repeat (first | apply kN_ | apply kD_ | apply kA_)); refine blk_put (cs := #[.string a0_0, .int .i64 0, .int .i64 0]) ?_ 1 _ rfl; (with_reducible repeat (first | apply kN_ | apply kD_ | apply kA_)); refine blk_put (cs := #[.string (⟨#[]⟩ : ByteArray), .int .i64 0, .int .i64 0]) ?_ 0 _ rfl; (with_reducible repeat (first | apply kN_ | apply kD_ | apply kA_)); exact BK606.out) Tryz.underlying27 rfl (by kernel_rfl)) rfl ?_
  exact ⟨rT_, hB_⟩
 replace c9 := Bool.eq_false_iff.mpr c9
 subst c9
 replace H := in_ H (show ¬ (false = true) by decide)
 simp only [Option.some.injEq, Prod.mk.injEq] at H
 obtain ⟨rfl, rfl, rfl, rfl⟩ := H
 clear BK605
 have hz13 := cf3_ BK606.out
 go_wp2
 refine bodyPost_ret (results_ct rfl _ _ gb606 27 #[.string (⟨#[]⟩ : ByteArray), .int .i64 0, .int .i64 0] (0, 0) _ rfl (by (with_reducible repeat (first | apply kN_ | apply kD_ | apply kA_)); refine blk_put (cs := #[.string (⟨#[]⟩ : ByteArray), .int .i64 0, .int .i64 0]) ?_ 2 _ rfl; (with_reducible repeat (first | apply kN_ | apply kD_ | apply kA_)); refine blk_put (cs := #[.string (⟨#[]⟩ : ByteArray), .int .i64 0, .int .i64 0]) ?_ 1 _ rfl; (with_reducible repeat (first | apply kN_ | apply kD_ | apply kA_)); refine blk_put (cs := #[.string (⟨#[]⟩ : ByteArray), .int .i64 0, .int .i64 0]) ?_ 0 _ rfl; (with_reducible repeat (first | apply kN_ | apply kD_ | apply kA_)); exact BK606.out) Tryz.underlying27 rfl (by kernel_rfl)) rfl ?_
 exact ⟨rT_, hB_⟩

/-! ### impl_AgreesWith: function 20 -/
theorem impl_AgreesWith.calls (k : Nat) (A0 : Option Addr) (c0 : Nat) (l0 : List (S58)) (a1_0 : ByteArray) (a1_1 : Int) (a1_2 : Int) (a2 : ByteArray) (a3 : ByteArray) (r1 : Bool) (r2 : Bool) (w : World) (hr0 : Kd.C k58 w A0 l0.length l0) (hc0 : l0.length ≤ c0) (h : impl_AgreesWith.f k l0 a1_0 a1_1 a1_2 a2 a3 = some (r1, r2)) :
 Calls Tryz.prog 20 #[.slice A0 l0.length c0, .agg #[.string a1_0, .int .i64 a1_1, .int .i64 a1_2], .string a2, .string a3] w fun e w' => e = .returned (.tuple #[.bool r1, .bool r2]) ∧ Below w.heap.size w w' := by
 have hu27 := Tryz.underlying27
 have HR0 := Aside0.mk hr0
 have HC0 := Aside0.mk hc0
 clear hr0 hc0
 have HB := Aside0.mk (Below.refl w.heap.size w)
 have H : ((impl_areReferents.f k l0 (([a2, a3] : List ByteArray))).bind fun t612 => (if t612 = true then ((impl_IsVerb.f k a1_0 a1_1 a1_2).bind fun t613 => (if t613 = true then ((impl_Verb_meaning.f k a1_0 a1_1 a1_2 l0).bind fun bt614 => (if bt614.1.toList = a2.toList then (some ((bt614.2.toList == a3.toList), true)) else (some (false, true)))) else (some (false, false)))) else (some (false, false)))) = some (r1, r2) := h
 clear h
 obtain ⟨y609, hy609⟩ : ∃ y_ : List ByteArray, y_ = (([a2, a3] : List ByteArray)) := ⟨_, rfl⟩
 rw [← hy609] at H
 have Ny609 := Aside0.mk hy609; clear hy609
 replace H := ob_ H; obtain ⟨t612, A5, H⟩ := H; try dsimp only at H
 by_cases c6 : t612 = true
 rotate_left
 ·replace c6 := Bool.eq_false_iff.mpr c6
  subst c6
  replace H := in_ H (show ¬ (false = true) by decide)
  simp only [Option.some.injEq, Prod.mk.injEq] at H
  obtain ⟨rfl, rfl⟩ := H
  go_enter Tryz.func20, Tryz.ntmps20
  go_wp2_with (first | ((with_reducible refine gate_dst (N := 5) rfl ?_); refine bx_ 5 #[.string a1_0, .int .i64 a1_1, .int .i64 a1_2] 27 fun gb608 hg w23 hbox hb => ?_; have BK608 := aM_ (hbox); have GW608 := aM_ (gw_ w hg); have GE608 := aM_ (gw_ w hg); replace HB := aM_ (below_step hB_ hb); clear hb hbox hg; clear BK608) | ((with_reducible refine gate_dst (N := 15) rfl ?_); refine rl_ Kd.string 9 15 ([a2, a3] : List ByteArray) [.string a2, .string a3] (Reps.one (show Kd.M Kd.string _ _ _ a2 [.string a2] from rfl) (Reps.one (show Kd.M Kd.string _ _ _ a3 [.string a3] from rfl) (Reps.none _ _))) ?_; intro v610 w24 ho25 hb hg_ hnew_; clear hg_ hnew_; (first | rw [← Ny609.out] at ho25 | (simp only [Int.reduceToNat] at ho25; rw [← Ny609.out] at ho25)); have HO611 := aM_ (Kd.R_lower ho25 (below_size hB_)); replace HB := aM_ (below_step hB_ hb); clear hb ho25; obtain ⟨Ao26, co26, eo26⟩ := Kd.R_slice HO611.out; subst eo26) | ((with_reducible refine gC_ 47 ?_); refine gM_ (some 16) Tryz.func47 #[.slice A0 l0.length c0, .slice Ao26 y609.length co26] ?_; (with_reducible refine (impl_areReferents.calls k _ _ l0 _ _ y609 false _ ?side1 ?side2 ?side3 ?side4 A5.out).mono ?_); (case side1 => exact z18_0_); (case side2 => exact HC0.out); (case side3 => exact cR_ HO611); (case side4 => exact (Kd.R_reads' HO611.out).2.1); rintro e w27 ⟨rfl, hb⟩; refine ⟨_, rfl, ?_⟩; replace HO611 := aM_ (Kd.R_below (rR_ HO611) hb); replace HB := aM_ (below_step hB_ hb); (try clear hb); (try clear hk)))
  go_ret2
  exact ⟨rT_, hB_⟩
 subst c6
 replace H := ip_ H rfl
 replace H := ob_ H; obtain ⟨t613, A7, H⟩ := H; try dsimp only at H
 have HC8 := Aside0.mk H
 clear H
 go_enter Tryz.func20, Tryz.ntmps20
 go_upto_if 22 with (first | ((with_reducible refine gate_dst (N := 5) rfl ?_); refine bx_ 5 #[.string a1_0, .int .i64 a1_1, .int .i64 a1_2] 27 fun gb608 hg w9 hbox hb => ?_; have BK608 := aM_ (hbox); have GW608 := aM_ (gw_ w hg); have GE608 := aM_ (gw_ w hg); replace HB := aM_ (below_step hB_ hb); clear hb hbox hg) | ((with_reducible refine gate_dst (N := 15) rfl ?_); refine rl_ Kd.string 9 15 ([a2, a3] : List ByteArray) [.string a2, .string a3] (Reps.one (show Kd.M Kd.string _ _ _ a2 [.string a2] from rfl) (Reps.one (show Kd.M Kd.string _ _ _ a3 [.string a3] from rfl) (Reps.none _ _))) ?_; intro v610 w10 ho11 hb hg_ hnew_; clear hg_ hnew_; (first | rw [← Ny609.out] at ho11 | (simp only [Int.reduceToNat] at ho11; rw [← Ny609.out] at ho11)); have HO611 := aM_ (Kd.R_lower ho11 (below_size hB_)); replace BK608 := aM_ (blk_below (g := gb608) (kR_ BK608) hb); replace HB := aM_ (below_step hB_ hb); clear hb ho11; obtain ⟨Ao12, co12, eo12⟩ := Kd.R_slice HO611.out; subst eo12) | ((with_reducible refine gC_ 47 ?_); refine gM_ (some 16) Tryz.func47 #[.slice A0 l0.length c0, .slice Ao12 y609.length co12] ?_; (with_reducible refine (impl_areReferents.calls k _ _ l0 _ _ y609 true _ ?side1 ?side2 ?side3 ?side4 A5.out).mono ?_); (case side1 => exact z18_0_); (case side2 => exact HC0.out); (case side3 => exact cR_ HO611); (case side4 => exact (Kd.R_reads' HO611.out).2.1); rintro e w13 ⟨rfl, hb⟩; refine ⟨_, rfl, ?_⟩; replace HO611 := aM_ (Kd.R_below (rR_ HO611) hb); replace BK608 := aM_ (blk_below (g := gb608) (kR_ BK608) hb); replace HB := aM_ (below_step hB_ hb); (try clear hb); (try clear hk); have hz14 := cf3_ BK608.out) | (go_at_call 19; (with_reducible refine (impl_IsVerb.calls k a1_0 a1_1 a1_2 t613 _ A7.out).mono ?_); rintro e w15 ⟨rfl, hb⟩; replace HO611 := aM_ (Kd.R_below (rR_ HO611) hb); replace BK608 := aM_ (blk_below (g := gb608) (kR_ BK608) hb); replace HB := aM_ (below_step hB_ hb); (try clear hb); (try clear hk)))
 (try simp only [Act.put, List.setIfInBounds_toArray, List.set_cons_zero, List.set_cons_succ])
 have H := HC8.out
 clear HC8
 by_cases c16 : t613 = true
 rotate_left
 ·replace c16 := Bool.eq_false_iff.mpr c16
  subst c16
  replace H := in_ H (show ¬ (false = true) by decide)
  simp only [Option.some.injEq, Prod.mk.injEq] at H
  obtain ⟨rfl, rfl⟩ := H
  go_wp2
  go_ret2
  exact ⟨rT_, hB_⟩
 subst c16
 replace H := ip_ H rfl
 replace H := ob_ H; obtain ⟨⟨t614, t615⟩, A17, H⟩ := H; try dsimp only at H
 by_cases c18 : t614.toList = a2.toList
 rotate_left
 ·rw [if_neg c18] at H
  have c18b0 : (t614.toList == a2.toList) = false := beq_eq_false_iff_ne.mpr c18
  have c18b1 : (t614.toList != a2.toList) = true := bne_iff_ne.mpr c18
  (first | rw [c18b0] | (simp only [i64_w, i32_w]; rw [c18b0]) | skip)
  simp only [Option.some.injEq, Prod.mk.injEq] at H
  obtain ⟨rfl, rfl⟩ := H
  have hz21 := cf3_ BK608.out
  clear BK608
  go_wp2_with (first | ((with_reducible refine gC_ 53 ?_); refine gM_ (some 26) Tryz.func53 #[.agg #[.string a1_0, .int .i64 a1_1, .int .i64 a1_2], .slice A0 l0.length c0] ?_; (with_reducible refine (impl_Verb_meaning.calls k a1_0 a1_1 a1_2 _ _ l0 t614 t615 _ ?side1 ?side2 A17.out).mono ?_); (case side1 => exact z18_0_); (case side2 => exact HC0.out); rintro e w22 ⟨rfl, hb⟩; refine ⟨_, rfl, ?_⟩; replace HO611 := aM_ (Kd.R_below (rR_ HO611) hb); replace HB := aM_ (below_step hB_ hb); (try clear hb)))
  go_ret2
  exact ⟨rT_, hB_⟩
 rw [if_pos c18] at H
 have c18b0 : (t614.toList == a2.toList) = true := beq_iff_eq.mpr c18
 have c18b1 : (t614.toList != a2.toList) = false := bne_eq_false_iff_eq.mpr c18
 clear c18
 (first | rw [c18b0] | (simp only [i64_w, i32_w]; rw [c18b0]) | skip)
 simp only [Option.some.injEq, Prod.mk.injEq] at H
 obtain ⟨rfl, rfl⟩ := H
 have hz19 := cf3_ BK608.out
 clear BK608
 go_wp2_with (first | ((with_reducible refine gC_ 53 ?_); refine gM_ (some 26) Tryz.func53 #[.agg #[.string a1_0, .int .i64 a1_1, .int .i64 a1_2], .slice A0 l0.length c0] ?_; (with_reducible refine (impl_Verb_meaning.calls k a1_0 a1_1 a1_2 _ _ l0 t614 t615 _ ?side1 ?side2 A17.out).mono ?_); (case side1 => exact z18_0_); (case side2 => exact HC0.out); rintro e w20 ⟨rfl, hb⟩; refine ⟨_, rfl, ?_⟩; replace HO611 := aM_ (Kd.R_below (rR_ HO611) hb); replace HB := aM_ (below_step hB_ hb); (try clear hb)))
 go_ret2
 exact ⟨rT_, hB_⟩

end Go.Proofs.YtfkdlfbjkdkffaaGreatDoor.PFnVerbs
