/- Printed for this claim: functions of the program as Lean functions, and that the calls answer so. -/
import Derived.Test.YtfkdlfbjkdkffaaGreatDoorPFnVerbsx0
import Derived.Test.YtfkdlfbjkdkffaaGreatDoorPFnVerbsx2
import Derived.Test.YtfkdlfbjkdkffaaGreatDoorPFnVerbsx12
import Derived.Test.YtfkdlfbjkdkffaaGreatDoorPFnVerbsx14
import Derived.Test.YtfkdlfbjkdkffaaGreatDoorPFnVerbsx15
import Derived.Test.YtfkdlfbjkdkffaaGreatDoorPFnVerbsxD0
namespace Go.Proofs.YtfkdlfbjkdkffaaGreatDoor.PFnVerbs
open Go.RowKit Go.Proofs.YtfkdlfbjkdkffaaGreatDoorW.PrintWords Go.Proofs.YtfkdlfbjkdkffaaGreatDoorW.PrintLast Go.Proofs.YtfkdlfbjkdkffaaGreatDoorW.PrintMore
theorem z16_0_ {p : Prop} (h : p := by rw [← hq_]; exact (kR_ BK562)) : p := h
theorem z16_1_ {p : Prop} (h : p := by (with_reducible repeat (first | apply kN_ | apply kD_ | apply kA_)); refine blk_put (cs := #[.string t563, .int .i64 0, .int .i64 0]) ?_ 2 _ rfl; (with_reducible repeat (first | apply kN_ | apply kD_ | apply kA_)); refine blk_put (cs := #[.string t563, .int .i64 0, .int .i64 0]) ?_ 1 _ rfl; (with_reducible repeat (first | apply kN_ | apply kD_ | apply kA_)); refine blk_put (cs := #[.string (⟨#[]⟩ : ByteArray), .int .i64 0, .int .i64 0]) ?_ 0 _ rfl; (with_reducible repeat (first | apply kN_ | apply kD_ | apply kA_)); exact BK569.out) : p := h
theorem z16_2_ {p : Prop} (h : p := by (with_reducible repeat (first | apply kN_ | apply kD_ | apply kA_)); refine blk_put (cs := #[.string t563, .int .i64 0, .int .i64 0]) ?_ 1 _ rfl; (with_reducible repeat (first | apply kN_ | apply kD_ | apply kA_)); exact BK569.out) : p := h
theorem z16_3_ {p : Prop} (h : p := by (with_reducible repeat (first | apply kN_ | apply kD_ | apply kA_)); refine blk_put (cs := #[.string t563, .int .i64 t570, .int .i64 0]) ?_ 2 _ rfl; (with_reducible repeat (first | apply kN_ | apply kD_ | apply kA_)); exact BK569.out) : p := h
theorem z16_4_ {p : Prop} (h : p := by (with_reducible repeat (first | apply kN_ | apply kD_ | apply kA_)); refine blk_put (cs := #[.string (⟨#[]⟩ : ByteArray), .int .i64 0, .int .i64 0]) ?_ 2 _ rfl; (with_reducible repeat (first | apply kN_ | apply kD_ | apply kA_)); refine blk_put (cs := #[.string (⟨#[]⟩ : ByteArray), .int .i64 0, .int .i64 0]) ?_ 1 _ rfl; (with_reducible repeat (first | apply kN_ | apply kD_ | apply kA_)); refine blk_put (cs := #[.string (⟨#[]⟩ : ByteArray), .int .i64 0, .int .i64 0]) ?_ 0 _ rfl; (with_reducible repeat (first | apply kN_ | apply kD_ | apply kA_)); exact BK562.out) : p := h
theorem z16_5_ {p : Prop} (h : p := by first | rfl | (simp; done) | (simp [*]; done)) : p := h
theorem z16_6_ {p : Prop} (h : p := by repeat (first | exact Drawn0.refl _ | apply Drawn0.step)) : p := h
theorem z16_7_ {p : Prop} (h : p := by have : (0 : Int) < (a0.size : Int) := ode_; omega) : p := h
set_option maxHeartbeats 8000000
set_option maxRecDepth 100000
attribute [local go_sem] max2_int min2_int max_two min_two max_three min_three max_four min_four isSome_setCell   -- for this text's walks alone
set_option linter.unusedVariables false
set_option linter.unusedSimpArgs false

/-! ### impl_ParseVerb: function 15 -/
theorem impl_ParseVerb.calls (k : Nat) (a0 : ByteArray) (r1 : ByteArray) (r2 : Int) (r3 : Int) (r4 : Bool) (w : World) (hT_ : TabW Tryz.prog 1 w) (h : impl_ParseVerb.f k a0 = some (r1, r2, r3, r4)) :
 Calls Tryz.prog 15 #[.string a0] w fun e w' => e = .returned (.tuple #[.agg #[.string r1, .int .i64 r2, .int .i64 r3], .bool r4]) ∧ Below w.heap.size w w' := by
 have hu27 := Tryz.underlying27
 have HT := Aside0.mk hT_
 clear hT_
 have HB := Aside0.mk (Below.refl w.heap.size w)
 have H : ((strings_Cut.f a0 (⟨#[58]⟩ : ByteArray)).bind fun bt563 => ((strings_Cut.f bt563.2.1 (⟨#[62]⟩ : ByteArray)).bind fun bt566 => ((impl_decimal.f bt566.1).bind fun bt570 => ((impl_decimal.f bt566.2.1).bind fun bt572 => ((impl_IsVerb.f k bt563.1 bt570.1 bt572.1).bind fun t574 => (if t574 = true then ((impl_Verb_text.f bt563.1 bt570.1 bt572.1).bind fun t575 => (if t575.toList = a0.toList then (some (bt563.1, bt570.1, bt572.1, true)) else (some ((⟨#[]⟩ : ByteArray), 0, 0, false)))) else (some ((⟨#[]⟩ : ByteArray), 0, 0, false)))))))) = some (r1, r2, r3, r4) := h
 clear h
 replace H := ob_ H; obtain ⟨⟨t563, t564, t565⟩, A2, H⟩ := H; try dsimp only at H
 replace H := ob_ H; obtain ⟨⟨t566, t567, t568⟩, A3, H⟩ := H; try dsimp only at H
 replace H := ob_ H; obtain ⟨⟨t570, t571⟩, A4, H⟩ := H; try dsimp only at H
 replace H := ob_ H; obtain ⟨⟨t572, t573⟩, A5, H⟩ := H; try dsimp only at H
 replace H := ob_ H; obtain ⟨t574, A6, H⟩ := H; try dsimp only at H
 by_cases c7 : t574 = true
 rotate_left
 ·replace c7 := Bool.eq_false_iff.mpr c7
  subst c7
  replace H := in_ H (show ¬ (false = true) by decide)
  simp only [Option.some.injEq, Prod.mk.injEq] at H
  obtain ⟨rfl, rfl, rfl, rfl⟩ := H
  go_enter Tryz.func15, Tryz.ntmps15
  go_wp2_with (first | ((with_reducible refine gate_dst (N := 2) rfl ?_); refine bx_ 2 #[.string (⟨#[]⟩ : ByteArray), .int .i64 0, .int .i64 0] 27 fun gb562 hg w26 hbox hb => ?_; have BK562 := aM_ (hbox); have GW562 := aM_ (gw_ w hg); have GE562 := aM_ (gw_ w hg); replace HB := aM_ (below_step hB_ hb); clear hb hbox hg) | ((with_reducible refine gC_ 61 ?_); refine gM_ (some 13) Tryz.func61 #[.string a0, .string (⟨#[58]⟩ : ByteArray)] ?_; (with_reducible refine (strings_Cut.calls a0 (⟨#[58]⟩ : ByteArray) t563 t564 t565 _ A2.out).mono ?_); rintro e w' ⟨rfl, ⟨nd, rfl⟩⟩; refine ⟨_, rfl, ?_⟩; (try (rw [drewN_self w26]; generalize hq_ : World.drewN w26 _ = w26; have n0_ : Aside0 (w26.heap[gb562]? = some (.cells #[.string (⟨#[]⟩ : ByteArray), .int .i64 0, .int .i64 0] 27 (0, 0))) := ⟨z16_0_⟩; have n1_ : Aside0 (Below w.heap.size w w26) := ⟨by rw [← hq_]; exact hB_⟩; clear BK562 HB hq_; have BK562 := n0_; have HB := n1_; clear n0_ n1_))) | ((with_reducible refine gC_ 61 ?_); refine gM_ (some 19) Tryz.func61 #[.string t564, .string (⟨#[62]⟩ : ByteArray)] ?_; (with_reducible refine (strings_Cut.calls t564 (⟨#[62]⟩ : ByteArray) t566 t567 t568 _ A3.out).mono ?_); rintro e w' ⟨rfl, ⟨nd, rfl⟩⟩; refine ⟨_, rfl, ?_⟩; (try (rw [drewN_self w26]; generalize hq_ : World.drewN w26 _ = w26; have n0_ : Aside0 (w26.heap[gb562]? = some (.cells #[.string (⟨#[]⟩ : ByteArray), .int .i64 0, .int .i64 0] 27 (0, 0))) := ⟨z16_0_⟩; have n1_ : Aside0 (Below w.heap.size w w26) := ⟨by rw [← hq_]; exact hB_⟩; clear BK562 HB hq_; have BK562 := n0_; have HB := n1_; clear n0_ n1_))) | ((with_reducible refine gate_dst (N := 10) rfl ?_); refine bx_ 10 #[.string (⟨#[]⟩ : ByteArray), .int .i64 0, .int .i64 0] 27 fun gb569 hg w27 hbox hb => ?_; have BK569 := aM_ (hbox); have GW569 := aM_ (gw_ w hg); have GE569 := aM_ (gw_ w hg); have NB562_569 := aM_ (nR_ BK562 hg); have NB569_562 := aM_ (mR_ BK562 hg); replace BK562 := aM_ (blk_below (g := gb562) (kR_ BK562) hb); replace HB := aM_ (below_step hB_ hb); clear hb hbox hg; have hnb28 := NB569_562.out; have hnc28 := NB562_569.out; have hz29 := cf3_ BK569.out) | ((with_reducible refine gC_ 62 ?_); refine gM_ (some 27) Tryz.func62 #[.string t566] ?_; (with_reducible refine (impl_decimal.calls t566 t570 t571 _ ?side1 A4.out).mono ?_); (case side1 => exact TabW.below HT.out hB_); rintro e w30 ⟨rfl, hb⟩; refine ⟨_, rfl, ?_⟩; replace BK562 := aM_ (blk_below (g := gb562) (kR_ BK562) hb); replace BK569 := aM_ (blk_below (g := gb569) (o := .cells #[.string t563, .int .i64 0, .int .i64 0] 27 (0, 0)) z16_1_ hb); replace HB := aM_ (below_step hB_ hb); (try clear hb); have hz31 := cf3_ BK569.out) | ((with_reducible refine gC_ 62 ?_); refine gM_ (some 33) Tryz.func62 #[.string t567] ?_; (with_reducible refine (impl_decimal.calls t567 t572 t573 _ ?side1 A5.out).mono ?_); (case side1 => exact TabW.below HT.out hB_); rintro e w32 ⟨rfl, hb⟩; refine ⟨_, rfl, ?_⟩; replace BK562 := aM_ (blk_below (g := gb562) (kR_ BK562) hb); replace BK569 := aM_ (blk_below (g := gb569) (o := .cells #[.string t563, .int .i64 t570, .int .i64 0] 27 (0, 0)) z16_2_ hb); replace HB := aM_ (below_step hB_ hb); (try clear hb); have hz33 := cf3_ BK569.out) | ((with_reducible refine gC_ 19 ?_); refine gM_ (some 38) Tryz.func19 #[.agg #[.string t563, .int .i64 t570, .int .i64 t572]] ?_; (with_reducible refine (impl_IsVerb.calls k t563 t570 t572 false _ A6.out).mono ?_); rintro e w34 ⟨rfl, hb⟩; refine ⟨_, rfl, ?_⟩; replace BK562 := aM_ (blk_below (g := gb562) (kR_ BK562) hb); replace BK569 := aM_ (blk_below (g := gb569) (o := .cells #[.string t563, .int .i64 t570, .int .i64 t572] 27 (0, 0)) z16_3_ hb); replace HB := aM_ (below_step hB_ hb); (try clear hb); clear BK569; have hz35 := cf3_ BK562.out))
  refine bodyPost_ret (results_ct rfl _ _ gb562 27 #[.string (⟨#[]⟩ : ByteArray), .int .i64 0, .int .i64 0] (0, 0) _ rfl z16_4_ Tryz.underlying27 rfl (by kernel_rfl)) rfl ?_
  exact ⟨rT_, hB_⟩
 subst c7
 replace H := ip_ H rfl
 replace H := ob_ H; obtain ⟨t575, A8, H⟩ := H; try dsimp only at H
 have HC9 := Aside0.mk H
 clear H
 go_enter Tryz.func15, Tryz.ntmps15
 go_upto_if 45 with (first | ((with_reducible refine gate_dst (N := 2) rfl ?_); refine bx_ 2 #[.string (⟨#[]⟩ : ByteArray), .int .i64 0, .int .i64 0] 27 fun gb562 hg w10 hbox hb => ?_; have BK562 := aM_ (hbox); have GW562 := aM_ (gw_ w hg); have GE562 := aM_ (gw_ w hg); replace HB := aM_ (below_step hB_ hb); clear hb hbox hg) | ((with_reducible refine gC_ 61 ?_); refine gM_ (some 13) Tryz.func61 #[.string a0, .string (⟨#[58]⟩ : ByteArray)] ?_; (with_reducible refine (strings_Cut.calls a0 (⟨#[58]⟩ : ByteArray) t563 t564 t565 _ A2.out).mono ?_); rintro e w' ⟨rfl, ⟨nd, rfl⟩⟩; refine ⟨_, rfl, ?_⟩; (try (rw [drewN_self w10]; generalize hq_ : World.drewN w10 _ = w10; have n0_ : Aside0 (w10.heap[gb562]? = some (.cells #[.string (⟨#[]⟩ : ByteArray), .int .i64 0, .int .i64 0] 27 (0, 0))) := ⟨z16_0_⟩; have n1_ : Aside0 (Below w.heap.size w w10) := ⟨by rw [← hq_]; exact hB_⟩; clear BK562 HB hq_; have BK562 := n0_; have HB := n1_; clear n0_ n1_))) | ((with_reducible refine gC_ 61 ?_); refine gM_ (some 19) Tryz.func61 #[.string t564, .string (⟨#[62]⟩ : ByteArray)] ?_; (with_reducible refine (strings_Cut.calls t564 (⟨#[62]⟩ : ByteArray) t566 t567 t568 _ A3.out).mono ?_); rintro e w' ⟨rfl, ⟨nd, rfl⟩⟩; refine ⟨_, rfl, ?_⟩; (try (rw [drewN_self w10]; generalize hq_ : World.drewN w10 _ = w10; have n0_ : Aside0 (w10.heap[gb562]? = some (.cells #[.string (⟨#[]⟩ : ByteArray), .int .i64 0, .int .i64 0] 27 (0, 0))) := ⟨z16_0_⟩; have n1_ : Aside0 (Below w.heap.size w w10) := ⟨by rw [← hq_]; exact hB_⟩; clear BK562 HB hq_; have BK562 := n0_; have HB := n1_; clear n0_ n1_))) | ((with_reducible refine gate_dst (N := 10) rfl ?_); refine bx_ 10 #[.string (⟨#[]⟩ : ByteArray), .int .i64 0, .int .i64 0] 27 fun gb569 hg w11 hbox hb => ?_; have BK569 := aM_ (hbox); have GW569 := aM_ (gw_ w hg); have GE569 := aM_ (gw_ w hg); have NB562_569 := aM_ (nR_ BK562 hg); have NB569_562 := aM_ (mR_ BK562 hg); replace BK562 := aM_ (blk_below (g := gb562) (kR_ BK562) hb); replace HB := aM_ (below_step hB_ hb); clear hb hbox hg; have hnb12 := NB569_562.out; have hnc12 := NB562_569.out; have hz13 := cf3_ BK569.out) | ((with_reducible refine gC_ 62 ?_); refine gM_ (some 27) Tryz.func62 #[.string t566] ?_; (with_reducible refine (impl_decimal.calls t566 t570 t571 _ ?side1 A4.out).mono ?_); (case side1 => exact TabW.below HT.out hB_); rintro e w14 ⟨rfl, hb⟩; refine ⟨_, rfl, ?_⟩; replace BK562 := aM_ (blk_below (g := gb562) (kR_ BK562) hb); replace BK569 := aM_ (blk_below (g := gb569) (o := .cells #[.string t563, .int .i64 0, .int .i64 0] 27 (0, 0)) z16_1_ hb); replace HB := aM_ (below_step hB_ hb); (try clear hb); have hz15 := cf3_ BK569.out) | ((with_reducible refine gC_ 62 ?_); refine gM_ (some 33) Tryz.func62 #[.string t567] ?_; (with_reducible refine (impl_decimal.calls t567 t572 t573 _ ?side1 A5.out).mono ?_); (case side1 => exact TabW.below HT.out hB_); rintro e w16 ⟨rfl, hb⟩; refine ⟨_, rfl, ?_⟩; replace BK562 := aM_ (blk_below (g := gb562) (kR_ BK562) hb); replace BK569 := aM_ (blk_below (g := gb569) (o := .cells #[.string t563, .int .i64 t570, .int .i64 0] 27 (0, 0)) z16_2_ hb); replace HB := aM_ (below_step hB_ hb); (try clear hb); have hz17 := cf3_ BK569.out) | ((with_reducible refine gC_ 19 ?_); refine gM_ (some 38) Tryz.func19 #[.agg #[.string t563, .int .i64 t570, .int .i64 t572]] ?_; (with_reducible refine (impl_IsVerb.calls k t563 t570 t572 true _ A6.out).mono ?_); rintro e w18 ⟨rfl, hb⟩; refine ⟨_, rfl, ?_⟩; replace BK562 := aM_ (blk_below (g := gb562) (kR_ BK562) hb); replace BK569 := aM_ (blk_below (g := gb569) (o := .cells #[.string t563, .int .i64 t570, .int .i64 t572] 27 (0, 0)) z16_3_ hb); replace HB := aM_ (below_step hB_ hb); (try clear hb); have hz19 := cf3_ BK569.out) | (go_at_call 57; (with_reducible refine (impl_Verb_text.calls t563 t570 t572 t575 _ ?side1 A8.out).mono ?_); (case side1 => refine TabW.weak (a := 1) ?_ (by decide); exact TabW.below HT.out hB_); rintro e w20 ⟨rfl, hb⟩; replace BK562 := aM_ (blk_below (g := gb562) (kR_ BK562) hb); replace BK569 := aM_ (blk_below (g := gb569) (kR_ BK569) hb); replace HB := aM_ (below_step hB_ hb); (try clear hb)))
 (try simp only [Act.put, List.setIfInBounds_toArray, List.set_cons_zero, List.set_cons_succ])
 have H := HC9.out
 clear HC9
 by_cases c21 : t575.toList = a0.toList
 rotate_left
 ·rw [if_neg c21] at H
  have c21b0 : (t575.toList == a0.toList) = false := beq_eq_false_iff_ne.mpr c21
  have c21b1 : (t575.toList != a0.toList) = true := bne_iff_ne.mpr c21
  (first | rw [c21b0] | (simp only [i64_w, i32_w]; rw [c21b0]) | skip)
  simp only [Option.some.injEq, Prod.mk.injEq] at H
  obtain ⟨rfl, rfl, rfl, rfl⟩ := H
  clear BK569
  have hz25 := cf3_ BK562.out
  go_wp2
  refine bodyPost_ret (results_ct rfl _ _ gb562 27 #[.string (⟨#[]⟩ : ByteArray), .int .i64 0, .int .i64 0] (0, 0) _ rfl z16_4_ Tryz.underlying27 rfl (by kernel_rfl)) rfl ?_
  exact ⟨rT_, hB_⟩
 rw [if_pos c21] at H
 have c21b0 : (t575.toList == a0.toList) = true := beq_iff_eq.mpr c21
 have c21b1 : (t575.toList != a0.toList) = false := bne_eq_false_iff_eq.mpr c21
 clear c21
 (first | rw [c21b0] | (simp only [i64_w, i32_w]; rw [c21b0]) | skip)
 simp only [Option.some.injEq, Prod.mk.injEq] at H
 obtain ⟨rfl, rfl, rfl, rfl⟩ := H
 have hnb22 := NB569_562.out
 have hnc22 := NB562_569.out
 have hz23 := cf3_ BK569.out
 clear BK569
 have hz24 := cf3_ BK562.out
 go_wp2
 refine bodyPost_ret (results_ct rfl _ _ gb562 27 #[.string t563, .int .i64 t570, .int .i64 t572] (0, 0) _ rfl (by (with_reducible repeat (first | apply kN_ | apply kD_ | apply kA_)); refine blk_put (cs := #[.string t563, .int .i64 t570, .int .i64 0]) ?_ 2 _ rfl; (with_reducible repeat (first | apply kN_ | apply kD_ | apply kA_)); refine blk_put (cs := #[.string t563, .int .i64 0, .int .i64 0]) ?_ 1 _ rfl; (with_reducible repeat (first | apply kN_ | apply kD_ | apply kA_)); refine blk_put (cs := #[.string (⟨#[]⟩ : ByteArray), .int .i64 0, .int .i64 0]) ?_ 0 _ rfl; (with_reducible repeat (first | apply kN_ | apply kD_ | apply kA_)); exact BK562.out) Tryz.underlying27 rfl (by kernel_rfl)) rfl ?_
 exact ⟨rT_, hB_⟩

/-! ### spec_l1Split: function 63 -/
theorem spec_l1Split.calls (k : Nat) (a0 : ByteArray) (a1 : Int) (r : List ByteArray) (w : World) (h : spec_l1Split.f k a0 a1 = some r) :
 Calls Tryz.prog 63 #[.string a0, .int .u8 a1] w fun e w' => ∃ v0_ : Value, e = .returned (v0_) ∧ Kd.R Kd.string 9 w' w.heap.size (fun _ => True) v0_ r ∧ Below w.heap.size w w' := by
 have HB := Aside0.mk (Below.refl w.heap.size w)
 have H : (spec_l1Split.l0 k a0 a1 ([] : List ByteArray) 0 0) = some r := h
 clear h
 have H' := Aside0.mk H
 clear H
 go_enter Tryz.func63, Tryz.ntmps63
 go_wp2
 go_loopg [5, 6, 7] k (fun kq v5 v6 v7 w' => ∃ (x5_1 : List ByteArray) (x6_1 : Int) (x7_1 : Int), v6 = .int .i64 x6_1 ∧ v7 = .int .i64 x7_1 ∧ Aside0 (spec_l1Split.l0 kq a0 a1 x5_1 x6_1 x7_1 = some r) ∧ Aside0 (kq ≤ k) ∧ Aside0 (Kd.R Kd.string 9 w' w.heap.size (fun _ => True) v5 x5_1) ∧ Aside0 (Below w.heap.size w w'))
 case atStart => exact ⟨(([] : List ByteArray)), (0), (0), z16_5_, z16_5_, H', ⟨Nat.le_refl _⟩, ⟨by first | exact Kd.R_nil _ _ _ _ _ | exact Kd.N_nil _ _ _ _ _ | exact Kd.V_nil _ _ _ _ _ | exact Kd.Q_nil _ _ _ _ _ | exact Kd.S_nil _ _ _ _ _⟩, ⟨hB_⟩⟩
 case round =>
  clear H'
  obtain ⟨x5_1, x6_1, x7_1, rfl, rfl, HA, HK1, HO_5, HB⟩ := hrel
  cases gk with
  | zero => exact absurd HA.out (by simp [spec_l1Split.l0])
  | succ k1 =>
   have H := HA.out
   clear HA
   simp only [spec_l1Split.l0] at H
   replace H := iF_ H; obtain ⟨c3b0, H⟩ | ⟨c3b0, H⟩ := H
   ·replace H := it_ H; obtain ⟨c12b0, c12b1, H⟩ := H
    replace H := it_ H; obtain ⟨c13b0, c13b1, H⟩ := H
    replace H := il_ H; obtain ⟨LMc14, H⟩ := H
    obtain ⟨y579, hy579⟩ : ∃ y_ : List ByteArray, y_ = (x5_1 ++ [a0.extract (x6_1 : Int).toNat a0.size]) := ⟨_, rfl⟩
    rw [← hy579] at H
    have Ny579 := Aside0.mk hy579; clear hy579
    obtain rfl := Option.some.inj H
    go_wp2_with (first | ((with_reducible refine gate_builtin (b := .append) (xs := #[.tmp 28, .tmp 32]) rfl ?_); at_builtin; refine Kd.R_append Kd.string (w0 := w) w.heap.size rfl (.tmp 28) (.tmp 32) 63 9 (.string ⟨#[]⟩) 16 rfl Tryz.underlying63 info9 rfl (by decide) (by omega) u5 x5_1 (a0.extract (x6_1 : Int).toNat a0.size) [.string (a0.extract (x6_1 : Int).toNat a0.size)] (fun _ => True) (fun _ => False) rfl rfl ?aP (fun _ hk => hk.elim) ?aF ?aO ?aB ?aS ?aL ?_; (case aP => exact rfl); (case aB => exact hB_); (case aF => exact (fun _ _ => trivial)); (case aO => exact (rR_ HO_5)); (case aS => exact (below_size hB_)); (case aL => have := LMc14.out; omega); intro v580 w15 ho hb hg hat; rw [← Ny579.out] at ho; have HO581 := aM_ (ho); replace HB := aM_ (hb); clear HO_5; clear ho hb hg hat))
    go_ret
    exact ⟨_, rT_, by (with_reducible repeat (first | apply rA_ | apply rN_ | apply rD_)); exact HO581.out, hB_⟩
   replace H := ig_ H; obtain ⟨c4b0, H⟩ := H
   by_cases c6 : (bt a0 x7_1) = a1
   rotate_left
   ·rw [if_neg c6] at H
    have c6b0 : ((bt a0 x7_1) == a1) = false := beq_eq_false_iff_ne.mpr c6
    have c6b1 : ((bt a0 x7_1) != a1) = true := bne_iff_ne.mpr c6
    have H' := Aside0.mk H
    clear H
    have p5 : 0 ≤ (x7_1 : Int) := ode_
    have q5 : x7_1 < (a0.size : Int) := ode_
    have hx5 := bt_at a0 x7_1
    replace p5 := eq_true p5
    replace q5 := eq_true q5
    go_wp2
    go_roundg k1
    case measure => have := HK1.out; omega
    case rel => exact ⟨(x5_1), (x6_1), (wrap64 (x7_1 + 1)), z16_5_, z16_5_, H', ⟨by have := HK1.out; omega⟩, ⟨(rR_ HO_5)⟩, ⟨hB_⟩⟩
   rw [if_pos c6] at H
   have c6b0 : ((bt a0 x7_1) == a1) = true := beq_iff_eq.mpr c6
   have c6b1 : ((bt a0 x7_1) != a1) = false := bne_eq_false_iff_eq.mpr c6
   clear c6
   replace H := it_ H; obtain ⟨c7b0, c7b1, H⟩ := H
   replace H := it_ H; obtain ⟨c8b0, c8b1, H⟩ := H
   replace H := it_ H; obtain ⟨c9b0, c9b1, H⟩ := H
   replace H := il_ H; obtain ⟨LMc10, H⟩ := H
   obtain ⟨y576, hy576⟩ : ∃ y_ : List ByteArray, y_ = (x5_1 ++ [a0.extract (x6_1 : Int).toNat (x7_1 : Int).toNat]) := ⟨_, rfl⟩
   rw [← hy576] at H
   have Ny576 := Aside0.mk hy576; clear hy576
   have H' := Aside0.mk H
   clear H
   have p5 : 0 ≤ (x7_1 : Int) := ode_
   have q5 : x7_1 < (a0.size : Int) := ode_
   have hx5 := bt_at a0 x7_1
   replace p5 := eq_true p5
   replace q5 := eq_true q5
   go_wp2_with (first | ((with_reducible refine gate_builtin (b := .append) (xs := #[.tmp 19, .tmp 24]) rfl ?_); at_builtin; refine Kd.R_append Kd.string (w0 := w) w.heap.size rfl (.tmp 19) (.tmp 24) 63 9 (.string ⟨#[]⟩) 16 rfl Tryz.underlying63 info9 rfl (by decide) (by omega) u5 x5_1 (a0.extract (x6_1 : Int).toNat (x7_1 : Int).toNat) [.string (a0.extract (x6_1 : Int).toNat (x7_1 : Int).toNat)] (fun _ => True) (fun _ => False) rfl rfl ?aP (fun _ hk => hk.elim) ?aF ?aO ?aB ?aS ?aL ?_; (case aP => exact rfl); (case aB => exact hB_); (case aF => exact (fun _ _ => trivial)); (case aO => exact (rR_ HO_5)); (case aS => exact (below_size hB_)); (case aL => have := LMc10.out; omega); intro v577 w11 ho hb hg hat; rw [← Ny576.out] at ho; have HO578 := aM_ (ho); replace HB := aM_ (hb); clear HO_5; clear ho hb hg hat))
   go_roundg k1
   case measure => have := HK1.out; omega
   case rel => exact ⟨(y576), (wrap64 (x7_1 + 1)), (wrap64 (x7_1 + 1)), z16_5_, z16_5_, H', ⟨by have := HK1.out; omega⟩, ⟨rR_ HO578⟩, ⟨hB_⟩⟩

/-! ### spec_l1Read: function 99 -/
theorem spec_l1Read.calls (k : Nat) (a0 : ByteArray) (r : Int) (w : World) (h : spec_l1Read.f k a0 = some r) :
 Calls Tryz.prog 99 #[.string a0] w fun e w' => e = .returned (.int .i64 r) ∧ Drawn0 w w' := by
 have H : ((spec_l1In.f (a0.size : Int) 1 6).bind fun t582 => (if t582 = true then (if 0 < (a0.size : Int) then (if (bt a0 0) = 48 then (spec_l1Read.j0 k a0 (decide ((a0.size : Int) > 1))) else (spec_l1Read.j0 k a0 false)) else (none)) else (spec_l1Read.j0 k a0 true))) = some r := h
 clear h
 have HC2 := Aside0.mk H
 clear H
 go_enter Tryz.func99, Tryz.ntmps99
 go_upto_region 1 with (fail)
 go_cut [18] (fun v18 wc => ∃ (kq : Nat) (x18_1 : Bool), v18 = .bool x18_1 ∧ Aside0 (spec_l1Read.j0 kq a0 x18_1 = some r) ∧ Aside0 (kq ≤ k) ∧ Drawn0 w wc)
 case first =>
  have H := HC2.out
  clear HC2
  replace H := ob_ H; obtain ⟨t582, A3, H⟩ := H; try dsimp only at H
  by_cases c4 : t582 = true
  rotate_left
  ·replace c4 := Bool.eq_false_iff.mpr c4
   subst c4
   replace H := in_ H (show ¬ (false = true) by decide)
   have H' := Aside0.mk H
   clear H
   go_wp2_with (first | ((with_reducible refine gC_ 92 ?_); refine gM_ (some 7) Tryz.func92 #[.int .i64 (a0.size : Int), .int .i64 1, .int .i64 6] ?_; (with_reducible refine (spec_l1In.calls (a0.size : Int) 1 6 false _ A3.out).mono ?_); rintro e w' ⟨rfl, ⟨nd, rfl⟩⟩; refine ⟨_, rfl, ?_⟩))
   go_meet
   case rel => exact ⟨_, (true), z16_5_, H', ⟨oR_⟩, z16_6_⟩
  subst c4
  replace H := ip_ H rfl
  by_cases c5 : 0 < (a0.size : Int)
  rotate_left
  ·rw [if_neg c5] at H
   exact absurd H (by simp)
  rw [if_pos c5] at H
  have c5b0 : decide (0 < (a0.size : Int)) = true := decide_eq_true c5
  have c5b1 : decide (0 < a0.size) = true := decide_eq_true (by omega)
  clear c5
  (first | rw [c5b0] | (simp only [i64_w, i32_w]; rw [c5b0]) | skip)
  by_cases c7 : (bt a0 0) = 48
  rotate_left
  ·rw [if_neg c7] at H
   have c7b0 : ((bt a0 0) == 48) = false := beq_eq_false_iff_ne.mpr c7
   have c7b1 : ((bt a0 0) != 48) = true := bne_iff_ne.mpr c7
   have H' := Aside0.mk H
   clear H
   go_wp2_with (first | ((with_reducible refine gC_ 92 ?_); refine gM_ (some 7) Tryz.func92 #[.int .i64 (a0.size : Int), .int .i64 1, .int .i64 6] ?_; (with_reducible refine (spec_l1In.calls (a0.size : Int) 1 6 true _ A3.out).mono ?_); rintro e w' ⟨rfl, ⟨nd, rfl⟩⟩; refine ⟨_, rfl, ?_⟩; have p6 : 0 ≤ (0 : Int) := (by omega); have q6 : 0 < a0.size := z16_7_; have hx6 : ∀ h : 0 < a0.size, ((a0[0]'h).toNat : Int) = bt a0 0 := bt_at a0 0; clear p6; have qi6 : (0 < (a0.size : Int)) = True := eq_true ode_; replace q6 := eq_true q6))
   go_meet
   case rel => exact ⟨_, (false), z16_5_, H', ⟨oR_⟩, z16_6_⟩
  rw [if_pos c7] at H
  have c7b0 : ((bt a0 0) == 48) = true := beq_iff_eq.mpr c7
  have c7b1 : ((bt a0 0) != 48) = false := bne_eq_false_iff_eq.mpr c7
  clear c7
  have H' := Aside0.mk H
  clear H
  go_wp2_with (first | ((with_reducible refine gC_ 92 ?_); refine gM_ (some 7) Tryz.func92 #[.int .i64 (a0.size : Int), .int .i64 1, .int .i64 6] ?_; (with_reducible refine (spec_l1In.calls (a0.size : Int) 1 6 true _ A3.out).mono ?_); rintro e w' ⟨rfl, ⟨nd, rfl⟩⟩; refine ⟨_, rfl, ?_⟩; have p6 : 0 ≤ (0 : Int) := (by omega); have q6 : 0 < a0.size := z16_7_; have hx6 : ∀ h : 0 < a0.size, ((a0[0]'h).toNat : Int) = bt a0 0 := bt_at a0 0; clear p6; have qi6 : (0 < (a0.size : Int)) = True := eq_true ode_; replace q6 := eq_true q6))
  go_meet
  case rel => exact ⟨_, (decide ((a0.size : Int) > 1)), z16_5_, H', ⟨oR_⟩, z16_6_⟩
 case rest =>
  clear HC2
  obtain ⟨kq, x18_1, rfl, HA, HJ1, ⟨mc1, rfl⟩⟩ := hcut
  cases kq with
  | zero => exact absurd HA.out (by simp [spec_l1Read.j0])
  | succ kj1 =>
   have H := HA.out
   clear HA
   simp only [spec_l1Read.j0] at H
   by_cases c8 : x18_1 = true
   ·subst c8
    replace H := ip_ H rfl
    obtain rfl := Option.some.inj H
    go_wp2
    go_ret
    exact ⟨z16_5_, z16_6_⟩
   replace c8 := Bool.eq_false_iff.mpr c8
   subst c8
   replace H := in_ H (show ¬ (false = true) by decide)
   have H' := Aside0.mk H
   clear H
   go_wp2
   go_loopg [3, 4] kj1 (fun kq v3 v4 w' => ∃ (x3_2 : Int) (x4_2 : Int), v3 = .int .i64 x3_2 ∧ v4 = .int .i64 x4_2 ∧ Aside0 (spec_l1Read.l0 kq a0 x3_2 x4_2 = some r) ∧ Aside0 (kq ≤ kj1) ∧ Drawn0 w w')
   case atStart => exact ⟨(0), (0), z16_5_, z16_5_, H', ⟨Nat.le_refl _⟩, z16_6_⟩
   case round =>
    clear H'
    (try clear c8)
    obtain ⟨x3_2, x4_2, rfl, rfl, HA, HK2, ⟨m2, rfl⟩⟩ := hrel
    cases gk with
    | zero => exact absurd HA.out (by simp [spec_l1Read.l0])
    | succ k2 =>
     have H := HA.out
     clear HA
     simp only [spec_l1Read.l0] at H
     replace H := iF_ H; obtain ⟨c9b0, H⟩ | ⟨c9b0, H⟩ := H
     ·obtain rfl := Option.some.inj H
      go_wp2
      go_ret
      exact ⟨z16_5_, z16_6_⟩
     replace H := ig_ H; obtain ⟨c10b0, H⟩ := H
     replace H := iT_ H; obtain ⟨c12b0, H⟩ | ⟨c12b0, H⟩ := H
     ·obtain rfl := Option.some.inj H
      have p11 : 0 ≤ (x4_2 : Int) := ode_
      have q11 : x4_2 < (a0.size : Int) := ode_
      have hx11 := bt_at a0 x4_2
      replace p11 := eq_true p11
      replace q11 := eq_true q11
      go_wp2
      go_ret
      exact ⟨z16_5_, z16_6_⟩
     by_cases c14 : (bt a0 x4_2) > 57
     ·rw [if_pos c14] at H
      have c14b0 : decide (57 < (bt a0 x4_2)) = true := decide_eq_true c14
      clear c14
      obtain rfl := Option.some.inj H
      have p11 : 0 ≤ (x4_2 : Int) := ode_
      have q11 : x4_2 < (a0.size : Int) := ode_
      have hx11 := bt_at a0 x4_2
      replace p11 := eq_true p11
      replace q11 := eq_true q11
      have p13 : 0 ≤ (x4_2 : Int) := ode_
      have q13 : x4_2 < (a0.size : Int) := ode_
      have hx13 := bt_at a0 x4_2
      replace p13 := eq_true p13
      replace q13 := eq_true q13
      go_wp2
      go_ret
      exact ⟨z16_5_, z16_6_⟩
     rw [if_neg c14] at H
     have c14b0 : decide (57 < (bt a0 x4_2)) = false := decide_eq_false c14
     clear c14
     have H' := Aside0.mk H
     clear H
     have p11 : 0 ≤ (x4_2 : Int) := ode_
     have q11 : x4_2 < (a0.size : Int) := ode_
     have hx11 := bt_at a0 x4_2
     replace p11 := eq_true p11
     replace q11 := eq_true q11
     have p13 : 0 ≤ (x4_2 : Int) := ode_
     have q13 : x4_2 < (a0.size : Int) := ode_
     have hx13 := bt_at a0 x4_2
     replace p13 := eq_true p13
     replace q13 := eq_true q13
     have p15 : 0 ≤ (x4_2 : Int) := ode_
     have q15 : x4_2 < (a0.size : Int) := ode_
     have hx15 := bt_at a0 x4_2
     replace p15 := eq_true p15
     replace q15 := eq_true q15
     go_wp2
     go_roundg k2
     case measure => have := HJ1.out; have := HK2.out; omega
     case rel => exact ⟨(wrap64 ((wrap64 (10 * x3_2)) + (((bt a0 x4_2) - 48) % 256))), (wrap64 (x4_2 + 1)), z16_5_, z16_5_, H', ⟨by have := HJ1.out; have := HK2.out; omega⟩, z16_6_⟩

/-! ### spec_veRead: function 64 -/
theorem spec_veRead.calls (k : Nat) (a0 : ByteArray) (r : Int) (w : World) (h : spec_veRead.f k a0 = some r) :
 Calls Tryz.prog 64 #[.string a0] w fun e w' => e = .returned (.int .i64 r) ∧ Drawn0 w w' := by
 have H : (if (a0.size : Int) > 1 then (if 0 < (a0.size : Int) then (if (bt a0 0) = 45 then (if 1 ≤ (a0.size : Int) then ((spec_l1Read.f k (a0.extract 1 a0.size)).bind fun t583 => (spec_veRead.j0 k a0 (decide (t583 ≥ 0)))) else (none)) else (spec_veRead.j0 k a0 false)) else (none)) else (spec_veRead.j0 k a0 false)) = some r := h
 clear h
 have HC2 := Aside0.mk H
 clear H
 go_enter Tryz.func64, Tryz.ntmps64
 go_upto_region 1 with (fail)
 go_cut [17] (fun v17 wc => ∃ (kq : Nat) (x17_1 : Bool), v17 = .bool x17_1 ∧ Aside0 (spec_veRead.j0 kq a0 x17_1 = some r) ∧ Aside0 (kq ≤ k) ∧ Drawn0 w wc)
 case first =>
  have H := HC2.out
  clear HC2
  by_cases c3 : (a0.size : Int) > 1
  rotate_left
  ·rw [if_neg c3] at H
   have c3b0 : decide (1 < (a0.size : Int)) = false := decide_eq_false c3
   have c3b1 : decide (1 < a0.size) = false := decide_eq_false (by omega)
   clear c3
   (first | rw [c3b0] | (simp only [i64_w, i32_w]; rw [c3b0]) | skip)
   have H' := Aside0.mk H
   clear H
   go_wp2
   go_meet
   case rel => exact ⟨_, (false), z16_5_, H', ⟨oR_⟩, z16_6_⟩
  rw [if_pos c3] at H
  have c3b0 : decide (1 < (a0.size : Int)) = true := decide_eq_true c3
  have c3b1 : decide (1 < a0.size) = true := decide_eq_true (by omega)
  clear c3
  (first | rw [c3b0] | (simp only [i64_w, i32_w]; rw [c3b0]) | skip)
  by_cases c4 : 0 < (a0.size : Int)
  rotate_left
  ·rw [if_neg c4] at H
   exact absurd H (by simp)
  rw [if_pos c4] at H
  have c4b0 : decide (0 < (a0.size : Int)) = true := decide_eq_true c4
  have c4b1 : decide (0 < a0.size) = true := decide_eq_true (by omega)
  clear c4
  by_cases c6 : (bt a0 0) = 45
  rotate_left
  ·rw [if_neg c6] at H
   have c6b0 : ((bt a0 0) == 45) = false := beq_eq_false_iff_ne.mpr c6
   have c6b1 : ((bt a0 0) != 45) = true := bne_iff_ne.mpr c6
   have H' := Aside0.mk H
   clear H
   have p5 : 0 ≤ (0 : Int) := (by omega)
   have q5 : 0 < a0.size := z16_7_
   have hx5 : ∀ h : 0 < a0.size, ((a0[0]'h).toNat : Int) = bt a0 0 := bt_at a0 0
   clear p5
   have qi5 : (0 < (a0.size : Int)) = True := eq_true ode_
   replace q5 := eq_true q5
   go_wp2
   go_meet
   case rel => exact ⟨_, (false), z16_5_, H', ⟨oR_⟩, z16_6_⟩
  rw [if_pos c6] at H
  have c6b0 : ((bt a0 0) == 45) = true := beq_iff_eq.mpr c6
  have c6b1 : ((bt a0 0) != 45) = false := bne_eq_false_iff_eq.mpr c6
  clear c6
  replace H := it_ H; obtain ⟨c7b0, c7b1, H⟩ := H
  replace H := ob_ H; obtain ⟨t583, A8, H⟩ := H; try dsimp only at H
  have H' := Aside0.mk H
  clear H
  have p5 : 0 ≤ (0 : Int) := (by omega)
  have q5 : 0 < a0.size := z16_7_
  have hx5 : ∀ h : 0 < a0.size, ((a0[0]'h).toNat : Int) = bt a0 0 := bt_at a0 0
  clear p5
  have qi5 : (0 < (a0.size : Int)) = True := eq_true ode_
  replace q5 := eq_true q5
  go_wp2_with (first | (go_at_call 99; (with_reducible refine (spec_l1Read.calls k (a0.extract 1 a0.size) t583 _ A8.out).mono ?_); rintro e w' ⟨rfl, ⟨nd, rfl⟩⟩))
  go_meet
  case rel => exact ⟨_, (decide (t583 ≥ 0)), z16_5_, H', ⟨oR_⟩, z16_6_⟩
 case rest =>
  clear HC2
  obtain ⟨kq, x17_1, rfl, HA, HJ1, ⟨mc1, rfl⟩⟩ := hcut
  cases kq with
  | zero => exact absurd HA.out (by simp [spec_veRead.j0])
  | succ kj1 =>
   have H := HA.out
   clear HA
   simp only [spec_veRead.j0] at H
   by_cases c9 : x17_1 = true
   ·subst c9
    replace H := ip_ H rfl
    replace H := it_ H; obtain ⟨c10b0, c10b1, H⟩ := H
    replace H := ob_ H; obtain ⟨t584, A11, H⟩ := H; try dsimp only at H
    obtain rfl := Option.some.inj H
    go_wp2_with (first | ((with_reducible refine gC_ 99 ?_); refine gM_ (some 20) Tryz.func99 #[.string (a0.extract 1 a0.size)] ?_; (with_reducible refine (spec_l1Read.calls kj1 (a0.extract 1 a0.size) t584 _ A11.out).mono ?_); rintro e w' ⟨rfl, ⟨nd, rfl⟩⟩; refine ⟨_, rfl, ?_⟩))
    go_ret
    exact ⟨z16_5_, z16_6_⟩
   replace c9 := Bool.eq_false_iff.mpr c9
   subst c9
   replace H := in_ H (show ¬ (false = true) by decide)
   replace H := ob_ H; obtain ⟨t585, A12, H⟩ := H; try dsimp only at H
   have HC13 := Aside0.mk H
   clear H
   go_upto_if 25 with (first | ((with_reducible refine gC_ 99 ?_); refine gM_ (some 23) Tryz.func99 #[.string a0] ?_; (with_reducible refine (spec_l1Read.calls kj1 a0 t585 _ A12.out).mono ?_); rintro e w' ⟨rfl, ⟨nd, rfl⟩⟩; refine ⟨_, rfl, ?_⟩))
   (try simp only [Act.put, List.setIfInBounds_toArray, List.set_cons_zero, List.set_cons_succ])
   have H := HC13.out
   clear HC13
   by_cases c14 : t585 ≥ 0
   ·rw [if_pos c14] at H
    have c14b0 : decide (0 ≤ t585) = true := decide_eq_true c14
    clear c14
    (first | rw [c14b0] | (simp only [i64_w, i32_w]; rw [c14b0]) | skip)
    obtain rfl := Option.some.inj H
    go_wp2
    go_ret
    exact ⟨z16_5_, z16_6_⟩
   rw [if_neg c14] at H
   have c14b0 : decide (0 ≤ t585) = false := decide_eq_false c14
   clear c14
   (first | rw [c14b0] | (simp only [i64_w, i32_w]; rw [c14b0]) | skip)
   obtain rfl := Option.some.inj H
   go_wp2
   go_ret
   exact ⟨z16_5_, z16_6_⟩

end Go.Proofs.YtfkdlfbjkdkffaaGreatDoor.PFnVerbs
